import Derived.Test.YteddgaennnfacaaGreatAbP4
import Derived.RangeFuncRecord
import Derived.Laws.IdiomRangeMap
set_option linter.all false
namespace Go.Ab
section
variable {P:Program} {G:Nat→Option (List PV)} {w0:bE} {μ:Ro} {φ:Nat→aI} {m:Mem} {w:World}
theorem aA.agd(hM:aA P G w0 μ φ m w){g:Nat}(hB:w0.heap.size≤g)(akN:∀id b,m id=some b→¬b.owns (φ id) g):aA P G w0 (sJ μ w (some g)) φ m w:=by
 have mono:=mG hM (some g);refine⟨hM.below,fun b o hb=>?_,fun g' cs hg=>(hM.aM g' cs hg).mono mono,fun j c hj=>(hM.dJ j c hj).cz (fun _ _=>rfl) rfl mono (fun _ _=>rfl),fun j c g' hj dn=>?_,hM.inj,hM.apart,hM.fT,fun b o hb bQ=>?_,fun b o hb=>mono b o (hM.dK b o hb),hM.Gd⟩
 ·unfold sJ at hb;split at hb
  ·omega
  ·exact hM.ro b o hb
 ·obtain⟨h1,h2⟩:=hM.own j c g' hj dn;grind [sJ,Option.some.injEq,absurd]
 ·unfold sJ at hb;split at hb
  ·grind
  ·exact hM.base b o hb bQ
theorem Qk(w:World)(g:Nat)(o:Obj):lL g w (w.putObj g o):=⟨⟨rfl,rfl,rfl,by simp,fun k hk=>World.putObj_heap_other (by omega)⟩,fun _=>alz _⟩
theorem D4{A:Type}(f:A→Nat):∀{l:List A}{i:Nat}{e:A},l[i]?=some e→(∀(j:Nat)x,l[j]?=some x→f x=f e→j=i)→l.filter (fun x=> !(f x==f e))=l.eraseIdx i
 |[],i,e,h,_=>by rfl
 |y::l,0,e,h,inj=>by simp only[al4,By]at h;subst h;simp only[List.filter_cons,BEq.rfl,alc,IN,Wi,List.eraseIdx_cons_zero];rw[aos];intro x hx;obtain⟨j,hj⟩:=als.1 hx;simp only[alZ,amK];intro e;have:=inj (j+1) x (by simpa using hj) e;omega
 |y::l,i+1,e,h,inj=>by
  have h':l[i]?=some e:=by simpa using h
  have cC:¬f y=f e:=fun e'=>by have:=inj 0 y rfl e';omega
  have hb:(f y==f e)=false:=by simpa using cC
  simp only[List.filter_cons,hb,alA,IT,List.eraseIdx_cons_succ];rw[D4 f h' (fun j x hj e'=>by have:=inj (j+1) x (by simpa using hj) e';omega)]
theorem KO(en:Array MapEntry):lO en #[]=en.toList:=by simp[lO,aos]
variable{en:Array MapEntry}{clock:Nat}{seen:Array Nat}{e:MapEntry}
theorem H3(hb:mF en clock){i:Nat}(hi:(lO en seen)[i]?=some e):lO en (seen.push e.born)=(lO en seen).eraseIdx i:=by
 have h1:lO en (seen.push e.born)=(lO en seen).filter (fun x=> !(x.born==e.born)):=by unfold lO;rw[List.filter_filter];grind
 rw[h1];refine D4 (fun x=>x.born) hi fun j x hj e'=>?_;have hnd:(lO en seen).Pairwise fun a b=>a.born≠b.born:=by
  unfold lO;refine List.Pairwise.filter _ ?_;rw[alW];intro a b ha je sX he;have h2:en[a]?=some en.toList[a]:=by simp
  have h3:en[b]?=some en.toList[b]:=by simp
  have:=(hb b _ h3).2 a _ h2 he;omega
 have rz:j<(lO en seen).length:=(OF.1 hj).1;have Fc:i<(lO en seen).length:=(OF.1 hi).1;grind [List.getElem?_eq_getElem,Option.some.injEq,List.pairwise_iff_getElem,Nat.lt_trichotomy,absurd]
theorem UN(h:e∈lO en seen):∃i:Nat,en[i]?=some e:=by unfold lO at h;have:=(amM.1 h).1;obtain⟨i,hi⟩:=als.1 this;grind
theorem UO{w:World}{g mg:Nat}(hg:w.heap[g]?=some (.mapIter (some mg) clock seen clock))(hm:w.heap[mg]?=some (.map en clock))(hb:mF en clock)(ty:TypeId):(lO en seen=[]∧(Instr.next (.pointer (some ⟨g,0,none⟩)) false ty).run P w=.ok (.tuple #[.bool false]) w)∨∃(j:Nat)(e:MapEntry)(w1:World),(lO en seen)[j]?=some e∧(w1=w∨w1=w.drew)∧(Instr.next (.pointer (some ⟨g,0,none⟩)) false ty).run P w=.ok (.tuple #[.bool true,e.key,e.val]) (w1.putObj g (.mapIter (some mg) clock (seen.push e.born) clock)):=by
 have hold:∀x∈en.toList,x.born<clock:=fun x hx=>by obtain⟨i,hi⟩:=als.1 hx;exact(hb i x (by simp_all)).1
 simp only[Instr.next,getObj,Sem.run_bind,Sem.run,hg,hm,Result.andThen,next_test_false seen en clock clock hold (alz _),IN,Wi];have hL:(Array.filter (fun e=> !seen.contains e.born) en).toList=lO en seen:=by simp[lO]
 have bk:∀x∈(Array.filter (fun e=> !seen.contains e.born) en).toList,x.born<clock:=fun x hx=>hold x (by grind);generalize Array.filter (fun e=> !seen.contains e.born) en=L at bk hL⊢;have e1:L.filter (fun x=>decide (x.born<clock))=L:=Array.filter_eq_self.2 (fun x hx=>by grind);have e2:L.filter (fun x=>decide (x.born≥clock))= #[]:=by simp_all
 simp only[e1,e2,Array.append_empty];rw[←hL];by_cases h0:L.size=0
 ·left;have:L= #[]:=anB h0;subst this;refine⟨rfl,?_⟩;simp[choose,Sem.run,Question.forced]
 ·right;have cC:L.isEmpty=false:=by simp[Array.isEmpty,h0]
  simp only[cC,IN,Wi,Array.empty_append,Array.size_map];have hch:∃(j:Nat)(w1:World),j<L.size∧(w1=w∨w1=w.drew)∧(choose (Question.mapNext L.size)).run P w=.ok j w1:=by
   by_cases hf:L.size≤1
   ·exact⟨0,w,by omega,.inl rfl,by simp[choose,Sem.run,Question.forced,hf]⟩
   ·exact⟨_,w.drew,aok _ (by omega),.inr rfl,by simp only[choose,Sem.run,Question.forced,AT,hf,Wi,Question.cut];rfl⟩
  obtain⟨j,w1,hj,Sr,wu⟩:=hch;refine⟨j,L[j],w1,by simp,Sr,?_⟩;have hg1:w1.heap[g]?=some (.mapIter (some mg) clock seen clock):=by rcases Sr with rfl|rfl<;>exact hg
  have rV:(setObj g (.mapIter (some mg) clock (seen.push L[j].born) clock)).run P w1=.ok () (w1.putObj g (.mapIter (some mg) clock (seen.push L[j].born) clock)):=by simp only[setObj,Sem.run,hg1];rfl
  simp_all
theorem Ql{w:World}{g mg:Nat}{i:Nat}(hg:w.heap[g]?=some (.mapIter (some mg) clock seen clock))(hm:w.heap[mg]?=some (.map en clock))(hb:mF en clock)(hi:en[i]?=some e)(hs:seen.back? =some e.born):(Instr.entry (.pointer (some ⟨g,0,none⟩))).run P w=.ok (.tuple #[e.key,e.val]) w:=by
 have hf:en.find? (·.born==e.born)=some e:=by
  rw[←Array.find?_toList];refine find_born e en.toList ?_ (by grind);rw[List.Nodup,anX,alW];intro a b ha je sX he;have h2:en[a]?=some en.toList[a]:=by simp
  have h3:en[b]?=some en.toList[b]:=by simp
  have:=(hb b _ h3).2 a _ h2 he;omega
 simp only[Instr.entry,getObj,Sem.run_bind,Sem.run,hg,hm,Result.andThen,hs,bne_self_eq_false,IN,Wi,hf];rfl
end
section
variable {R:Type} {E:Env}
variable{g:Nat→Option R}{r:R}
theorem Qm{n:Nat}(h:vB n g=some r)(i:Nat)(hi:i<n):g i=some r:=by
 unfold vB at h;split at h
 ·grind
 ·cases h
theorem H4{n:Nat}(h0:0<n)(h:∀i,i<n→g i=some r):vB n g=some r:=by unfold vB;have hh:∃r,∀i,i<n→g i=some r:=⟨r,h⟩;rw[aoB hh];grind
variable{k:V→Fr→Mem→Option R}
theorem UP{site:Nat}{t:TypeId}{x:V}{f:Fr}{m:Mem}(h:P3 E site t x f m k=some r):∃f' m',k (.it site) f' m'=some r∧(m' site).isSome=true∧∀(G:Nat→Option (List PV))(w0:bE)(μ:Ro)(φ:Nat→aI)(w:World)(ρ:Nat→Value)(y:Value),aA E.P G w0 μ φ m w→cg E.P μ φ m f ρ→an E.P μ φ x y→∃w' y' μ' φ',(Instr.range t y).run E.P w=.ok y' w'∧aA E.P G w0 μ' φ' m' w'∧cg E.P μ' φ' m' f' ρ∧an E.P μ' φ' (.it site) y':=by
 unfold P3 at h;split at h
 ·rename_i kt et hu;split at h
  ·rename_i id;split at h
   ·rename_i zR es hm;split at h
    ·obtain⟨f',m',hn,ko,zS,Ai,zG⟩:=cv h;refine⟨f',m',ko,by simp[zS],fun G w0 μ φ w ρ y hM hF hx=>?_⟩;obtain⟨g,en,clock,kk,hg,hh,hs,vv,Sg,BG,hv⟩:=hM.dJ id _ hm;obtain⟨o1,o2⟩:=hM.own id _ g hm (.inl hg);cases hx with
     |om dn=>
      rw[hg]at dn;simp only[By]at dn;subst dn;have yA:=hM.forget id;have hM2:=yA.agd o1 (fun j b hj e=>by obtain⟨cC,b',je,rfl⟩:=fK hj;exact cC (hM.inj j id b' _ g je hm (gu.1 e) (.inl hg)));have ub:=mG yA (some g);have G3:cg E.P (sJ μ w (some g)) φ (bx (bI id m) id) (fa id f) ρ:=(hF.forget id).mono ub fun j hj=>⟨rfl,hj⟩;have gL:∀φ':Nat→aI,φ' site=(G0 (some w.heap.size) 0 0 0)→(∀j,(bK.iter t es none).names j=true→φ' j=φ j)→gM E.P (sJ μ w (some g)) φ' (w.alloc (.mapIter (some g) clock #[] clock)) site (.iter t es none):=fun φ' hp _=>by
       refine⟨w.heap.size,g,en,clock,#[],by rw[hp],fP w _,by simp[sJ,hh],BG,(by rw[KO,anK,hs]),fun i k v e h1 h2=>?_,fun k v h=>by cases h⟩;have h2':en[i]?=some e:=by simp_all[al3,KO]
       exact⟨(hv i k v e h1 h2').1.mono ub,(hv i k v e h1 h2').2.mono ub⟩
      obtain⟨φ',a1,a2,a3⟩:=zG E.P G w0 _ φ w (w.alloc (.mapIter (some g) clock #[] clock)) ρ (G0 (some w.heap.size) 0 0 0) hM2 G3 (lB.alloc (o:=.mapIter (some g) clock #[] clock) hM2 rfl gL (by simp[bK.names]));exact⟨_,_,_,φ',run_range_map w t kt et g en clock hu hh,a2,a3,.it (by rw[a1])⟩
    ·cases h
   ·cases h
  ·cases h
 ·cases h
theorem Xw{x:V}{f:Fr}{m:Mem}(h:WZ E x f m k=some r)(G:Nat→Option (List PV))(w0:bE)(μ:Ro)(φ:Nat→aI)(w:World)(y:Value)(ty:TypeId)(hM:aA E.P G w0 μ φ m w)(hx:an E.P μ φ x y):∃v m' y' w',k v f m'=some r∧(∀id,v.has id=false)∧ky m m'∧(Instr.next y false ty).run E.P w=.ok y' w'∧aA E.P G w0 μ φ m' w'∧an E.P μ φ v y':=by
 unfold WZ at h;split at h
 ·rename_i id;split at h
  ·rename_i t es cur hm;split at h
   ·rename_i kt et hu;obtain⟨g,mg,en,clock,seen,hg,hh,Nb,BG,JS,hv,_⟩:=hM.dJ id _ hm;obtain⟨o1,o2⟩:=hM.own id _ g hm (.inl hg);cases hx with
    |it dn=>
     rw[hg]at dn;simp only[By]at dn;subst dn;have hmg:=hM.ro _ _ Nb;rcases UO (P:=E.P) hh hmg BG ty with⟨adP,wu⟩|⟨j,e,w1,hj,UQ,wu⟩
     ·have:es=[]:=by grind
      subst this;simp only[List.isEmpty_nil,IT]at h;refine⟨_,m,_,w,h,by simp[V.has,cu],ky.refl m,wu,hM,.aG rfl fun i p x hp hx=>?_⟩;cases i with
      |zero=>simp at hp hx;subst hp;subst hx;exact .pv .bool
      |succ i=>simp at hp
     ·have rz:j<(lO en seen).length:=(OF.1 hj).1;have cC:¬es.isEmpty=true:=by grind
      rw[acB cC]at h;have h:=Qm h j (by omega);obtain⟨e0,Xx,h⟩:=M1.1 h;obtain⟨qa,_,ha,ra,_⟩:=ma h;obtain⟨qb,_,hb,rb,_⟩:=ma ha;obtain⟨rk,rv⟩:=hv j e0.1 e0.2 e Xx hj;refine⟨_,_,_,_,hb,by simp[V.has,cu],.set,wu,?_,.aG rfl fun i p x hp hx=>?_⟩
      ·have yA:aA E.P G w0 μ φ m w1:=by rcases UQ with rfl|rfl;exact hM;exact hM.drew
       have bQ:g<w1.heap.size:=by have:g<w.heap.size:=(alm.1 hh).1;rcases UQ with rfl|rfl<;>exact this
       refine yA.write hm rfl hg (Qk w1 g _) World.putObj_size (fun k hk=>World.putObj_heap_other hk) ?_ rfl (by simp[bK.names]);refine⟨g,mg,en,clock,seen.push e.born,hg,World.putObj_heap_same bQ,Nb,BG,?_,fun i k v e' h1 h2=>?_,fun k v hc=>?_⟩
       ·rw[H3 BG hj,aol,aol,JS]
       ·rw[H3 BG hj]at h2;grind
       ·simp only[By,akj]at hc;obtain⟨rfl,rfl⟩:=hc;obtain⟨i,hi⟩:=UN (alf hj);grind
      ·match i with
       |0=>simp at hp hx;subst hp;subst hx;exact .pv .bool
       |1=>simp at hp hx;subst hp;subst hx;exact .pv (ra _ _ _ rk)
       |2=>simp at hp hx;subst hp;subst hx;exact .pv (rb _ _ _ rv)
       |i+3=>simp at hp
   ·cases h
  ·cases h
 ·cases h
theorem UR{x:V}{m:Mem}{k:V→Mem→Option R}(h:P4 x m k=some r)(P:Program)(G:Nat→Option (List PV))(w0:bE)(μ:Ro)(φ:Nat→aI)(w:World)(y:Value)(hM:aA P G w0 μ φ m w)(hx:an P μ φ x y):∃v m' y',k v m'=some r∧(∀id,v.has id=false)∧ky m m'∧(Instr.entry y).run P w=.ok y' w∧aA P G w0 μ φ m' w∧an P μ φ v y':=by
 unfold P4 at h;split at h
 ·rename_i id;split at h
  ·rename_i t es a b hm;obtain⟨g,mg,en,clock,seen,hg,hh,Nb,BG,JS,hv,hcu⟩:=hM.dJ id _ hm;obtain⟨i,e,hi,hs,ra,rb⟩:=hcu a b rfl;cases hx with
   |it dn=>
    rw[hg]at dn;simp only[By]at dn;subst dn;refine⟨_,_,_,h,by simp[V.has,cu],.set,Ql hh (hM.ro _ _ Nb) BG hi hs,?_,.aG rfl fun i p x hp hx=>?_⟩
    ·exact hM.write hm rfl hg (lL.refl _ _) rfl (fun _ _=>rfl) ⟨g,mg,en,clock,seen,hg,hh,Nb,BG,JS,hv,fun k v h=>by cases h⟩ rfl (by simp[bK.names])
    match i with
    |0=>simp at hp hx;subst hp;subst hx;exact .pv ra
    |1=>simp at hp hx;subst hp;subst hx;exact .pv rb
    |i+2=>simp at hp
  ·cases h
 ·cases h
end
section
variable {P:Program} {G:Nat→Option (List PV)} {w0:bE} {μ μ':Ro} {φ φ':Nat→aI} {m m':Mem} {w w':World}
variable{id j:Nat}{b:bK}
theorem iW(h:fk id m j=some b):∃b',m j=some b'∧b=dP id b':=by unfold fk at h;grind
theorem qy:(fk id m j).isSome=(m j).isSome:=by unfold fk;cases m j<;>rfl
theorem Gq(id:Nat)(b:bK):(dP id b).rowAt=b.rowAt:=by cases b<;>rfl
theorem uc{p:aI}{g:Nat}:(dP id b).owns p g↔b.owns p g:=by unfold bK.owns;rw[Gq]
theorem Al{p:aI}:(dP id b).apart p↔b.apart p:=by unfold bK.apart;rw[Gq]
theorem CQ(id:Nat)(b:bK):(dP id b).jV=b.jV:=by cases b<;>rfl
theorem Qn{cs:List V}(h:cu j (cs.map (pR id))=true):cu j cs=true:=by obtain⟨v,hv,hh⟩:=cN.1 h;obtain⟨u,hu,rfl⟩:=alC.1 hv;exact bO hu (BI hh).1
theorem gM.Cl{id j:Nat}{b:bK}(h:gM P μ φ w j b):gM P μ φ w j (dP id b):=by
 cases b with
 |box cs=>obtain⟨g,c,T,hg,hh,hs,hv,h1,JS⟩:=h;refine⟨g,c,T,hg,hh,by simpa using hs,fun i v x hi hx=>?_,h1,by simpa using JS⟩;simp only[IS,alg]at hi;obtain⟨u,hu,rfl⟩:=hi;exact(hv i u x hu hx).Cl id
 |_=>exact h
theorem aA.yC(hM:aA P G w0 μ φ m w)(id:Nat):aA P G w0 μ φ (fk id m) w:=by
 refine⟨hM.below,hM.ro,hM.aM,fun j b h=>?_,fun j b g h hg=>?_,fun i j b1 b2 g h1 h2 g1 g2=>?_,fun j b h=>?_,fun j cs i h hh=>?_,hM.base,hM.dK,fun j st h=>?_⟩
 ·obtain⟨b',hb,rfl⟩:=iW h;exact(hM.dJ j b' hb).Cl
 ·obtain⟨b',hb,rfl⟩:=iW h;rw[CQ];exact hM.own j b' g hb (uc.1 hg)
 ·obtain⟨b1',PL,rfl⟩:=iW h1;obtain⟨b2',vE,rfl⟩:=iW h2;exact hM.inj i j b1' b2' g PL vE (uc.1 g1) (uc.1 g2)
 ·obtain⟨b',hb,rfl⟩:=iW h;exact Al.2 (hM.apart j b' hb)
 ·obtain⟨b',hb,e⟩:=iW h;cases b' with
  |box ND=>simp only[dP,bK.box.injEq]at e;subst e;rw[qy];exact hM.fT j ND i hb (Qn hh)
  |_=>simp[dP]at e
 ·obtain⟨b',hb,e⟩:=iW h;cases b' with
  |loop st'=>simp only[dP,bK.loop.injEq]at e;subst e;exact hM.Gd j st hb
  |_=>simp[dP]at e
variable{ρ:Nat→Value}
theorem cg.yC{f:Fr}(h:cg P μ φ m f ρ)(id:Nat):cg P μ φ (fk id m) (iC id f) ρ:=⟨fun t=>(h.fr t).Cl id,fun t j hj=>by rw[qy];exact h.live t j (BI hj).1⟩
theorem aA.km:∀{kl:Kl}{m:Mem},aA P G w0 μ φ m w→aA P G w0 μ φ (Go.Ab.km kl m) w
 |[],_,h=>h
 |(true,id)::r,m,h=>(aA.km (kl:=r) (m:=bx (bI id m) id) (h.forget id):)
 |(false,id)::r,m,h=>(aA.km (kl:=r) (m:=fk id m) (h.yC id):)
theorem cg.km{ρ:Nat→Value}:∀{kl:Kl}{m:Mem}{f:Fr},cg P μ φ m f ρ→cg P μ φ (Go.Ab.km kl m) (kf kl f) ρ
 |[],_,_,h=>h
 |(true,id)::r,m,f,h=>(cg.km (kl:=r) (m:=bx (bI id m) id) (f:=fa id f) (h.forget id):)
 |(false,id)::r,m,f,h=>(cg.km (kl:=r) (m:=fk id m) (f:=iC id f) (h.yC id):)
theorem aA.Sv(hM:aA P G w0 μ φ m w)(nw:Nat→Nat→Nat)(hblk:∀j b',m' j=some b'→gM P μ φ' w j b')(CO:∀j b' g,m' j=some b'→b'.owns (φ' j) g→∃k b,m k=some b∧b.owns (φ k) g∧(b'.jV=true→b.jV=true)∧j=nw g k)(G2:∀j b',m' j=some b'→b'.apart (φ' j))(Gc:∀j cs id,m' j=some (.box cs)→cu id cs=true→(m' id).isSome=true)(ajq:∀j st,m' j=some (.loop st)→m j=some (.loop st)∧(φ' j).g=(φ j).g):aA P G w0 μ φ' m' w:=by
 refine⟨hM.below,hM.ro,hM.aM,hblk,fun j b' g h hg=>?_,fun i j b1 b2 g h1 h2 g1 g2=>?_,G2,Gc,hM.base,hM.dK,fun j st h=>?_⟩
 ·obtain⟨k,b,hk,ho,Nb,_⟩:=CO j b' g h hg;obtain⟨o1,o2⟩:=hM.own k b g hk ho;simp_all
 ·obtain⟨k1,c1,Qo,ho1,_,e1⟩:=CO i b1 g h1 g1;obtain⟨k2,c2,L5,ho2,_,e2⟩:=CO j b2 g h2 g2;rw[e1,e2,hM.inj k1 k2 c1 c2 g Qo L5 ho1 ho2]
 ·obtain⟨h1,h2⟩:=ajq j st h;obtain⟨g,rc,r1,r2,r3⟩:=hM.Gd j st h1;simp_all
def kO(p:aI)(i off:Nat)(r:Ge):aI:={p with row:=fun a b=>if a=i∧b=off then r else p.row a b}
theorem gA(p:aI)(i off:Nat)(r:Ge):(kO p i off r).row i off=r:=by simp[kO]
theorem gN(p:aI){i off a b:Nat}(r:Ge)(h:¬(a=i∧b=off)):(kO p i off r).row a b=p.row a b:=by simp[kO,h]
theorem gM.Sw(h:gM P μ φ w j (dP id b))(hj:j≠id)(h0:(φ' id).toGe=(φ id).toGe)(hφ:∀k,k≠id→φ' k=φ k):gM P μ φ' w j (dP id b):=by
 have e:=hφ j hj;cases b with
 |box cs=>
  obtain⟨g,c,T,hg,hh,hs,hv,h1,JS⟩:=h;refine⟨g,c,T,by rw[e];omega,hh,hs,fun i v x hi hx=>?_,h1,by rw[e];omega⟩;refine(hv i v x hi hx).acW (fun _ _ h=>h) fun k hk=>?_;by_cases hki:k=id
  ·subst hki;refine⟨h0,fun h2=>?_⟩;simp only[IS,alg]at hi;obtain⟨u,hu,rfl⟩:=hi;rw[(BI hk).2]at h2;cases h2
  simp_all
 |arr sz et es=>exact gM.cz h (fun k hk=>by simp[bK.names,dP]at hk) e (fun _ _ h=>h) (fun _ _=>rfl)
 |tC sz et es=>exact gM.cz h (fun k hk=>by simp[bK.names,dP]at hk) e (fun _ _ h=>h) (fun _ _=>rfl)
 |map kt es=>exact gM.cz h (fun k hk=>by simp[bK.names,dP]at hk) e (fun _ _ h=>h) (fun _ _=>rfl)
 |nest sz et es=>exact gM.cz h (fun k hk=>by simp[bK.names,dP]at hk) e (fun _ _ h=>h) (fun _ _=>rfl)
 |fu kt e0 es=>exact gM.cz h (fun k hk=>by simp[bK.names,dP]at hk) e (fun _ _ h=>h) (fun _ _=>rfl)
 |loop st=>exact gM.cz h (fun k hk=>by simp[bK.names,dP]at hk) e (fun _ _ h=>h) (fun _ _=>rfl)
 |iter t es cur=>exact gM.cz h (fun k hk=>by simp[bK.names,dP]at hk) e (fun _ _ h=>h) (fun _ _=>rfl)
theorem cg.ac1{f:Fr}(h:cg P μ φ m (iC id f) ρ)(h0:(φ' id).toGe=(φ id).toGe)(hφ:∀k,k≠id→φ' k=φ k)(hl:∀j,(m j).isSome=true→(m' j).isSome=true):cg P μ φ' m' (iC id f) ρ:=by
 refine⟨fun t=>(h.fr t).acW (fun _ _ h=>h) fun k hk=>?_,fun t j hj=>hl j (h.live t j hj)⟩;by_cases hki:k=id
 ·subst hki;refine⟨h0,fun h2=>?_⟩;have:=(BI (show(pR k (f t)).has k=true from hk)).2;rw[show iC k f t=pR k (f t)from rfl,this]at h2;cases h2
 simp_all
theorem fL{id2:Nat}{b':bK}(h:aw (fk id (bx (bI id2 m) id2)) id b j=some b'):(j=id∧b'=b)∨(j≠id∧j≠id2∧∃c,m j=some c∧b'=dP id (gz id2 c)):=by
 by_cases e:j=id
 ·simp_all
 ·rw[ax e]at h;obtain⟨c1,h1,rfl⟩:=iW h;obtain⟨cC,c,hc,rfl⟩:=fK h1;simp_all
theorem Qp{x:Value}(h:an P μ φ (.os id) x):an P μ (fun _=>((φ id).toGe).up) (.os 0) x:=by
 cases h with
 |vt h=>exact .vt h
 |os h=>exact .os (id:=0) (φ:=fun _=>((φ id).toGe).up) h
theorem aN.up{sz:Nat}{et:TypeId}{es:List PV}(h:aN P μ φ w id sz et es):aN P μ (fun _=>((φ id).toGe).up) w 0 sz et es:=h
theorem aA.adQ(hM:aA P G w0 μ φ m w){id2 i off s s2:Nat}{et NN:TypeId}{es rs:List PV}{e q:PV}{x:Value}(cC:id2≠id)(hm:m id=some (.nest s et es))(cS:m id2=some (.arr s2 NN rs))(he:es[i]?=some e)(D2:e.cells[off]?=some .bad)(hx:∀g c T,(φ id).g=some g→w.heap[g]?=some (.cells c T (0,0))→c[i*s+off]?=some x)(hv:an P μ φ (.os id2) x)(hq:q.cells=e.cells.set off (.mE s2 rs)):aA P G w0 μ (fun j=>if j=id then kO (φ id) i off (φ id2).toGe else φ j) (aw (fk id (bx (bI id2 m) id2)) id (.nest s et (es.set i q))) w:=by
 have yA:=(hM.forget id2).yC id;have hN:bd P μ φ w id s et es:=hM.dJ id _ hm;have hA2:aN P μ φ w id2 s2 NN rs:=hM.dJ id2 _ cS;have Fc:i<es.length:=(OF.1 he).1;have hol:off<e.cells.length:=(OF.1 D2).1;have nD:∀a b,(bK.nest s et (es.set i q)).rowAt a b=true→(a=i∧b=off)∨((bK.nest s et es).rowAt a b=true∧¬(a=i∧b=off)):=by
  intro a b hr;by_cases sX:a=i∧b=off
  ·exact .inl sX
  ·refine .inr ⟨?_,sX⟩;rcases kx hr with⟨_,_,_,e',s',rs',je,h',xK⟩|⟨_,_,_,_,_,_,je,_⟩
   ·simp only[bK.nest.injEq]at je;obtain⟨rfl,rfl,rfl⟩:=je;rcases eL h' with⟨rfl,rfl⟩|⟨hni,h'⟩
    ·rw[hq]at xK;rcases eL xK with⟨rfl,_⟩|⟨hnj,xK⟩
     ·exact absurd ⟨rfl,rfl⟩ sX
     ·rw[dG he xK];rfl
    ·rw[dG h' xK];rfl
   ·cases je
 refine hM.Sv (fun _ k=>if k=id2 then id else k) (fun j b' hj=>?_) (fun j b' g hj ho=>?_) (fun j b' hj=>?_) (fun j cs k hj hk=>?_) (fun j st hj=>?_)
 ·rcases fL hj with⟨rfl,rfl⟩|⟨h1,h2,c,hc,rfl⟩
  ·show bd P μ (fun k=>if k=j then kO (φ j) i off (φ id2).toGe else φ k) w j s et (es.set i q);refine bd.change (μ':=μ) (w':=w) (es':=es.set i q) hN (by simp) (fun i' e' h'=>?_) (by simp[kO]) (fun _ _=>rfl) (fun i' e' j' p' g c T x' h' xK hg hc LX hold=>?_)
   ·rcases eL h' with⟨_,rfl⟩|⟨_,h'⟩
    ·rw[hq,am8];exact hN.2.2.2.2.1 i e he
    ·exact hN.2.2.2.2.1 i' e' h'
   ·simp only[IT];by_cases sX:i'=i∧j'=off
    ·obtain⟨rfl,rfl⟩:=sX;rw[gA];have e1:e'=q:=by
      rcases eL h' with⟨_,h⟩|⟨h,_⟩
      ·exact h
      ·exact absurd rfl h
     subst e1;rw[hq]at xK;have e2:p'=.mE s2 rs:=by
      rcases eL xK with⟨_,h⟩|⟨h,_⟩
      ·exact h
      ·exact absurd rfl h
     subst e2;have e3:x'=x:=by have:=hx g c _ hg hc;rw[LX]at this;simpa using this
     subst e3;exact⟨⟨NN,hA2.up⟩,Qp hv⟩
    ·rw[gN _ _ sX];rcases eL h' with⟨rfl,rfl⟩|⟨hni,h'⟩
     ·rw[hq]at xK;rcases eL xK with⟨rfl,_⟩|⟨hnj,xK⟩
      ·exact absurd ⟨rfl,rfl⟩ sX
      ·exact hold e p' he xK
     ·exact hold e' p' h' xK
  ·have hb:gM P μ φ w j (dP id (gz id2 c)):=(hM.dJ j c hc).kill.Cl;exact hb.Sw h1 (by simp[kO]) fun k hk=>by simp[hk]
 ·rcases fL hj with⟨rfl,rfl⟩|⟨h1,h2,c,hc,rfl⟩
  ·simp only[IT]at ho;rcases ho with ho|⟨a,b,hr,ho⟩
   ·exact⟨j,_,hm,.inl ho,fun _=>rfl,by simp[cC.symm]⟩
   ·rcases nD a b hr with⟨rfl,rfl⟩|⟨DY,sX⟩
    ·rw[gA]at ho;exact⟨id2,_,cS,.inl ho,fun _=>rfl,by simp⟩
    ·rw[gN _ _ sX]at ho;exact⟨j,_,hm,.inr ⟨a,b,DY,ho⟩,fun _=>rfl,by simp[cC.symm]⟩
  ·simp only[h1,Wi]at ho;exact⟨j,c,hc,gu.1 (uc.1 ho),fun h=>by rw[CQ,BN]at h;exact h,by simp[h2]⟩
 ·rcases fL hj with⟨rfl,rfl⟩|⟨h1,h2,c,hc,rfl⟩
  ·simp only[IT];have G2:=hM.apart j _ hm;have new:∀g,(φ id2).g=some g→¬(bK.nest s et es).owns (φ j) g:=fun g hg ho=>cC (hM.inj id2 j _ _ g cS hm (.inl hg) ho);intro a b g hr hg;rcases nD a b hr with⟨rfl,rfl⟩|⟨DY,sX⟩
   ·rw[gA]at hg;refine⟨fun h=>new g hg (.inl h),fun a' b' L6 L7=>?_⟩;rcases nD a' b' L6 with h|⟨hr3,Qq⟩
    ·exact h
    ·rw[gN _ _ Qq]at L7;exact absurd (.inr ⟨a',b',hr3,L7⟩) (new g hg)
   ·rw[gN _ _ sX]at hg;obtain⟨h3,h4⟩:=G2 a b g DY hg;refine⟨h3,fun a' b' L6 L7=>?_⟩;rcases nD a' b' L6 with⟨rfl,rfl⟩|⟨hr3,Qq⟩
    ·rw[gA]at L7;exact absurd (.inr ⟨a,b,DY,hg⟩) (new g L7)
    ·rw[gN _ _ Qq]at L7;exact h4 a' b' hr3 L7
  ·simp only[h1,Wi];exact Al.2 (yz.2 (hM.apart j c hc))
 ·rcases fL hj with⟨rfl,hb⟩|⟨h1,h2,c,hc,hb⟩
  ·cases hb
  ·have PT:fk id (bx (bI id2 m) id2) j=some (.box cs):=by rw[ax h1]at hj;exact hj
   have:=yA.fT j cs k PT hk;by_cases e:k=id
   ·subst e;simp
   ·rw[ax e];exact this
 ·rcases fL hj with⟨rfl,hb⟩|⟨h1,h2,c,hc,hb⟩
  ·cases hb
  ·cases c<;>first|(simp[dP,gz]at hb;done)|skip
   simp only[dP,gz,bK.loop.injEq]at hb;subst hb;exact⟨hc,by simp[h1]⟩
end
def nE(k:PV):List (PV×PV)→Option Nat
 |[]=>none
 |(a,_)::r=>if bM k.cells a.cells then some 0 else(nE k r).map (·+1)
def jW(es:List (PV×PV)):List (PV×PV):=es.map fun x=>(x.1,.bad)
theorem H5(k:PV):∀es,nE k (jW es)=nE k es
 |[]=>rfl
 |(a,u)::r=>by simp only[jW,alu,nE];rw[←H5 k r];rfl
theorem Hd{k:PV}:∀{es:List (PV×PV)}{j:Nat},nE k es=some j→∃a u,es[j]?=some (a,u)∧bM k.cells a.cells=true
 |(a,u)::r,j,h=>by
  simp only[nE]at h;split at h
  ·rename_i hp;simp only[By]at h;subst h;simp_all
  ·obtain⟨i,hi,rfl⟩:=alg.1 h;simpa using Hd hi
theorem nR(k v:PV):∀es,dm k v es=match nE k es with|some j=>es.set j (k,v)|none=>es++[(k,v)]
 |[]=>rfl
 |(a,u)::r=>by
  simp only[dm,nE];split
  ·rfl
  ·rw[nR k v r];cases nE k r<;>rfl
theorem xM(k:PV):∀es,xy k es=match nE k es with|some j=>es.modify j fun x=>(x.1,.bad)|none=>es
 |[]=>rfl
 |(a,u)::r=>by
  simp only[xy,nE];split
  ·rfl
  ·rw[xM k r];cases nE k r<;>simp
theorem NO(sz:Nat)(k:PV):∀es,Nh sz k es=match nE k es with|some j=>(es[j]?).bind fun x=>b9 sz x.2|none=>some []
 |[]=>rfl
 |(a,u)::r=>by
  simp only[Nh,nE];split
  ·simp
  ·rw[NO sz k r];cases nE k r<;>simp
theorem KP{k z:PV}{l:List (PV×PV)}{es:List MapEntry}{i:Nat}{r:Option (Nat×Value)}(h:Found k .tJ z (jW l) es i r):(r=none∧nE k l=none)∨∃j e,r=some (i+j,e.val)∧es[j]?=some e∧nE k l=some j:=by
 cases h with
 |none h1 h2 h3=>
  refine .inl ⟨rfl,?_⟩;rw[nR]at h3;rw[←H5];cases hp:nE k (jW l)with
  |none=>rfl
  |some j=>rw[hp]at h3;have:=congrArg List.length h3;simp at this
 | @some j a u e h1 h2 h3 h4 h5 h6=>
  refine .inr ⟨j,e,rfl,h2,?_⟩;rw[nR]at h6;rw[←H5];have bQ:j<(jW l).length:=(OF.1 h1).1;cases hp:nE k (jW l)with
  |none=>rw[hp]at h6;have:=congrArg List.length h6;simp at this
  |some j'=>
   rw[hp]at h6;simp only at h6;obtain⟨a',u',PT,_⟩:=Hd hp;have ajr:j'<(jW l).length:=(OF.1 PT).1;have e1:((jW l).set j (k,.tJ))[j']?=some (k,.tJ):=by rw[←h6];simp[ajr]
   grind [jW,Option.map_eq_some_iff]
section
variable {P:Program} {G:Nat→Option (List PV)} {w0:bE} {μ μ':Ro} {φ φ':Nat→aI} {m m':Mem} {w w':World}
def H6(P:Program)(μ:Ro)(R:Ge)(w:World)(e0:TypeId)(v:PV)(x:Value):Prop:=match v with
 |.mE s rs=>aN P μ (fun _=>R.up) w 0 s e0 rs∧an P μ (fun _=>R.up) (.os 0) x
 |v=>ao P μ v x
variable{e0:TypeId}
theorem H6.pure{R:Ge}{v:PV}{x:Value}(h:ao P μ v x):H6 P μ R w e0 v x:=by
 unfold H6;split
 ·cases h
 omega
structure Qr(P:Program)(μ:Ro)(p:aI)(w:World)(kt e0:TypeId)(es:List (PV×PV))(g:Nat)(en:Array MapEntry)(clock:Nat)(kk:List Kd):Prop where
 pl:p.g=some g
 heap:w.heap[g]?=some (.map en clock)
 size:en.size=es.length
 ES:vz P kt=some kk
 key:∀(i:Nat)k v,es[i]?=some (k,v)→zr P kt kk k=true
 born:mF en clock
 rep:∀(i:Nat)k v e,es[i]?=some (k,v)→en[i]?=some e→ao P μ k e.key∧H6 P μ (p.row i 0) w e0 v e.val
variable{kt:TypeId}{es:List (PV×PV)}
theorem xN{id:Nat}:gM P μ φ w id (.fu kt e0 es)↔∃g en clock kk,Qr P μ (φ id) w kt e0 es g en clock kk:=by
 constructor
 ·rintro⟨g,en,clock,kk,h1,h2,h3,h4,h5,h6,h7⟩;exact⟨g,en,clock,kk,h1,h2,h3,h4,h5,h6,fun i k v e a b=>h7 i k v e a b⟩
 ·rintro⟨g,en,clock,kk,h1,h2,h3,h4,h5,h6,h7⟩;exact⟨g,en,clock,kk,h1,h2,h3,h4,h5,h6,fun i k v e a b=>h7 i k v e a b⟩
variable{en:Array MapEntry}
theorem Qr.ent{p:aI}{g:Nat}{clock:Nat}{kk:List Kd}(h:Qr P μ p w kt e0 es g en clock kk):Aj P μ kt kk (jW es) en.toList:=by
 refine⟨by simp[jW,h.size],fun i k v hi=>?_,fun i k v e hi he=>?_⟩
 ·simp only[jW,IS,alg]at hi;obtain⟨⟨a,u⟩,hq,hx⟩:=hi;simp only[akj]at hx;obtain⟨rfl,rfl⟩:=hx;exact h.key i a u hq
 ·simp only[jW,IS,alg]at hi;obtain⟨⟨a,u⟩,hq,hx⟩:=hi;simp only[akj]at hx;obtain⟨rfl,rfl⟩:=hx;exact⟨(h.rep i a u e hq (by simpa using he)).1,.bad⟩
theorem H7{t et:TypeId}{ks:List Kd}{key:PV}{zv yi:Value}{g clock:Nat}{l:List (PV×PV)}(hu:P.underlying t=some (.map kt et))(hk:vz P kt=some ks)(sW:zr P kt ks key=true)(hyi:ao P μ key yi)(hg:w.heap[g]?=some (.map en clock))(hE:Aj P μ kt ks (jW l) en.toList)(hz:(zeroValue et).run P w=.ok zv w):(nE key l=none∧(Instr.lookup t (.map (some g)) yi false).run P w=.ok zv w)∨∃j e,nE key l=some j∧en[j]?=some e∧(Instr.lookup t (.map (some g)) yi false).run P w=.ok e.val w:=by
 have UJ:=BQ hk;obtain⟨hc,hv⟩:=nu sW hyi;obtain⟨r,r1,r2⟩:=me (v:=.tJ) (z:=.bad) UJ hc w hE;have h1:=iH 8 kt ks UJ 9992 w en.isEmpty key.cells hc;have JX:=Go.MapKept.run_getObj_map (P:=P) hg;have h1':(Instr.checkKey en.isEmpty 10000 kt (eR P kt key.cells)).run P w=.ok () w:=h1;rw[hv];unfold Instr.lookup;simp only[Sem.run_bind,run_underlying hu,Result.andThen_ok,Sem.run_pure,JX];rcases KP r2 with⟨rfl,h⟩|⟨j,e,rfl,he,h⟩
 ·simp_all
 simp_all
end
section
variable {R:Type} {E:Env}
theorem Qs{t:TypeId}(h:zeroV E.P t=some .fO)(w:World):(zeroValue t).run E.P w=.ok (.slice none 0 0) w:=by unfold zeroV at h;obtain⟨c,hc,h⟩:=alg.1 h;obtain⟨i,hi,hz⟩:=M1.1 hc;have:=xE (P:=E.P) (μ:=fun _=>none) (φ:=fun _=>default) c;rw[h]at this;cases this;exact qx hi hz
theorem Xy{site:Nat}{t:TypeId}{x ix:V}{m:Mem}{k:V→Mem→bD→Option R}{r:R}(h:Nl E site t x ix m k=some r):∃id b1 b2 m',m'=xw [(id,b1),(site,b2)] m∧k (.os site) m' [(true,id),(true,site)]=some r∧m site=none∧b2.names=(fun _=>false)∧b1.names=(fun _=>false)∧(m id).isSome=true∧(∀m2:Mem,m2 id=m id→m2 site=none→∀(R':Type)(k':V→Mem→bD→Option R'),Nl E site t x ix m2 k'=k' (.os site) (xw [(id,b1),(site,b2)] m2) [(true,id),(true,site)])∧∀(G:Nat→Option (List PV))(w0:bE)(μ:Ro)(φ:Nat→aI)(w:World)(f:Fr)(ρ:Nat→Value)(y yi:Value),aA E.P G w0 μ φ m w→cg E.P μ φ m f ρ→an E.P μ φ x y→an E.P μ φ ix yi→∃u φ',(Instr.lookup t y yi false).run E.P w=.ok u w∧aA E.P G w0 μ φ' m' w∧cg E.P μ φ' m' f ρ∧an E.P μ φ' (.os site) u:=by
 unfold Nl at h;split at h
 ·rename_i kt et hu;split at h
  ·rename_i e hue;split at h
   ·rename_i id hz;split at h
    ·rename_i zR e' es hm hs;split at h
     ·rename_i hc;obtain⟨rfl,rfl,ez⟩:=hc;obtain⟨key,sW,h⟩:=M1.1 h;obtain⟨rs,hrs,h⟩:=M1.1 h;obtain⟨ks,k1,k2,k3⟩:=xL sW;have cC:site≠id:=fun e=>by simp_all
      refine⟨id,.fu zR e' (xy key es),.arr (aV E.P e') e' rs,_,rfl,h,hs,rfl,rfl,by rw[hm];rfl,fun m2 h1 h2 R' k'=>?_,fun G w0 μ φ w f ρ y yi hM hF hx hi=>?_⟩
      ·simp only[Nl,hu,hue,hz,h1,h2,hm,sW,hrs,alr,ez,and_self,IT];rfl
      ·obtain⟨g,en,clock,kk,hN⟩:=xN.1 (hM.dJ id _ hm);have vv:=hN.ES;rw[k1]at vv;simp only[By]at vv;subst vv;cases hx with
       |om dn=>
        rw[hN.pl]at dn;simp only[By]at dn;subst dn;have KQ:=H7 hu k1 k2 (k3 μ φ yi hi) hN.heap hN.ent (Qs hz w);have Xz:∀i off,(bK.fu zR e' (xy key es)).rowAt i off=true→(bK.fu zR e' es).rowAt i off=true∧nE key es≠some i:=by
         intro i off hr;rcases kx hr with⟨_,_,_,_,_,_,hb,_⟩|⟨_,_,_,k0,s0,rs0,hb,rfl,he⟩
         ·cases hb
         ·simp only[bK.fu.injEq]at hb;obtain⟨rfl,rfl,rfl⟩:=hb;rw[xM]at he;cases hp:nE key es with
          |none=>rw[hp]at he;simp only at he;exact⟨by rw[kv he];rfl,by simp⟩
          |some j=>
           rw[hp]at he;simp only[anI]at he;split at he
           ·simp_all
           ·rename_i hji;have he:es[i]?=some (k0,PV.mE s0 rs0):=by simpa using he
            exact⟨by rw[kv he];rfl,fun h=>hji (by simpa using h)⟩
        have yA:aA E.P G w0 μ φ (aw m id (.fu zR e' (xy key es))) w:=by
         refine hM.write hm rfl hN.pl (lL.refl _ _) rfl (fun _ _=>rfl) (xN.2 ⟨g,en,clock,ks,hN.pl,hN.heap,?_,k1,fun i k0 v0 h0=>?_,hN.born,fun i k0 v0 e0 h0 Xx=>?_⟩) rfl (by simp[bK.names]) (fun st h=>by cases h) (fun i off hr=>(Xz i off hr).1)
         ·rw[hN.size,xM];grind
         ·rw[xM]at h0;cases hp:nE key es with
          |none=>rw[hp]at h0;exact hN.key i k0 v0 h0
          |some j=>
           rw[hp]at h0;simp only[anI]at h0;obtain⟨x0,UG,hq⟩:=alg.1 h0;obtain⟨xa,xu⟩:=x0;split at hq
           ·simp only[akj]at hq;rw[←hq.1];exact hN.key i xa xu UG
           ·simp only[id_eq,akj]at hq;rw[←hq.1];exact hN.key i xa xu UG
         ·rw[xM]at h0;cases hp:nE key es with
          |none=>rw[hp]at h0;exact hN.rep i k0 v0 e0 h0 Xx
          |some j=>
           rw[hp]at h0;simp only[anI]at h0;obtain⟨x0,UG,hq⟩:=alg.1 h0;obtain⟨xa,xu⟩:=x0;obtain⟨q1,q2⟩:=hN.rep i xa xu e0 UG Xx;split at hq
           ·simp only[akj]at hq;obtain⟨rfl,rfl⟩:=hq;exact⟨q1,.pure .bad⟩
           simp_all
        have age:∀(ph:aI)(u:Value),aN E.P μ (fun _=>ph) w 0 (aV E.P e') e' rs→an E.P μ (fun _=>ph) (.os 0) u→(∀g',ph.g=some g'→∃j,nE key es=some j∧(bK.fu zR e' es).rowAt j 0=true∧((φ id).row j 0).g=some g')→∃φ',aA E.P G w0 μ φ' (xw [(id,.fu zR e' (xy key es)),(site,.arr (aV E.P e') e' rs)] m) w∧cg E.P μ φ' (xw [(id,.fu zR e' (xy key es)),(site,.arr (aV E.P e') e' rs)] m) f ρ∧an E.P μ φ' (.os site) u:=by
         intro ph u hA hV JX;have LV:∀j,(m j).isSome=true→j≠site:=fun j hj e=>by simp_all
         refine⟨fun i=>if i=site then ph else φ i,?_,?_,?_⟩
         ·refine yA.put (by rw[ax cC];omega) (lL.refl _ _) hM.ro (fun _ _ _ _ _=>rfl) (fun g' dn=>?_) (tW tD) ?_ (by simp[bK.names]) (fun st h=>by cases h)
          ·have dn:=qw tD dn;obtain⟨j,hj,hr,hjg⟩:=JX g' dn;obtain⟨o1,o2⟩:=hM.own id _ g' hm (.inr ⟨j,0,hr,hjg⟩);refine⟨o1,o2 rfl,fun i b' hi ho=>?_⟩;by_cases UD:i=id
           ·subst UD;rw[bW]at hi;simp only[By]at hi;subst hi;obtain⟨a1,a2⟩:=hM.apart i _ hm j 0 g' hr hjg;rcases ho with ho|⟨i',yr,DY,ho⟩
            ·exact a1 ho
            grind
           ·rw[ax UD]at hi;exact UD (hM.inj i id _ _ g' hi hm ho (.inr ⟨j,0,hr,hjg⟩))
          ·exact aN.move (φ':=fun i=>if i=site then ph else φ i) (j:=site) hA (by simp) (fun _ _ h=>h)
         ·refine hF.mono (fun _ _ h=>h) fun j hj=>⟨by simp[LV j hj],?_⟩;show(aw (aw m id _) site _ j).isSome=true;rw[ax (LV j hj)];by_cases hji:j=id
          ·subst hji;simp
          ·rw[ax hji];omega
         ·cases hV with
          |vt h=>exact .vt (by simpa using h)
          | @os _ g0 h=>have:=an.os (P:=E.P) (μ:=μ) (φ:=fun i=>if i=site then ph else φ i) (id:=site) (g:=g0) (by simpa using h);simpa using this
        rw[NO]at hrs;rcases KQ with⟨hp,wu⟩|⟨j,en0,hp,hen,wu⟩
        ·rw[hp]at hrs;simp only[By]at hrs;subst hrs;obtain⟨φ',a1,a2,a3⟩:=age (G0 none 0 0 (aV E.P e')) (.slice none 0 0) ⟨rfl,rfl,rfl,ez,by simp,by simp[maxLen],⟨rfl,rfl⟩⟩ (.vt rfl) (fun g' dn=>by cases dn);grind
        ·rw[hp]at hrs;obtain⟨x0,UG,nD⟩:=M1.1 hrs;obtain⟨xa,xu⟩:=x0;have hxu:=NB nD;simp only at hxu;subst hxu;obtain⟨_,q2⟩:=hN.rep j xa _ en0 UG hen;obtain⟨φ',a1,a2,a3⟩:=age ((φ id).row j 0).up en0.val q2.1 q2.2 (fun g' dn=>⟨j,hp,by rw[kv UG];rfl,dn⟩);grind
     ·cases h
    ·cases h
   ·cases h
  ·cases h
 ·cases h
end
theorem H8{m:Mem}:∀{cs:List V}{j0:Nat}{ps:List PV}{tk:Option (Nat×Nat)},lN m j0 cs=some (ps,tk)→ps.length=cs.length∧(tk=none→∀(i:Nat)p,ps[i]?=some p→∃v,cs[i]?=some v∧lz dc 1 v=some p)∧∀j id2,tk=some (j,id2)→∃l s2 NN rs,cs[l]?=some (.os id2)∧m id2=some (.arr s2 NN rs)∧ps[l]?=some (.mE s2 rs)∧∀(i:Nat)p,i≠l→ps[i]?=some p→∃v,cs[i]?=some v∧lz dc 1 v=some p
 |[],j0,ps,tk,h=>by simp only[lN,By,akj]at h;grind
 |v::r,j0,ps,tk,h=>by
  have plain:∀{p:PV},lz dc 1 v=some p→(match lN m (j0+1) r with
   |some (ps,t)=>some (p::ps,t)
   |none=>none)=some (ps,tk)→ps.length=(v::r).length∧
   (tk=none→∀(i:Nat)p,ps[i]?=some p→∃u,(v::r)[i]?=some u∧lz dc 1 u=some p)∧
   ∀j id2,tk=some (j,id2)→∃l s2 NN rs,(v::r)[l]?=some (.os id2)∧m id2=some (.arr s2 NN rs)∧ps[l]?=some (.mE s2 rs)∧∀(i:Nat)p,i≠l→ps[i]?=some p→∃u,(v::r)[i]?=some u∧lz dc 1 u=some p:=by
   intro p hp h
   split at h
   ·rename_i ps' t ht;simp only[By,akj]at h;obtain⟨rfl,rfl⟩:=h;obtain⟨h1,h2,h3⟩:=H8 ht;refine⟨by simp[h1],fun hn i q hq=>?_,fun j id2 hj=>?_⟩
    ·grind
    ·obtain⟨l,s2,NN,rs,a1,a2,a3,a4⟩:=h3 j id2 hj;refine⟨l+1,s2,NN,rs,by simpa using a1,a2,by simpa using a3,fun i q hi hq=>?_⟩;grind
   ·cases h
  unfold lN at h;split at h
  ·rename_i heq;cases heq
  ·rename_i j id r' heq;simp only[amn]at heq;obtain⟨rfl,rfl⟩:=heq;split at h
   ·rename_i s et es hm;split at h
    ·rename_i ps' ht;simp only[By,akj]at h;obtain⟨rfl,rfl⟩:=h;obtain⟨h1,h2,_⟩:=H8 ht;refine⟨by simp[h1],fun hn=>(nomatch hn),fun j id2 hj=>?_⟩;simp only[By,akj]at hj;obtain⟨rfl,rfl⟩:=hj;refine⟨0,s,et,es,rfl,hm,rfl,fun i q hi hq=>?_⟩;grind
    ·cases h
   ·cases h
  grind
section
variable {P:Program} {G:Nat→Option (List PV)} {w0:bE} {μ μ':Ro} {φ φ':Nat→aI} {m m':Mem} {w w':World}
theorem H9{v:V}{n j id2:Nat}{cs:List V}{ps:List PV}(hc:toCells n v=some cs)(h:lN m 0 cs=some (ps,some (j,id2))):∃l s2 NN rs,m id2=some (.arr s2 NN rs)∧ps[l]?=some (.mE s2 rs)∧ps.length=n∧v.has id2=true∧∀(P:Program)(μ:Ro)(φ:Nat→aI)(x:Value),an P μ φ v x→x.cells.size=n∧(∀(i:Nat)(y:Value),x.cells[i]?=some y→y.oneCell'=true)∧(∀(i:Nat)p y,i≠l→ps[i]?=some p→x.cells[i]?=some y→ao P μ p y)∧∃y,x.cells[l]?=some y∧an P μ φ (.os id2) y:=by
 obtain⟨t1,_,t3⟩:=H8 h;obtain⟨l,s2,NN,rs,a1,a2,a3,a4⟩:=t3 j id2 rfl;obtain⟨n1,n2,n3⟩:=toCells_ok hc;refine⟨l,s2,NN,rs,a2,a3,by omega,n2 id2 (bO (alf a1) (by simp[V.has])),fun P μ φ x hx=>?_⟩;obtain⟨x1,x2,x3⟩:=n3 P μ φ x hx;refine⟨x1,x3,fun i p y hi hp hy=>?_,?_⟩
 ·grind [xH]
 ·have hl:l<x.cells.size:=by grind
  exact⟨x.cells[l],ald hl,x2 l _ _ a1 (ald hl)⟩
theorem Gs{s off n:Nat}{e:PV}{ps:List PV}(hn:ps.length=n)(hb:off+n≤s)(h0:0<n)(ha:s=1→∀p,ps.head? =some p→∀cs,p≠.agg cs):(if s=1 then ps.headD .bad else PV.agg (bN (aQ s e) off ps)).cells=bN (aQ s e) off ps:=by
 split
 ·rename_i h1;subst h1;have e1:off=0:=by omega
  have e2:n=1:=by omega
  subst e1;subst e2;match ps,hn with
  |[p],_=>
   have:=ha rfl p rfl;have hp:p.cells=[p]:=by cases p<;>first|rfl|exact absurd rfl (this _)
   simp only[List.headD_cons,hp,dZ,ang,amC,aiK,alh];rfl
 rfl
theorem Ia{T:Type}{cs ps:List T}{off l:Nat}{x:T}(hl:l<ps.length)(hb:off+ps.length≤cs.length):bN cs off (ps.set l x)=(bN cs off ps).set (off+l) x:=by
 have hto:(cs.take off).length=off:=by simp;omega
 simp_all[dZ,am8,alJ,List.set_append,acB,T0]
theorem Ib{id id2:Nat}{B X:bK}(cC:id2≠id):aw (fk id (bx (bI id2 (aw m id B)) id2)) id X=aw (fk id (bx (bI id2 m) id2)) id X:=by
 funext t;by_cases h:t=id
 ·subst h;simp
 ·rw[ax h,ax h];unfold fk;by_cases h2:t=id2
  ·subst h2;simp
  simp_all[gr,bI,ax]
end
section
variable {R:Type} {E:Env}
theorem XA{t:TypeId}{v:V}{id i off s id2 j:Nat}{et:TypeId}{es ps:List PV}{cs:List V}{e:PV}{m:Mem}(hm:m id=some (.nest s et es))(hc:toCells (aV E.P t) v=some cs)(ht:lN m 0 cs=some (ps,some (j,id2)))(hb:off+aV E.P t≤s)(h0:0<aV E.P t)(cC:id2≠id)(he:es[i]?=some e){G:Nat→Option (List PV)}{w0:bE}{μ:Ro}{φ:Nat→aI}{w:World}{f:Fr}{ρ:Nat→Value}{ya yx:Value}(hM:aA E.P G w0 μ φ m w)(hF:cg E.P μ φ m f ρ)(ha:an E.P μ φ (.oe id i off) ya)(hx:an E.P μ φ v yx):∃w' φ',(Instr.storeAt t ya yx).run E.P w=.ok () w'∧aA E.P G w0 μ φ' (xw [(id,.nest s et (es.set i (if s=1 then ps.headD .bad else .agg (bN (aQ s e) off ps))))] (km [(true,id2),(false,id)] m)) w'∧cg E.P μ φ' (xw [(id,.nest s et (es.set i (if s=1 then ps.headD .bad else .agg (bN (aQ s e) off ps))))] (km [(true,id2),(false,id)] m)) (kf [(true,id2),(false,id)] f) ρ:=by
 obtain⟨l,s2,NN,rs,cS,nD,JM,ajs,gL⟩:=H9 hc ht;obtain⟨x1,x2,x3,y,hy,hvy⟩:=gL E.P μ φ yx hx;have WK:l<ps.length:=(OF.1 nD).1;have hN:bd E.P μ φ w id s et es:=hM.dJ id _ hm;have KI:=hN.2.2.2.2.1 i e he;have JW:(aQ s e).length=s:=bw _ _;have rT:ps=(ps.set l .bad).set l (.mE s2 rs):=by rw[aod];apply alL;grind
 have rV:∀(a:Nat)p,(ps.set l .bad)[a]?=some p→(a=l∧p=.bad)∨(a≠l∧ps[a]?=some p):=fun a p h=>eL h;have hE:wA E.P μ (aV E.P t) (.agg (ps.set l .bad)) yx:=by
  refine⟨by simp[PV.cells,JM],x1,fun a p z hp hz=>?_,x2⟩;rcases rV a p (by simpa[PV.cells]using hp)with⟨_,rfl⟩|⟨h1,h2⟩
  ·exact .bad
  grind
 have one:s=1→ps.length=1:=fun h=>by omega
 have hq:(if s=1 then ps.headD .bad else PV.agg (bN (aQ s e) off ps)).cells=bN (aQ s e) off ps:=Gs JM hb h0 fun h1 p hp ND=>by grind [List.head?_eq_getElem?,Option.some.injEq]
 have NI:(if s=1 then(ps.set l .bad).headD .bad else PV.agg (bN (aQ s e) off (ps.set l .bad))).cells=bN (aQ s e) off (ps.set l .bad):=Gs (by simpa using JM) hb h0 fun h1 p hp ND=>by
  have PQ:l=0:=by omega
  subst PQ;rw[anv,al2,T0 rfl,T0 WK]at hp;grind
 generalize (if s=1 then ps.headD .bad else PV.agg (bN (aQ s e) off ps))=q at hq⊢;generalize (if s=1 then(ps.set l .bad).headD .bad else PV.agg (bN (aQ s e) off (ps.set l .bad)))=q' at NI;cases ha with
 | @oe _ _ _ g hg=>
  obtain⟨c,T,hh,nQ,CJ,hrw⟩:=bd.set (q:=q') hN (hM.apart id _ hm) hg he hE hb (by rw[NI];rfl);have pT:(φ id).sz=s:=hN.2.1;have hi:=kN (P:=E.P) (t:=t) (by omega);have yA:aA E.P G w0 μ φ (aw m id (.nest s et (es.set i q'))) (w.setRow g (bN c.toList (i*s+off) yx.cells.toList).toArray):=hM.write hm rfl hg (lL.setRow (alz _)) setRow_size (fun k hk=>cj hk) CJ rfl (fun j hj=>by simp[bK.names]at hj) (fun st h=>by cases h) hrw;have Fc:i<es.length:=(OF.1 he).1;have XB:q.cells=q'.cells.set (off+l) (.mE s2 rs):=by grind [Ia]
  have D2:q'.cells[off+l]?=some .bad:=by rw[NI,Ia WK (by omega),al2,T0 rfl,T0];grind [cF]
  have sX:=aA.adQ yA (id:=id) (id2:=id2) (i:=i) (off:=off+l) (e:=q') (q:=q) (x:=y) cC (bW _ _ _) (by rw[ax cC];exact cS) (by simp[Fc]) D2 (fun g0 c0 _ P9 WI=>by
   rw[hg]at P9;simp only[By]at P9;subst P9;rw[setRow_heap w g c _ T (0,0) hh]at WI;simp only[By,Obj.cells.injEq]at WI;obtain⟨rfl,_⟩:=WI;rw[alY,dZ];have bQ:(c.toList.take (i*s+off)).length=i*s+off:=by simp;omega
   have NH:l<yx.cells.toList.length:=by grind
   rw[alJ,al0 (by omega),bQ,show i*s+(off+l)-(i*s+off)=l by omega,al6 NH];simpa using hy) hvy XB
  rw[aod,Ib cC]at sX;refine⟨_,_,by grind [gv],sX,?_⟩;have G3:cg E.P μ φ (aw m id (.nest s et (es.set i q'))) f ρ:=hF.nP (fun _ _ h=>h) .set;have hF2:=(G3.forget id2).yC id;refine hF2.ac1 (by simp[kO]) (fun k hk=>by simp[hk]) fun k hk=>?_;show(aw (fk id (bx (bI id2 m) id2)) id _ k).isSome=true;by_cases e1:k=id
  ·subst e1;simp
  ·rw[ax e1];rw[qy]at hk⊢;by_cases e2:k=id2
   ·subst e2;simp at hk
   grind [gr,bI,ax]
end
section
variable {R:Type} {E:Env}
variable{e:TypeId}{id2:Nat}{G:Nat→Option (List PV)}{w0:bE}{φ:Nat→aI}{w:World}{ρ:Nat→Value}
theorem US{t:TypeId}{v:V}{j site:Nat}{cs:List V}{ps:List PV}{p:PV}{m:Mem}(hu:E.P.underlying t=some (.slice e))(hc:toCells (aV E.P e) v=some cs)(ht:lN m 0 cs=some (ps,some (j,id2)))(hs:m site=none)(hp:elemOf (aD E.P e) ps=some p)(ez:0<aV E.P e)(Fe:aV E.P e≤16777216)(hz:(dr E e).isSome=true){μ:Ro}{f:Fr}{yx:Value}(hM:aA E.P G w0 μ φ m w)(hF:cg E.P μ φ m f ρ)(hx:an E.P μ φ v yx):∃y w' φ',(Instr.buildSlice t 1 #[(0,yx)]).run E.P w=.ok y w'∧aA E.P G w0 μ φ' (xw [(site,.nest (aV E.P e) e [p])] (km [(true,id2)] m)) w'∧cg E.P μ φ' (xw [(site,.nest (aV E.P e) e [p])] (km [(true,id2)] m)) (kf [(true,id2)] f) ρ∧an E.P μ φ' (.os site) y:=by
 obtain⟨l,s2,NN,rs,cS,nD,JM,ajs,gL⟩:=H9 hc ht;obtain⟨x1,x2,x3,z,hz1,hvz⟩:=gL E.P μ φ yx hx;obtain⟨zc,WJ⟩:=alK.1 hz;obtain⟨iz,zv,i1,i2,i3,_⟩:=eK WJ;have cC:id2≠site:=fun e=>by simp_all
 have UT:p.cells=ps:=by
  unfold elemOf at hp;split at hp
  ·simp only[By]at hp;subst hp;rfl
  ·split at hp
   ·rename_i q;simp only[By]at hp;subst hp;have PQ:l=0:=by grind
    subst PQ;simp only[al4,By]at nD;subst nD;rfl
   ·cases hp
 have hA2:aN E.P μ φ w id2 s2 NN rs:=hM.dJ id2 _ cS;have akO:Instr.fill (fun i=>some (i*aV E.P e,aV E.P e)) ((Array.range (1*aV E.P e)).map (zv.cells[·%zv.cells.size]!)) [(0,yx)]=some yx.cells:=by
  have JZ:((Array.range (1*aV E.P e)).map (zv.cells[·%zv.cells.size]!)).size=aV E.P e:=by simp
  rw[BP (off:=0) (size:=aV E.P e) (by simp) x1 (by omega)];simp only[Instr.fill,By];apply amU;simp only[dZ,ang,amC,amq];simp_all
 have wu:=run_buildSlice (P:=E.P) w t e 1 #[(0,yx)] yx.cells iz zv hu i1 i2 (by omega) (by omega) (by rw[i3];omega);let q:aI:={g:=some w.heap.size,cap:=1,len:=1,sz:=aV E.P e,row:=fun a b=>if a=0∧b=l then(φ id2).toGe else default};have LV:∀k,(bx (bI id2 m) id2 k).isSome=true→k≠site:=fun k hk e=>by simp_all[gr,Ne.symm,bI]
 have XC:∀a b,(bK.nest (aV E.P e) e [p]).rowAt a b=true→a=0∧b=l:=by
  intro a b hr;rcases kx hr with⟨_,_,_,e',s',rs',je,h',xK⟩|⟨_,_,_,_,_,_,je,_⟩
  ·simp only[bK.nest.injEq]at je;obtain⟨rfl,rfl,rfl⟩:=je;cases a with
   |succ a=>simp at h'
   |zero=>
    simp only[al4,By]at h';subst h';rw[UT]at xK;refine⟨rfl,?_⟩;by_cases PU:b=l
    ·exact PU
    ·exfalso;have bQ:b<yx.cells.size:=by rw[x1,←JM];exact(OF.1 xK).1
     exact absurd (x3 b _ _ PU xK (ald bQ)).Hc (by simp[PV.isRow])
  ·cases je
 have yA:=hM.forget id2;have mJ:aA E.P G w0 μ (fun i=>if i=site then q else φ i) (aw (bx (bI id2 m) id2) site (.nest (aV E.P e) e [p])) (w.alloc (.cells yx.cells e)):=by
  have hold:∀k,k<w.heap.size→(w.alloc (.cells yx.cells e)).heap[k]?=w.heap[k]?:=fun k hk=>lL.heap_alloc w _ k hk;refine yA.put (by rw[gr (Ne.symm cC)];simp[bI,hs]) ((lL.refl _ w).alloc hM.below.size _) (fun k o hk=>?_) (fun id b' g hid hg=>hold g ((yA.dJ id b' hid).HP hg)) (fun g hg=>?_) ?_ ?_ (by simp[bK.names]) (fun st h=>by cases h)
  ·have:=hM.ro k o hk;rw[hold k (alm.1 this).1];exact this
  ·rcases hg with hg|⟨a,b,hr,hg⟩
   ·simp only[q,By]at hg;subst hg;refine⟨hM.below.size,?_,fun id b' hid ho=>?_⟩
    ·cases hq:μ w.heap.size with
     |none=>rfl
     |some o'=>have:=hM.ro _ _ hq;simp at this
    ·have:=(yA.dJ id b' hid).HP ho;omega
   ·have sX:=XC a b hr;have hg:(φ id2).g=some g:=by simpa[q,sX]using hg
    obtain⟨o1,o2⟩:=hM.own id2 _ g cS (.inl hg);refine⟨o1,o2 rfl,fun id b' hid ho=>?_⟩;obtain⟨h1,b2,vE,rfl⟩:=fK hid;exact h1 (hM.inj id id2 _ _ g vE cS (gu.1 ho) (.inl hg))
  ·intro a b g hr hg;have sX:=XC a b hr;have hg:(φ id2).g=some g:=by simpa[q,sX]using hg
   refine⟨fun h=>?_,fun a' b' DY _=>by have:=XC a' b' DY;omega⟩;simp only[q,By]at h;have:=(hM.dJ id2 _ cS).HP (.inl hg);omega
  ·show bd E.P μ (fun i=>if i=site then q else φ i) (w.alloc (.cells yx.cells e)) site (aV E.P e) e [p];unfold bd;simp only[IT];refine⟨rfl,rfl,trivial,ez,fun i e' UU=>?_,by simp[q,maxLen],yx.cells,e,fP w _,by simp[q,x1],by simp[q],fun i e' b p' x' UU xK LX=>?_,fun i x' _ LX=>x2 i x' LX⟩
   ·cases i with
    |zero=>simp at UU;subst UU;rw[UT,JM]
    |succ i=>simp at UU
   ·cases i with
    |succ i=>simp at UU
    |zero=>
     simp only[al4,By]at UU;subst UU;rw[UT]at xK;rw[aow,amq]at LX;by_cases PU:b=l
     ·subst PU;rw[nD]at xK;simp only[By]at xK;subst xK;rw[hz1]at LX;simp only[By]at LX;subst LX;have:q.row 0 b=(φ id2).toGe:=by simp[q]
      rw[this];refine eQ.cz ⟨⟨NN,hA2.up⟩,Qp hvz⟩ (fun _ _ h=>h) fun g hg=>hold g ((hM.dJ id2 _ cS).HP (.inl hg))
     ·exact .pure (x3 b p' x' PU xK LX)
 refine⟨_,_,_,wu,mJ,?_,?_⟩
 ·exact(hF.forget id2).mono (fun _ _ h=>h) fun k hk=>⟨by simp[LV k hk],by show(aw (bx (bI id2 m) id2) site _ k).isSome=true;rw[ax (LV k hk)];exact hk⟩
 ·have:=an.os (P:=E.P) (μ:=μ) (φ:=fun i=>if i=site then q else φ i) (id:=site) (g:=w.heap.size) (by simp[q]);simpa[q]using this
theorem XD{k v v':PV}:∀{es:List (PV×PV)}{j:Nat},(dm k v es)[j]?=some (k,v)→(nE k es=some j∨(nE k es=none∧j=es.length))→(dm k v es).set j (k,v')=dm k v' es:=by
 intro es j hj hp;rw[nR,nR];rcases hp with hp|⟨hp,rfl⟩
 ·rw[hp];simp
 ·rw[hp];simp
variable{es:List (PV×PV)}
theorem aA.aby{P:Program}{μ:Ro}{m:Mem}(hM:aA P G w0 μ φ m w){id i s2:Nat}{kt:TypeId}{k:PV}{rs:List PV}{x:Value}(cC:id2≠id)(hm:m id=some (.fu kt e es))(cS:m id2=some (.arr s2 e rs))(he:es[i]?=some (k,.bad))(hx:∀g en clock,(φ id).g=some g→w.heap[g]?=some (.map en clock)→∃e0,en[i]?=some e0∧e0.val=x)(hv:an P μ φ (.os id2) x):aA P G w0 μ (fun j=>if j=id then kO (φ id) i 0 (φ id2).toGe else φ j) (aw (fk id (bx (bI id2 m) id2)) id (.fu kt e (es.set i (k,.mE s2 rs)))) w:=by
 have yA:=(hM.forget id2).yC id;obtain⟨g0,en,clock,kk,hN⟩:=xN.1 (hM.dJ id _ hm);have hA2:aN P μ φ w id2 s2 e rs:=hM.dJ id2 _ cS;have nD:∀a b,(bK.fu kt e (es.set i (k,.mE s2 rs))).rowAt a b=true→(a=i∧b=0)∨((bK.fu kt e es).rowAt a b=true∧¬(a=i∧b=0)):=by
  intro a b hr;by_cases sX:a=i∧b=0
  ·exact .inl sX
  ·refine .inr ⟨?_,sX⟩;rcases kx hr with⟨_,_,_,_,_,_,je,_⟩|⟨_,_,_,k',s',rs',je,rfl,h'⟩
   ·cases je
   ·simp only[bK.fu.injEq]at je;obtain⟨rfl,rfl,rfl⟩:=je;rcases eL h' with⟨rfl,_⟩|⟨hni,h'⟩
    ·exact absurd ⟨rfl,rfl⟩ sX
    ·rw[kv h'];rfl
 refine hM.Sv (fun _ k=>if k=id2 then id else k) (fun j b' hj=>?_) (fun j b' g hj ho=>?_) (fun j b' hj=>?_) (fun j cs k hj hk=>?_) (fun j st hj=>?_)
 ·rcases fL hj with⟨rfl,rfl⟩|⟨h1,h2,c,hc,rfl⟩
  ·refine xN.2 ⟨g0,en,clock,kk,by simp[kO,hN.pl],hN.heap,by simp[hN.size],hN.ES,fun a k' v' h'=>?_,hN.born,fun a k' v' e' h' UU=>?_⟩
   ·rcases eL h' with⟨rfl,hq⟩|⟨_,h'⟩
    ·simp only[akj]at hq;rw[hq.1];exact hN.key a k _ he
    ·exact hN.key a k' v' h'
   ·simp only[IT];rcases eL h' with⟨rfl,hq⟩|⟨hni,h'⟩
    ·simp only[akj]at hq;obtain⟨rfl,rfl⟩:=hq;refine⟨(hN.rep a _ _ e' he UU).1,?_⟩;rw[gA];obtain⟨e1,he1,hxe⟩:=hx g0 en clock hN.pl hN.heap;rw[UU]at he1;simp only[By]at he1;subst he1;rw[hxe];exact⟨hA2.up,Qp hv⟩
    ·rw[gN _ _ (fun h=>hni h.1)];exact hN.rep a k' v' e' h' UU
  ·have hb:gM P μ φ w j (dP id (gz id2 c)):=(hM.dJ j c hc).kill.Cl;exact hb.Sw h1 (by simp[kO]) fun k hk=>by simp[hk]
 ·rcases fL hj with⟨rfl,rfl⟩|⟨h1,h2,c,hc,rfl⟩
  ·simp only[IT]at ho;rcases ho with ho|⟨a,b,hr,ho⟩
   ·exact⟨j,_,hm,.inl ho,fun _=>rfl,by simp[cC.symm]⟩
   ·rcases nD a b hr with⟨rfl,rfl⟩|⟨DY,sX⟩
    ·rw[gA]at ho;exact⟨id2,_,cS,.inl ho,fun _=>rfl,by simp⟩
    ·rw[gN _ _ sX]at ho;exact⟨j,_,hm,.inr ⟨a,b,DY,ho⟩,fun _=>rfl,by simp[cC.symm]⟩
  ·simp only[h1,Wi]at ho;exact⟨j,c,hc,gu.1 (uc.1 ho),fun h=>by rw[CQ,BN]at h;exact h,by simp[h2]⟩
 ·rcases fL hj with⟨rfl,rfl⟩|⟨h1,h2,c,hc,rfl⟩
  ·simp only[IT];have G2:=hM.apart j _ hm;have new:∀g,(φ id2).g=some g→¬(bK.fu kt e es).owns (φ j) g:=fun g hg ho=>cC (hM.inj id2 j _ _ g cS hm (.inl hg) ho);intro a b g hr hg;rcases nD a b hr with⟨rfl,rfl⟩|⟨DY,sX⟩
   ·rw[gA]at hg;refine⟨fun h=>new g hg (.inl h),fun a' b' L6 L7=>?_⟩;rcases nD a' b' L6 with h|⟨hr3,Qq⟩
    ·exact h
    ·rw[gN _ _ Qq]at L7;exact absurd (.inr ⟨a',b',hr3,L7⟩) (new g hg)
   ·rw[gN _ _ sX]at hg;obtain⟨h3,h4⟩:=G2 a b g DY hg;refine⟨h3,fun a' b' L6 L7=>?_⟩;rcases nD a' b' L6 with⟨rfl,rfl⟩|⟨hr3,Qq⟩
    ·rw[gA]at L7;exact absurd (.inr ⟨a,b,DY,hg⟩) (new g L7)
    ·rw[gN _ _ Qq]at L7;exact h4 a' b' hr3 L7
  ·simp only[h1,Wi];exact Al.2 (yz.2 (hM.apart j c hc))
 ·rcases fL hj with⟨rfl,hb⟩|⟨h1,h2,c,hc,hb⟩
  ·cases hb
  ·have PT:fk id (bx (bI id2 m) id2) j=some (.box cs):=by rw[ax h1]at hj;exact hj
   have:=yA.fT j cs k PT hk;by_cases e:k=id
   ·subst e;simp
   ·rw[ax e];exact this
 ·rcases fL hj with⟨rfl,hb⟩|⟨h1,h2,c,hc,hb⟩
  ·cases hb
  ·cases c<;>first|(simp[dP,gz]at hb;done)|skip
   simp only[dP,gz,bK.loop.injEq]at hb;subst hb;exact⟨hc,by simp[h1]⟩
theorem UW{t kt et:TypeId}{xk:V}{id s:Nat}{key:PV}{rs:List PV}{m:Mem}(hu:E.P.underlying t=some (.map kt et))(hm:m id=some (.fu kt e es))(cS:m id2=some (.arr s e rs))(sW:keyOf E kt xk=some key){μ:Ro}{f:Fr}{ya yk yv:Value}(hM:aA E.P G w0 μ φ m w)(hF:cg E.P μ φ m f ρ)(ha:an E.P μ φ (.om id) ya)(hk:an E.P μ φ xk yk)(hv:an E.P μ φ (.os id2) yv):∃w' φ',(Instr.mapUpdate t ya yk yv).run E.P w=.ok () w'∧aA E.P G w0 μ φ' (xw [(id,.fu kt e (dm key (.mE s rs) es))] (km [(true,id2),(false,id)] m)) w'∧cg E.P μ φ' (xw [(id,.fu kt e (dm key (.mE s rs) es))] (km [(true,id2),(false,id)] m)) (kf [(true,id2),(false,id)] f) ρ:=by
 have cC:id2≠id:=fun h=>by subst h;rw[hm]at cS;cases cS
 obtain⟨ks,k1,k2,k3⟩:=xL sW;obtain⟨g,en,clock,kk,hN⟩:=xN.1 (hM.dJ id _ hm);have vv:=hN.ES;rw[k1]at vv;simp only[By]at vv;subst vv;have UJ:=BQ k1;have hkr:=k3 μ φ yk hk;obtain⟨hc,hkv⟩:=nu k2 hkr;obtain⟨res,r1,r2⟩:=me (v:=.tJ) (z:=.bad) UJ hc w hN.ent;have JX:=Go.MapKept.run_getObj_map (P:=E.P) hN.heap;have h1:(Instr.checkKey false 10000 kt yk).run E.P w=.ok () w:=by rw[hkv];exact iH 8 kt ks UJ 9992 w false key.cells hc
 rw[←hkv]at r1;have bQ:g<w.heap.size:=(alm.1 hN.heap).1;cases ha with
 |om dn=>
  rw[hN.pl]at dn;simp only[By]at dn;subst dn;have fin:∀(J:Nat)(PR:Array MapEntry)(rX:Nat),(nE key es=some J∨(nE key es=none∧J=es.length))→(Instr.mapUpdate t (.map (some g)) yk yv).run E.P w=.ok () {w with heap:=w.heap.setIfInBounds g (.map PR rX)}→mF PR rX→PR.size=(dm key .bad es).length→(∃e0,PR[J]?=some e0∧e0.key=yk∧e0.val=yv)→(∀i e0,i≠J→PR[i]?=some e0→en[i]?=some e0)→∃w' φ',(Instr.mapUpdate t (.map (some g)) yk yv).run E.P w=.ok () w'∧aA E.P G w0 μ φ' (xw [(id,.fu kt e (dm key (.mE s rs) es))] (km [(true,id2),(false,id)] m)) w'∧cg E.P μ φ' (xw [(id,.fu kt e (dm key (.mE s rs) es))] (km [(true,id2),(false,id)] m)) (kf [(true,id2),(false,id)] f) ρ:=by
   intro J PR rX hJ hr BG pT hJe J0;obtain⟨eJ,agf,ajt,aju⟩:=hJe;have mJ:∀i k' v',(dm key .bad es)[i]?=some (k',v')→(i=J∧k'=key∧v'=.bad)∨(i≠J∧es[i]?=some (k',v')):=by
    intro i k' v' h;rw[nR]at h;rcases hJ with hJ|⟨hJ,rfl⟩
    ·rw[hJ]at h;rcases eL h with⟨rfl,hq⟩|⟨hni,h⟩
     ·simp only[akj]at hq;exact .inl ⟨rfl,hq.1,hq.2⟩
     ·exact .inr ⟨hni,h⟩
    ·rw[hJ]at h;simp only at h;rw[alV]at h;split at h
     ·rename_i bQ;exact .inr ⟨by omega,h⟩
     ·rename_i Gk;cases hd:i-es.length with
      |zero=>rw[hd]at h;simp only[al4,By,akj]at h;exact .inl ⟨by omega,h.1.symm,h.2.symm⟩
      |succ n=>rw[hd]at h;simp at h
   have hJb:(dm key .bad es)[J]?=some (key,.bad):=by
    rw[nR];rcases hJ with hJ|⟨hJ,rfl⟩
    ·rw[hJ];obtain⟨a,u,hj,_⟩:=Hd hJ;simp[(OF.1 hj).1]
    ·rw[hJ];simp
   have yA:aA E.P G w0 μ φ (aw m id (.fu kt e (dm key .bad es))) {w with heap:=w.heap.setIfInBounds g (.map PR rX)}:=by
    refine hM.write hm rfl hN.pl ⟨⟨rfl,rfl,rfl,by simp,fun k hk=>by simp[amV (Nat.ne_of_gt hk)]⟩,fun _=>alz _⟩ (by simp) (fun k hk=>by simp[amV (Ne.symm hk)]) (xN.2 ⟨g,PR,rX,ks,hN.pl,by simp[bQ],pT,k1,fun i k' v' h=>?_,BG,fun i k' v' e0 h Xx=>?_⟩) rfl (by simp[bK.names]) (fun st h=>by cases h) fun a b hr=>?_
    ·rcases mJ i k' v' h with⟨_,rfl,_⟩|⟨_,h⟩
     ·exact k2
     ·exact hN.key i k' v' h
    ·rcases mJ i k' v' h with⟨rfl,rfl,rfl⟩|⟨hni,h⟩
     ·rw[agf]at Xx;simp only[By]at Xx;subst Xx;exact⟨by rw[ajt];exact hkr,.pure .bad⟩
     ·obtain⟨q1,q2⟩:=hN.rep i k' v' e0 h (J0 i e0 hni Xx);refine⟨q1,?_⟩;unfold H6 at q2⊢;split at q2
      ·refine⟨q2.1.cz rfl (fun _ _ h=>h) fun g' dn=>?_,q2.2⟩;have hr:(bK.fu kt e es).rowAt i 0=true:=by rw[kv h];rfl
       have:=(hM.apart id _ hm i 0 g' hr dn).1;rw[hN.pl]at this;simp only[aoA,By]at this;simp[amV this]
      ·exact q2
    ·rcases kx hr with⟨_,_,_,_,_,_,je,_⟩|⟨_,_,_,k',s',rs',je,rfl,h'⟩
     ·cases je
     ·simp only[bK.fu.injEq]at je;obtain⟨rfl,rfl,rfl⟩:=je;rcases mJ a k' _ h' with⟨_,_,h⟩|⟨_,h⟩
      ·cases h
      ·rw[kv h];rfl
   have sX:=aA.aby yA (id:=id) (id2:=id2) (i:=J) (x:=yv) cC (bW _ _ _) (by rw[ax cC];exact cS) hJb (fun g0 en0 ajv P9 hh0=>by
    rw[hN.pl]at P9;simp only[By]at P9;subst P9;have:(w.heap.setIfInBounds g (Obj.map PR rX))[g]?=some (.map PR rX):=by simp[bQ]
    rw[this]at hh0;simp only[By,Obj.map.injEq]at hh0;obtain⟨rfl,_⟩:=hh0;exact⟨eJ,agf,aju⟩) hv
   rw[XD hJb hJ,Ib cC]at sX;refine⟨_,_,hr,sX,?_⟩;have G3:cg E.P μ φ (aw m id (.fu kt e (dm key .bad es))) f ρ:=hF.nP (fun _ _ h=>h) .set;refine((G3.forget id2).yC id).ac1 (by simp[kO]) (fun k hk=>by simp[hk]) fun k hk=>?_;show(aw (fk id (bx (bI id2 m) id2)) id _ k).isSome=true;by_cases e1:k=id
   ·subst e1;simp
   ·rw[ax e1];rw[qy]at hk⊢;by_cases e2:k=id2
    ·subst e2;simp at hk
    ·rw[gr e2]at hk⊢;simp only[bI,ax e1]at hk⊢;exact hk
  rcases KP r2 with⟨rfl,hp⟩|⟨j,e0,rfl,Xx,hp⟩
  ·have UK:=Go.MapKept.run_setObj_map (P:=E.P) (.map (en.push {key:=yk,val:=yv,born:=clock}) (clock+1)) hN.heap;refine fin es.length _ _ (.inr ⟨hp,rfl⟩) (by simp only[Instr.mapUpdate,Sem.run_bind,run_underlying hu,JX,h1,r1,Result.andThen_ok];exact UK) hN.born.push (by rw[nR,hp];simp[hN.size]) ⟨{key:=yk,val:=yv,born:=clock},?_,rfl,rfl⟩ fun i e0 hi h=>?_
   ·rw[←hN.size];simp
   ·rw[anL]at h;split at h
    ·rename_i h';rw[hN.size]at h';exact absurd h' hi
    ·exact h
  ·have abz:en[j]?=some e0:=by simpa using Xx
   obtain⟨a,u,haj,hpq⟩:=Hd hp;obtain⟨hca,hva⟩:=nu (hN.key j a u haj) (hN.rep j a u e0 haj abz).1;have yB:=LZ hc hca hpq;have hsb:Instr.sameBits 10000 e0.key yk=true:=by rw[hva,hkv,←yB];refine Ak (n:=9999) hc (fun ha=>?_);rw[sV hc];exact(BL UJ).2.1 ha
   have UK:=Go.MapKept.run_setObj_map (P:=E.P) (.map (en.modify j fun e=>{e with key:=yk,val:=yv}) clock) hN.heap;have rz:j<en.size:=(alm.1 abz).1;refine fin j _ _ (.inl hp) (by simp only[Instr.mapUpdate,Sem.run_bind,run_underlying hu,JX,h1,r1,Result.andThen_ok];simp only[amq,abz,No,amo,Instr.keyThatStays,hsb,IT,Sem.run_pure,Result.andThen_ok];exact UK) (hN.born.modify (fun e=>{e with key:=yk,val:=yv}) (fun _=>rfl) _) (by rw[nR,hp];simp[hN.size]) ⟨{e0 with key:=yk,val:=yv},by rw[amQ,T0 rfl,abz];rfl,rfl,rfl⟩ fun i e1 hi h=>?_;rw[amQ,acB (Ne.symm hi)]at h;exact h
end
section
variable {P:Program} {G:Nat→Option (List PV)} {w0:bE} {μ μ':Ro} {φ φ':Nat→aI} {m m':Mem} {w w':World}
structure lD(P:Program)(μ:Ro)(rows:Nat→Nat→Ge)(w:World)(s:Nat)(es:List PV)(xs:List Value):Prop where
 len:xs.length=es.length*s
 each:∀(i:Nat)e,es[i]?=some e→e.cells.length=s
 rep:∀(i:Nat)e(j:Nat)p x,es[i]?=some e→e.cells[j]?=some p→xs[i*s+j]?=some x→ep P μ (rows i j) w p x
 one:∀(i:Nat)(x:Value),xs[i]?=some x→x.oneCell'=true
variable{rows:Nat→Nat→Ge}{es:List PV}{xs:List Value}
theorem lD.append{Ic XE:Nat→Nat→Ge}{s:Nat}{es':List PV}{xs':List Value}(h:lD P μ rows w s es xs)(h':lD P μ Ic w s es' xs')(h1:∀i j,i<es.length→XE i j=rows i j)(h2:∀i j,es.length≤i→XE i j=Ic (i-es.length) j):lD P μ XE w s (es++es') (xs++xs'):=by
 refine⟨by simp[h.len,h'.len,amb],fun i e he=>?_,fun i e j p x he hp hx=>?_,fun i x hx=>?_⟩
 ·rw[alV]at he;split at he
  ·exact h.each i e he
  ·exact h'.each _ e he
 ·rw[alV]at he;split at he
  ·rename_i hi;rw[h1 i j hi];have hj:j<s:=by rw[←h.each i e he];grind
   rw[al6 (by rw[h.len];exact HW hi hj)]at hx;exact h.rep i e j p x he hp hx
  ·rename_i hi;rw[h2 i j (by omega)];have e1:i*s+j=es.length*s+((i-es.length)*s+j):=by
    have:i=es.length+(i-es.length):=by omega
    grind
   rw[al0 (by rw[h.len,e1];omega),h.len,show i*s+j-es.length*s=(i-es.length)*s+j by omega]at hx;exact h'.rep _ e j p x he hp hx
 ·rw[alV]at hx;split at hx
  ·exact h.one i x hx
  ·exact h'.one _ x hx
theorem Cells.L8{s:Nat}(h:Cells P μ s es xs):lD P μ rows w s es xs:=⟨h.len,h.each,fun i e j p x he hp hx=>.pure (h.rep i e j p x he hp hx),h.one⟩
theorem lD.cz{rows:Nat→Nat→Ge}{s:Nat}{es:List PV}{xs:List Value}(h:lD P μ rows w s es xs)(hw:∀i e j p g,es[i]?=some e→e.cells[j]?=some p→p.isRow=true→(rows i j).g=some g→w'.heap[g]?=w.heap[g]?):lD P μ rows w' s es xs:=⟨h.len,h.each,fun i e j p x he hp hx=>(h.rep i e j p x he hp hx).cz (fun _ _ h=>h) fun hr g hg=>hw i e j p g he hp hr hg,h.one⟩
theorem bd.L8{id sz:Nat}{et:TypeId}(h:bd P μ φ w id sz et es){g:Nat}(hg:(φ id).g=some g):∃(c:Array Value)(T:TypeId),w.heap[g]?=some (.cells c T (0,0))∧(φ id).cap*sz≤c.size∧es.length≤(φ id).cap∧lD P μ (φ id).row w sz es (c.toList.take (es.length*sz)):=by obtain⟨a1,a2,a3,a4,a5,a6,a7⟩:=h;rw[hg]at a7;obtain⟨c,T,c1,c2,c3,c4,c5⟩:=a7;have hle:es.length*sz≤c.size:=alH (alo _ c3) c2;refine⟨c,T,c1,c2,c3,by simp;omega,a5,fun i e j p x he hp hx=>c4 i e j p x he hp (by grind),fun i x hx=>?_⟩;grind
theorem lD.nest{id g sz:Nat}{et T:TypeId}{c:Array Value}(hph:(φ id).toGe=⟨some g,(φ id).cap,es.length,sz⟩)(pT:sz=aV P et)(ez:0<sz)(sU:(φ id).cap≤maxLen)(hh:w.heap[g]?=some (.cells c T (0,0)))(hc:(φ id).cap*sz≤c.size)(hle:es.length≤(φ id).cap)(hC:lD P μ (φ id).row w sz es (c.toList.take (es.length*sz))):bd P μ φ w id sz et es:=by
 have e1:(φ id).g=some g:=by rw[hph]
 refine⟨by rw[hph],by rw[hph],pT,ez,hC.each,sU,?_⟩;rw[e1];have rz:∀(i:Nat)e(j:Nat)p,es[i]?=some e→e.cells[j]?=some p→i*sz+j<es.length*sz:=fun i e j p hi hj=>HW (OF.1 hi).1 (by rw[←hC.each i e hi];grind);refine⟨c,T,hh,hc,hle,fun i e j p x hi hj hx=>?_,fun i x hi hx=>?_⟩
 ·exact hC.rep i e j p x hi hj (by grind)
 ·exact hC.one i x (by grind)
end
section
variable {R:Type} {E:Env}
def Sx(src:Option Nat)(m:Mem):Mem:=match src with|some id2=>bx (bI id2 m) id2|none=>m
def kfS(src:Option Nat)(f:Fr):Fr:=match src with|some id2=>fa id2 f|none=>f
variable{src:Option Nat}
theorem XF{m:Mem}{j:Nat}{b:bK}(h:Sx src m j=some b):src≠some j∧∃b',m j=some b'∧b.rowAt=b'.rowAt:=by
 cases src with
 |none=>exact⟨by simp,b,h,rfl⟩
 |some id2=>obtain⟨h1,b',h2,rfl⟩:=fK h;grind [yy]
theorem UX{t e ty:TypeId}{x:V}{id s:Nat}{es new:List PV}{rd:bD}{m:Mem}(hu:E.P.underlying t=some (.slice e))(hm:m id=some (.nest s e es))(hs:s=aV E.P e)(hz:(dr E e).isSome=true)(ez:0<aV E.P e)(hby:0<JP E.P e)(bF:(es++new).length*JP E.P e≤ag)(CO:(∃id2,src=some id2∧id2≠id∧x=.os id2∧m id2=some (.nest s e new))∨(src=none∧fD m s x=some (new,rd))){G:Nat→Option (List PV)}{w0:bE}{μ:Ro}{φ:Nat→aI}{w:World}{f:Fr}{ρ:Nat→Value}{ys yx:Value}(hM:aA E.P G w0 μ φ m w)(hF:cg E.P μ φ m f ρ)(ha:an E.P μ φ (.os id) ys)(hx:an E.P μ φ x yx):∃w' y φ',(Builtin.append_ #[t,t] ty #[ys,yx]).run E.P w=.ok y w'∧aA E.P G w0 μ φ' (aw (bx (bI id (Sx src m)) id) id (.nest s e (es++new))) w'∧cg E.P μ φ' (aw (bx (bI id (Sx src m)) id) id (.nest s e (es++new))) (fa id (kfS src f)) ρ∧an E.P μ φ' (.os id) y:=by
 obtain⟨zc,WJ⟩:=alK.1 hz;obtain⟨i,zv,hi,hzv,his,_,Ss,_,_,_⟩:=eK WJ;have hN:bd E.P μ φ w id s e es:=hM.dJ id _ hm;have WK:(es++new).length=es.length+new.length:=by simp
 have BO:0<s:=by omega
 obtain⟨Ic,DY⟩:∃Ic:Nat→Nat→Ge,Ic=match src with|some id2=>(φ id2).row|none=>fun _ _=>default:=⟨_,rfl⟩
 obtain⟨os,hos,hC⟩:∃os,((ys=.slice none 0 0∧es.length=0∧os=[])∨∃(g cap:Nat)(c:Array Value)(T:TypeId),ys=.slice (some ⟨g,0,none⟩) es.length cap∧w.heap[g]?=some (.cells c T (0,0))∧cap*s≤c.size∧es.length≤cap∧cap≤maxLen∧os=c.toList.take (es.length*s))∧lD E.P μ (φ id).row w s es os:=by
  cases ha with
  |vt hg=>have a7:=hN.2.2.2.2.2.2;rw[hg]at a7;rw[a7.1];exact⟨[],.inl ⟨rfl,rfl,rfl⟩,by simp,by simp,fun i e j p x he=>by simp at he,by simp⟩
  | @os _ g hg=>obtain⟨c,T,c1,c2,c3,c4⟩:=hN.L8 hg;exact⟨_,.inr ⟨g,(φ id).cap,c,T,by rw[hN.1],c1,c2,c3,hN.2.2.2.2.2.1,rfl⟩,c4⟩
 obtain⟨xs,HV,hCx⟩:∃xs,((yx=.slice none 0 0∧new.length=0∧xs=[])∨∃(a:Addr)(cx:Nat),yx=.slice (some a) new.length cx∧xs.length=new.length*s∧(∀(j:Nat)v,xs[j]?=some v→w.cell? (a.add j)=some v)∧(∀v∈xs,v.oneCell'=true)∧new.length≤cx∧cx≤maxLen)∧lD E.P μ Ic w s new xs:=by
  rcases CO with⟨id2,rfl,cC,rfl,cS⟩|⟨rfl,KI⟩
  ·have hN2:bd E.P μ φ w id2 s e new:=hM.dJ id2 _ cS;simp only at DY;subst DY;cases hx with
   |vt hg=>have a7:=hN2.2.2.2.2.2.2;rw[hg]at a7;rw[a7.1];exact⟨[],.inl ⟨rfl,rfl,rfl⟩,by simp,by simp,fun i e j p x he=>by simp at he,by simp⟩
   | @os _ g hg=>
    obtain⟨c,_,c1,c2,c3,c4⟩:=hN2.L8 hg;refine⟨_,.inr ⟨⟨g,0,none⟩,(φ id2).cap,by rw[hN2.1],c4.len,fun j v hj=>?_,fun v hv=>?_,c3,hN2.2.2.2.2.2.1⟩,c4⟩
    ·grind [Addr.add_mid,dA,iF]
    ·obtain⟨j,hj⟩:=alR hv;exact c4.one j v hj
  ·obtain⟨_,_,hsr⟩:=pU KI;have:=hsr _ _ _ _ _ _ _ hM hx;cases this with
   |none hn=>subst hn;exact⟨[],.inl ⟨rfl,rfl,rfl⟩,by simp,by simp,fun i e j p x he=>by simp at he,by simp⟩
   | @some a cx xs hC HV hcx Qd=>exact⟨xs,.inr ⟨a,cx,rfl,hC.len,HV,fun u hu=>by obtain⟨j,hj⟩:=alR hu;exact hC.one j u hj,hcx,Qd⟩,hC.L8⟩
 obtain⟨w',y,hr,Xq⟩:=HX (ty:=ty) hu hi hzv (by omega) hs ez hby (by simp_all) hos HV;let sK:Nat→Nat→Ge:=fun a b=>if a<es.length then(φ id).row a b else Ic (a-es.length) b;have hCC:lD E.P μ sK w s (es++new) (os++xs):=hC.append hCx (fun a b h=>by grind) (fun a b h=>by grind);have nD:∀a b g,(bK.nest s e (es++new)).rowAt a b=true→(sK a b).g=some g→(a<es.length∧(bK.nest s e es).rowAt a b=true∧((φ id).row a b).g=some g)∨(es.length≤a∧∃id2,src=some id2∧id2≠id∧m id2=some (.nest s e new)∧(bK.nest s e new).rowAt (a-es.length) b=true∧((φ id2).row (a-es.length) b).g=some g):=by
  intro a b g PK hg;rcases kx PK with⟨_,_,_,e',s',rs',je,h',xK⟩|⟨_,_,_,_,_,_,je,_⟩
  ·simp only[bK.nest.injEq]at je;obtain⟨rfl,rfl,rfl⟩:=je;by_cases bQ:a<es.length
   ·rw[al6 bQ]at h';exact .inl ⟨bQ,by rw[dG h' xK];rfl,by grind⟩
   ·rw[al0 (by omega)]at h';simp only[sK,bQ,Wi]at hg;rcases CO with⟨id2,rfl,cC,rfl,cS⟩|⟨rfl,KI⟩
    ·simp only at DY;subst DY;exact .inr ⟨by omega,id2,rfl,cC,cS,by rw[dG h' xK];rfl,hg⟩
    ·exfalso;obtain⟨_,_,hsr⟩:=pU KI;have h3:=hsr _ _ _ _ _ _ _ hM hx;cases h3 with
     |none hn=>subst hn;simp at h'
     | @some a2 cx xs2 hC2 ak2 hcx Qd=>
      have hj:(a-es.length)*s+b<xs2.length:=by rw[hC2.len];exact HW (OF.1 h').1 (by rw[←hC2.each _ _ h'];grind)
      exact absurd (hC2.rep _ _ _ _ _ h' xK (AI hj)).Hc (by simp[PV.isRow])
  ·cases je
 have adR:∀j,(bx (bI id (Sx src m)) id j).isSome=true→j≠id:=fun j hj e=>by subst e;simp at hj
 have bk:∀j b',bx (bI id (Sx src m)) id j=some b'→j≠id∧src≠some j∧∃b,m j=some b∧b'.rowAt=b.rowAt:=by intro j b' hj;obtain⟨h1,b1,h2,rfl⟩:=fK hj;grind [XF,yy]
 have Qt:∀{j b' b g},b'.rowAt=b.rowAt→bK.owns b' (φ j) g→bK.owns b (φ j) g:=fun h ho=>by simp_all[bK.owns]
 have hM0:aA E.P G w0 μ φ (Sx src m) w:=by
  cases src with
  |none=>exact hM
  |some id2=>exact hM.forget id2
 have hF0:cg E.P μ φ (Sx src m) (kfS src f) ρ:=by
  cases src with
  |none=>exact hF
  |some id2=>exact hF.forget id2
 have yA:=hM0.forget id;have G3:=hF0.forget id;have abA:∀a b g,(bK.nest s e (es++new)).rowAt a b=true→(sK a b).g=some g→w0.heap.size≤g∧μ g=none∧g<w.heap.size∧∀j b',bx (bI id (Sx src m)) id j=some b'→¬b'.owns (φ j) g:=by
  intro a b g PK hg;rcases nD a b g PK hg with⟨_,h2,h3⟩|⟨_,id2,rfl,cC,cS,h2,h3⟩
  ·obtain⟨o1,o2⟩:=hM.own id _ g hm (.inr ⟨a,b,h2,h3⟩);refine⟨o1,o2 rfl,(hM.dJ id _ hm).HP (.inr ⟨a,b,h2,h3⟩),fun j b' hj ho=>?_⟩;obtain⟨k1,_,b2,k3,k4⟩:=bk j b' hj;exact k1 (hM.inj j id _ _ g k3 hm (Qt k4 ho) (.inr ⟨a,b,h2,h3⟩))
  ·obtain⟨o1,o2⟩:=hM.own id2 _ g cS (.inr ⟨_,b,h2,h3⟩);refine⟨o1,o2 rfl,(hM.dJ id2 _ cS).HP (.inr ⟨_,b,h2,h3⟩),fun j b' hj ho=>?_⟩;obtain⟨_,k1,b2,k3,k4⟩:=bk j b' hj;exact k1 (by rw[hM.inj j id2 _ _ g k3 cS (Qt k4 ho) (.inr ⟨_,b,h2,h3⟩)])
 have afW:∀a b a' b' g,(bK.nest s e (es++new)).rowAt a b=true→(sK a b).g=some g→(bK.nest s e (es++new)).rowAt a' b'=true→(sK a' b').g=some g→a'=a∧b'=b:=by
  intro a b a' b' g h1 h2 h3 h4;rcases nD a b g h1 h2 with⟨u1,u2,u3⟩|⟨u1,i2,u0,une,um,u2,u3⟩<;>rcases nD a' b' g h3 h4 with⟨v1,v2,v3⟩|⟨v1,i3,v0,vne,vm,v2,v3⟩
  ·exact(hM.apart id _ hm a b g u2 u3).2 a' b' v2 v3
  ·exact absurd (hM.inj i3 id _ _ g vm hm (.inr ⟨_,_,v2,v3⟩) (.inr ⟨_,_,u2,u3⟩)) vne
  ·exact absurd (hM.inj i2 id _ _ g um hm (.inr ⟨_,_,u2,u3⟩) (.inr ⟨_,_,v2,v3⟩)) une
  ·rw[u0]at v0;simp only[By]at v0;subst v0;obtain⟨h5,h6⟩:=(hM.apart i2 _ um (a-es.length) b g u2 u3).2 (a'-es.length) b' v2 v3;omega
 have fin:∀(q:aI)(w1:World),q.row=sK→lL w0.heap.size w w1→(∀k o,μ k=some o→w1.heap[k]?=some o)→(∀j b' g,bx (bI id (Sx src m)) id j=some b'→b'.owns (φ j) g→w1.heap[g]?=w.heap[g]?)→(∀g,q.g=some g→w0.heap.size≤g∧μ g=none∧(∀j b',bx (bI id (Sx src m)) id j=some b'→¬b'.owns (φ j) g)∧∀a b,(bK.nest s e (es++new)).rowAt a b=true→(sK a b).g≠some g)→(bd E.P μ (fun k=>if k=id then q else φ k) w1 id s e (es++new))→aA E.P G w0 μ (fun k=>if k=id then q else φ k) (aw (bx (bI id (Sx src m)) id) id (.nest s e (es++new))) w1∧cg E.P μ (fun k=>if k=id then q else φ k) (aw (bx (bI id (Sx src m)) id) id (.nest s e (es++new))) (fa id (kfS src f)) ρ:=by
  intro q w1 hq Qb zw hold E5 gL;refine⟨yA.put (by simp) Qb zw hold (fun g hg=>?_) (fun a b g PK hg=>?_) gL (by simp[bK.names]) (fun st h=>by cases h),G3.mono (fun _ _ h=>h) fun j hj=>⟨by simp[adR j hj],by grind [ax]⟩⟩
  ·rcases hg with hg|⟨a,b,PK,hg⟩
   ·grind
   grind
  grind
 rcases Xq with⟨rfl,rfl,h1,h2⟩|⟨g',G1,c',T',rfl,b1,b2,b3,b4,b5,b6⟩
 ·have h1:es=[]:=alv h1;have h2:new=[]:=alv h2;obtain⟨k1,k2⟩:=fin {g:=none,cap:=0,len:=0,sz:=s,row:=sK} w' rfl (lL.refl _ _) hM.ro (fun _ _ _ _ _=>rfl) (fun g hg=>by cases hg) ⟨by simp[h1,h2],by simp,hs,BO,by simp[h1,h2],by simp[maxLen],by simp[h1,h2]⟩;exact⟨w',_,_,hr,k1,k2,.vt (by simp)⟩
 ·have hq:∀(w1:World)(T:TypeId),w1.heap[g']?=some (.cells c' T (0,0))→lD E.P μ sK w1 s (es++new) (os++xs)→bd E.P μ (fun k=>if k=id then({g:=some g',cap:=G1,len:=(es++new).length,sz:=s,row:=sK}:aI)else φ k) w1 id s e (es++new):=fun w1 T hh hC1=>lD.nest (g:=g') (c:=c') (by simp) hs BO (by simpa using b4) hh (by simpa using b2) (by simpa[WK]using b3) (by grind);have akP:an E.P μ (fun k=>if k=id then({g:=some g',cap:=G1,len:=(es++new).length,sz:=s,row:=sK}:aI)else φ k) (.os id) (.slice (some ⟨g',0,none⟩) (es.length+new.length) G1):=by have:=an.os (P:=E.P) (μ:=μ) (φ:=fun k=>if k=id then({g:=some g',cap:=G1,len:=(es++new).length,sz:=s,row:=sK}:aI)else φ k) (id:=id) (g:=g') (by simp);grind
  rcases b6 with⟨abw,PO,b6,b7⟩|⟨rfl,rfl⟩
  ·have dn:(φ id).g=some g':=by
    have key:∀z,an E.P μ φ (.os id) z→z=.slice (some ⟨g',0,none⟩) es.length abw→(φ id).g=some g':=by
     intro z hz he;cases hz with
     |vt _=>cases he
     |os hg=>grind
    exact key _ ha PO
   obtain⟨o1,o2⟩:=hM.own id _ g' hm (.inl dn);have PM:∀a b,(bK.nest s e (es++new)).rowAt a b=true→(sK a b).g≠some g':=by
    intro a b PK hg;rcases nD a b g' PK hg with⟨u1,u2,u3⟩|⟨u1,i2,u0,une,um,u2,u3⟩
    ·exact(hM.apart id _ hm a b g' u2 u3).1 dn
    ·exact une (hM.inj i2 id _ _ g' um hm (.inr ⟨_,_,u2,u3⟩) (.inl dn))
   have J0:∀j b',bx (bI id (Sx src m)) id j=some b'→¬b'.owns (φ j) g':=fun j b' hj ho=>by obtain⟨k1,_,b2,k3,k4⟩:=bk j b' hj;exact k1 (hM.inj j id _ _ g' k3 hm (Qt k4 ho) (.inl dn))
   obtain⟨k1,k2⟩:=fin {g:=some g',cap:=G1,len:=(es++new).length,sz:=s,row:=sK} w' rfl (b6.mono o1) (fun k o hk=>by rw[b7 k (fun e=>by subst e;rw[o2 rfl]at hk;cases hk)];exact hM.ro k o hk) (fun j b' g hj ho=>b7 g fun e=>by grind) (fun g hg=>by
     simp only[By]at hg;subst hg;exact⟨o1,o2 rfl,J0,PM⟩)
    (hq w' _ b1 (hCC.cz fun a e1 b p1 g he hp PK hg=>b7 g fun e=>by grind [dG]))
   grind
  ·have hold:∀k,k<w.heap.size→(w.drew.alloc (.cells c' e)).heap[k]?=w.heap[k]?:=fun k hk=>lL.heap_alloc w.drew _ k hk;obtain⟨k1,k2⟩:=fin {g:=some w.heap.size,cap:=G1,len:=(es++new).length,sz:=s,row:=sK} (w.drew.alloc (.cells c' e)) rfl ((lL.refl _ w).drew.alloc hM.below.size _) (fun k o hk=>by
     have:=hM.ro k o hk;grind)
    (fun j b' g hj ho=>hold g ((yA.dJ j b' hj).HP ho)) (fun g hg=>by
     simp only[By]at hg;subst hg;refine⟨hM.below.size,?_,fun j b' hj ho=>?_,fun a b PK hg=>?_⟩
     ·cases hq:μ w.heap.size with
      |none=>rfl
      |some o'=>have:=hM.ro _ _ hq;simp at this
     ·have:=(yA.dJ j b' hj).HP ho;omega
     grind)
    (hq _ _ b1 (hCC.cz fun a e1 b p1 g he hp PK hg=>hold g (abA a b g (by rw[dG he hp];omega) hg).2.2.1))
   grind
theorem Ie{m:Mem}:∀{cs:List V}{j0:Nat}{ps:List PV},lN m j0 cs=some (ps,none)→∀m2:Mem,lN m2 j0 cs=some (ps,none)
 |[],j0,ps,h,m2=>h
 |v::r,j0,ps,h,m2=>by
  unfold lN at h;split at h
  ·rename_i heq;cases heq
  ·grind
  ·rename_i j v' r' cC heq;simp only[amn]at heq;obtain⟨rfl,rfl⟩:=heq;unfold lN;split
   ·rename_i heq;cases heq
   ·simp_all
   ·rename_i j v' r' cC heq;simp only[amn]at heq;obtain⟨rfl,rfl⟩:=heq;split at h
    ·rename_i p hp;split at h
     ·rename_i ps' t ht;simp only[By,akj]at h;obtain⟨rfl,rfl⟩:=h;rw[Ie ht m2]
     ·cases h
    omega
theorem Am{m m2:Mem}{j id2:Nat}(hm:m2 id2=m id2):∀{cs:List V}{j0:Nat}{ps:List PV},lN m j0 cs=some (ps,some (j,id2))→lN m2 j0 cs=some (ps,some (j,id2))
 |[],j0,ps,h=>by simp[lN]at h
 |v::r,j0,ps,h=>by
  unfold lN at h;split at h
  ·rename_i heq;cases heq
  ·rename_i j id r' heq;simp only[amn]at heq;obtain⟨rfl,rfl⟩:=heq;split at h
   ·rename_i s et es hmm;split at h
    ·rename_i ps' ht;simp only[By,akj]at h;obtain⟨rfl,rfl,rfl⟩:=h;grind [lN,Ie]
    ·cases h
   ·cases h
  ·rename_i j v' r' cC heq;simp only[amn]at heq;obtain⟨rfl,rfl⟩:=heq;unfold lN;split
   ·rename_i heq;cases heq
   ·simp_all
   ·rename_i j v' r' cC heq;simp only[amn]at heq;obtain⟨rfl,rfl⟩:=heq;split at h
    ·rename_i p hp;split at h
     ·rename_i ps' t ht;simp only[By,akj]at h;obtain⟨rfl,rfl⟩:=h;rw[Am hm ht]
     ·cases h
    omega
theorem Qu{site:Nat}{o:Oper}{f f2:Fr}{m m2:Mem}{sp:Sp}(h:CF E site o f m=some sp)(hf:∀x∈o.op.operands,bG E f2 x=bG E f x)(hm:∀x∈(sp.info site).2,m2 x.2=m x.2):CF E site o f2 m2=some sp:=by
 obtain⟨dst,op,type,pos,after,guard⟩:=o;unfold CF at h⊢;cases op;case store t a x=>
  simp only at h⊢;rw[hf a (by simp[Op.operands]),hf x (by simp[Op.operands])];split at h
  ·rename_i id i off ha;split at h
   ·rename_i s et es hmm;split at h
    ·rename_i cs hc;split at h
     ·rename_i ps j id2 ht;split at h
      ·rename_i lC;simp only[By]at h;subst h;have h1:m2 id=m id:=hm (true,id) (by simp[Sp.info]);have h2:m2 id2=m id2:=hm (true,id2) (by simp[Sp.info]);simp only[ha,h1,hmm,hc,Am h2 ht,lC,IT]
      ·cases h
     ·cases h
    ·cases h
   ·cases h
  omega
 case buildSlice t len parts=>
  simp only at h⊢;have UT:(parts.toList.map fun(x:Nat×Operand)=>(x.1,bG E f2 x.2))=parts.toList.map fun(x:Nat×Operand)=>(x.1,bG E f x.2):=alQ fun x hx=>by rw[hf x.2 (by simp only[Op.operands,anl,alC];exact⟨x,hx,rfl⟩)]
  rw[UT];split at h
  ·rename_i e v hu hp;split at h
   ·rename_i cs hc;split at h
    ·rename_i ps j id2 ht hs;split at h
     ·rename_i p L9;split at h
      ·rename_i lC;simp only[By]at h;subst h;have h1:m2 site=m site:=hm (true,site) (by simp[Sp.info]);have h2:m2 id2=m id2:=hm (true,id2) (by simp[Sp.info]);simp only[hu,hp,hc,Am h2 ht,h1,hs,L9,lC,IT]
      ·cases h
     ·cases h
    ·cases h
   ·cases h
  omega
 case call c=>
  obtain⟨callee,args,argTypes⟩:=c;simp only at h⊢;have ud:args.toList.map (bG E f2)=args.toList.map (bG E f):=alQ fun x hx=>hf x (by simp_all[Op.operands,Call.operands]);rw[ud];split at h
  ·rename_i id x t t' ha hty;split at h
   ·rename_i e s et es hu hmm;split at h
    ·rename_i lC;have plain:∀{new:List PV}{rd:bD},fD m s x=some (new,rd)→x.has id=false→sp=.app id s et es new none rd→fD m2 s x=some (new,rd):=by grind [pU,Sp.info]
     split at h
     ·rename_i vq;split at h
      ·rename_i s' JL new WL;split at h
       ·rename_i WH;simp only[By]at h;subst h;have h1:m2 id=m id:=hm (true,id) (by simp[Sp.info]);simp_all[Sp.info,IT]
       ·cases h
      ·rename_i hnn;split at h
       ·rename_i new rd KI;split at h
        ·cases h
        ·rename_i hxh;simp only[By]at h;have XG:=plain KI (by simpa using hxh) h.symm;subst h;have h1:m2 id=m id:=hm (true,id) (by simp[Sp.info]);simp only[ha,hty,hu,h1,hmm,lC,IT,XG];split
         ·rename_i s' JL ak3 cS;exfalso;simp only[fD,cS]at XG;cases XG
         ·rw[acB hxh]
       ·cases h
     ·rename_i ak4;split at h
      ·rename_i new rd KI;split at h
       ·cases h
       ·rename_i hxh;simp only[By]at h;have XG:=plain KI (by simpa using hxh) h.symm;subst h;have h1:m2 id=m id:=hm (true,id) (by simp[Sp.info]);simp only[ha,hty,hu,h1,hmm,lC,IT,XG];try rw[acB hxh]
      ·cases h
    ·cases h
   ·cases h
  ·cases h
 case mapUpdate t x key v=>
  simp only at h⊢;rw[hf x (by simp[Op.operands]),hf key (by simp[Op.operands]),hf v (by simp[Op.operands])];split at h
  ·rename_i kt et id id2 hu hx hv;split at h
   ·rename_i zR e es s e' rs kp h1 h2 hk;split at h
    ·rename_i lC;simp only[By]at h;subst h;have h3:m2 id=m id:=hm (true,id) (by simp[Sp.info]);have h4:m2 id2=m id2:=hm (true,id2) (by simp[Sp.info]);simp only[hu,hx,hv,h3,h4,h1,h2,hk,lC,IT]
    ·cases h
   ·cases h
  ·cases h
 all_goals (cases h)
end
end Go.Ab
