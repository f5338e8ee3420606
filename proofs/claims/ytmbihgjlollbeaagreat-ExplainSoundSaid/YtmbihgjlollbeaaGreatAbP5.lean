import Derived.Test.YtmbihgjlollbeaaGreatAbP4
import Derived.RangeFuncRecord
import Derived.Laws.IdiomRangeMap
set_option linter.all false
namespace Go.Ab
section
variable {P:Program} {G:Nat→Option (List PV)} {w0:bA} {μ:Ro} {φ:Nat→aA} {m:Mem} {w:World}
theorem av.ae0(hM:av P G w0 μ φ m w){g:Nat}(hB:w0.heap.size≤g)(ajJ:∀id b,m id=some b→¬b.owns (φ id) g):av P G w0 (qM μ w (some g)) φ m w:=by
 have mono:=mG hM (some g);refine⟨hM.below,fun b o hb=>?_,fun g' cs hg=>(hM.aG g' cs hg).mono mono,fun j c hj=>(hM.dy j c hj).cj (fun _ _=>rfl) rfl mono (fun _ _=>rfl),fun j c g' hj cS=>?_,hM.inj,hM.apart,hM.fT,fun b o hb bZ=>?_,fun b o hb=>mono b o (hM.dC b o hb),hM.C5⟩
 ·unfold qM at hb;split at hb
  ·omega
  ·exact hM.ro b o hb
 ·obtain⟨h1,h2⟩:=hM.own j c g' hj cS;grind [qM,Option.some.injEq,absurd]
 ·unfold qM at hb;split at hb
  ·grind
  ·exact hM.base b o hb bZ
theorem NJ(w:World)(g:Nat)(o:Obj):lM g w (w.putObj g o):=⟨⟨rfl,rfl,rfl,by simp,fun k hk=>World.putObj_heap_other (by omega)⟩,fun _=>akk _⟩
theorem Bd{A:Type}(f:A→Nat):∀{l:List A}{i:Nat}{e:A},l[i]?=some e→(∀(j:Nat)x,l[j]?=some x→f x=f e→j=i)→l.filter (fun x=> !(f x==f e))=l.eraseIdx i
 |[],i,e,h,_=>by rfl
 |y::l,0,e,h,inj=>by simp only[akG,cO]at h;subst h;simp only[List.filter_cons,BEq.rfl,akf,cQ,abp,List.eraseIdx_cons_zero];rw[am7];intro x hx;obtain⟨j,hj⟩:=akC.1 hx;simp only[akK,al3];intro e;have:=inj (j+1) x (by simpa using hj) e;omega
 |y::l,i+1,e,h,inj=>by
  have h':l[i]?=some e:=by simpa using h
  have cK:¬f y=f e:=fun e'=>by have:=inj 0 y rfl e';omega
  have hb:(f y==f e)=false:=by simpa using cK
  simp only[List.filter_cons,hb,akz,Ko,List.eraseIdx_cons_succ];rw[Bd f h' (fun j x hj e'=>by have:=inj (j+1) x (by simpa using hj) e';omega)]
theorem HW(en:Array MapEntry):lY en #[]=en.toList:=by simp[lY,am7]
variable{en:Array MapEntry}{clock:Nat}{seen:Array Nat}{e:MapEntry}
theorem E7(hb:mF en clock){i:Nat}(hi:(lY en seen)[i]?=some e):lY en (seen.push e.born)=(lY en seen).eraseIdx i:=by
 have h1:lY en (seen.push e.born)=(lY en seen).filter (fun x=> !(x.born==e.born)):=by unfold lY;rw[List.filter_filter];grind
 rw[h1];refine Bd (fun x=>x.born) hi fun j x hj e'=>?_;have hnd:(lY en seen).Pairwise fun a b=>a.born≠b.born:=by
  unfold lY;refine List.Pairwise.filter _ ?_;rw[alw];intro a b ha jc wG he;have h2:en[a]?=some en.toList[a]:=by simp
  have h3:en[b]?=some en.toList[b]:=by simp
  have:=(hb b _ h3).2 a _ h2 he;omega
 have Am:j<(lY en seen).length:=(By.1 hj).1;have Uv:i<(lY en seen).length:=(By.1 hi).1;grind [List.getElem?_eq_getElem,Option.some.injEq,List.pairwise_iff_getElem,Nat.lt_trichotomy,absurd]
theorem SA(h:e∈lY en seen):∃i:Nat,en[i]?=some e:=by unfold lY at h;have:=(alF.1 h).1;obtain⟨i,hi⟩:=akC.1 this;grind
theorem SB{w:World}{g mg:Nat}(hg:w.heap[g]?=some (.mapIter (some mg) clock seen clock))(hm:w.heap[mg]?=some (.map en clock))(hb:mF en clock)(ty:TypeId):(lY en seen=[]∧(Instr.next (.pointer (some ⟨g,0,none⟩)) false ty).run P w=.ok (.tuple #[.bool false]) w)∨∃(j:Nat)(e:MapEntry)(w1:World),(lY en seen)[j]?=some e∧(w1=w∨w1=w.drew)∧(Instr.next (.pointer (some ⟨g,0,none⟩)) false ty).run P w=.ok (.tuple #[.bool true,e.key,e.val]) (w1.putObj g (.mapIter (some mg) clock (seen.push e.born) clock)):=by
 have hold:∀x∈en.toList,x.born<clock:=fun x hx=>by obtain⟨i,hi⟩:=akC.1 hx;exact(hb i x (by simp_all)).1
 simp only[Instr.next,getObj,Sem.run_bind,Sem.run,hg,hm,Result.andThen,next_test_false seen en clock clock hold (akk _),cQ,abp];have hL:(Array.filter (fun e=> !seen.contains e.born) en).toList=lY en seen:=by simp[lY]
 have bW:∀x∈(Array.filter (fun e=> !seen.contains e.born) en).toList,x.born<clock:=fun x hx=>hold x (by grind);generalize Array.filter (fun e=> !seen.contains e.born) en=L at bW hL⊢;have e1:L.filter (fun x=>decide (x.born<clock))=L:=Array.filter_eq_self.2 (fun x hx=>by grind);have e2:L.filter (fun x=>decide (x.born≥clock))= #[]:=by simp_all
 simp only[e1,e2,Array.append_empty];rw[←hL];by_cases h0:L.size=0
 ·left;have:L= #[]:=ame h0;subst this;refine⟨rfl,?_⟩;simp[choose,Sem.run,Question.forced]
 ·right;have cK:L.isEmpty=false:=by simp[Array.isEmpty,h0]
  simp only[cK,cQ,abp,Array.empty_append,Array.size_map];have hch:∃(j:Nat)(w1:World),j<L.size∧(w1=w∨w1=w.drew)∧(choose (Question.mapNext L.size)).run P w=.ok j w1:=by
   by_cases hf:L.size≤1
   ·exact⟨0,w,by omega,.inl rfl,by simp[choose,Sem.run,Question.forced,hf]⟩
   ·exact⟨_,w.drew,amZ _ (by omega),.inr rfl,by simp only[choose,Sem.run,Question.forced,AT,hf,abp,Question.cut];rfl⟩
  obtain⟨j,w1,hj,Nc,uJ⟩:=hch;refine⟨j,L[j],w1,by simp,Nc,?_⟩;have hg1:w1.heap[g]?=some (.mapIter (some mg) clock seen clock):=by rcases Nc with rfl|rfl<;>exact hg
  have qY:(setObj g (.mapIter (some mg) clock (seen.push L[j].born) clock)).run P w1=.ok () (w1.putObj g (.mapIter (some mg) clock (seen.push L[j].born) clock)):=by simp only[setObj,Sem.run,hg1];rfl
  simp_all
theorem NK{w:World}{g mg:Nat}{i:Nat}(hg:w.heap[g]?=some (.mapIter (some mg) clock seen clock))(hm:w.heap[mg]?=some (.map en clock))(hb:mF en clock)(hi:en[i]?=some e)(hs:seen.back? =some e.born):(Instr.entry (.pointer (some ⟨g,0,none⟩))).run P w=.ok (.tuple #[e.key,e.val]) w:=by
 have hf:en.find? (·.born==e.born)=some e:=by
  rw[←Array.find?_toList];refine find_born e en.toList ?_ (by grind);rw[List.Nodup,List.pairwise_map,alw];intro a b ha jc wG he;have h2:en[a]?=some en.toList[a]:=by simp
  have h3:en[b]?=some en.toList[b]:=by simp
  have:=(hb b _ h3).2 a _ h2 he;omega
 simp only[Instr.entry,getObj,Sem.run_bind,Sem.run,hg,hm,Result.andThen,hs,bne_self_eq_false,cQ,abp,hf];rfl
end
section
variable {R:Type} {E:Env}
variable{g:Nat→Option R}{r:R}
theorem NL{n:Nat}(h:tA n g=some r)(i:Nat)(hi:i<n):g i=some r:=by
 unfold tA at h;split at h
 ·grind
 ·cases h
theorem E8{n:Nat}(h0:0<n)(h:∀i,i<n→g i=some r):tA n g=some r:=by unfold tA;have hh:∃r,∀i,i<n→g i=some r:=⟨r,h⟩;rw[ank hh];grind
variable{k:V→Fr→Mem→Option R}
theorem SC{site:Nat}{t:TypeId}{x:V}{f:Fr}{m:Mem}(h:Nq E site t x f m k=some r):∃f' m',k (.it site) f' m'=some r∧(m' site).isSome=true∧∀(G:Nat→Option (List PV))(w0:bA)(μ:Ro)(φ:Nat→aA)(w:World)(ρ:Nat→Value)(y:Value),av E.P G w0 μ φ m w→bR E.P μ φ m f ρ→af E.P μ φ x y→∃w' y' μ' φ',(Instr.range t y).run E.P w=.ok y' w'∧av E.P G w0 μ' φ' m' w'∧bR E.P μ' φ' m' f' ρ∧af E.P μ' φ' (.it site) y':=by
 unfold Nq at h;split at h
 ·rename_i kt et hu;split at h
  ·rename_i id;split at h
   ·rename_i xh es hm;split at h
    ·obtain⟨f',m',hn,DT,xm,zN,wF⟩:=ef h;refine⟨f',m',DT,by simp[xm],fun G w0 μ φ w ρ y hM hF hx=>?_⟩;obtain⟨g,en,clock,kk,hg,hh,hs,AV,P0,yS,hv⟩:=hM.dy id _ hm;obtain⟨o1,o2⟩:=hM.own id _ g hm (.inl hg);cases hx with
     |om cS=>
      rw[hg]at cS;simp only[cO]at cS;subst cS;have vF:=hM.forget id;have hM2:=vF.ae0 o1 (fun j b hj e=>by obtain⟨cK,b',jc,rfl⟩:=fJ hj;exact cK (hM.inj j id b' _ g jc hm (gp.1 e) (.inl hg)));have Dg:=mG vF (some g);have DS:bR E.P (qM μ w (some g)) φ (bh (bE id m) id) (eS id f) ρ:=(hF.forget id).mono Dg fun j hj=>⟨rfl,hj⟩;have lL:∀φ':Nat→aA,φ' site=(DQ (some w.heap.size) 0 0 0)→(∀j,(bH.iter t es none).names j=true→φ' j=φ j)→gM E.P (qM μ w (some g)) φ' (w.alloc (.mapIter (some g) clock #[] clock)) site (.iter t es none):=fun φ' hp _=>by
       refine⟨w.heap.size,g,en,clock,#[],by rw[hp],fM w _,by simp[qM,hh],yS,(by rw[HW,amo,hs]),fun i k v e h1 h2=>?_,fun k v h=>by cases h⟩;have ZW:en[i]?=some e:=by simp_all[akL,HW]
       exact⟨(hv i k v e h1 ZW).1.mono Dg,(hv i k v e h1 ZW).2.mono Dg⟩
      obtain⟨φ',a1,a2,a3⟩:=wF E.P G w0 _ φ w (w.alloc (.mapIter (some g) clock #[] clock)) ρ (DQ (some w.heap.size) 0 0 0) hM2 DS (lH.alloc (o:=.mapIter (some g) clock #[] clock) hM2 rfl lL (by simp[bH.names]));exact⟨_,_,_,φ',run_range_map w t kt et g en clock hu hh,a2,a3,.it (by rw[a1])⟩
    ·cases h
   ·cases h
  ·cases h
 ·cases h
theorem Vj{x:V}{f:Fr}{m:Mem}(h:UL E x f m k=some r)(G:Nat→Option (List PV))(w0:bA)(μ:Ro)(φ:Nat→aA)(w:World)(y:Value)(ty:TypeId)(hM:av E.P G w0 μ φ m w)(hx:af E.P μ φ x y):∃v m' y' w',k v f m'=some r∧(∀id,v.has id=false)∧ky m m'∧(Instr.next y false ty).run E.P w=.ok y' w'∧av E.P G w0 μ φ m' w'∧af E.P μ φ v y':=by
 unfold UL at h;split at h
 ·rename_i id;split at h
  ·rename_i t es cur hm;split at h
   ·rename_i kt et hu;obtain⟨g,mg,en,clock,seen,hg,hh,Kv,yS,EP,hv,_⟩:=hM.dy id _ hm;obtain⟨o1,o2⟩:=hM.own id _ g hm (.inl hg);cases hx with
    |it cS=>
     rw[hg]at cS;simp only[cO]at cS;subst cS;have hmg:=hM.ro _ _ Kv;rcases SB (P:=E.P) hh hmg yS ty with⟨Vk,uJ⟩|⟨j,e,w1,hj,NM,uJ⟩
     ·have:es=[]:=by grind
      subst this;simp only[List.isEmpty_nil,Ko]at h;refine⟨_,m,_,w,h,by simp[V.has,b8],ky.refl m,uJ,hM,.aO rfl fun i p x hp hx=>?_⟩;cases i with
      |zero=>simp at hp hx;subst hp;subst hx;exact .pv .bool
      |succ i=>simp at hp
     ·have Am:j<(lY en seen).length:=(By.1 hj).1;have cK:¬es.isEmpty=true:=by grind
      rw[IS cK]at h;have h:=NL h j (by omega);obtain⟨e0,Vl,h⟩:=cT.1 h;obtain⟨qa,_,ha,ra,_⟩:=ma h;obtain⟨qb,_,hb,rb,_⟩:=ma ha;obtain⟨rk,rv⟩:=hv j e0.1 e0.2 e Vl hj;refine⟨_,_,_,_,hb,by simp[V.has,b8],.set,uJ,?_,.aO rfl fun i p x hp hx=>?_⟩
      ·have vF:av E.P G w0 μ φ m w1:=by rcases NM with rfl|rfl;exact hM;exact hM.drew
       have bZ:g<w1.heap.size:=by have:g<w.heap.size:=(abq.1 hh).1;rcases NM with rfl|rfl<;>exact this
       refine vF.write hm rfl hg (NJ w1 g _) World.putObj_size (fun k hk=>World.putObj_heap_other hk) ?_ rfl (by simp[bH.names]);refine⟨g,mg,en,clock,seen.push e.born,hg,World.putObj_heap_same bZ,Kv,yS,?_,fun i k v e' h1 h2=>?_,fun k v hc=>?_⟩
       ·rw[E7 yS hj,am1,am1,EP]
       ·rw[E7 yS hj]at h2;grind
       ·simp only[cO,Ua]at hc;obtain⟨rfl,rfl⟩:=hc;obtain⟨i,hi⟩:=SA (aeB hj);grind
      ·match i with
       |0=>simp at hp hx;subst hp;subst hx;exact .pv .bool
       |1=>simp at hp hx;subst hp;subst hx;exact .pv (ra _ _ _ rk)
       |2=>simp at hp hx;subst hp;subst hx;exact .pv (rb _ _ _ rv)
       |i+3=>simp at hp
   ·cases h
  ·cases h
 ·cases h
theorem SD{x:V}{m:Mem}{k:V→Mem→Option R}(h:Nr x m k=some r)(P:Program)(G:Nat→Option (List PV))(w0:bA)(μ:Ro)(φ:Nat→aA)(w:World)(y:Value)(hM:av P G w0 μ φ m w)(hx:af P μ φ x y):∃v m' y',k v m'=some r∧(∀id,v.has id=false)∧ky m m'∧(Instr.entry y).run P w=.ok y' w∧av P G w0 μ φ m' w∧af P μ φ v y':=by
 unfold Nr at h;split at h
 ·rename_i id;split at h
  ·rename_i t es a b hm;obtain⟨g,mg,en,clock,seen,hg,hh,Kv,yS,EP,hv,hcu⟩:=hM.dy id _ hm;obtain⟨i,e,hi,hs,ra,rb⟩:=hcu a b rfl;cases hx with
   |it cS=>
    rw[hg]at cS;simp only[cO]at cS;subst cS;refine⟨_,_,_,h,by simp[V.has,b8],.set,NK hh (hM.ro _ _ Kv) yS hi hs,?_,.aO rfl fun i p x hp hx=>?_⟩
    ·exact hM.write hm rfl hg (lM.refl _ _) rfl (fun _ _=>rfl) ⟨g,mg,en,clock,seen,hg,hh,Kv,yS,EP,hv,fun k v h=>by cases h⟩ rfl (by simp[bH.names])
    match i with
    |0=>simp at hp hx;subst hp;subst hx;exact .pv ra
    |1=>simp at hp hx;subst hp;subst hx;exact .pv rb
    |i+2=>simp at hp
  ·cases h
 ·cases h
end
section
variable {P:Program} {G:Nat→Option (List PV)} {w0:bA} {μ μ':Ro} {φ φ':Nat→aA} {m m':Mem} {w w':World}
variable{id j:Nat}{b:bH}
theorem iU(h:fa id m j=some b):∃b',m j=some b'∧b=dM id b':=by unfold fa at h;grind
theorem pC:(fa id m j).isSome=(m j).isSome:=by unfold fa;cases m j<;>rfl
theorem Dh(id:Nat)(b:bH):(dM id b).rowAt=b.rowAt:=by cases b<;>rfl
theorem sl{p:aA}{g:Nat}:(dM id b).owns p g↔b.owns p g:=by unfold bH.owns;rw[Dh]
theorem xD{p:aA}:(dM id b).apart p↔b.apart p:=by unfold bH.apart;rw[Dh]
theorem Aq(id:Nat)(b:bH):(dM id b).jR=b.jR:=by cases b<;>rfl
theorem NN{cs:List V}(h:b8 j (cs.map (oN id))=true):b8 j cs=true:=by obtain⟨v,hv,hh⟩:=cz.1 h;obtain⟨u,hu,rfl⟩:=akt.1 hv;exact bJ hu (yU hh).1
theorem gM.zF{id j:Nat}{b:bH}(h:gM P μ φ w j b):gM P μ φ w j (dM id b):=by
 cases b with
 |box cs=>obtain⟨g,c,T,hg,hh,hs,hv,h1,EP⟩:=h;refine⟨g,c,T,hg,hh,by simpa using hs,fun i v x hi hx=>?_,h1,by simpa using EP⟩;simp only[IT,acG]at hi;obtain⟨u,hu,rfl⟩:=hi;exact(hv i u x hu hx).zF id
 |_=>exact h
theorem av.vH(hM:av P G w0 μ φ m w)(id:Nat):av P G w0 μ φ (fa id m) w:=by
 refine⟨hM.below,hM.ro,hM.aG,fun j b h=>?_,fun j b g h hg=>?_,fun i j b1 b2 g h1 h2 g1 g2=>?_,fun j b h=>?_,fun j cs i h hh=>?_,hM.base,hM.dC,fun j st h=>?_⟩
 ·obtain⟨b',hb,rfl⟩:=iU h;exact(hM.dy j b' hb).zF
 ·obtain⟨b',hb,rfl⟩:=iU h;rw[Aq];exact hM.own j b' g hb (sl.1 hg)
 ·obtain⟨b1',U4,rfl⟩:=iU h1;obtain⟨b2',uQ,rfl⟩:=iU h2;exact hM.inj i j b1' b2' g U4 uQ (sl.1 g1) (sl.1 g2)
 ·obtain⟨b',hb,rfl⟩:=iU h;exact xD.2 (hM.apart j b' hb)
 ·obtain⟨b',hb,e⟩:=iU h;cases b' with
  |box Nz=>simp only[dM,bH.box.injEq]at e;subst e;rw[pC];exact hM.fT j Nz i hb (NN hh)
  |_=>simp[dM]at e
 ·obtain⟨b',hb,e⟩:=iU h;cases b' with
  |loop st'=>simp only[dM,bH.loop.injEq]at e;subst e;exact hM.C5 j st hb
  |_=>simp[dM]at e
variable{ρ:Nat→Value}
theorem bR.vH{f:Fr}(h:bR P μ φ m f ρ)(id:Nat):bR P μ φ (fa id m) (iA id f) ρ:=⟨fun t=>(h.fr t).zF id,fun t j hj=>by rw[pC];exact h.live t j (yU hj).1⟩
theorem av.km:∀{kl:Kl}{m:Mem},av P G w0 μ φ m w→av P G w0 μ φ (Go.Ab.km kl m) w
 |[],_,h=>h
 |(true,id)::r,m,h=>(av.km (kl:=r) (m:=bh (bE id m) id) (h.forget id):)
 |(false,id)::r,m,h=>(av.km (kl:=r) (m:=fa id m) (h.vH id):)
theorem bR.km{ρ:Nat→Value}:∀{kl:Kl}{m:Mem}{f:Fr},bR P μ φ m f ρ→bR P μ φ (Go.Ab.km kl m) (kf kl f) ρ
 |[],_,_,h=>h
 |(true,id)::r,m,f,h=>(bR.km (kl:=r) (m:=bh (bE id m) id) (f:=eS id f) (h.forget id):)
 |(false,id)::r,m,f,h=>(bR.km (kl:=r) (m:=fa id m) (f:=iA id f) (h.vH id):)
theorem av.Qa(hM:av P G w0 μ φ m w)(nw:Nat→Nat→Nat)(hblk:∀j b',m' j=some b'→gM P μ φ' w j b')(Ao:∀j b' g,m' j=some b'→b'.owns (φ' j) g→∃k b,m k=some b∧b.owns (φ k) g∧(b'.jR=true→b.jR=true)∧j=nw g k)(G7:∀j b',m' j=some b'→b'.apart (φ' j))(C4:∀j cs id,m' j=some (.box cs)→b8 id cs=true→(m' id).isSome=true)(ah3:∀j st,m' j=some (.loop st)→m j=some (.loop st)∧(φ' j).g=(φ j).g):av P G w0 μ φ' m' w:=by
 refine⟨hM.below,hM.ro,hM.aG,hblk,fun j b' g h hg=>?_,fun i j b1 b2 g h1 h2 g1 g2=>?_,G7,C4,hM.base,hM.dC,fun j st h=>?_⟩
 ·obtain⟨k,b,hk,ho,Kv,_⟩:=Ao j b' g h hg;obtain⟨o1,o2⟩:=hM.own k b g hk ho;simp_all
 ·obtain⟨k1,c1,SE,ho1,_,e1⟩:=Ao i b1 g h1 g1;obtain⟨k2,c2,SF,ho2,_,e2⟩:=Ao j b2 g h2 g2;rw[e1,e2,hM.inj k1 k2 c1 c2 g SE SF ho1 ho2]
 ·obtain⟨h1,h2⟩:=ah3 j st h;obtain⟨g,rc,r1,r2,r3⟩:=hM.C5 j st h1;simp_all
def kW(p:aA)(i off:Nat)(r:C6):aA:={p with row:=fun a b=>if a=i∧b=off then r else p.row a b}
theorem gw(p:aA)(i off:Nat)(r:C6):(kW p i off r).row i off=r:=by simp[kW]
theorem gN(p:aA){i off a b:Nat}(r:C6)(h:¬(a=i∧b=off)):(kW p i off r).row a b=p.row a b:=by simp[kW,h]
theorem gM.Qb(h:gM P μ φ w j (dM id b))(hj:j≠id)(h0:(φ' id).toC6=(φ id).toC6)(hφ:∀k,k≠id→φ' k=φ k):gM P μ φ' w j (dM id b):=by
 have e:=hφ j hj;cases b with
 |box cs=>
  obtain⟨g,c,T,hg,hh,hs,hv,h1,EP⟩:=h;refine⟨g,c,T,by rw[e];omega,hh,hs,fun i v x hi hx=>?_,h1,by rw[e];omega⟩;refine(hv i v x hi hx).abJ (fun _ _ h=>h) fun k hk=>?_;by_cases hki:k=id
  ·subst hki;refine⟨h0,fun h2=>?_⟩;simp only[IT,acG]at hi;obtain⟨u,hu,rfl⟩:=hi;rw[(yU hk).2]at h2;cases h2
  simp_all
 |arr sz et es=>exact gM.cj h (fun k hk=>by simp[bH.names,dM]at hk) e (fun _ _ h=>h) (fun _ _=>rfl)
 |rD sz et es=>exact gM.cj h (fun k hk=>by simp[bH.names,dM]at hk) e (fun _ _ h=>h) (fun _ _=>rfl)
 |map kt es=>exact gM.cj h (fun k hk=>by simp[bH.names,dM]at hk) e (fun _ _ h=>h) (fun _ _=>rfl)
 |nest sz et es=>exact gM.cj h (fun k hk=>by simp[bH.names,dM]at hk) e (fun _ _ h=>h) (fun _ _=>rfl)
 |fh kt e0 es=>exact gM.cj h (fun k hk=>by simp[bH.names,dM]at hk) e (fun _ _ h=>h) (fun _ _=>rfl)
 |loop st=>exact gM.cj h (fun k hk=>by simp[bH.names,dM]at hk) e (fun _ _ h=>h) (fun _ _=>rfl)
 |iter t es cur=>exact gM.cj h (fun k hk=>by simp[bH.names,dM]at hk) e (fun _ _ h=>h) (fun _ _=>rfl)
theorem bR.abO{f:Fr}(h:bR P μ φ m (iA id f) ρ)(h0:(φ' id).toC6=(φ id).toC6)(hφ:∀k,k≠id→φ' k=φ k)(hl:∀j,(m j).isSome=true→(m' j).isSome=true):bR P μ φ' m' (iA id f) ρ:=by
 refine⟨fun t=>(h.fr t).abJ (fun _ _ h=>h) fun k hk=>?_,fun t j hj=>hl j (h.live t j hj)⟩;by_cases hki:k=id
 ·subst hki;refine⟨h0,fun h2=>?_⟩;have:=(yU (show(oN k (f t)).has k=true from hk)).2;rw[show iA k f t=oN k (f t)from rfl,this]at h2;cases h2
 simp_all
theorem fK{id2:Nat}{b':bH}(h:ao (fa id (bh (bE id2 m) id2)) id b j=some b'):(j=id∧b'=b)∨(j≠id∧j≠id2∧∃c,m j=some c∧b'=dM id (gv id2 c)):=by
 by_cases e:j=id
 ·simp_all
 ·rw[aq e]at h;obtain⟨c1,h1,rfl⟩:=iU h;obtain⟨cK,c,hc,rfl⟩:=fJ h1;simp_all
theorem NO{x:Value}(h:af P μ φ (.os id) x):af P μ (fun _=>((φ id).toC6).up) (.os 0) x:=by
 cases h with
 |tp h=>exact .tp h
 |os h=>exact .os (id:=0) (φ:=fun _=>((φ id).toC6).up) h
theorem aH.up{sz:Nat}{et:TypeId}{es:List PV}(h:aH P μ φ w id sz et es):aH P μ (fun _=>((φ id).toC6).up) w 0 sz et es:=h
theorem av.acV(hM:av P G w0 μ φ m w){id2 i off s s2:Nat}{et Lc:TypeId}{es rs:List PV}{e q:PV}{x:Value}(cK:id2≠id)(hm:m id=some (.nest s et es))(cL:m id2=some (.arr s2 Lc rs))(he:es[i]?=some e)(Bc:e.cells[off]?=some .bad)(hx:∀g c T,(φ id).g=some g→w.heap[g]?=some (.cells c T (0,0))→c[i*s+off]?=some x)(hv:af P μ φ (.os id2) x)(hq:q.cells=e.cells.set off (.qS s2 rs)):av P G w0 μ (fun j=>if j=id then kW (φ id) i off (φ id2).toC6 else φ j) (ao (fa id (bh (bE id2 m) id2)) id (.nest s et (es.set i q))) w:=by
 have vF:=(hM.forget id2).vH id;have hN:aX P μ φ w id s et es:=hM.dy id _ hm;have hA2:aH P μ φ w id2 s2 Lc rs:=hM.dy id2 _ cL;have Uv:i<es.length:=(By.1 he).1;have hol:off<e.cells.length:=(By.1 Bc).1;have ng:∀a b,(bH.nest s et (es.set i q)).rowAt a b=true→(a=i∧b=off)∨((bH.nest s et es).rowAt a b=true∧¬(a=i∧b=off)):=by
  intro a b hr;by_cases wG:a=i∧b=off
  ·exact .inl wG
  ·refine .inr ⟨?_,wG⟩;rcases kx hr with⟨_,_,_,e',s',rs',jc,h',uS⟩|⟨_,_,_,_,_,_,jc,_⟩
   ·simp only[bH.nest.injEq]at jc;obtain⟨rfl,rfl,rfl⟩:=jc;rcases eT h' with⟨rfl,rfl⟩|⟨Zo,h'⟩
    ·rw[hq]at uS;rcases eT uS with⟨rfl,_⟩|⟨hnj,uS⟩
     ·exact absurd ⟨rfl,rfl⟩ wG
     ·rw[du he uS];rfl
    ·rw[du h' uS];rfl
   ·cases jc
 refine hM.Qa (fun _ k=>if k=id2 then id else k) (fun j b' hj=>?_) (fun j b' g hj ho=>?_) (fun j b' hj=>?_) (fun j cs k hj hk=>?_) (fun j st hj=>?_)
 ·rcases fK hj with⟨rfl,rfl⟩|⟨h1,h2,c,hc,rfl⟩
  ·show aX P μ (fun k=>if k=j then kW (φ j) i off (φ id2).toC6 else φ k) w j s et (es.set i q);refine aX.change (μ':=μ) (w':=w) (es':=es.set i q) hN (by simp) (fun i' e' h'=>?_) (by simp[kW]) (fun _ _=>rfl) (fun i' e' j' p' g c T x' h' uS hg hc Jf hold=>?_)
   ·rcases eT h' with⟨_,rfl⟩|⟨_,h'⟩
    ·rw[hq,alS];exact hN.2.2.2.2.1 i e he
    ·exact hN.2.2.2.2.1 i' e' h'
   ·simp only[Ko];by_cases wG:i'=i∧j'=off
    ·obtain⟨rfl,rfl⟩:=wG;rw[gw];have e1:e'=q:=by
      rcases eT h' with⟨_,h⟩|⟨h,_⟩
      ·exact h
      ·exact absurd rfl h
     subst e1;rw[hq]at uS;have e2:p'=.qS s2 rs:=by
      rcases eT uS with⟨_,h⟩|⟨h,_⟩
      ·exact h
      ·exact absurd rfl h
     subst e2;have e3:x'=x:=by have:=hx g c _ hg hc;rw[Jf]at this;simpa using this
     subst e3;exact⟨⟨Lc,hA2.up⟩,NO hv⟩
    ·rw[gN _ _ wG];rcases eT h' with⟨rfl,rfl⟩|⟨Zo,h'⟩
     ·rw[hq]at uS;rcases eT uS with⟨rfl,_⟩|⟨hnj,uS⟩
      ·exact absurd ⟨rfl,rfl⟩ wG
      ·exact hold e p' he uS
     ·exact hold e' p' h' uS
  ·have hb:gM P μ φ w j (dM id (gv id2 c)):=(hM.dy j c hc).kill.zF;exact hb.Qb h1 (by simp[kW]) fun k hk=>by simp[hk]
 ·rcases fK hj with⟨rfl,rfl⟩|⟨h1,h2,c,hc,rfl⟩
  ·simp only[Ko]at ho;rcases ho with ho|⟨a,b,hr,ho⟩
   ·exact⟨j,_,hm,.inl ho,fun _=>rfl,by simp[cK.symm]⟩
   ·rcases ng a b hr with⟨rfl,rfl⟩|⟨zJ,wG⟩
    ·rw[gw]at ho;exact⟨id2,_,cL,.inl ho,fun _=>rfl,by simp⟩
    ·rw[gN _ _ wG]at ho;exact⟨j,_,hm,.inr ⟨a,b,zJ,ho⟩,fun _=>rfl,by simp[cK.symm]⟩
  ·simp only[h1,abp]at ho;exact⟨j,c,hc,gp.1 (sl.1 ho),fun h=>by rw[Aq,yZ]at h;exact h,by simp[h2]⟩
 ·rcases fK hj with⟨rfl,rfl⟩|⟨h1,h2,c,hc,rfl⟩
  ·simp only[Ko];have G7:=hM.apart j _ hm;have new:∀g,(φ id2).g=some g→¬(bH.nest s et es).owns (φ j) g:=fun g hg ho=>cK (hM.inj id2 j _ _ g cL hm (.inl hg) ho);intro a b g hr hg;rcases ng a b hr with⟨rfl,rfl⟩|⟨zJ,wG⟩
   ·rw[gw]at hg;refine⟨fun h=>new g hg (.inl h),fun a' b' NP Jl=>?_⟩;rcases ng a' b' NP with h|⟨ZX,NQ⟩
    ·exact h
    ·rw[gN _ _ NQ]at Jl;exact absurd (.inr ⟨a',b',ZX,Jl⟩) (new g hg)
   ·rw[gN _ _ wG]at hg;obtain⟨h3,h4⟩:=G7 a b g zJ hg;refine⟨h3,fun a' b' NP Jl=>?_⟩;rcases ng a' b' NP with⟨rfl,rfl⟩|⟨ZX,NQ⟩
    ·rw[gw]at Jl;exact absurd (.inr ⟨a,b,zJ,hg⟩) (new g Jl)
    ·rw[gN _ _ NQ]at Jl;exact h4 a' b' ZX Jl
  ·simp only[h1,abp];exact xD.2 (vE.2 (hM.apart j c hc))
 ·rcases fK hj with⟨rfl,hb⟩|⟨h1,h2,c,hc,hb⟩
  ·cases hb
  ·have Zq:fa id (bh (bE id2 m) id2) j=some (.box cs):=by rw[aq h1]at hj;exact hj
   have:=vF.fT j cs k Zq hk;by_cases e:k=id
   ·subst e;simp
   ·rw[aq e];exact this
 ·rcases fK hj with⟨rfl,hb⟩|⟨h1,h2,c,hc,hb⟩
  ·cases hb
  ·cases c<;>first|(simp[dM,gv]at hb;done)|skip
   simp only[dM,gv,bH.loop.injEq]at hb;subst hb;exact⟨hc,by simp[h1]⟩
end
def nh(k:PV):List (PV×PV)→Option Nat
 |[]=>none
 |(a,_)::r=>if cu k.cells a.cells then some 0 else(nh k r).map (·+1)
def jS(es:List (PV×PV)):List (PV×PV):=es.map fun x=>(x.1,.bad)
theorem E9(k:PV):∀es,nh k (jS es)=nh k es
 |[]=>rfl
 |(a,u)::r=>by simp only[jS,akn,nh];rw[←E9 k r];rfl
theorem Ec{k:PV}:∀{es:List (PV×PV)}{j:Nat},nh k es=some j→∃a u,es[j]?=some (a,u)∧cu k.cells a.cells=true
 |(a,u)::r,j,h=>by
  simp only[nh]at h;split at h
  ·rename_i hp;simp only[cO]at h;subst h;simp_all
  ·obtain⟨i,hi,rfl⟩:=acG.1 h;simpa using Ec hi
theorem nB(k v:PV):∀es,dh k v es=match nh k es with|some j=>es.set j (k,v)|none=>es++[(k,v)]
 |[]=>rfl
 |(a,u)::r=>by
  simp only[dh,nh];split
  ·rfl
  ·rw[nB k v r];cases nh k r<;>rfl
theorem uU(k:PV):∀es,uG k es=match nh k es with|some j=>es.modify j fun x=>(x.1,.bad)|none=>es
 |[]=>rfl
 |(a,u)::r=>by
  simp only[uG,nh];split
  ·rfl
  ·rw[uU k r];cases nh k r<;>simp
theorem Ld(sz:Nat)(k:PV):∀es,KJ sz k es=match nh k es with|some j=>(es[j]?).bind fun x=>fi sz x.2|none=>some []
 |[]=>rfl
 |(a,u)::r=>by
  simp only[KJ,nh];split
  ·simp
  ·rw[Ld sz k r];cases nh k r<;>simp
theorem HX{k z:PV}{l:List (PV×PV)}{es:List MapEntry}{i:Nat}{r:Option (Nat×Value)}(h:Found k .rQ z (jS l) es i r):(r=none∧nh k l=none)∨∃j e,r=some (i+j,e.val)∧es[j]?=some e∧nh k l=some j:=by
 cases h with
 |none h1 h2 h3=>
  refine .inl ⟨rfl,?_⟩;rw[nB]at h3;rw[←E9];cases hp:nh k (jS l)with
  |none=>rfl
  |some j=>rw[hp]at h3;have:=congrArg List.length h3;simp at this
 | @some j a u e h1 h2 h3 h4 h5 h6=>
  refine .inr ⟨j,e,rfl,h2,?_⟩;rw[nB]at h6;rw[←E9];have bZ:j<(jS l).length:=(By.1 h1).1;cases hp:nh k (jS l)with
  |none=>rw[hp]at h6;have:=congrArg List.length h6;simp at this
  |some j'=>
   rw[hp]at h6;simp only at h6;obtain⟨a',u',Zq,_⟩:=Ec hp;have ah4:j'<(jS l).length:=(By.1 Zq).1;have e1:((jS l).set j (k,.rQ))[j']?=some (k,.rQ):=by rw[←h6];simp[ah4]
   grind [jS,Option.map_eq_some_iff]
section
variable {P:Program} {G:Nat→Option (List PV)} {w0:bA} {μ μ':Ro} {φ φ':Nat→aA} {m m':Mem} {w w':World}
def Fa(P:Program)(μ:Ro)(R:C6)(w:World)(e0:TypeId)(v:PV)(x:Value):Prop:=match v with
 |.qS s rs=>aH P μ (fun _=>R.up) w 0 s e0 rs∧af P μ (fun _=>R.up) (.os 0) x
 |v=>ah P μ v x
variable{e0:TypeId}
theorem Fa.pure{R:C6}{v:PV}{x:Value}(h:ah P μ v x):Fa P μ R w e0 v x:=by
 unfold Fa;split
 ·cases h
 omega
structure NR(P:Program)(μ:Ro)(p:aA)(w:World)(kt e0:TypeId)(es:List (PV×PV))(g:Nat)(en:Array MapEntry)(clock:Nat)(kk:List Kd):Prop where
 pl:p.g=some g
 heap:w.heap[g]?=some (.map en clock)
 size:en.size=es.length
 B6:tx P kt=some kk
 key:∀(i:Nat)k v,es[i]?=some (k,v)→wv P kt kk k=true
 born:mF en clock
 rep:∀(i:Nat)k v e,es[i]?=some (k,v)→en[i]?=some e→ah P μ k e.key∧Fa P μ (p.row i 0) w e0 v e.val
variable{kt:TypeId}{es:List (PV×PV)}
theorem uV{id:Nat}:gM P μ φ w id (.fh kt e0 es)↔∃g en clock kk,NR P μ (φ id) w kt e0 es g en clock kk:=by
 constructor
 ·rintro⟨g,en,clock,kk,h1,h2,h3,h4,h5,h6,h7⟩;exact⟨g,en,clock,kk,h1,h2,h3,h4,h5,h6,fun i k v e a b=>h7 i k v e a b⟩
 ·rintro⟨g,en,clock,kk,h1,h2,h3,h4,h5,h6,h7⟩;exact⟨g,en,clock,kk,h1,h2,h3,h4,h5,h6,fun i k v e a b=>h7 i k v e a b⟩
variable{en:Array MapEntry}
theorem NR.ent{p:aA}{g:Nat}{clock:Nat}{kk:List Kd}(h:NR P μ p w kt e0 es g en clock kk):xB P μ kt kk (jS es) en.toList:=by
 refine⟨by simp[jS,h.size],fun i k v hi=>?_,fun i k v e hi he=>?_⟩
 ·simp only[jS,IT,acG]at hi;obtain⟨⟨a,u⟩,hq,hx⟩:=hi;simp only[Ua]at hx;obtain⟨rfl,rfl⟩:=hx;exact h.key i a u hq
 ·simp only[jS,IT,acG]at hi;obtain⟨⟨a,u⟩,hq,hx⟩:=hi;simp only[Ua]at hx;obtain⟨rfl,rfl⟩:=hx;exact⟨(h.rep i a u e hq (by simpa using he)).1,.bad⟩
theorem Fb{t et:TypeId}{ks:List Kd}{key:PV}{zv yi:Value}{g clock:Nat}{l:List (PV×PV)}(hu:P.underlying t=some (.map kt et))(hk:tx P kt=some ks)(zw:wv P kt ks key=true)(hyi:ah P μ key yi)(hg:w.heap[g]?=some (.map en clock))(hE:xB P μ kt ks (jS l) en.toList)(hz:(zeroValue et).run P w=.ok zv w):(nh key l=none∧(Instr.lookup t (.map (some g)) yi false).run P w=.ok zv w)∨∃j e,nh key l=some j∧en[j]?=some e∧(Instr.lookup t (.map (some g)) yi false).run P w=.ok e.val w:=by
 have Sw:=y9 hk;obtain⟨hc,hv⟩:=na zw hyi;obtain⟨r,r1,r2⟩:=mh (v:=.rQ) (z:=.bad) Sw hc w hE;have h1:=iF 8 kt ks Sw 9992 w en.isEmpty key.cells hc;have G6:=Go.MapKept.run_getObj_map (P:=P) hg;have h1':(Instr.checkKey en.isEmpty 10000 kt (eG P kt key.cells)).run P w=.ok () w:=h1;rw[hv];unfold Instr.lookup;simp only[Sem.run_bind,run_underlying hu,Result.andThen_ok,Sem.run_pure,G6];rcases HX r2 with⟨rfl,h⟩|⟨j,e,rfl,he,h⟩
 ·simp_all
 simp_all
end
section
variable {R:Type} {E:Env}
theorem NS{t:TypeId}(h:zeroV E.P t=some .iy)(w:World):(zeroValue t).run E.P w=.ok (.slice none 0 0) w:=by unfold zeroV at h;obtain⟨c,hc,h⟩:=acG.1 h;obtain⟨i,hi,hz⟩:=cT.1 hc;have:=uM (P:=E.P) (μ:=fun _=>none) (φ:=fun _=>default) c;rw[h]at this;cases this;exact pB hi hz
theorem Vm{site:Nat}{t:TypeId}{x ix:V}{m:Mem}{k:V→Mem→bq→Option R}{r:R}(h:KN E site t x ix m k=some r):∃id b1 b2 m',m'=uD [(id,b1),(site,b2)] m∧k (.os site) m' [(true,id),(true,site)]=some r∧m site=none∧b2.names=(fun _=>false)∧b1.names=(fun _=>false)∧(m id).isSome=true∧(∀m2:Mem,m2 id=m id→m2 site=none→∀(R':Type)(k':V→Mem→bq→Option R'),KN E site t x ix m2 k'=k' (.os site) (uD [(id,b1),(site,b2)] m2) [(true,id),(true,site)])∧∀(G:Nat→Option (List PV))(w0:bA)(μ:Ro)(φ:Nat→aA)(w:World)(f:Fr)(ρ:Nat→Value)(y yi:Value),av E.P G w0 μ φ m w→bR E.P μ φ m f ρ→af E.P μ φ x y→af E.P μ φ ix yi→∃u φ',(Instr.lookup t y yi false).run E.P w=.ok u w∧av E.P G w0 μ φ' m' w∧bR E.P μ φ' m' f ρ∧af E.P μ φ' (.os site) u:=by
 unfold KN at h;split at h
 ·rename_i kt et hu;split at h
  ·rename_i e hue;split at h
   ·rename_i id hz;split at h
    ·rename_i xh e' es hm hs;split at h
     ·rename_i hc;obtain⟨rfl,rfl,fl⟩:=hc;obtain⟨key,zw,h⟩:=cT.1 h;obtain⟨rs,hrs,h⟩:=cT.1 h;obtain⟨ks,k1,k2,k3⟩:=uT zw;have cK:site≠id:=fun e=>by simp_all
      refine⟨id,.fh xh e' (uG key es),.arr (aN E.P e') e' rs,_,rfl,h,hs,rfl,rfl,by rw[hm];rfl,fun m2 h1 h2 R' k'=>?_,fun G w0 μ φ w f ρ y yi hM hF hx hi=>?_⟩
      ·simp only[KN,hu,hue,hz,h1,h2,hm,zw,hrs,akj,fl,anj,Ko];rfl
      ·obtain⟨g,en,clock,kk,hN⟩:=uV.1 (hM.dy id _ hm);have AV:=hN.B6;rw[k1]at AV;simp only[cO]at AV;subst AV;cases hx with
       |om cS=>
        rw[hN.pl]at cS;simp only[cO]at cS;subst cS;have SG:=Fb hu k1 k2 (k3 μ φ yi hi) hN.heap hN.ent (NS hz w);have Vn:∀i off,(bH.fh xh e' (uG key es)).rowAt i off=true→(bH.fh xh e' es).rowAt i off=true∧nh key es≠some i:=by
         intro i off hr;rcases kx hr with⟨_,_,_,_,_,_,hb,_⟩|⟨_,_,_,k0,s0,rs0,hb,rfl,he⟩
         ·cases hb
         ·simp only[bH.fh.injEq]at hb;obtain⟨rfl,rfl,rfl⟩:=hb;rw[uU]at he;cases hp:nh key es with
          |none=>rw[hp]at he;simp only at he;exact⟨by rw[kv he];rfl,by simp⟩
          |some j=>
           rw[hp]at he;simp only[amk]at he;split at he
           ·simp_all
           ·rename_i hji;have he:es[i]?=some (k0,PV.qS s0 rs0):=by simpa using he
            exact⟨by rw[kv he];rfl,fun h=>hji (by simpa using h)⟩
        have vF:av E.P G w0 μ φ (ao m id (.fh xh e' (uG key es))) w:=by
         refine hM.write hm rfl hN.pl (lM.refl _ _) rfl (fun _ _=>rfl) (uV.2 ⟨g,en,clock,ks,hN.pl,hN.heap,?_,k1,fun i k0 v0 h0=>?_,hN.born,fun i k0 v0 e0 h0 Vl=>?_⟩) rfl (by simp[bH.names]) (fun st h=>by cases h) (fun i off hr=>(Vn i off hr).1)
         ·rw[hN.size,uU];grind
         ·rw[uU]at h0;cases hp:nh key es with
          |none=>rw[hp]at h0;exact hN.key i k0 v0 h0
          |some j=>
           rw[hp]at h0;simp only[amk]at h0;obtain⟨x0,Ss,hq⟩:=acG.1 h0;obtain⟨xa,xu⟩:=x0;split at hq
           ·simp only[Ua]at hq;rw[←hq.1];exact hN.key i xa xu Ss
           ·simp only[id_eq,Ua]at hq;rw[←hq.1];exact hN.key i xa xu Ss
         ·rw[uU]at h0;cases hp:nh key es with
          |none=>rw[hp]at h0;exact hN.rep i k0 v0 e0 h0 Vl
          |some j=>
           rw[hp]at h0;simp only[amk]at h0;obtain⟨x0,Ss,hq⟩:=acG.1 h0;obtain⟨xa,xu⟩:=x0;obtain⟨q1,q2⟩:=hN.rep i xa xu e0 Ss Vl;split at hq
           ·simp only[Ua]at hq;obtain⟨rfl,rfl⟩:=hq;exact⟨q1,.pure .bad⟩
           simp_all
        have ae1:∀(ph:aA)(u:Value),aH E.P μ (fun _=>ph) w 0 (aN E.P e') e' rs→af E.P μ (fun _=>ph) (.os 0) u→(∀g',ph.g=some g'→∃j,nh key es=some j∧(bH.fh xh e' es).rowAt j 0=true∧((φ id).row j 0).g=some g')→∃φ',av E.P G w0 μ φ' (uD [(id,.fh xh e' (uG key es)),(site,.arr (aN E.P e') e' rs)] m) w∧bR E.P μ φ' (uD [(id,.fh xh e' (uG key es)),(site,.arr (aN E.P e') e' rs)] m) f ρ∧af E.P μ φ' (.os site) u:=by
         intro ph u hA hV G6;have K4:∀j,(m j).isSome=true→j≠site:=fun j hj e=>by simp_all
         refine⟨fun i=>if i=site then ph else φ i,?_,?_,?_⟩
         ·refine vF.put (by rw[aq cK];omega) (lM.refl _ _) hM.ro (fun _ _ _ _ _=>rfl) (fun g' cS=>?_) (sf rE) ?_ (by simp[bH.names]) (fun st h=>by cases h)
          ·have cS:=pA rE cS;obtain⟨j,hj,hr,hjg⟩:=G6 g' cS;obtain⟨o1,o2⟩:=hM.own id _ g' hm (.inr ⟨j,0,hr,hjg⟩);refine⟨o1,o2 rfl,fun i b' hi ho=>?_⟩;by_cases hii:i=id
           ·subst hii;rw[bL]at hi;simp only[cO]at hi;subst hi;obtain⟨a1,a2⟩:=hM.apart i _ hm j 0 g' hr hjg;rcases ho with ho|⟨i',vz,zJ,ho⟩
            ·exact a1 ho
            grind
           ·rw[aq hii]at hi;exact hii (hM.inj i id _ _ g' hi hm ho (.inr ⟨j,0,hr,hjg⟩))
          ·exact aH.move (φ':=fun i=>if i=site then ph else φ i) (j:=site) hA (by simp) (fun _ _ h=>h)
         ·refine hF.mono (fun _ _ h=>h) fun j hj=>⟨by simp[K4 j hj],?_⟩;show(ao (ao m id _) site _ j).isSome=true;rw[aq (K4 j hj)];by_cases hji:j=id
          ·subst hji;simp
          ·rw[aq hji];omega
         ·cases hV with
          |tp h=>exact .tp (by simpa using h)
          | @os _ g0 h=>have:=af.os (P:=E.P) (μ:=μ) (φ:=fun i=>if i=site then ph else φ i) (id:=site) (g:=g0) (by simpa using h);simpa using this
        rw[Ld]at hrs;rcases SG with⟨hp,uJ⟩|⟨j,en0,hp,hen,uJ⟩
        ·rw[hp]at hrs;simp only[cO]at hrs;subst hrs;obtain⟨φ',a1,a2,a3⟩:=ae1 (DQ none 0 0 (aN E.P e')) (.slice none 0 0) ⟨rfl,rfl,rfl,fl,by simp,by simp[maxLen],⟨rfl,rfl⟩⟩ (.tp rfl) (fun g' cS=>by cases cS);grind
        ·rw[hp]at hrs;obtain⟨x0,Ss,ng⟩:=cT.1 hrs;obtain⟨xa,xu⟩:=x0;have hxu:=K1 ng;simp only at hxu;subst hxu;obtain⟨_,q2⟩:=hN.rep j xa _ en0 Ss hen;obtain⟨φ',a1,a2,a3⟩:=ae1 ((φ id).row j 0).up en0.val q2.1 q2.2 (fun g' cS=>⟨j,hp,by rw[kv Ss];rfl,cS⟩);grind
     ·cases h
    ·cases h
   ·cases h
  ·cases h
 ·cases h
end
theorem Fc{m:Mem}:∀{cs:List V}{j0:Nat}{ps:List PV}{tk:Option (Nat×Nat)},lX m j0 cs=some (ps,tk)→ps.length=cs.length∧(tk=none→∀(i:Nat)p,ps[i]?=some p→∃v,cs[i]?=some v∧lF cP 1 v=some p)∧∀j id2,tk=some (j,id2)→∃l s2 Lc rs,cs[l]?=some (.os id2)∧m id2=some (.arr s2 Lc rs)∧ps[l]?=some (.qS s2 rs)∧∀(i:Nat)p,i≠l→ps[i]?=some p→∃v,cs[i]?=some v∧lF cP 1 v=some p
 |[],j0,ps,tk,h=>by simp only[lX,cO,Ua]at h;grind
 |v::r,j0,ps,tk,h=>by
  have plain:∀{p:PV},lF cP 1 v=some p→(match lX m (j0+1) r with
   |some (ps,t)=>some (p::ps,t)
   |none=>none)=some (ps,tk)→ps.length=(v::r).length∧
   (tk=none→∀(i:Nat)p,ps[i]?=some p→∃u,(v::r)[i]?=some u∧lF cP 1 u=some p)∧
   ∀j id2,tk=some (j,id2)→∃l s2 Lc rs,(v::r)[l]?=some (.os id2)∧m id2=some (.arr s2 Lc rs)∧ps[l]?=some (.qS s2 rs)∧∀(i:Nat)p,i≠l→ps[i]?=some p→∃u,(v::r)[i]?=some u∧lF cP 1 u=some p:=by
   intro p hp h
   split at h
   ·rename_i ps' t ht;simp only[cO,Ua]at h;obtain⟨rfl,rfl⟩:=h;obtain⟨h1,h2,h3⟩:=Fc ht;refine⟨by simp[h1],fun hn i q hq=>?_,fun j id2 hj=>?_⟩
    ·grind
    ·obtain⟨l,s2,Lc,rs,a1,a2,a3,a4⟩:=h3 j id2 hj;refine⟨l+1,s2,Lc,rs,by simpa using a1,a2,by simpa using a3,fun i q hi hq=>?_⟩;grind
   ·cases h
  unfold lX at h;split at h
  ·rename_i heq;cases heq
  ·rename_i j id r' heq;simp only[alc]at heq;obtain⟨rfl,rfl⟩:=heq;split at h
   ·rename_i s et es hm;split at h
    ·rename_i ps' ht;simp only[cO,Ua]at h;obtain⟨rfl,rfl⟩:=h;obtain⟨h1,h2,_⟩:=Fc ht;refine⟨by simp[h1],fun hn=>(nomatch hn),fun j id2 hj=>?_⟩;simp only[cO,Ua]at hj;obtain⟨rfl,rfl⟩:=hj;refine⟨0,s,et,es,rfl,hm,rfl,fun i q hi hq=>?_⟩;grind
    ·cases h
   ·cases h
  grind
section
variable {P:Program} {G:Nat→Option (List PV)} {w0:bA} {μ μ':Ro} {φ φ':Nat→aA} {m m':Mem} {w w':World}
theorem Fe{v:V}{n j id2:Nat}{cs:List V}{ps:List PV}(hc:toCells n v=some cs)(h:lX m 0 cs=some (ps,some (j,id2))):∃l s2 Lc rs,m id2=some (.arr s2 Lc rs)∧ps[l]?=some (.qS s2 rs)∧ps.length=n∧v.has id2=true∧∀(P:Program)(μ:Ro)(φ:Nat→aA)(x:Value),af P μ φ v x→x.cells.size=n∧(∀(i:Nat)(y:Value),x.cells[i]?=some y→y.oneCell'=true)∧(∀(i:Nat)p y,i≠l→ps[i]?=some p→x.cells[i]?=some y→ah P μ p y)∧∃y,x.cells[l]?=some y∧af P μ φ (.os id2) y:=by
 obtain⟨t1,_,t3⟩:=Fc h;obtain⟨l,s2,Lc,rs,a1,a2,a3,a4⟩:=t3 j id2 rfl;obtain⟨n1,n2,n3⟩:=toCells_ok hc;refine⟨l,s2,Lc,rs,a2,a3,by omega,n2 id2 (bJ (aeB a1) (by simp[V.has])),fun P μ φ x hx=>?_⟩;obtain⟨x1,x2,x3⟩:=n3 P μ φ x hx;refine⟨x1,x3,fun i p y hi hp hy=>?_,?_⟩
 ·grind [uP]
 ·have hl:l<x.cells.size:=by grind
  exact⟨x.cells[l],OF hl,x2 l _ _ a1 (OF hl)⟩
theorem Di{s off n:Nat}{e:PV}{ps:List PV}(hn:ps.length=n)(hb:off+n≤s)(h0:0<n)(ha:s=1→∀p,ps.head? =some p→∀cs,p≠.agg cs):(if s=1 then ps.headD .bad else PV.agg (bI (aC s e) off ps)).cells=bI (aC s e) off ps:=by
 split
 ·rename_i h1;subst h1;have e1:off=0:=by omega
  have e2:n=1:=by omega
  subst e1;subst e2;match ps,hn with
  |[p],_=>
   have:=ha rfl p rfl;have hp:p.cells=[p]:=by cases p<;>first|rfl|exact absurd rfl (this _)
   simp only[List.headD_cons,hp,dU,alZ,alz,akd,akm];rfl
 rfl
theorem Ff{T:Type}{cs ps:List T}{off l:Nat}{x:T}(hl:l<ps.length)(hb:off+ps.length≤cs.length):bI cs off (ps.set l x)=(bI cs off ps).set (off+l) x:=by
 have hto:(cs.take off).length=off:=by simp;omega
 simp_all[dU,alS,akh,List.set_append,IS,AI]
theorem Fg{id id2:Nat}{B X:bH}(cK:id2≠id):ao (fa id (bh (bE id2 (ao m id B)) id2)) id X=ao (fa id (bh (bE id2 m) id2)) id X:=by
 funext t;by_cases h:t=id
 ·subst h;simp
 ·rw[aq h,aq h];unfold fa;by_cases h2:t=id2
  ·subst h2;simp
  simp_all[gn,bE,aq]
end
section
variable {R:Type} {E:Env}
theorem Vo{t:TypeId}{v:V}{id i off s id2 j:Nat}{et:TypeId}{es ps:List PV}{cs:List V}{e:PV}{m:Mem}(hm:m id=some (.nest s et es))(hc:toCells (aN E.P t) v=some cs)(ht:lX m 0 cs=some (ps,some (j,id2)))(hb:off+aN E.P t≤s)(h0:0<aN E.P t)(cK:id2≠id)(he:es[i]?=some e){G:Nat→Option (List PV)}{w0:bA}{μ:Ro}{φ:Nat→aA}{w:World}{f:Fr}{ρ:Nat→Value}{ya yx:Value}(hM:av E.P G w0 μ φ m w)(hF:bR E.P μ φ m f ρ)(ha:af E.P μ φ (.oe id i off) ya)(hx:af E.P μ φ v yx):∃w' φ',(Instr.storeAt t ya yx).run E.P w=.ok () w'∧av E.P G w0 μ φ' (uD [(id,.nest s et (es.set i (if s=1 then ps.headD .bad else .agg (bI (aC s e) off ps))))] (km [(true,id2),(false,id)] m)) w'∧bR E.P μ φ' (uD [(id,.nest s et (es.set i (if s=1 then ps.headD .bad else .agg (bI (aC s e) off ps))))] (km [(true,id2),(false,id)] m)) (kf [(true,id2),(false,id)] f) ρ:=by
 obtain⟨l,s2,Lc,rs,cL,ng,Ha,ah5,lL⟩:=Fe hc ht;obtain⟨x1,x2,x3,y,hy,ZU⟩:=lL E.P μ φ yx hx;have St:l<ps.length:=(By.1 ng).1;have hN:aX E.P μ φ w id s et es:=hM.dy id _ hm;have HQ:=hN.2.2.2.2.1 i e he;have HJ:(aC s e).length=s:=aW _ _;have qe:ps=(ps.set l .bad).set l (.qS s2 rs):=by rw[amX];apply aks;grind
 have qY:∀(a:Nat)p,(ps.set l .bad)[a]?=some p→(a=l∧p=.bad)∨(a≠l∧ps[a]?=some p):=fun a p h=>eT h;have hE:tT E.P μ (aN E.P t) (.agg (ps.set l .bad)) yx:=by
  refine⟨by simp[PV.cells,Ha],x1,fun a p z hp hz=>?_,x2⟩;rcases qY a p (by simpa[PV.cells]using hp)with⟨_,rfl⟩|⟨h1,h2⟩
  ·exact .bad
  grind
 have one:s=1→ps.length=1:=fun h=>by omega
 have hq:(if s=1 then ps.headD .bad else PV.agg (bI (aC s e) off ps)).cells=bI (aC s e) off ps:=Di Ha hb h0 fun h1 p hp Nz=>by grind [List.head?_eq_getElem?,Option.some.injEq]
 have hq':(if s=1 then(ps.set l .bad).headD .bad else PV.agg (bI (aC s e) off (ps.set l .bad))).cells=bI (aC s e) off (ps.set l .bad):=Di (by simpa using Ha) hb h0 fun h1 p hp Nz=>by
  have P8:l=0:=by omega
  subst P8;rw[ama,akQ,AI rfl,AI St]at hp;grind
 generalize (if s=1 then ps.headD .bad else PV.agg (bI (aC s e) off ps))=q at hq⊢;generalize (if s=1 then(ps.set l .bad).headD .bad else PV.agg (bI (aC s e) off (ps.set l .bad)))=q' at hq';cases ha with
 | @oe _ _ _ g hg=>
  obtain⟨c,T,hh,mH,Ai,hrw⟩:=aX.set (q:=q') hN (hM.apart id _ hm) hg he hE hb (by rw[hq'];rfl);have oP:(φ id).sz=s:=hN.2.1;have hi:=kV (P:=E.P) (t:=t) (by omega);have vF:av E.P G w0 μ φ (ao m id (.nest s et (es.set i q'))) (w.setRow g (bI c.toList (i*s+off) yx.cells.toList).toArray):=hM.write hm rfl hg (lM.setRow (akk _)) setRow_size (fun k hk=>bT hk) Ai rfl (fun j hj=>by simp[bH.names]at hj) (fun st h=>by cases h) hrw;have Uv:i<es.length:=(By.1 he).1;have ae2:q.cells=q'.cells.set (off+l) (.qS s2 rs):=by grind [Ff]
  have Bc:q'.cells[off+l]?=some .bad:=by rw[hq',Ff St (by omega),akQ,AI rfl,AI];grind [cn]
  have wG:=av.acV vF (id:=id) (id2:=id2) (i:=i) (off:=off+l) (e:=q') (q:=q) (x:=y) cK (bL _ _ _) (by rw[aq cK];exact cL) (by simp[Uv]) Bc (fun g0 c0 _ Nx K7=>by
   rw[hg]at Nx;simp only[cO]at Nx;subst Nx;rw[setRow_heap w g c _ T (0,0) hh]at K7;simp only[cO,Obj.cells.injEq]at K7;obtain⟨rfl,_⟩:=K7;rw[akH,dU];have bZ:(c.toList.take (i*s+off)).length=i*s+off:=by simp;omega
   have K6:l<yx.cells.toList.length:=by grind
   rw[akh,akX (by omega),bZ,show i*s+(off+l)-(i*s+off)=l by omega,ak1 K6];simpa using hy) ZU ae2
  rw[amX,Fg cK]at wG;refine⟨_,_,by grind [gq],wG,?_⟩;have DS:bR E.P μ φ (ao m id (.nest s et (es.set i q'))) f ρ:=hF.nA (fun _ _ h=>h) .set;have ZV:=(DS.forget id2).vH id;refine ZV.abO (by simp[kW]) (fun k hk=>by simp[hk]) fun k hk=>?_;show(ao (fa id (bh (bE id2 m) id2)) id _ k).isSome=true;by_cases e1:k=id
  ·subst e1;simp
  ·rw[aq e1];rw[pC]at hk⊢;by_cases e2:k=id2
   ·subst e2;simp at hk
   grind [gn,bE,aq]
end
section
variable {R:Type} {E:Env}
variable{e:TypeId}{id2:Nat}{G:Nat→Option (List PV)}{w0:bA}{φ:Nat→aA}{w:World}{ρ:Nat→Value}
theorem SH{t:TypeId}{v:V}{j site:Nat}{cs:List V}{ps:List PV}{p:PV}{m:Mem}(hu:E.P.underlying t=some (.slice e))(hc:toCells (aN E.P e) v=some cs)(ht:lX m 0 cs=some (ps,some (j,id2)))(hs:m site=none)(hp:elemOf (ax E.P e) ps=some p)(fl:0<aN E.P e)(Cq:aN E.P e≤16777216)(hz:(cZ E e).isSome=true){μ:Ro}{f:Fr}{yx:Value}(hM:av E.P G w0 μ φ m w)(hF:bR E.P μ φ m f ρ)(hx:af E.P μ φ v yx):∃y w' φ',(Instr.buildSlice t 1 #[(0,yx)]).run E.P w=.ok y w'∧av E.P G w0 μ φ' (uD [(site,.nest (aN E.P e) e [p])] (km [(true,id2)] m)) w'∧bR E.P μ φ' (uD [(site,.nest (aN E.P e) e [p])] (km [(true,id2)] m)) (kf [(true,id2)] f) ρ∧af E.P μ φ' (.os site) y:=by
 obtain⟨l,s2,Lc,rs,cL,ng,Ha,ah5,lL⟩:=Fe hc ht;obtain⟨x1,x2,x3,z,hz1,hvz⟩:=lL E.P μ φ yx hx;obtain⟨zc,Ut⟩:=akq.1 hz;obtain⟨iz,zv,i1,i2,i3,_⟩:=eu Ut;have cK:id2≠site:=fun e=>by simp_all
 have SI:p.cells=ps:=by
  unfold elemOf at hp;split at hp
  ·simp only[cO]at hp;subst hp;rfl
  ·split at hp
   ·rename_i q;simp only[cO]at hp;subst hp;have P8:l=0:=by grind
    subst P8;simp only[akG,cO]at ng;subst ng;rfl
   ·cases hp
 have hA2:aH E.P μ φ w id2 s2 Lc rs:=hM.dy id2 _ cL;have ajK:Instr.fill (fun i=>some (i*aN E.P e,aN E.P e)) ((Array.range (1*aN E.P e)).map (zv.cells[·%zv.cells.size]!)) [(0,yx)]=some yx.cells:=by
  have NT:((Array.range (1*aN E.P e)).map (zv.cells[·%zv.cells.size]!)).size=aN E.P e:=by simp
  rw[y8 (off:=0) (size:=aN E.P e) (by simp) x1 (by omega)];simp only[Instr.fill,cO];apply alG;simp only[dU,alZ,alz,akV];simp_all
 have uJ:=run_buildSlice (P:=E.P) w t e 1 #[(0,yx)] yx.cells iz zv hu i1 i2 (by omega) (by omega) (by rw[i3];omega);let q:aA:={g:=some w.heap.size,cap:=1,len:=1,sz:=aN E.P e,row:=fun a b=>if a=0∧b=l then(φ id2).toC6 else default};have K4:∀k,(bh (bE id2 m) id2 k).isSome=true→k≠site:=fun k hk e=>by simp_all[gn,Ne.symm,bE]
 have Vp:∀a b,(bH.nest (aN E.P e) e [p]).rowAt a b=true→a=0∧b=l:=by
  intro a b hr;rcases kx hr with⟨_,_,_,e',s',rs',jc,h',uS⟩|⟨_,_,_,_,_,_,jc,_⟩
  ·simp only[bH.nest.injEq]at jc;obtain⟨rfl,rfl,rfl⟩:=jc;cases a with
   |succ a=>simp at h'
   |zero=>
    simp only[akG,cO]at h';subst h';rw[SI]at uS;refine⟨rfl,?_⟩;by_cases Uw:b=l
    ·exact Uw
    ·exfalso;have bZ:b<yx.cells.size:=by rw[x1,←Ha];exact(By.1 uS).1
     exact absurd (x3 b _ _ Uw uS (OF bZ)).Ea (by simp[PV.isRow])
  ·cases jc
 have vF:=hM.forget id2;have mJ:av E.P G w0 μ (fun i=>if i=site then q else φ i) (ao (bh (bE id2 m) id2) site (.nest (aN E.P e) e [p])) (w.alloc (.cells yx.cells e)):=by
  have hold:∀k,k<w.heap.size→(w.alloc (.cells yx.cells e)).heap[k]?=w.heap[k]?:=fun k hk=>lM.heap_alloc w _ k hk;refine vF.put (by rw[gn (Ne.symm cK)];simp[bE,hs]) ((lM.refl _ w).alloc hM.below.size _) (fun k o hk=>?_) (fun id b' g hid hg=>hold g ((vF.dy id b' hid).EV hg)) (fun g hg=>?_) ?_ ?_ (by simp[bH.names]) (fun st h=>by cases h)
  ·have:=hM.ro k o hk;rw[hold k (abq.1 this).1];exact this
  ·rcases hg with hg|⟨a,b,hr,hg⟩
   ·simp only[q,cO]at hg;subst hg;refine⟨hM.below.size,?_,fun id b' hid ho=>?_⟩
    ·cases hq:μ w.heap.size with
     |none=>rfl
     |some o'=>have:=hM.ro _ _ hq;simp at this
    ·have:=(vF.dy id b' hid).EV ho;omega
   ·have wG:=Vp a b hr;have hg:(φ id2).g=some g:=by simpa[q,wG]using hg
    obtain⟨o1,o2⟩:=hM.own id2 _ g cL (.inl hg);refine⟨o1,o2 rfl,fun id b' hid ho=>?_⟩;obtain⟨h1,b2,uQ,rfl⟩:=fJ hid;exact h1 (hM.inj id id2 _ _ g uQ cL (gp.1 ho) (.inl hg))
  ·intro a b g hr hg;have wG:=Vp a b hr;have hg:(φ id2).g=some g:=by simpa[q,wG]using hg
   refine⟨fun h=>?_,fun a' b' zJ _=>by have:=Vp a' b' zJ;omega⟩;simp only[q,cO]at h;have:=(hM.dy id2 _ cL).EV (.inl hg);omega
  ·show aX E.P μ (fun i=>if i=site then q else φ i) (w.alloc (.cells yx.cells e)) site (aN E.P e) e [p];unfold aX;simp only[Ko];refine⟨rfl,rfl,trivial,fl,fun i e' SJ=>?_,by simp[q,maxLen],yx.cells,e,fM w _,by simp[q,x1],by simp[q],fun i e' b p' x' SJ uS Jf=>?_,fun i x' _ Jf=>x2 i x' Jf⟩
   ·cases i with
    |zero=>simp at SJ;subst SJ;rw[SI,Ha]
    |succ i=>simp at SJ
   ·cases i with
    |succ i=>simp at SJ
    |zero=>
     simp only[akG,cO]at SJ;subst SJ;rw[SI]at uS;rw[ane,akV]at Jf;by_cases Uw:b=l
     ·subst Uw;rw[ng]at uS;simp only[cO]at uS;subst uS;rw[hz1]at Jf;simp only[cO]at Jf;subst Jf;have:q.row 0 b=(φ id2).toC6:=by simp[q]
      rw[this];refine eF.cj ⟨⟨Lc,hA2.up⟩,NO hvz⟩ (fun _ _ h=>h) fun g hg=>hold g ((hM.dy id2 _ cL).EV (.inl hg))
     ·exact .pure (x3 b p' x' Uw uS Jf)
 refine⟨_,_,_,uJ,mJ,?_,?_⟩
 ·exact(hF.forget id2).mono (fun _ _ h=>h) fun k hk=>⟨by simp[K4 k hk],by show(ao (bh (bE id2 m) id2) site _ k).isSome=true;rw[aq (K4 k hk)];exact hk⟩
 ·have:=af.os (P:=E.P) (μ:=μ) (φ:=fun i=>if i=site then q else φ i) (id:=site) (g:=w.heap.size) (by simp[q]);simpa[q]using this
theorem Vq{k v v':PV}:∀{es:List (PV×PV)}{j:Nat},(dh k v es)[j]?=some (k,v)→(nh k es=some j∨(nh k es=none∧j=es.length))→(dh k v es).set j (k,v')=dh k v' es:=by
 intro es j hj hp;rw[nB,nB];rcases hp with hp|⟨hp,rfl⟩
 ·rw[hp];simp
 ·rw[hp];simp
variable{es:List (PV×PV)}
theorem av.ZY{P:Program}{μ:Ro}{m:Mem}(hM:av P G w0 μ φ m w){id i s2:Nat}{kt:TypeId}{k:PV}{rs:List PV}{x:Value}(cK:id2≠id)(hm:m id=some (.fh kt e es))(cL:m id2=some (.arr s2 e rs))(he:es[i]?=some (k,.bad))(hx:∀g en clock,(φ id).g=some g→w.heap[g]?=some (.map en clock)→∃e0,en[i]?=some e0∧e0.val=x)(hv:af P μ φ (.os id2) x):av P G w0 μ (fun j=>if j=id then kW (φ id) i 0 (φ id2).toC6 else φ j) (ao (fa id (bh (bE id2 m) id2)) id (.fh kt e (es.set i (k,.qS s2 rs)))) w:=by
 have vF:=(hM.forget id2).vH id;obtain⟨g0,en,clock,kk,hN⟩:=uV.1 (hM.dy id _ hm);have hA2:aH P μ φ w id2 s2 e rs:=hM.dy id2 _ cL;have ng:∀a b,(bH.fh kt e (es.set i (k,.qS s2 rs))).rowAt a b=true→(a=i∧b=0)∨((bH.fh kt e es).rowAt a b=true∧¬(a=i∧b=0)):=by
  intro a b hr;by_cases wG:a=i∧b=0
  ·exact .inl wG
  ·refine .inr ⟨?_,wG⟩;rcases kx hr with⟨_,_,_,_,_,_,jc,_⟩|⟨_,_,_,k',s',rs',jc,rfl,h'⟩
   ·cases jc
   ·simp only[bH.fh.injEq]at jc;obtain⟨rfl,rfl,rfl⟩:=jc;rcases eT h' with⟨rfl,_⟩|⟨Zo,h'⟩
    ·exact absurd ⟨rfl,rfl⟩ wG
    ·rw[kv h'];rfl
 refine hM.Qa (fun _ k=>if k=id2 then id else k) (fun j b' hj=>?_) (fun j b' g hj ho=>?_) (fun j b' hj=>?_) (fun j cs k hj hk=>?_) (fun j st hj=>?_)
 ·rcases fK hj with⟨rfl,rfl⟩|⟨h1,h2,c,hc,rfl⟩
  ·refine uV.2 ⟨g0,en,clock,kk,by simp[kW,hN.pl],hN.heap,by simp[hN.size],hN.B6,fun a k' v' h'=>?_,hN.born,fun a k' v' e' h' SJ=>?_⟩
   ·rcases eT h' with⟨rfl,hq⟩|⟨_,h'⟩
    ·simp only[Ua]at hq;rw[hq.1];exact hN.key a k _ he
    ·exact hN.key a k' v' h'
   ·simp only[Ko];rcases eT h' with⟨rfl,hq⟩|⟨Zo,h'⟩
    ·simp only[Ua]at hq;obtain⟨rfl,rfl⟩:=hq;refine⟨(hN.rep a _ _ e' he SJ).1,?_⟩;rw[gw];obtain⟨e1,he1,hxe⟩:=hx g0 en clock hN.pl hN.heap;rw[SJ]at he1;simp only[cO]at he1;subst he1;rw[hxe];exact⟨hA2.up,NO hv⟩
    ·rw[gN _ _ (fun h=>Zo h.1)];exact hN.rep a k' v' e' h' SJ
  ·have hb:gM P μ φ w j (dM id (gv id2 c)):=(hM.dy j c hc).kill.zF;exact hb.Qb h1 (by simp[kW]) fun k hk=>by simp[hk]
 ·rcases fK hj with⟨rfl,rfl⟩|⟨h1,h2,c,hc,rfl⟩
  ·simp only[Ko]at ho;rcases ho with ho|⟨a,b,hr,ho⟩
   ·exact⟨j,_,hm,.inl ho,fun _=>rfl,by simp[cK.symm]⟩
   ·rcases ng a b hr with⟨rfl,rfl⟩|⟨zJ,wG⟩
    ·rw[gw]at ho;exact⟨id2,_,cL,.inl ho,fun _=>rfl,by simp⟩
    ·rw[gN _ _ wG]at ho;exact⟨j,_,hm,.inr ⟨a,b,zJ,ho⟩,fun _=>rfl,by simp[cK.symm]⟩
  ·simp only[h1,abp]at ho;exact⟨j,c,hc,gp.1 (sl.1 ho),fun h=>by rw[Aq,yZ]at h;exact h,by simp[h2]⟩
 ·rcases fK hj with⟨rfl,rfl⟩|⟨h1,h2,c,hc,rfl⟩
  ·simp only[Ko];have G7:=hM.apart j _ hm;have new:∀g,(φ id2).g=some g→¬(bH.fh kt e es).owns (φ j) g:=fun g hg ho=>cK (hM.inj id2 j _ _ g cL hm (.inl hg) ho);intro a b g hr hg;rcases ng a b hr with⟨rfl,rfl⟩|⟨zJ,wG⟩
   ·rw[gw]at hg;refine⟨fun h=>new g hg (.inl h),fun a' b' NP Jl=>?_⟩;rcases ng a' b' NP with h|⟨ZX,NQ⟩
    ·exact h
    ·rw[gN _ _ NQ]at Jl;exact absurd (.inr ⟨a',b',ZX,Jl⟩) (new g hg)
   ·rw[gN _ _ wG]at hg;obtain⟨h3,h4⟩:=G7 a b g zJ hg;refine⟨h3,fun a' b' NP Jl=>?_⟩;rcases ng a' b' NP with⟨rfl,rfl⟩|⟨ZX,NQ⟩
    ·rw[gw]at Jl;exact absurd (.inr ⟨a,b,zJ,hg⟩) (new g Jl)
    ·rw[gN _ _ NQ]at Jl;exact h4 a' b' ZX Jl
  ·simp only[h1,abp];exact xD.2 (vE.2 (hM.apart j c hc))
 ·rcases fK hj with⟨rfl,hb⟩|⟨h1,h2,c,hc,hb⟩
  ·cases hb
  ·have Zq:fa id (bh (bE id2 m) id2) j=some (.box cs):=by rw[aq h1]at hj;exact hj
   have:=vF.fT j cs k Zq hk;by_cases e:k=id
   ·subst e;simp
   ·rw[aq e];exact this
 ·rcases fK hj with⟨rfl,hb⟩|⟨h1,h2,c,hc,hb⟩
  ·cases hb
  ·cases c<;>first|(simp[dM,gv]at hb;done)|skip
   simp only[dM,gv,bH.loop.injEq]at hb;subst hb;exact⟨hc,by simp[h1]⟩
theorem SK{t kt et:TypeId}{xk:V}{id s:Nat}{key:PV}{rs:List PV}{m:Mem}(hu:E.P.underlying t=some (.map kt et))(hm:m id=some (.fh kt e es))(cL:m id2=some (.arr s e rs))(zw:keyOf E kt xk=some key){μ:Ro}{f:Fr}{ya yk yv:Value}(hM:av E.P G w0 μ φ m w)(hF:bR E.P μ φ m f ρ)(ha:af E.P μ φ (.om id) ya)(hk:af E.P μ φ xk yk)(hv:af E.P μ φ (.os id2) yv):∃w' φ',(Instr.mapUpdate t ya yk yv).run E.P w=.ok () w'∧av E.P G w0 μ φ' (uD [(id,.fh kt e (dh key (.qS s rs) es))] (km [(true,id2),(false,id)] m)) w'∧bR E.P μ φ' (uD [(id,.fh kt e (dh key (.qS s rs) es))] (km [(true,id2),(false,id)] m)) (kf [(true,id2),(false,id)] f) ρ:=by
 have cK:id2≠id:=fun h=>by subst h;rw[hm]at cL;cases cL
 obtain⟨ks,k1,k2,k3⟩:=uT zw;obtain⟨g,en,clock,kk,hN⟩:=uV.1 (hM.dy id _ hm);have AV:=hN.B6;rw[k1]at AV;simp only[cO]at AV;subst AV;have Sw:=y9 k1;have hkr:=k3 μ φ yk hk;obtain⟨hc,hkv⟩:=na k2 hkr;obtain⟨res,r1,r2⟩:=mh (v:=.rQ) (z:=.bad) Sw hc w hN.ent;have G6:=Go.MapKept.run_getObj_map (P:=E.P) hN.heap;have h1:(Instr.checkKey false 10000 kt yk).run E.P w=.ok () w:=by rw[hkv];exact iF 8 kt ks Sw 9992 w false key.cells hc
 rw[←hkv]at r1;have bZ:g<w.heap.size:=(abq.1 hN.heap).1;cases ha with
 |om cS=>
  rw[hN.pl]at cS;simp only[cO]at cS;subst cS;have fin:∀(J:Nat)(Nf:Array MapEntry)(qi:Nat),(nh key es=some J∨(nh key es=none∧J=es.length))→(Instr.mapUpdate t (.map (some g)) yk yv).run E.P w=.ok () {w with heap:=w.heap.setIfInBounds g (.map Nf qi)}→mF Nf qi→Nf.size=(dh key .bad es).length→(∃e0,Nf[J]?=some e0∧e0.key=yk∧e0.val=yv)→(∀i e0,i≠J→Nf[i]?=some e0→en[i]?=some e0)→∃w' φ',(Instr.mapUpdate t (.map (some g)) yk yv).run E.P w=.ok () w'∧av E.P G w0 μ φ' (uD [(id,.fh kt e (dh key (.qS s rs) es))] (km [(true,id2),(false,id)] m)) w'∧bR E.P μ φ' (uD [(id,.fh kt e (dh key (.qS s rs) es))] (km [(true,id2),(false,id)] m)) (kf [(true,id2),(false,id)] f) ρ:=by
   intro J Nf qi hJ hr yS oP hJe DU;obtain⟨eJ,ae3,ah6,ah7⟩:=hJe;have mJ:∀i k' v',(dh key .bad es)[i]?=some (k',v')→(i=J∧k'=key∧v'=.bad)∨(i≠J∧es[i]?=some (k',v')):=by
    intro i k' v' h;rw[nB]at h;rcases hJ with hJ|⟨hJ,rfl⟩
    ·rw[hJ]at h;rcases eT h with⟨rfl,hq⟩|⟨Zo,h⟩
     ·simp only[Ua]at hq;exact .inl ⟨rfl,hq.1,hq.2⟩
     ·exact .inr ⟨Zo,h⟩
    ·rw[hJ]at h;simp only at h;rw[akA]at h;split at h
     ·rename_i bZ;exact .inr ⟨by omega,h⟩
     ·rename_i G8;cases hd:i-es.length with
      |zero=>rw[hd]at h;simp only[akG,cO,Ua]at h;exact .inl ⟨by omega,h.1.symm,h.2.symm⟩
      |succ n=>rw[hd]at h;simp at h
   have hJb:(dh key .bad es)[J]?=some (key,.bad):=by
    rw[nB];rcases hJ with hJ|⟨hJ,rfl⟩
    ·rw[hJ];obtain⟨a,u,hj,_⟩:=Ec hJ;simp[(By.1 hj).1]
    ·rw[hJ];simp
   have vF:av E.P G w0 μ φ (ao m id (.fh kt e (dh key .bad es))) {w with heap:=w.heap.setIfInBounds g (.map Nf qi)}:=by
    refine hM.write hm rfl hN.pl ⟨⟨rfl,rfl,rfl,by simp,fun k hk=>by simp[alA (Nat.ne_of_gt hk)]⟩,fun _=>akk _⟩ (by simp) (fun k hk=>by simp[alA (Ne.symm hk)]) (uV.2 ⟨g,Nf,qi,ks,hN.pl,by simp[bZ],oP,k1,fun i k' v' h=>?_,yS,fun i k' v' e0 h Vl=>?_⟩) rfl (by simp[bH.names]) (fun st h=>by cases h) fun a b hr=>?_
    ·rcases mJ i k' v' h with⟨_,rfl,_⟩|⟨_,h⟩
     ·exact k2
     ·exact hN.key i k' v' h
    ·rcases mJ i k' v' h with⟨rfl,rfl,rfl⟩|⟨Zo,h⟩
     ·rw[ae3]at Vl;simp only[cO]at Vl;subst Vl;exact⟨by rw[ah6];exact hkr,.pure .bad⟩
     ·obtain⟨q1,q2⟩:=hN.rep i k' v' e0 h (DU i e0 Zo Vl);refine⟨q1,?_⟩;unfold Fa at q2⊢;split at q2
      ·refine⟨q2.1.cj rfl (fun _ _ h=>h) fun g' cS=>?_,q2.2⟩;have hr:(bH.fh kt e es).rowAt i 0=true:=by rw[kv h];rfl
       have:=(hM.apart id _ hm i 0 g' hr cS).1;rw[hN.pl]at this;simp only[ne_eq,cO]at this;simp[alA this]
      ·exact q2
    ·rcases kx hr with⟨_,_,_,_,_,_,jc,_⟩|⟨_,_,_,k',s',rs',jc,rfl,h'⟩
     ·cases jc
     ·simp only[bH.fh.injEq]at jc;obtain⟨rfl,rfl,rfl⟩:=jc;rcases mJ a k' _ h' with⟨_,_,h⟩|⟨_,h⟩
      ·cases h
      ·rw[kv h];rfl
   have wG:=av.ZY vF (id:=id) (id2:=id2) (i:=J) (x:=yv) cK (bL _ _ _) (by rw[aq cK];exact cL) hJb (fun g0 en0 ah8 Nx hh0=>by
    rw[hN.pl]at Nx;simp only[cO]at Nx;subst Nx;have:(w.heap.setIfInBounds g (Obj.map Nf qi))[g]?=some (.map Nf qi):=by simp[bZ]
    rw[this]at hh0;simp only[cO,Obj.map.injEq]at hh0;obtain⟨rfl,_⟩:=hh0;exact⟨eJ,ae3,ah7⟩) hv
   rw[Vq hJb hJ,Fg cK]at wG;refine⟨_,_,hr,wG,?_⟩;have DS:bR E.P μ φ (ao m id (.fh kt e (dh key .bad es))) f ρ:=hF.nA (fun _ _ h=>h) .set;refine((DS.forget id2).vH id).abO (by simp[kW]) (fun k hk=>by simp[hk]) fun k hk=>?_;show(ao (fa id (bh (bE id2 m) id2)) id _ k).isSome=true;by_cases e1:k=id
   ·subst e1;simp
   ·rw[aq e1];rw[pC]at hk⊢;by_cases e2:k=id2
    ·subst e2;simp at hk
    ·rw[gn e2]at hk⊢;simp only[bE,aq e1]at hk⊢;exact hk
  rcases HX r2 with⟨rfl,hp⟩|⟨j,e0,rfl,Vl,hp⟩
  ·have Sx:=Go.MapKept.run_setObj_map (P:=E.P) (.map (en.push {key:=yk,val:=yv,born:=clock}) (clock+1)) hN.heap;refine fin es.length _ _ (.inr ⟨hp,rfl⟩) (by simp only[Instr.mapUpdate,Sem.run_bind,run_underlying hu,G6,h1,r1,Result.andThen_ok];exact Sx) hN.born.push (by rw[nB,hp];simp[hN.size]) ⟨{key:=yk,val:=yv,born:=clock},?_,rfl,rfl⟩ fun i e0 hi h=>?_
   ·rw[←hN.size];simp
   ·rw[aml]at h;split at h
    ·rename_i h';rw[hN.size]at h';exact absurd h' hi
    ·exact h
  ·have ZZ:en[j]?=some e0:=by simpa using Vl
   obtain⟨a,u,haj,hpq⟩:=Ec hp;obtain⟨hca,hva⟩:=na (hN.key j a u haj) (hN.rep j a u e0 haj ZZ).1;have vG:=Jh hc hca hpq;have hsb:Instr.sameBits 10000 e0.key yk=true:=by rw[hva,hkv,←vG];refine xC (n:=9999) hc (fun ha=>?_);rw[qX hc];exact(yX Sw).2.1 ha
   have Sx:=Go.MapKept.run_setObj_map (P:=E.P) (.map (en.modify j fun e=>{e with key:=yk,val:=yv}) clock) hN.heap;have Am:j<en.size:=(abq.1 ZZ).1;refine fin j _ _ (.inl hp) (by simp only[Instr.mapUpdate,Sem.run_bind,run_underlying hu,G6,h1,r1,Result.andThen_ok];simp only[akV,ZZ,akb,ak2,Instr.keyThatStays,hsb,Ko,Sem.run_pure,Result.andThen_ok];exact Sx) (hN.born.modify (fun e=>{e with key:=yk,val:=yv}) (fun _=>rfl) _) (by rw[nB,hp];simp[hN.size]) ⟨{e0 with key:=yk,val:=yv},by rw[alu,AI rfl,ZZ];rfl,rfl,rfl⟩ fun i e1 hi h=>?_;rw[alu,IS (Ne.symm hi)]at h;exact h
end
section
variable {P:Program} {G:Nat→Option (List PV)} {w0:bA} {μ μ':Ro} {φ φ':Nat→aA} {m m':Mem} {w w':World}
structure lN(P:Program)(μ:Ro)(rows:Nat→Nat→C6)(w:World)(s:Nat)(es:List PV)(xs:List Value):Prop where
 len:xs.length=es.length*s
 each:∀(i:Nat)e,es[i]?=some e→e.cells.length=s
 rep:∀(i:Nat)e(j:Nat)p x,es[i]?=some e→e.cells[j]?=some p→xs[i*s+j]?=some x→ec P μ (rows i j) w p x
 one:∀(i:Nat)(x:Value),xs[i]?=some x→x.oneCell'=true
variable{rows:Nat→Nat→C6}{es:List PV}{xs:List Value}
theorem lN.append{Fh Vr:Nat→Nat→C6}{s:Nat}{es':List PV}{xs':List Value}(h:lN P μ rows w s es xs)(h':lN P μ Fh w s es' xs')(h1:∀i j,i<es.length→Vr i j=rows i j)(h2:∀i j,es.length≤i→Vr i j=Fh (i-es.length) j):lN P μ Vr w s (es++es') (xs++xs'):=by
 refine⟨by simp[h.len,h'.len,akR],fun i e he=>?_,fun i e j p x he hp hx=>?_,fun i x hx=>?_⟩
 ·rw[akA]at he;split at he
  ·exact h.each i e he
  ·exact h'.each _ e he
 ·rw[akA]at he;split at he
  ·rename_i hi;rw[h1 i j hi];have hj:j<s:=by rw[←h.each i e he];grind
   rw[ak1 (by rw[h.len];exact E1 hi hj)]at hx;exact h.rep i e j p x he hp hx
  ·rename_i hi;rw[h2 i j (by omega)];have e1:i*s+j=es.length*s+((i-es.length)*s+j):=by
    have:i=es.length+(i-es.length):=by omega
    grind
   rw[akX (by rw[h.len,e1];omega),h.len,show i*s+j-es.length*s=(i-es.length)*s+j by omega]at hx;exact h'.rep _ e j p x he hp hx
 ·rw[akA]at hx;split at hx
  ·exact h.one i x hx
  ·exact h'.one _ x hx
theorem Cells.Jm{s:Nat}(h:Cells P μ s es xs):lN P μ rows w s es xs:=⟨h.len,h.each,fun i e j p x he hp hx=>.pure (h.rep i e j p x he hp hx),h.one⟩
theorem lN.cj{rows:Nat→Nat→C6}{s:Nat}{es:List PV}{xs:List Value}(h:lN P μ rows w s es xs)(hw:∀i e j p g,es[i]?=some e→e.cells[j]?=some p→p.isRow=true→(rows i j).g=some g→w'.heap[g]?=w.heap[g]?):lN P μ rows w' s es xs:=⟨h.len,h.each,fun i e j p x he hp hx=>(h.rep i e j p x he hp hx).cj (fun _ _ h=>h) fun hr g hg=>hw i e j p g he hp hr hg,h.one⟩
theorem aX.Jm{id sz:Nat}{et:TypeId}(h:aX P μ φ w id sz et es){g:Nat}(hg:(φ id).g=some g):∃(c:Array Value)(T:TypeId),w.heap[g]?=some (.cells c T (0,0))∧(φ id).cap*sz≤c.size∧es.length≤(φ id).cap∧lN P μ (φ id).row w sz es (c.toList.take (es.length*sz)):=by obtain⟨a1,a2,a3,a4,a5,a6,a7⟩:=h;rw[hg]at a7;obtain⟨c,T,c1,c2,c3,c4,c5⟩:=a7;have hle:es.length*sz≤c.size:=akT (ahw _ c3) c2;refine⟨c,T,c1,c2,c3,by simp;omega,a5,fun i e j p x he hp hx=>c4 i e j p x he hp (by grind),fun i x hx=>?_⟩;grind
theorem lN.nest{id g sz:Nat}{et T:TypeId}{c:Array Value}(ZR:(φ id).toC6=⟨some g,(φ id).cap,es.length,sz⟩)(oP:sz=aN P et)(fl:0<sz)(qW:(φ id).cap≤maxLen)(hh:w.heap[g]?=some (.cells c T (0,0)))(hc:(φ id).cap*sz≤c.size)(hle:es.length≤(φ id).cap)(hC:lN P μ (φ id).row w sz es (c.toList.take (es.length*sz))):aX P μ φ w id sz et es:=by
 have e1:(φ id).g=some g:=by rw[ZR]
 refine⟨by rw[ZR],by rw[ZR],oP,fl,hC.each,qW,?_⟩;rw[e1];have Am:∀(i:Nat)e(j:Nat)p,es[i]?=some e→e.cells[j]?=some p→i*sz+j<es.length*sz:=fun i e j p hi hj=>E1 (By.1 hi).1 (by rw[←hC.each i e hi];grind);refine⟨c,T,hh,hc,hle,fun i e j p x hi hj hx=>?_,fun i x hi hx=>?_⟩
 ·exact hC.rep i e j p x hi hj (by grind)
 ·exact hC.one i x (by grind)
end
section
variable {R:Type} {E:Env}
def Qc(src:Option Nat)(m:Mem):Mem:=match src with|some id2=>bh (bE id2 m) id2|none=>m
def kfS(src:Option Nat)(f:Fr):Fr:=match src with|some id2=>eS id2 f|none=>f
variable{src:Option Nat}
theorem Vs{m:Mem}{j:Nat}{b:bH}(h:Qc src m j=some b):src≠some j∧∃b',m j=some b'∧b.rowAt=b'.rowAt:=by
 cases src with
 |none=>exact⟨by simp,b,h,rfl⟩
 |some id2=>obtain⟨h1,b',h2,rfl⟩:=fJ h;grind [vD]
theorem SL{t e ty:TypeId}{x:V}{id s:Nat}{es new:List PV}{rd:bq}{m:Mem}(hu:E.P.underlying t=some (.slice e))(hm:m id=some (.nest s e es))(hs:s=aN E.P e)(hz:(cZ E e).isSome=true)(fl:0<aN E.P e)(hby:0<GZ E.P e)(fm:(es++new).length*GZ E.P e≤ae)(Ao:(∃id2,src=some id2∧id2≠id∧x=.os id2∧m id2=some (.nest s e new))∨(src=none∧fv m s x=some (new,rd))){G:Nat→Option (List PV)}{w0:bA}{μ:Ro}{φ:Nat→aA}{w:World}{f:Fr}{ρ:Nat→Value}{ys yx:Value}(hM:av E.P G w0 μ φ m w)(hF:bR E.P μ φ m f ρ)(ha:af E.P μ φ (.os id) ys)(hx:af E.P μ φ x yx):∃w' y φ',(Builtin.append_ #[t,t] ty #[ys,yx]).run E.P w=.ok y w'∧av E.P G w0 μ φ' (ao (bh (bE id (Qc src m)) id) id (.nest s e (es++new))) w'∧bR E.P μ φ' (ao (bh (bE id (Qc src m)) id) id (.nest s e (es++new))) (eS id (kfS src f)) ρ∧af E.P μ φ' (.os id) y:=by
 obtain⟨zc,Ut⟩:=akq.1 hz;obtain⟨i,zv,hi,hzv,his,_,P7,_,_,_⟩:=eu Ut;have hN:aX E.P μ φ w id s e es:=hM.dy id _ hm;have St:(es++new).length=es.length+new.length:=by simp
 have y7:0<s:=by omega
 obtain⟨Fh,zJ⟩:∃Fh:Nat→Nat→C6,Fh=match src with|some id2=>(φ id2).row|none=>fun _ _=>default:=⟨_,rfl⟩
 obtain⟨os,hos,hC⟩:∃os,((ys=.slice none 0 0∧es.length=0∧os=[])∨∃(g cap:Nat)(c:Array Value)(T:TypeId),ys=.slice (some ⟨g,0,none⟩) es.length cap∧w.heap[g]?=some (.cells c T (0,0))∧cap*s≤c.size∧es.length≤cap∧cap≤maxLen∧os=c.toList.take (es.length*s))∧lN E.P μ (φ id).row w s es os:=by
  cases ha with
  |tp hg=>have a7:=hN.2.2.2.2.2.2;rw[hg]at a7;rw[a7.1];exact⟨[],.inl ⟨rfl,rfl,rfl⟩,by simp,by simp,fun i e j p x he=>by simp at he,by simp⟩
  | @os _ g hg=>obtain⟨c,T,c1,c2,c3,c4⟩:=hN.Jm hg;exact⟨_,.inr ⟨g,(φ id).cap,c,T,by rw[hN.1],c1,c2,c3,hN.2.2.2.2.2.1,rfl⟩,c4⟩
 obtain⟨xs,Kw,hCx⟩:∃xs,((yx=.slice none 0 0∧new.length=0∧xs=[])∨∃(a:Addr)(cx:Nat),yx=.slice (some a) new.length cx∧xs.length=new.length*s∧(∀(j:Nat)v,xs[j]?=some v→w.cell? (a.add j)=some v)∧(∀v∈xs,v.oneCell'=true)∧new.length≤cx∧cx≤maxLen)∧lN E.P μ Fh w s new xs:=by
  rcases Ao with⟨id2,rfl,cK,rfl,cL⟩|⟨rfl,HQ⟩
  ·have Z0:aX E.P μ φ w id2 s e new:=hM.dy id2 _ cL;simp only at zJ;subst zJ;cases hx with
   |tp hg=>have a7:=Z0.2.2.2.2.2.2;rw[hg]at a7;rw[a7.1];exact⟨[],.inl ⟨rfl,rfl,rfl⟩,by simp,by simp,fun i e j p x he=>by simp at he,by simp⟩
   | @os _ g hg=>
    obtain⟨c,_,c1,c2,c3,c4⟩:=Z0.Jm hg;refine⟨_,.inr ⟨⟨g,0,none⟩,(φ id2).cap,by rw[Z0.1],c4.len,fun j v hj=>?_,fun v hv=>?_,c3,Z0.2.2.2.2.2.1⟩,c4⟩
    ·grind [Addr.add_mid,dp,iD]
    ·obtain⟨j,hj⟩:=aky hv;exact c4.one j v hj
  ·obtain⟨_,_,hsr⟩:=oQ HQ;have:=hsr _ _ _ _ _ _ _ hM hx;cases this with
   |none hn=>subst hn;exact⟨[],.inl ⟨rfl,rfl,rfl⟩,by simp,by simp,fun i e j p x he=>by simp at he,by simp⟩
   | @some a cx xs hC Kw hcx Vc=>exact⟨xs,.inr ⟨a,cx,rfl,hC.len,Kw,fun u hu=>by obtain⟨j,hj⟩:=aky hu;exact hC.one j u hj,hcx,Vc⟩,hC.Jm⟩
 obtain⟨w',y,hr,Vd⟩:=E2 (ty:=ty) hu hi hzv (by omega) hs fl hby (by simp_all) hos Kw;let qN:Nat→Nat→C6:=fun a b=>if a<es.length then(φ id).row a b else Fh (a-es.length) b;have hCC:lN E.P μ qN w s (es++new) (os++xs):=hC.append hCx (fun a b h=>by grind) (fun a b h=>by grind);have ng:∀a b g,(bH.nest s e (es++new)).rowAt a b=true→(qN a b).g=some g→(a<es.length∧(bH.nest s e es).rowAt a b=true∧((φ id).row a b).g=some g)∨(es.length≤a∧∃id2,src=some id2∧id2≠id∧m id2=some (.nest s e new)∧(bH.nest s e new).rowAt (a-es.length) b=true∧((φ id2).row (a-es.length) b).g=some g):=by
  intro a b g Ku hg;rcases kx Ku with⟨_,_,_,e',s',rs',jc,h',uS⟩|⟨_,_,_,_,_,_,jc,_⟩
  ·simp only[bH.nest.injEq]at jc;obtain⟨rfl,rfl,rfl⟩:=jc;by_cases bZ:a<es.length
   ·rw[ak1 bZ]at h';exact .inl ⟨bZ,by rw[du h' uS];rfl,by grind⟩
   ·rw[akX (by omega)]at h';simp only[qN,bZ,abp]at hg;rcases Ao with⟨id2,rfl,cK,rfl,cL⟩|⟨rfl,HQ⟩
    ·simp only at zJ;subst zJ;exact .inr ⟨by omega,id2,rfl,cK,cL,by rw[du h' uS];rfl,hg⟩
    ·exfalso;obtain⟨_,_,hsr⟩:=oQ HQ;have h3:=hsr _ _ _ _ _ _ _ hM hx;cases h3 with
     |none hn=>subst hn;simp at h'
     | @some a2 cx xs2 hC2 ajY hcx Vc=>
      have hj:(a-es.length)*s+b<xs2.length:=by rw[hC2.len];exact E1 (By.1 h').1 (by rw[←hC2.each _ _ h'];grind)
      exact absurd (hC2.rep _ _ _ _ _ h' uS (cN hj)).Ea (by simp[PV.isRow])
  ·cases jc
 have acW:∀j,(bh (bE id (Qc src m)) id j).isSome=true→j≠id:=fun j hj e=>by subst e;simp at hj
 have bW:∀j b',bh (bE id (Qc src m)) id j=some b'→j≠id∧src≠some j∧∃b,m j=some b∧b'.rowAt=b.rowAt:=by intro j b' hj;obtain⟨h1,b1,h2,rfl⟩:=fJ hj;grind [Vs,vD]
 have NU:∀{j b' b g},b'.rowAt=b.rowAt→bH.owns b' (φ j) g→bH.owns b (φ j) g:=fun h ho=>by simp_all[bH.owns]
 have hM0:av E.P G w0 μ φ (Qc src m) w:=by
  cases src with
  |none=>exact hM
  |some id2=>exact hM.forget id2
 have hF0:bR E.P μ φ (Qc src m) (kfS src f) ρ:=by
  cases src with
  |none=>exact hF
  |some id2=>exact hF.forget id2
 have vF:=hM0.forget id;have DS:=hF0.forget id;have Z1:∀a b g,(bH.nest s e (es++new)).rowAt a b=true→(qN a b).g=some g→w0.heap.size≤g∧μ g=none∧g<w.heap.size∧∀j b',bh (bE id (Qc src m)) id j=some b'→¬b'.owns (φ j) g:=by
  intro a b g Ku hg;rcases ng a b g Ku hg with⟨_,h2,h3⟩|⟨_,id2,rfl,cK,cL,h2,h3⟩
  ·obtain⟨o1,o2⟩:=hM.own id _ g hm (.inr ⟨a,b,h2,h3⟩);refine⟨o1,o2 rfl,(hM.dy id _ hm).EV (.inr ⟨a,b,h2,h3⟩),fun j b' hj ho=>?_⟩;obtain⟨k1,_,b2,k3,k4⟩:=bW j b' hj;exact k1 (hM.inj j id _ _ g k3 hm (NU k4 ho) (.inr ⟨a,b,h2,h3⟩))
  ·obtain⟨o1,o2⟩:=hM.own id2 _ g cL (.inr ⟨_,b,h2,h3⟩);refine⟨o1,o2 rfl,(hM.dy id2 _ cL).EV (.inr ⟨_,b,h2,h3⟩),fun j b' hj ho=>?_⟩;obtain⟨_,k1,b2,k3,k4⟩:=bW j b' hj;exact k1 (by rw[hM.inj j id2 _ _ g k3 cL (NU k4 ho) (.inr ⟨_,b,h2,h3⟩)])
 have aeG:∀a b a' b' g,(bH.nest s e (es++new)).rowAt a b=true→(qN a b).g=some g→(bH.nest s e (es++new)).rowAt a' b'=true→(qN a' b').g=some g→a'=a∧b'=b:=by
  intro a b a' b' g h1 h2 h3 h4;rcases ng a b g h1 h2 with⟨u1,u2,u3⟩|⟨u1,i2,u0,une,um,u2,u3⟩<;>rcases ng a' b' g h3 h4 with⟨v1,v2,v3⟩|⟨v1,i3,v0,vne,vm,v2,v3⟩
  ·exact(hM.apart id _ hm a b g u2 u3).2 a' b' v2 v3
  ·exact absurd (hM.inj i3 id _ _ g vm hm (.inr ⟨_,_,v2,v3⟩) (.inr ⟨_,_,u2,u3⟩)) vne
  ·exact absurd (hM.inj i2 id _ _ g um hm (.inr ⟨_,_,u2,u3⟩) (.inr ⟨_,_,v2,v3⟩)) une
  ·rw[u0]at v0;simp only[cO]at v0;subst v0;obtain⟨h5,h6⟩:=(hM.apart i2 _ um (a-es.length) b g u2 u3).2 (a'-es.length) b' v2 v3;omega
 have fin:∀(q:aA)(w1:World),q.row=qN→lM w0.heap.size w w1→(∀k o,μ k=some o→w1.heap[k]?=some o)→(∀j b' g,bh (bE id (Qc src m)) id j=some b'→b'.owns (φ j) g→w1.heap[g]?=w.heap[g]?)→(∀g,q.g=some g→w0.heap.size≤g∧μ g=none∧(∀j b',bh (bE id (Qc src m)) id j=some b'→¬b'.owns (φ j) g)∧∀a b,(bH.nest s e (es++new)).rowAt a b=true→(qN a b).g≠some g)→(aX E.P μ (fun k=>if k=id then q else φ k) w1 id s e (es++new))→av E.P G w0 μ (fun k=>if k=id then q else φ k) (ao (bh (bE id (Qc src m)) id) id (.nest s e (es++new))) w1∧bR E.P μ (fun k=>if k=id then q else φ k) (ao (bh (bE id (Qc src m)) id) id (.nest s e (es++new))) (eS id (kfS src f)) ρ:=by
  intro q w1 hq NA wA hold Ci lL;refine⟨vF.put (by simp) NA wA hold (fun g hg=>?_) (fun a b g Ku hg=>?_) lL (by simp[bH.names]) (fun st h=>by cases h),DS.mono (fun _ _ h=>h) fun j hj=>⟨by simp[acW j hj],by grind [aq]⟩⟩
  ·rcases hg with hg|⟨a,b,Ku,hg⟩
   ·grind
   grind
  grind
 rcases Vd with⟨rfl,rfl,h1,h2⟩|⟨g',DR,c',T',rfl,b1,b2,b3,b4,b5,b6⟩
 ·have h1:es=[]:=akg h1;have h2:new=[]:=akg h2;obtain⟨k1,k2⟩:=fin {g:=none,cap:=0,len:=0,sz:=s,row:=qN} w' rfl (lM.refl _ _) hM.ro (fun _ _ _ _ _=>rfl) (fun g hg=>by cases hg) ⟨by simp[h1,h2],by simp,hs,y7,by simp[h1,h2],by simp[maxLen],by simp[h1,h2]⟩;exact⟨w',_,_,hr,k1,k2,.tp (by simp)⟩
 ·have hq:∀(w1:World)(T:TypeId),w1.heap[g']?=some (.cells c' T (0,0))→lN E.P μ qN w1 s (es++new) (os++xs)→aX E.P μ (fun k=>if k=id then({g:=some g',cap:=DR,len:=(es++new).length,sz:=s,row:=qN}:aA)else φ k) w1 id s e (es++new):=fun w1 T hh hC1=>lN.nest (g:=g') (c:=c') (by simp) hs y7 (by simpa using b4) hh (by simpa using b2) (by simpa[St]using b3) (by grind);have ajL:af E.P μ (fun k=>if k=id then({g:=some g',cap:=DR,len:=(es++new).length,sz:=s,row:=qN}:aA)else φ k) (.os id) (.slice (some ⟨g',0,none⟩) (es.length+new.length) DR):=by have:=af.os (P:=E.P) (μ:=μ) (φ:=fun k=>if k=id then({g:=some g',cap:=DR,len:=(es++new).length,sz:=s,row:=qN}:aA)else φ k) (id:=id) (g:=g') (by simp);grind
  rcases b6 with⟨ZS,hys,b6,b7⟩|⟨rfl,rfl⟩
  ·have cS:(φ id).g=some g':=by
    have key:∀z,af E.P μ φ (.os id) z→z=.slice (some ⟨g',0,none⟩) es.length ZS→(φ id).g=some g':=by
     intro z hz he;cases hz with
     |tp _=>cases he
     |os hg=>grind
    exact key _ ha hys
   obtain⟨o1,o2⟩:=hM.own id _ g' hm (.inl cS);have Na:∀a b,(bH.nest s e (es++new)).rowAt a b=true→(qN a b).g≠some g':=by
    intro a b Ku hg;rcases ng a b g' Ku hg with⟨u1,u2,u3⟩|⟨u1,i2,u0,une,um,u2,u3⟩
    ·exact(hM.apart id _ hm a b g' u2 u3).1 cS
    ·exact une (hM.inj i2 id _ _ g' um hm (.inr ⟨_,_,u2,u3⟩) (.inl cS))
   have DU:∀j b',bh (bE id (Qc src m)) id j=some b'→¬b'.owns (φ j) g':=fun j b' hj ho=>by obtain⟨k1,_,b2,k3,k4⟩:=bW j b' hj;exact k1 (hM.inj j id _ _ g' k3 hm (NU k4 ho) (.inl cS))
   obtain⟨k1,k2⟩:=fin {g:=some g',cap:=DR,len:=(es++new).length,sz:=s,row:=qN} w' rfl (b6.mono o1) (fun k o hk=>by rw[b7 k (fun e=>by subst e;rw[o2 rfl]at hk;cases hk)];exact hM.ro k o hk) (fun j b' g hj ho=>b7 g fun e=>by grind) (fun g hg=>by
     simp only[cO]at hg;subst hg;exact⟨o1,o2 rfl,DU,Na⟩)
    (hq w' _ b1 (hCC.cj fun a e1 b p1 g he hp Ku hg=>b7 g fun e=>by grind [du]))
   grind
  ·have hold:∀k,k<w.heap.size→(w.drew.alloc (.cells c' e)).heap[k]?=w.heap[k]?:=fun k hk=>lM.heap_alloc w.drew _ k hk;obtain⟨k1,k2⟩:=fin {g:=some w.heap.size,cap:=DR,len:=(es++new).length,sz:=s,row:=qN} (w.drew.alloc (.cells c' e)) rfl ((lM.refl _ w).drew.alloc hM.below.size _) (fun k o hk=>by
     have:=hM.ro k o hk;grind)
    (fun j b' g hj ho=>hold g ((vF.dy j b' hj).EV ho)) (fun g hg=>by
     simp only[cO]at hg;subst hg;refine⟨hM.below.size,?_,fun j b' hj ho=>?_,fun a b Ku hg=>?_⟩
     ·cases hq:μ w.heap.size with
      |none=>rfl
      |some o'=>have:=hM.ro _ _ hq;simp at this
     ·have:=(vF.dy j b' hj).EV ho;omega
     grind)
    (hq _ _ b1 (hCC.cj fun a e1 b p1 g he hp Ku hg=>hold g (Z1 a b g (by rw[du he hp];omega) hg).2.2.1))
   grind
theorem Fi{m:Mem}:∀{cs:List V}{j0:Nat}{ps:List PV},lX m j0 cs=some (ps,none)→∀m2:Mem,lX m2 j0 cs=some (ps,none)
 |[],j0,ps,h,m2=>h
 |v::r,j0,ps,h,m2=>by
  unfold lX at h;split at h
  ·rename_i heq;cases heq
  ·grind
  ·rename_i j v' r' cK heq;simp only[alc]at heq;obtain⟨rfl,rfl⟩:=heq;unfold lX;split
   ·rename_i heq;cases heq
   ·simp_all
   ·rename_i j v' r' cK heq;simp only[alc]at heq;obtain⟨rfl,rfl⟩:=heq;split at h
    ·rename_i p hp;split at h
     ·rename_i ps' t ht;simp only[cO,Ua]at h;obtain⟨rfl,rfl⟩:=h;rw[Fi ht m2]
     ·cases h
    omega
theorem xE{m m2:Mem}{j id2:Nat}(hm:m2 id2=m id2):∀{cs:List V}{j0:Nat}{ps:List PV},lX m j0 cs=some (ps,some (j,id2))→lX m2 j0 cs=some (ps,some (j,id2))
 |[],j0,ps,h=>by simp[lX]at h
 |v::r,j0,ps,h=>by
  unfold lX at h;split at h
  ·rename_i heq;cases heq
  ·rename_i j id r' heq;simp only[alc]at heq;obtain⟨rfl,rfl⟩:=heq;split at h
   ·rename_i s et es Zr;split at h
    ·rename_i ps' ht;simp only[cO,Ua]at h;obtain⟨rfl,rfl,rfl⟩:=h;grind [lX,Fi]
    ·cases h
   ·cases h
  ·rename_i j v' r' cK heq;simp only[alc]at heq;obtain⟨rfl,rfl⟩:=heq;unfold lX;split
   ·rename_i heq;cases heq
   ·simp_all
   ·rename_i j v' r' cK heq;simp only[alc]at heq;obtain⟨rfl,rfl⟩:=heq;split at h
    ·rename_i p hp;split at h
     ·rename_i ps' t ht;simp only[cO,Ua]at h;obtain⟨rfl,rfl⟩:=h;rw[xE hm ht]
     ·cases h
    omega
theorem NV{site:Nat}{o:Oper}{f f2:Fr}{m m2:Mem}{sp:Sp}(h:Ae E site o f m=some sp)(hf:∀x∈o.op.operands,bC E f2 x=bC E f x)(hm:∀x∈(sp.info site).2,m2 x.2=m x.2):Ae E site o f2 m2=some sp:=by
 obtain⟨dst,op,type,pos,after,guard⟩:=o;unfold Ae at h⊢;cases op;case store t a x=>
  simp only at h⊢;rw[hf a (by simp[Op.operands]),hf x (by simp[Op.operands])];split at h
  ·rename_i id i off ha;split at h
   ·rename_i s et es Zr;split at h
    ·rename_i cs hc;split at h
     ·rename_i ps j id2 ht;split at h
      ·rename_i lI;simp only[cO]at h;subst h;have h1:m2 id=m id:=hm (true,id) (by simp[Sp.info]);have h2:m2 id2=m id2:=hm (true,id2) (by simp[Sp.info]);simp only[ha,h1,Zr,hc,xE h2 ht,lI,Ko]
      ·cases h
     ·cases h
    ·cases h
   ·cases h
  omega
 case buildSlice t len parts=>
  simp only at h⊢;have SI:(parts.toList.map fun(x:Nat×Operand)=>(x.1,bC E f2 x.2))=parts.toList.map fun(x:Nat×Operand)=>(x.1,bC E f x.2):=akF fun x hx=>by rw[hf x.2 (by simp only[Op.operands,al2,akt];exact⟨x,hx,rfl⟩)]
  rw[SI];split at h
  ·rename_i e v hu hp;split at h
   ·rename_i cs hc;split at h
    ·rename_i ps j id2 ht hs;split at h
     ·rename_i p Jn;split at h
      ·rename_i lI;simp only[cO]at h;subst h;have h1:m2 site=m site:=hm (true,site) (by simp[Sp.info]);have h2:m2 id2=m id2:=hm (true,id2) (by simp[Sp.info]);simp only[hu,hp,hc,xE h2 ht,h1,hs,Jn,lI,Ko]
      ·cases h
     ·cases h
    ·cases h
   ·cases h
  omega
 case call c=>
  obtain⟨callee,args,argTypes⟩:=c;simp only at h⊢;have sn:args.toList.map (bC E f2)=args.toList.map (bC E f):=akF fun x hx=>hf x (by simp_all[Op.operands,Call.operands]);rw[sn];split at h
  ·rename_i id x t t' ha Z2;split at h
   ·rename_i e s et es hu Zr;split at h
    ·rename_i lI;have plain:∀{new:List PV}{rd:bq},fv m s x=some (new,rd)→x.has id=false→sp=.app id s et es new none rd→fv m2 s x=some (new,rd):=by grind [oQ,Sp.info]
     split at h
     ·rename_i tl;split at h
      ·rename_i s' GX new hm';split at h
       ·rename_i Us;simp only[cO]at h;subst h;have h1:m2 id=m id:=hm (true,id) (by simp[Sp.info]);simp_all[Sp.info,Ko]
       ·cases h
      ·rename_i hnn;split at h
       ·rename_i new rd HQ;split at h
        ·cases h
        ·rename_i hxh;simp only[cO]at h;have Vt:=plain HQ (by simpa using hxh) h.symm;subst h;have h1:m2 id=m id:=hm (true,id) (by simp[Sp.info]);simp only[ha,Z2,hu,h1,Zr,lI,Ko,Vt];split
         ·rename_i s' GX ajZ cL;exfalso;simp only[fv,cL]at Vt;cases Vt
         ·rw[IS hxh]
       ·cases h
     ·rename_i aj0;split at h
      ·rename_i new rd HQ;split at h
       ·cases h
       ·rename_i hxh;simp only[cO]at h;have Vt:=plain HQ (by simpa using hxh) h.symm;subst h;have h1:m2 id=m id:=hm (true,id) (by simp[Sp.info]);simp only[ha,Z2,hu,h1,Zr,lI,Ko,Vt];try rw[IS hxh]
      ·cases h
    ·cases h
   ·cases h
  ·cases h
 case mapUpdate t x key v=>
  simp only at h⊢;rw[hf x (by simp[Op.operands]),hf key (by simp[Op.operands]),hf v (by simp[Op.operands])];split at h
  ·rename_i kt et id id2 hu hx hv;split at h
   ·rename_i xh e es s e' rs kp h1 h2 hk;split at h
    ·rename_i lI;simp only[cO]at h;subst h;have h3:m2 id=m id:=hm (true,id) (by simp[Sp.info]);have h4:m2 id2=m id2:=hm (true,id2) (by simp[Sp.info]);simp only[hu,hx,hv,h3,h4,h1,h2,hk,lI,Ko]
    ·cases h
   ·cases h
  ·cases h
 all_goals (cases h)
end
end Go.Ab
