import Derived.Test.YtmbihgjlollbeaaGreatAbP4
import Derived.RangeFuncRecord
import Derived.Laws.IdiomRangeMap
set_option linter.all false
namespace Go.Ab
section
variable {P:Program} {G:Nat→Option (List PV)} {w0:bO} {μ:Ro} {φ:Nat→aP} {m:Mem} {w:World}
theorem aL.amO(hM:aL P G w0 μ φ m w){g:Nat}(hB:w0.heap.size≤g)(arS:∀id b,m id=some b→¬b.owns (φ id) g):aL P G w0 (uR μ w (some g)) φ m w:=by
 have mono:=oH hM (some g);refine⟨hM.below,fun b o hb=>?_,fun g' cs hg=>(hM.aW g' cs hg).mono mono,fun j c hj=>(hM.dX j c hj).cF (fun _ _=>rfl) rfl mono (fun _ _=>rfl),fun j c g' hj du=>?_,hM.inj,hM.apart,hM.gz,fun b o hb cd=>?_,fun b o hb=>mono b o (hM.dY b o hb),hM.Jj⟩
 ·unfold uR at hb;split at hb
  ·omega
  ·exact hM.ro b o hb
 ·obtain⟨h1,h2⟩:=hM.own j c g' hj du;grind [uR,Option.some.injEq,absurd]
 ·unfold uR at hb;split at hb
  ·grind
  ·exact hM.base b o hb cd
theorem Uf(w:World)(g:Nat)(o:Obj):nD g w (w.putObj g o):=⟨⟨rfl,rfl,rfl,by simp,fun k hk=>World.putObj_heap_other (by omega)⟩,fun _=>ast _⟩
theorem GY{A:Type}(f:A→Nat):∀{l:List A}{i:Nat}{e:A},l[i]?=some e→(∀(j:Nat)x,l[j]?=some x→f x=f e→j=i)→l.filter (fun x=> !(f x==f e))=l.eraseIdx i
 |[],i,e,h,_=>by rfl
 |y::l,0,e,h,inj=>by simp only[asL,cO]at h;subst h;simp only[List.filter_cons,BEq.rfl,ahX,cQ,IT,List.eraseIdx_cons_zero];rw[avq];intro x hx;obtain⟨j,hj⟩:=asy.1 hx;simp only[asO,aua];intro e;have:=inj (j+1) x (by simpa using hj) e;omega
 |y::l,i+1,e,h,inj=>by
  have h':l[i]?=some e:=by simpa using h
  have cV:¬f y=f e:=fun e'=>by have:=inj 0 y rfl e';omega
  have hb:(f y==f e)=false:=by simpa using cV
  simp only[List.filter_cons,hb,asw,BY,List.eraseIdx_cons_succ];rw[GY f h' (fun j x hj e'=>by have:=inj (j+1) x (by simpa using hj) e';omega)]
theorem Og(en:Array MapEntry):nP en #[]=en.toList:=by simp[nP,avq]
variable{en:Array MapEntry}{clock:Nat}{seen:Array Nat}{e:MapEntry}
theorem Lb(hb:oG en clock){i:Nat}(hi:(nP en seen)[i]?=some e):nP en (seen.push e.born)=(nP en seen).eraseIdx i:=by
 have h1:nP en (seen.push e.born)=(nP en seen).filter (fun x=> !(x.born==e.born)):=by unfold nP;rw[List.filter_filter];grind
 rw[h1];refine GY (fun x=>x.born) hi fun j x hj e'=>?_;have hnd:(nP en seen).Pairwise fun a b=>a.born≠b.born:=by
  unfold nP;refine List.Pairwise.filter _ ?_;rw[atI];intro a b ha ke Az he;have h2:en[a]?=some en.toList[a]:=by simp
  have h3:en[b]?=some en.toList[b]:=by simp
  have:=(hb b _ h3).2 a _ h2 he;omega
 have zj:j<(nP en seen).length:=(OF.1 hj).1;have QJ:i<(nP en seen).length:=(OF.1 hi).1;grind [List.getElem?_eq_getElem,Option.some.injEq,List.pairwise_iff_getElem,Nat.lt_trichotomy,absurd]
theorem Z6(h:e∈nP en seen):∃i:Nat,en[i]?=some e:=by unfold nP at h;have:=(auB.1 h).1;obtain⟨i,hi⟩:=asy.1 this;grind
theorem Z7{w:World}{g mg:Nat}(hg:w.heap[g]?=some (.mapIter (some mg) clock seen clock))(hm:w.heap[mg]?=some (.map en clock))(hb:oG en clock)(ty:TypeId):(nP en seen=[]∧(Instr.next (.pointer (some ⟨g,0,none⟩)) false ty).run P w=.ok (.tuple #[.bool false]) w)∨∃(j:Nat)(e:MapEntry)(w1:World),(nP en seen)[j]?=some e∧(w1=w∨w1=w.drew)∧(Instr.next (.pointer (some ⟨g,0,none⟩)) false ty).run P w=.ok (.tuple #[.bool true,e.key,e.val]) (w1.putObj g (.mapIter (some mg) clock (seen.push e.born) clock)):=by
 have hold:∀x∈en.toList,x.born<clock:=fun x hx=>by obtain⟨i,hi⟩:=asy.1 hx;exact(hb i x (by simp_all)).1
 simp only[Instr.next,getObj,Sem.run_bind,Sem.run,hg,hm,Result.andThen,next_test_false seen en clock clock hold (ast _),cQ,IT];have hL:(Array.filter (fun e=> !seen.contains e.born) en).toList=nP en seen:=by simp[nP]
 have bB:∀x∈(Array.filter (fun e=> !seen.contains e.born) en).toList,x.born<clock:=fun x hx=>hold x (by grind);generalize Array.filter (fun e=> !seen.contains e.born) en=L at bB hL⊢;have e1:L.filter (fun x=>decide (x.born<clock))=L:=Array.filter_eq_self.2 (fun x hx=>by grind);have e2:L.filter (fun x=>decide (x.born≥clock))= #[]:=by simp_all
 simp only[e1,e2,Array.append_empty];rw[←hL];by_cases h0:L.size=0
 ·left;have:L= #[]:=aum h0;subst this;refine⟨rfl,?_⟩;simp[choose,Sem.run,Question.forced]
 ·right;have cV:L.isEmpty=false:=by simp[Array.isEmpty,h0]
  simp only[cV,cQ,IT,Array.empty_append,Array.size_map];have hch:∃(j:Nat)(w1:World),j<L.size∧(w1=w∨w1=w.drew)∧(choose (Question.mapNext L.size)).run P w=.ok j w1:=by
   by_cases hf:L.size≤1
   ·exact⟨0,w,by omega,.inl rfl,by simp[choose,Sem.run,Question.forced,hf]⟩
   ·exact⟨_,w.drew,avi _ (by omega),.inr rfl,by simp only[choose,Sem.run,Question.forced,cT,hf,IT,Question.cut];rfl⟩
  obtain⟨j,w1,hj,Oa,zd⟩:=hch;refine⟨j,L[j],w1,by simp,Oa,?_⟩;have hg1:w1.heap[g]?=some (.mapIter (some mg) clock seen clock):=by rcases Oa with rfl|rfl<;>exact hg
  have rX:(setObj g (.mapIter (some mg) clock (seen.push L[j].born) clock)).run P w1=.ok () (w1.putObj g (.mapIter (some mg) clock (seen.push L[j].born) clock)):=by simp only[setObj,Sem.run,hg1];rfl
  simp_all
theorem Ug{w:World}{g mg:Nat}{i:Nat}(hg:w.heap[g]?=some (.mapIter (some mg) clock seen clock))(hm:w.heap[mg]?=some (.map en clock))(hb:oG en clock)(hi:en[i]?=some e)(hs:seen.back? =some e.born):(Instr.entry (.pointer (some ⟨g,0,none⟩))).run P w=.ok (.tuple #[e.key,e.val]) w:=by
 have hf:en.find? (·.born==e.born)=some e:=by
  rw[←Array.find?_toList];refine find_born e en.toList ?_ (by grind);rw[List.Nodup,List.pairwise_map,atI];intro a b ha ke Az he;have h2:en[a]?=some en.toList[a]:=by simp
  have h3:en[b]?=some en.toList[b]:=by simp
  have:=(hb b _ h3).2 a _ h2 he;omega
 simp only[Instr.entry,getObj,Sem.run_bind,Sem.run,hg,hm,Result.andThen,hs,auh,cQ,IT,hf];rfl
end
section
variable {R:Type} {E:Env}
variable{g:Nat→Option R}{r:R}
theorem Uh{n:Nat}(h:yA n g=some r)(i:Nat)(hi:i<n):g i=some r:=by
 unfold yA at h;split at h
 ·grind
 ·cases h
theorem Lc{n:Nat}(h0:0<n)(h:∀i,i<n→g i=some r):yA n g=some r:=by unfold yA;have hh:∃r,∀i,i<n→g i=some r:=⟨r,h⟩;rw[avz hh];grind
variable{k:V→Fr→Mem→Option R}
theorem Z8{site:Nat}{t:TypeId}{x:V}{f:Fr}{m:Mem}(h:TV E site t x f m k=some r):∃f' m',k (.it site) f' m'=some r∧(m' site).isSome=true∧∀(G:Nat→Option (List PV))(w0:bO)(μ:Ro)(φ:Nat→aP)(w:World)(ρ:Nat→Value)(y:Value),aL E.P G w0 μ φ m w→cp E.P μ φ m f ρ→au E.P μ φ x y→∃w' y' μ' φ',(Instr.range t y).run E.P w=.ok y' w'∧aL E.P G w0 μ' φ' m' w'∧cp E.P μ' φ' m' f' ρ∧au E.P μ' φ' (.it site) y':=by
 unfold TV at h;split at h
 ·rename_i kt et hu;split at h
  ·rename_i id;split at h
   ·rename_i Cx es hm;split at h
    ·obtain⟨f',m',hn,sG,CA,Fb,Ce⟩:=eM h;refine⟨f',m',sG,by simp[CA],fun G w0 μ φ w ρ y hM hF hx=>?_⟩;obtain⟨g,en,clock,kk,hg,hh,hs,B5,Wk,Cy,hv⟩:=hM.dX id _ hm;obtain⟨o1,o2⟩:=hM.own id _ g hm (.inl hg);cases hx with
     |om du=>
      rw[hg]at du;simp only[cO]at du;subst du;have Bg:=hM.forget id;have hM2:=Bg.amO o1 (fun j b hj e=>by obtain⟨cV,b',ke,rfl⟩:=gm hj;exact cV (hM.inj j id b' _ g ke hm (hU.1 e) (.inl hg)));have GZ:=oH Bg (some g);have J1:cp E.P (uR μ w (some g)) φ (bF (bS id m) id) (fD id f) ρ:=(hF.forget id).mono GZ fun j hj=>⟨rfl,hj⟩;have nC:∀φ':Nat→aP,φ' site=(JY (some w.heap.size) 0 0 0)→(∀j,(bX.iter t es none).names j=true→φ' j=φ j)→iK E.P (uR μ w (some g)) φ' (w.alloc (.mapIter (some g) clock #[] clock)) site (.iter t es none):=fun φ' hp _=>by
       refine⟨w.heap.size,g,en,clock,#[],by rw[hp],gq w _,by simp[uR,hh],Cy,(by rw[Og,auE,hs]),fun i k v e h1 h2=>?_,fun k v h=>by cases h⟩;have h2':en[i]?=some e:=by simp_all[asX,Og]
       exact⟨(hv i k v e h1 h2').1.mono GZ,(hv i k v e h1 h2').2.mono GZ⟩
      obtain⟨φ',a1,a2,a3⟩:=Ce E.P G w0 _ φ w (w.alloc (.mapIter (some g) clock #[] clock)) ρ (JY (some w.heap.size) 0 0 0) hM2 J1 (nA.alloc (o:=.mapIter (some g) clock #[] clock) hM2 rfl nC (by simp[bX.names]));exact⟨_,_,_,φ',run_range_map w t kt et g en clock hu hh,a2,a3,.it (by rw[a1])⟩
    ·cases h
   ·cases h
  ·cases h
 ·cases h
theorem acm{x:V}{f:Fr}{m:Mem}(h:abW E x f m k=some r)(G:Nat→Option (List PV))(w0:bO)(μ:Ro)(φ:Nat→aP)(w:World)(y:Value)(ty:TypeId)(hM:aL E.P G w0 μ φ m w)(hx:au E.P μ φ x y):∃v m' y' w',k v f m'=some r∧(∀id,v.has id=false)∧mh m m'∧(Instr.next y false ty).run E.P w=.ok y' w'∧aL E.P G w0 μ φ m' w'∧au E.P μ φ v y':=by
 unfold abW at h;split at h
 ·rename_i id;split at h
  ·rename_i t es cur hm;split at h
   ·rename_i kt et hu;obtain⟨g,mg,en,clock,seen,hg,hh,QG,Cy,JZ,hv,_⟩:=hM.dX id _ hm;obtain⟨o1,o2⟩:=hM.own id _ g hm (.inl hg);cases hx with
    |it du=>
     rw[hg]at du;simp only[cO]at du;subst du;have hmg:=hM.ro _ _ QG;rcases Z7 (P:=E.P) hh hmg Cy ty with⟨ajc,zd⟩|⟨j,e,w1,hj,Nr,zd⟩
     ·have:es=[]:=by grind
      subst this;simp only[List.isEmpty_nil,BY]at h;refine⟨_,m,_,w,h,by simp[V.has,cA],mh.refl m,zd,hM,.aG rfl fun i p x hp hx=>?_⟩;cases i with
      |zero=>simp at hp hx;subst hp;subst hx;exact .pv .bool
      |succ i=>simp at hp
     ·have zj:j<(nP en seen).length:=(OF.1 hj).1;have cV:¬es.isEmpty=true:=by grind
      rw[IS cV]at h;have h:=Uh h j (by omega);obtain⟨e0,he0,h⟩:=By.1 h;obtain⟨qa,_,ha,ra,_⟩:=nZ h;obtain⟨qb,_,hb,rb,_⟩:=nZ ha;obtain⟨rk,rv⟩:=hv j e0.1 e0.2 e he0 hj;refine⟨_,_,_,_,hb,by simp[V.has,cA],.set,zd,?_,.aG rfl fun i p x hp hx=>?_⟩
      ·have Bg:aL E.P G w0 μ φ m w1:=by rcases Nr with rfl|rfl;exact hM;exact hM.drew
       have cd:g<w1.heap.size:=by have:g<w.heap.size:=(apj.1 hh).1;rcases Nr with rfl|rfl<;>exact this
       refine Bg.write hm rfl hg (Uf w1 g _) World.putObj_size (fun k hk=>World.putObj_heap_other hk) ?_ rfl (by simp[bX.names]);refine⟨g,mg,en,clock,seen.push e.born,hg,World.putObj_heap_same cd,QG,Cy,?_,fun i k v e' h1 h2=>?_,fun k v hc=>?_⟩
       ·rw[Lb Cy hj,avn,avn,JZ]
       ·rw[Lb Cy hj]at h2;grind
       ·simp only[cO,amn]at hc;obtain⟨rfl,rfl⟩:=hc;obtain⟨i,hi⟩:=Z6 (aqY hj);grind
      ·match i with
       |0=>simp at hp hx;subst hp;subst hx;exact .pv .bool
       |1=>simp at hp hx;subst hp;subst hx;exact .pv (ra _ _ _ rk)
       |2=>simp at hp hx;subst hp;subst hx;exact .pv (rb _ _ _ rv)
       |i+3=>simp at hp
   ·cases h
  ·cases h
 ·cases h
theorem Z9{x:V}{m:Mem}{k:V→Mem→Option R}(h:TW x m k=some r)(P:Program)(G:Nat→Option (List PV))(w0:bO)(μ:Ro)(φ:Nat→aP)(w:World)(y:Value)(hM:aL P G w0 μ φ m w)(hx:au P μ φ x y):∃v m' y',k v m'=some r∧(∀id,v.has id=false)∧mh m m'∧(Instr.entry y).run P w=.ok y' w∧aL P G w0 μ φ m' w∧au P μ φ v y':=by
 unfold TW at h;split at h
 ·rename_i id;split at h
  ·rename_i t es a b hm;obtain⟨g,mg,en,clock,seen,hg,hh,QG,Cy,JZ,hv,hcu⟩:=hM.dX id _ hm;obtain⟨i,e,hi,hs,ra,rb⟩:=hcu a b rfl;cases hx with
   |it du=>
    rw[hg]at du;simp only[cO]at du;subst du;refine⟨_,_,_,h,by simp[V.has,cA],.set,Ug hh (hM.ro _ _ QG) Cy hi hs,?_,.aG rfl fun i p x hp hx=>?_⟩
    ·exact hM.write hm rfl hg (nD.refl _ _) rfl (fun _ _=>rfl) ⟨g,mg,en,clock,seen,hg,hh,QG,Cy,JZ,hv,fun k v h=>by cases h⟩ rfl (by simp[bX.names])
    match i with
    |0=>simp at hp hx;subst hp;subst hx;exact .pv ra
    |1=>simp at hp hx;subst hp;subst hx;exact .pv rb
    |i+2=>simp at hp
  ·cases h
 ·cases h
end
section
variable {P:Program} {G:Nat→Option (List PV)} {w0:bO} {μ μ':Ro} {φ φ':Nat→aP} {m m':Mem} {w w':World}
variable{id j:Nat}{b:bX}
theorem j2(h:fO id m j=some b):∃b',m j=some b'∧b=eh id b':=by unfold fO at h;grind
theorem sH:(fO id m j).isSome=(m j).isSome:=by unfold fO;cases m j<;>rfl
theorem Ju(id:Nat)(b:bX):(eh id b).rowAt=b.rowAt:=by cases b<;>rfl
theorem wx{p:aP}{g:Nat}:(eh id b).owns p g↔b.owns p g:=by unfold bX.owns;rw[Ju]
theorem CQ{p:aP}:(eh id b).apart p↔b.apart p:=by unfold bX.apart;rw[Ju]
theorem FN(id:Nat)(b:bX):(eh id b).lL=b.lL:=by cases b<;>rfl
theorem Ui{cs:List V}(h:cA j (cs.map (rU id))=true):cA j cs=true:=by obtain⟨v,hv,hh⟩:=cW.1 h;obtain⟨u,hu,rfl⟩:=asC.1 hv;exact bZ hu (Er hh).1
theorem iK.E4{id j:Nat}{b:bX}(h:iK P μ φ w j b):iK P μ φ w j (eh id b):=by
 cases b with
 |box cs=>obtain⟨g,c,T,hg,hh,hs,hv,h1,JZ⟩:=h;refine⟨g,c,T,hg,hh,by simpa using hs,fun i v x hi hx=>?_,h1,by simpa using JZ⟩;simp only[AT,aqX]at hi;obtain⟨u,hu,rfl⟩:=hi;exact(hv i u x hu hx).E4 id
 |_=>exact h
theorem aL.Bi(hM:aL P G w0 μ φ m w)(id:Nat):aL P G w0 μ φ (fO id m) w:=by
 refine⟨hM.below,hM.ro,hM.aW,fun j b h=>?_,fun j b g h hg=>?_,fun i j b1 b2 g h1 h2 g1 g2=>?_,fun j b h=>?_,fun j cs i h hh=>?_,hM.base,hM.dY,fun j st h=>?_⟩
 ·obtain⟨b',hb,rfl⟩:=j2 h;exact(hM.dX j b' hb).E4
 ·obtain⟨b',hb,rfl⟩:=j2 h;rw[FN];exact hM.own j b' g hb (wx.1 hg)
 ·obtain⟨b1',ZU,rfl⟩:=j2 h1;obtain⟨b2',yq,rfl⟩:=j2 h2;exact hM.inj i j b1' b2' g ZU yq (wx.1 g1) (wx.1 g2)
 ·obtain⟨b',hb,rfl⟩:=j2 h;exact CQ.2 (hM.apart j b' hb)
 ·obtain⟨b',hb,e⟩:=j2 h;cases b' with
  |box T5=>simp only[eh,bX.box.injEq]at e;subst e;rw[sH];exact hM.gz j T5 i hb (Ui hh)
  |_=>simp[eh]at e
 ·obtain⟨b',hb,e⟩:=j2 h;cases b' with
  |loop st'=>simp only[eh,bX.loop.injEq]at e;subst e;exact hM.Jj j st hb
  |_=>simp[eh]at e
variable{ρ:Nat→Value}
theorem cp.Bi{f:Fr}(h:cp P μ φ m f ρ)(id:Nat):cp P μ φ (fO id m) (jD id f) ρ:=⟨fun t=>(h.fr t).E4 id,fun t j hj=>by rw[sH];exact h.live t j (Er hj).1⟩
theorem aL.km:∀{kl:Kl}{m:Mem},aL P G w0 μ φ m w→aL P G w0 μ φ (Go.Ab.km kl m) w
 |[],_,h=>h
 |(true,id)::r,m,h=>(aL.km (kl:=r) (m:=bF (bS id m) id) (h.forget id):)
 |(false,id)::r,m,h=>(aL.km (kl:=r) (m:=fO id m) (h.Bi id):)
theorem cp.km{ρ:Nat→Value}:∀{kl:Kl}{m:Mem}{f:Fr},cp P μ φ m f ρ→cp P μ φ (Go.Ab.km kl m) (kf kl f) ρ
 |[],_,_,h=>h
 |(true,id)::r,m,f,h=>(cp.km (kl:=r) (m:=bF (bS id m) id) (f:=fD id f) (h.forget id):)
 |(false,id)::r,m,f,h=>(cp.km (kl:=r) (m:=fO id m) (f:=jD id f) (h.Bi id):)
theorem aL.Wv(hM:aL P G w0 μ φ m w)(nw:Nat→Nat→Nat)(hblk:∀j b',m' j=some b'→iK P μ φ' w j b')(FL:∀j b' g,m' j=some b'→b'.owns (φ' j) g→∃k b,m k=some b∧b.owns (φ k) g∧(b'.lL=true→b.lL=true)∧j=nw g k)(Np:∀j b',m' j=some b'→b'.apart (φ' j))(Ji:∀j cs id,m' j=some (.box cs)→cA id cs=true→(m' id).isSome=true)(apU:∀j st,m' j=some (.loop st)→m j=some (.loop st)∧(φ' j).g=(φ j).g):aL P G w0 μ φ' m' w:=by
 refine⟨hM.below,hM.ro,hM.aW,hblk,fun j b' g h hg=>?_,fun i j b1 b2 g h1 h2 g1 g2=>?_,Np,Ji,hM.base,hM.dY,fun j st h=>?_⟩
 ·obtain⟨k,b,hk,ho,QG,_⟩:=FL j b' g h hg;obtain⟨o1,o2⟩:=hM.own k b g hk ho;simp_all
 ·obtain⟨k1,c1,hk1,ho1,_,e1⟩:=FL i b1 g h1 g1;obtain⟨k2,c2,Uj,ho2,_,e2⟩:=FL j b2 g h2 g2;rw[e1,e2,hM.inj k1 k2 c1 c2 g hk1 Uj ho1 ho2]
 ·obtain⟨h1,h2⟩:=apU j st h;obtain⟨g,rc,r1,r2,r3⟩:=hM.Jj j st h1;simp_all
def mR(p:aP)(i off:Nat)(r:Jk):aP:={p with row:=fun a b=>if a=i∧b=off then r else p.row a b}
theorem im(p:aP)(i off:Nat)(r:Jk):(mR p i off r).row i off=r:=by simp[mR]
theorem iL(p:aP){i off a b:Nat}(r:Jk)(h:¬(a=i∧b=off)):(mR p i off r).row a b=p.row a b:=by simp[mR,h]
theorem iK.Ww(h:iK P μ φ w j (eh id b))(hj:j≠id)(h0:(φ' id).toJk=(φ id).toJk)(hφ:∀k,k≠id→φ' k=φ k):iK P μ φ' w j (eh id b):=by
 have e:=hφ j hj;cases b with
 |box cs=>
  obtain⟨g,c,T,hg,hh,hs,hv,h1,JZ⟩:=h;refine⟨g,c,T,by rw[e];omega,hh,hs,fun i v x hi hx=>?_,h1,by rw[e];omega⟩;refine(hv i v x hi hx).aii (fun _ _ h=>h) fun k hk=>?_;by_cases hki:k=id
  ·subst hki;refine⟨h0,fun h2=>?_⟩;simp only[AT,aqX]at hi;obtain⟨u,hu,rfl⟩:=hi;rw[(Er hk).2]at h2;cases h2
  simp_all
 |arr sz et es=>exact iK.cF h (fun k hk=>by simp[bX.names,eh]at hk) e (fun _ _ h=>h) (fun _ _=>rfl)
 |vK sz et es=>exact iK.cF h (fun k hk=>by simp[bX.names,eh]at hk) e (fun _ _ h=>h) (fun _ _=>rfl)
 |map kt es=>exact iK.cF h (fun k hk=>by simp[bX.names,eh]at hk) e (fun _ _ h=>h) (fun _ _=>rfl)
 |nest sz et es=>exact iK.cF h (fun k hk=>by simp[bX.names,eh]at hk) e (fun _ _ h=>h) (fun _ _=>rfl)
 |fU kt e0 es=>exact iK.cF h (fun k hk=>by simp[bX.names,eh]at hk) e (fun _ _ h=>h) (fun _ _=>rfl)
 |loop st=>exact iK.cF h (fun k hk=>by simp[bX.names,eh]at hk) e (fun _ _ h=>h) (fun _ _=>rfl)
 |iter t es cur=>exact iK.cF h (fun k hk=>by simp[bX.names,eh]at hk) e (fun _ _ h=>h) (fun _ _=>rfl)
theorem cp.ain{f:Fr}(h:cp P μ φ m (jD id f) ρ)(h0:(φ' id).toJk=(φ id).toJk)(hφ:∀k,k≠id→φ' k=φ k)(hl:∀j,(m j).isSome=true→(m' j).isSome=true):cp P μ φ' m' (jD id f) ρ:=by
 refine⟨fun t=>(h.fr t).aii (fun _ _ h=>h) fun k hk=>?_,fun t j hj=>hl j (h.live t j hj)⟩;by_cases hki:k=id
 ·subst hki;refine⟨h0,fun h2=>?_⟩;have:=(Er (show(rU k (f t)).has k=true from hk)).2;rw[show jD k f t=rU k (f t)from rfl,this]at h2;cases h2
 simp_all
theorem gn{id2:Nat}{b':bX}(h:aD (fO id (bF (bS id2 m) id2)) id b j=some b'):(j=id∧b'=b)∨(j≠id∧j≠id2∧∃c,m j=some c∧b'=eh id (il id2 c)):=by
 by_cases e:j=id
 ·simp_all
 ·rw[aF e]at h;obtain⟨c1,h1,rfl⟩:=j2 h;obtain⟨cV,c,hc,rfl⟩:=gm h1;simp_all
theorem Uk{x:Value}(h:au P μ φ (.os id) x):au P μ (fun _=>((φ id).toJk).up) (.os 0) x:=by
 cases h with
 |yp h=>exact .yp h
 |os h=>exact .os (id:=0) (φ:=fun _=>((φ id).toJk).up) h
theorem aX.up{sz:Nat}{et:TypeId}{es:List PV}(h:aX P μ φ w id sz et es):aX P μ (fun _=>((φ id).toJk).up) w 0 sz et es:=h
theorem aL.ajd(hM:aL P G w0 μ φ m w){id2 i off s s2:Nat}{et Rt:TypeId}{es rs:List PV}{e q:PV}{x:Value}(cV:id2≠id)(hm:m id=some (.nest s et es))(db:m id2=some (.arr s2 Rt rs))(he:es[i]?=some e)(GX:e.cells[off]?=some .bad)(hx:∀g c T,(φ id).g=some g→w.heap[g]?=some (.cells c T (0,0))→c[i*s+off]?=some x)(hv:au P μ φ (.os id2) x)(hq:q.cells=e.cells.set off (.uY s2 rs)):aL P G w0 μ (fun j=>if j=id then mR (φ id) i off (φ id2).toJk else φ j) (aD (fO id (bF (bS id2 m) id2)) id (.nest s et (es.set i q))) w:=by
 have Bg:=(hM.forget id2).Bi id;have hN:bu P μ φ w id s et es:=hM.dX id _ hm;have hA2:aX P μ φ w id2 s2 Rt rs:=hM.dX id2 _ db;have QJ:i<es.length:=(OF.1 he).1;have hol:off<e.cells.length:=(OF.1 GX).1;have pz:∀a b,(bX.nest s et (es.set i q)).rowAt a b=true→(a=i∧b=off)∨((bX.nest s et es).rowAt a b=true∧¬(a=i∧b=off)):=by
  intro a b hr;by_cases Az:a=i∧b=off
  ·exact .inl Az
  ·refine .inr ⟨?_,Az⟩;rcases mf hr with⟨_,_,_,e',s',rs',ke,h',Ax⟩|⟨_,_,_,_,_,_,ke,_⟩
   ·simp only[bX.nest.injEq]at ke;obtain⟨rfl,rfl,rfl⟩:=ke;rcases fE h' with⟨rfl,rfl⟩|⟨hni,h'⟩
    ·rw[hq]at Ax;rcases fE Ax with⟨rfl,_⟩|⟨hnj,Ax⟩
     ·exact absurd ⟨rfl,rfl⟩ Az
     ·rw[dS he Ax];rfl
    ·rw[dS h' Ax];rfl
   ·cases ke
 refine hM.Wv (fun _ k=>if k=id2 then id else k) (fun j b' hj=>?_) (fun j b' g hj ho=>?_) (fun j b' hj=>?_) (fun j cs k hj hk=>?_) (fun j st hj=>?_)
 ·rcases gn hj with⟨rfl,rfl⟩|⟨h1,h2,c,hc,rfl⟩
  ·show bu P μ (fun k=>if k=j then mR (φ j) i off (φ id2).toJk else φ k) w j s et (es.set i q);refine bu.change (μ':=μ) (w':=w) (es':=es.set i q) hN (by simp) (fun i' e' h'=>?_) (by simp[mR]) (fun _ _=>rfl) (fun i' e' j' p' g c T x' h' Ax hg hc Px hold=>?_)
   ·rcases fE h' with⟨_,rfl⟩|⟨_,h'⟩
    ·rw[hq,atW];exact hN.2.2.2.2.1 i e he
    ·exact hN.2.2.2.2.1 i' e' h'
   ·simp only[BY];by_cases Az:i'=i∧j'=off
    ·obtain⟨rfl,rfl⟩:=Az;rw[im];have e1:e'=q:=by
      rcases fE h' with⟨_,h⟩|⟨h,_⟩
      ·exact h
      ·exact absurd rfl h
     subst e1;rw[hq]at Ax;have e2:p'=.uY s2 rs:=by
      rcases fE Ax with⟨_,h⟩|⟨h,_⟩
      ·exact h
      ·exact absurd rfl h
     subst e2;have e3:x'=x:=by have:=hx g c _ hg hc;rw[Px]at this;simpa using this
     subst e3;exact⟨⟨Rt,hA2.up⟩,Uk hv⟩
    ·rw[iL _ _ Az];rcases fE h' with⟨rfl,rfl⟩|⟨hni,h'⟩
     ·rw[hq]at Ax;rcases fE Ax with⟨rfl,_⟩|⟨hnj,Ax⟩
      ·exact absurd ⟨rfl,rfl⟩ Az
      ·exact hold e p' he Ax
     ·exact hold e' p' h' Ax
  ·have hb:iK P μ φ w j (eh id (il id2 c)):=(hM.dX j c hc).kill.E4;exact hb.Ww h1 (by simp[mR]) fun k hk=>by simp[hk]
 ·rcases gn hj with⟨rfl,rfl⟩|⟨h1,h2,c,hc,rfl⟩
  ·simp only[BY]at ho;rcases ho with ho|⟨a,b,hr,ho⟩
   ·exact⟨j,_,hm,.inl ho,fun _=>rfl,by simp[cV.symm]⟩
   ·rcases pz a b hr with⟨rfl,rfl⟩|⟨Cz,Az⟩
    ·rw[im]at ho;exact⟨id2,_,db,.inl ho,fun _=>rfl,by simp⟩
    ·rw[iL _ _ Az]at ho;exact⟨j,_,hm,.inr ⟨a,b,Cz,ho⟩,fun _=>rfl,by simp[cV.symm]⟩
  ·simp only[h1,IT]at ho;exact⟨j,c,hc,hU.1 (wx.1 ho),fun h=>by rw[FN,Ew]at h;exact h,by simp[h2]⟩
 ·rcases gn hj with⟨rfl,rfl⟩|⟨h1,h2,c,hc,rfl⟩
  ·simp only[BY];have Np:=hM.apart j _ hm;have new:∀g,(φ id2).g=some g→¬(bX.nest s et es).owns (φ j) g:=fun g hg ho=>cV (hM.inj id2 j _ _ g db hm (.inl hg) ho);intro a b g hr hg;rcases pz a b hr with⟨rfl,rfl⟩|⟨Cz,Az⟩
   ·rw[im]at hg;refine⟨fun h=>new g hg (.inl h),fun a' b' Ul PD=>?_⟩;rcases pz a' b' Ul with h|⟨hr3,Um⟩
    ·exact h
    ·rw[iL _ _ Um]at PD;exact absurd (.inr ⟨a',b',hr3,PD⟩) (new g hg)
   ·rw[iL _ _ Az]at hg;obtain⟨h3,h4⟩:=Np a b g Cz hg;refine⟨h3,fun a' b' Ul PD=>?_⟩;rcases pz a' b' Ul with⟨rfl,rfl⟩|⟨hr3,Um⟩
    ·rw[im]at PD;exact absurd (.inr ⟨a,b,Cz,hg⟩) (new g PD)
    ·rw[iL _ _ Um]at PD;exact h4 a' b' hr3 PD
  ·simp only[h1,IT];exact CQ.2 (Bf.2 (hM.apart j c hc))
 ·rcases gn hj with⟨rfl,hb⟩|⟨h1,h2,c,hc,hb⟩
  ·cases hb
  ·have TO:fO id (bF (bS id2 m) id2) j=some (.box cs):=by rw[aF h1]at hj;exact hj
   have:=Bg.gz j cs k TO hk;by_cases e:k=id
   ·subst e;simp
   ·rw[aF e];exact this
 ·rcases gn hj with⟨rfl,hb⟩|⟨h1,h2,c,hc,hb⟩
  ·cases hb
  ·cases c<;>first|(simp[eh,il]at hb;done)|skip
   simp only[eh,il,bX.loop.injEq]at hb;subst hb;exact⟨hc,by simp[h1]⟩
end
def pA(k:PV):List (PV×PV)→Option Nat
 |[]=>none
 |(a,_)::r=>if cz k.cells a.cells then some 0 else(pA k r).map (·+1)
def lM(es:List (PV×PV)):List (PV×PV):=es.map fun x=>(x.1,.bad)
theorem Ld(k:PV):∀es,pA k (lM es)=pA k es
 |[]=>rfl
 |(a,u)::r=>by simp only[lM,ass,pA];rw[←Ld k r];rfl
theorem Km{k:PV}:∀{es:List (PV×PV)}{j:Nat},pA k es=some j→∃a u,es[j]?=some (a,u)∧cz k.cells a.cells=true
 |(a,u)::r,j,h=>by
  simp only[pA]at h;split at h
  ·rename_i hp;simp only[cO]at h;subst h;simp_all
  ·obtain⟨i,hi,rfl⟩:=aqX.1 h;simpa using Km hi
theorem pQ(k v:PV):∀es,dJ k v es=match pA k es with|some j=>es.set j (k,v)|none=>es++[(k,v)]
 |[]=>rfl
 |(a,u)::r=>by
  simp only[dJ,pA];split
  ·rfl
  ·rw[pQ k v r];cases pA k r<;>rfl
theorem AA(k:PV):∀es,Am k es=match pA k es with|some j=>es.modify j fun x=>(x.1,.bad)|none=>es
 |[]=>rfl
 |(a,u)::r=>by
  simp only[Am,pA];split
  ·rfl
  ·rw[AA k r];cases pA k r<;>simp
theorem Ru(sz:Nat)(k:PV):∀es,QY sz k es=match pA k es with|some j=>(es[j]?).bind fun x=>fV sz x.2|none=>some []
 |[]=>rfl
 |(a,u)::r=>by
  simp only[QY,pA];split
  ·simp
  ·rw[Ru sz k r];cases pA k r<;>simp
theorem Oh{k z:PV}{l:List (PV×PV)}{es:List MapEntry}{i:Nat}{r:Option (Nat×Value)}(h:Found k .vT z (lM l) es i r):(r=none∧pA k l=none)∨∃j e,r=some (i+j,e.val)∧es[j]?=some e∧pA k l=some j:=by
 cases h with
 |none h1 h2 h3=>
  refine .inl ⟨rfl,?_⟩;rw[pQ]at h3;rw[←Ld];cases hp:pA k (lM l)with
  |none=>rfl
  |some j=>rw[hp]at h3;have:=congrArg List.length h3;simp at this
 | @some j a u e h1 h2 h3 h4 h5 h6=>
  refine .inr ⟨j,e,rfl,h2,?_⟩;rw[pQ]at h6;rw[←Ld];have cd:j<(lM l).length:=(OF.1 h1).1;cases hp:pA k (lM l)with
  |none=>rw[hp]at h6;have:=congrArg List.length h6;simp at this
  |some j'=>
   rw[hp]at h6;simp only at h6;obtain⟨a',u',TO,_⟩:=Km hp;have apV:j'<(lM l).length:=(OF.1 TO).1;have e1:((lM l).set j (k,.vT))[j']?=some (k,.vT):=by rw[←h6];simp[apV]
   grind [lM,Option.map_eq_some_iff]
section
variable {P:Program} {G:Nat→Option (List PV)} {w0:bO} {μ μ':Ro} {φ φ':Nat→aP} {m m':Mem} {w w':World}
def Le(P:Program)(μ:Ro)(R:Jk)(w:World)(e0:TypeId)(v:PV)(x:Value):Prop:=match v with
 |.uY s rs=>aX P μ (fun _=>R.up) w 0 s e0 rs∧au P μ (fun _=>R.up) (.os 0) x
 |v=>av P μ v x
variable{e0:TypeId}
theorem Le.pure{R:Jk}{v:PV}{x:Value}(h:av P μ v x):Le P μ R w e0 v x:=by
 unfold Le;split
 ·cases h
 omega
structure Un(P:Program)(μ:Ro)(p:aP)(w:World)(kt e0:TypeId)(es:List (PV×PV))(g:Nat)(en:Array MapEntry)(clock:Nat)(kk:List Kd):Prop where
 pl:p.g=some g
 heap:w.heap[g]?=some (.map en clock)
 size:en.size=es.length
 HT:yy P kt=some kk
 key:∀(i:Nat)k v,es[i]?=some (k,v)→B0 P kt kk k=true
 born:oG en clock
 rep:∀(i:Nat)k v e,es[i]?=some (k,v)→en[i]?=some e→av P μ k e.key∧Le P μ (p.row i 0) w e0 v e.val
variable{kt:TypeId}{es:List (PV×PV)}
theorem AB{id:Nat}:iK P μ φ w id (.fU kt e0 es)↔∃g en clock kk,Un P μ (φ id) w kt e0 es g en clock kk:=by
 constructor
 ·rintro⟨g,en,clock,kk,h1,h2,h3,h4,h5,h6,h7⟩;exact⟨g,en,clock,kk,h1,h2,h3,h4,h5,h6,fun i k v e a b=>h7 i k v e a b⟩
 ·rintro⟨g,en,clock,kk,h1,h2,h3,h4,h5,h6,h7⟩;exact⟨g,en,clock,kk,h1,h2,h3,h4,h5,h6,fun i k v e a b=>h7 i k v e a b⟩
variable{en:Array MapEntry}
theorem Un.ent{p:aP}{g:Nat}{clock:Nat}{kk:List Kd}(h:Un P μ p w kt e0 es g en clock kk):CO P μ kt kk (lM es) en.toList:=by
 refine⟨by simp[lM,h.size],fun i k v hi=>?_,fun i k v e hi he=>?_⟩
 ·simp only[lM,AT,aqX]at hi;obtain⟨⟨a,u⟩,hq,hx⟩:=hi;simp only[amn]at hx;obtain⟨rfl,rfl⟩:=hx;exact h.key i a u hq
 ·simp only[lM,AT,aqX]at hi;obtain⟨⟨a,u⟩,hq,hx⟩:=hi;simp only[amn]at hx;obtain⟨rfl,rfl⟩:=hx;exact⟨(h.rep i a u e hq (by simpa using he)).1,.bad⟩
theorem Lf{t et:TypeId}{ks:List Kd}{key:PV}{zv yi:Value}{g clock:Nat}{l:List (PV×PV)}(hu:P.underlying t=some (.map kt et))(hk:yy P kt=some ks)(Cf:B0 P kt ks key=true)(hyi:av P μ key yi)(hg:w.heap[g]?=some (.map en clock))(hE:CO P μ kt ks (lM l) en.toList)(hz:(zeroValue et).run P w=.ok zv w):(pA key l=none∧(Instr.lookup t (.map (some g)) yi false).run P w=.ok zv w)∨∃j e,pA key l=some j∧en[j]?=some e∧(Instr.lookup t (.map (some g)) yi false).run P w=.ok e.val w:=by
 have Z2:=EA hk;obtain⟨hc,hv⟩:=po Cf hyi;obtain⟨r,r1,r2⟩:=ob (v:=.vT) (z:=.bad) Z2 hc w hE;have h1:=jJ 8 kt ks Z2 9992 w en.isEmpty key.cells hc;have Nn:=Go.MapKept.run_getObj_map (P:=P) hg;have h1':(Instr.checkKey en.isEmpty 10000 kt (fo P kt key.cells)).run P w=.ok () w:=h1;rw[hv];unfold Instr.lookup;simp only[Sem.run_bind,run_underlying hu,Result.andThen_ok,Sem.run_pure,Nn];rcases Oh r2 with⟨rfl,h⟩|⟨j,e,rfl,he,h⟩
 ·simp_all
 simp_all
end
section
variable {R:Type} {E:Env}
theorem Uo{t:TypeId}(h:zeroV E.P t=some .jC)(w:World):(zeroValue t).run E.P w=.ok (.slice none 0 0) w:=by unfold zeroV at h;obtain⟨c,hc,h⟩:=aqX.1 h;obtain⟨i,hi,hz⟩:=By.1 hc;have:=Ar (P:=E.P) (μ:=fun _=>none) (φ:=fun _=>default) c;rw[h]at this;cases this;exact sF hi hz
theorem acn{site:Nat}{t:TypeId}{x ix:V}{m:Mem}{k:V→Mem→bN→Option R}{r:R}(h:Q2 E site t x ix m k=some r):∃id b1 b2 m',m'=Ak [(id,b1),(site,b2)] m∧k (.os site) m' [(true,id),(true,site)]=some r∧m site=none∧b2.names=(fun _=>false)∧b1.names=(fun _=>false)∧(m id).isSome=true∧(∀m2:Mem,m2 id=m id→m2 site=none→∀(R':Type)(k':V→Mem→bN→Option R'),Q2 E site t x ix m2 k'=k' (.os site) (Ak [(id,b1),(site,b2)] m2) [(true,id),(true,site)])∧∀(G:Nat→Option (List PV))(w0:bO)(μ:Ro)(φ:Nat→aP)(w:World)(f:Fr)(ρ:Nat→Value)(y yi:Value),aL E.P G w0 μ φ m w→cp E.P μ φ m f ρ→au E.P μ φ x y→au E.P μ φ ix yi→∃u φ',(Instr.lookup t y yi false).run E.P w=.ok u w∧aL E.P G w0 μ φ' m' w∧cp E.P μ φ' m' f ρ∧au E.P μ φ' (.os site) u:=by
 unfold Q2 at h;split at h
 ·rename_i kt et hu;split at h
  ·rename_i e hue;split at h
   ·rename_i id hz;split at h
    ·rename_i Cx e' es hm hs;split at h
     ·rename_i hc;obtain⟨rfl,rfl,eS⟩:=hc;obtain⟨key,Cf,h⟩:=By.1 h;obtain⟨rs,hrs,h⟩:=By.1 h;obtain⟨ks,k1,k2,k3⟩:=Ay Cf;have cV:site≠id:=fun e=>by simp_all
      refine⟨id,.fU Cx e' (Am key es),.arr (bj E.P e') e' rs,_,rfl,h,hs,rfl,rfl,by rw[hm];rfl,fun m2 h1 h2 R' k'=>?_,fun G w0 μ φ w f ρ y yi hM hF hx hi=>?_⟩
      ·simp only[Q2,hu,hue,hz,h1,h2,hm,Cf,hrs,asq,eS,auM,BY];rfl
      ·obtain⟨g,en,clock,kk,hN⟩:=AB.1 (hM.dX id _ hm);have B5:=hN.HT;rw[k1]at B5;simp only[cO]at B5;subst B5;cases hx with
       |om du=>
        rw[hN.pl]at du;simp only[cO]at du;subst du;have Oi:=Lf hu k1 k2 (k3 μ φ yi hi) hN.heap hN.ent (Uo hz w);have Up:∀i off,(bX.fU Cx e' (Am key es)).rowAt i off=true→(bX.fU Cx e' es).rowAt i off=true∧pA key es≠some i:=by
         intro i off hr;rcases mf hr with⟨_,_,_,_,_,_,hb,_⟩|⟨_,_,_,k0,s0,rs0,hb,rfl,he⟩
         ·cases hb
         ·simp only[bX.fU.injEq]at hb;obtain⟨rfl,rfl,rfl⟩:=hb;rw[AA]at he;cases hp:pA key es with
          |none=>rw[hp]at he;simp only at he;exact⟨by rw[me he];rfl,by simp⟩
          |some j=>
           rw[hp]at he;simp only[auv]at he;split at he
           ·simp_all
           ·rename_i hji;have he:es[i]?=some (k0,PV.uY s0 rs0):=by simpa using he
            exact⟨by rw[me he];rfl,fun h=>hji (by simpa using h)⟩
        have Bg:aL E.P G w0 μ φ (aD m id (.fU Cx e' (Am key es))) w:=by
         refine hM.write hm rfl hN.pl (nD.refl _ _) rfl (fun _ _=>rfl) (AB.2 ⟨g,en,clock,ks,hN.pl,hN.heap,?_,k1,fun i k0 v0 h0=>?_,hN.born,fun i k0 v0 e0 h0 he0=>?_⟩) rfl (by simp[bX.names]) (fun st h=>by cases h) (fun i off hr=>(Up i off hr).1)
         ·rw[hN.size,AA];grind
         ·rw[AA]at h0;cases hp:pA key es with
          |none=>rw[hp]at h0;exact hN.key i k0 v0 h0
          |some j=>
           rw[hp]at h0;simp only[auv]at h0;obtain⟨x0,ZZ,hq⟩:=aqX.1 h0;obtain⟨xa,xu⟩:=x0;split at hq
           ·simp only[amn]at hq;rw[←hq.1];exact hN.key i xa xu ZZ
           ·simp only[id_eq,amn]at hq;rw[←hq.1];exact hN.key i xa xu ZZ
         ·rw[AA]at h0;cases hp:pA key es with
          |none=>rw[hp]at h0;exact hN.rep i k0 v0 e0 h0 he0
          |some j=>
           rw[hp]at h0;simp only[auv]at h0;obtain⟨x0,ZZ,hq⟩:=aqX.1 h0;obtain⟨xa,xu⟩:=x0;obtain⟨q1,q2⟩:=hN.rep i xa xu e0 ZZ he0;split at hq
           ·simp only[amn]at hq;obtain⟨rfl,rfl⟩:=hq;exact⟨q1,.pure .bad⟩
           simp_all
        have amP:∀(ph:aP)(u:Value),aX E.P μ (fun _=>ph) w 0 (bj E.P e') e' rs→au E.P μ (fun _=>ph) (.os 0) u→(∀g',ph.g=some g'→∃j,pA key es=some j∧(bX.fU Cx e' es).rowAt j 0=true∧((φ id).row j 0).g=some g')→∃φ',aL E.P G w0 μ φ' (Ak [(id,.fU Cx e' (Am key es)),(site,.arr (bj E.P e') e' rs)] m) w∧cp E.P μ φ' (Ak [(id,.fU Cx e' (Am key es)),(site,.arr (bj E.P e') e' rs)] m) f ρ∧au E.P μ φ' (.os site) u:=by
         intro ph u hA hV Nn;have Rk:∀j,(m j).isSome=true→j≠site:=fun j hj e=>by simp_all
         refine⟨fun i=>if i=site then ph else φ i,?_,?_,?_⟩
         ·refine Bg.put (by rw[aF cV];omega) (nD.refl _ _) hM.ro (fun _ _ _ _ _=>rfl) (fun g' du=>?_) (wm vL) ?_ (by simp[bX.names]) (fun st h=>by cases h)
          ·have du:=sE vL du;obtain⟨j,hj,hr,hjg⟩:=Nn g' du;obtain⟨o1,o2⟩:=hM.own id _ g' hm (.inr ⟨j,0,hr,hjg⟩);refine⟨o1,o2 rfl,fun i b' hi ho=>?_⟩;by_cases hii:i=id
           ·subst hii;rw[cg]at hi;simp only[cO]at hi;subst hi;obtain⟨a1,a2⟩:=hM.apart i _ hm j 0 g' hr hjg;rcases ho with ho|⟨i',Ba,Cz,ho⟩
            ·exact a1 ho
            grind
           ·rw[aF hii]at hi;exact hii (hM.inj i id _ _ g' hi hm ho (.inr ⟨j,0,hr,hjg⟩))
          ·exact aX.move (φ':=fun i=>if i=site then ph else φ i) (j:=site) hA (by simp) (fun _ _ h=>h)
         ·refine hF.mono (fun _ _ h=>h) fun j hj=>⟨by simp[Rk j hj],?_⟩;show(aD (aD m id _) site _ j).isSome=true;rw[aF (Rk j hj)];by_cases hji:j=id
          ·subst hji;simp
          ·rw[aF hji];omega
         ·cases hV with
          |yp h=>exact .yp (by simpa using h)
          | @os _ g0 h=>have:=au.os (P:=E.P) (μ:=μ) (φ:=fun i=>if i=site then ph else φ i) (id:=site) (g:=g0) (by simpa using h);simpa using this
        rw[Ru]at hrs;rcases Oi with⟨hp,zd⟩|⟨j,en0,hp,hen,zd⟩
        ·rw[hp]at hrs;simp only[cO]at hrs;subst hrs;obtain⟨φ',a1,a2,a3⟩:=amP (JY none 0 0 (bj E.P e')) (.slice none 0 0) ⟨rfl,rfl,rfl,eS,by simp,by simp[maxLen],⟨rfl,rfl⟩⟩ (.yp rfl) (fun g' du=>by cases du);grind
        ·rw[hp]at hrs;obtain⟨x0,ZZ,pz⟩:=By.1 hrs;obtain⟨xa,xu⟩:=x0;have hxu:=Rh pz;simp only at hxu;subst hxu;obtain⟨_,q2⟩:=hN.rep j xa _ en0 ZZ hen;obtain⟨φ',a1,a2,a3⟩:=amP ((φ id).row j 0).up en0.val q2.1 q2.2 (fun g' du=>⟨j,hp,by rw[me ZZ];rfl,du⟩);grind
     ·cases h
    ·cases h
   ·cases h
  ·cases h
 ·cases h
end
theorem Lg{m:Mem}:∀{cs:List V}{j0:Nat}{ps:List PV}{tk:Option (Nat×Nat)},nO m j0 cs=some (ps,tk)→ps.length=cs.length∧(tk=none→∀(i:Nat)p,ps[i]?=some p→∃v,cs[i]?=some v∧nv dq 1 v=some p)∧∀j id2,tk=some (j,id2)→∃l s2 Rt rs,cs[l]?=some (.os id2)∧m id2=some (.arr s2 Rt rs)∧ps[l]?=some (.uY s2 rs)∧∀(i:Nat)p,i≠l→ps[i]?=some p→∃v,cs[i]?=some v∧nv dq 1 v=some p
 |[],j0,ps,tk,h=>by simp only[nO,cO,amn]at h;grind
 |v::r,j0,ps,tk,h=>by
  have plain:∀{p:PV},nv dq 1 v=some p→(match nO m (j0+1) r with
   |some (ps,t)=>some (p::ps,t)
   |none=>none)=some (ps,tk)→ps.length=(v::r).length∧
   (tk=none→∀(i:Nat)p,ps[i]?=some p→∃u,(v::r)[i]?=some u∧nv dq 1 u=some p)∧
   ∀j id2,tk=some (j,id2)→∃l s2 Rt rs,(v::r)[l]?=some (.os id2)∧m id2=some (.arr s2 Rt rs)∧ps[l]?=some (.uY s2 rs)∧∀(i:Nat)p,i≠l→ps[i]?=some p→∃u,(v::r)[i]?=some u∧nv dq 1 u=some p:=by
   intro p hp h
   split at h
   ·rename_i ps' t ht;simp only[cO,amn]at h;obtain⟨rfl,rfl⟩:=h;obtain⟨h1,h2,h3⟩:=Lg ht;refine⟨by simp[h1],fun hn i q hq=>?_,fun j id2 hj=>?_⟩
    ·grind
    ·obtain⟨l,s2,Rt,rs,a1,a2,a3,a4⟩:=h3 j id2 hj;refine⟨l+1,s2,Rt,rs,by simpa using a1,a2,by simpa using a3,fun i q hi hq=>?_⟩;grind
   ·cases h
  unfold nO at h;split at h
  ·rename_i heq;cases heq
  ·rename_i j id r' heq;simp only[ato]at heq;obtain⟨rfl,rfl⟩:=heq;split at h
   ·rename_i s et es hm;split at h
    ·rename_i ps' ht;simp only[cO,amn]at h;obtain⟨rfl,rfl⟩:=h;obtain⟨h1,h2,_⟩:=Lg ht;refine⟨by simp[h1],fun hn=>(nomatch hn),fun j id2 hj=>?_⟩;simp only[cO,amn]at hj;obtain⟨rfl,rfl⟩:=hj;refine⟨0,s,et,es,rfl,hm,rfl,fun i q hi hq=>?_⟩;grind
    ·cases h
   ·cases h
  grind
section
variable {P:Program} {G:Nat→Option (List PV)} {w0:bO} {μ μ':Ro} {φ φ':Nat→aP} {m m':Mem} {w w':World}
theorem Lh{v:V}{n j id2:Nat}{cs:List V}{ps:List PV}(hc:toCells n v=some cs)(h:nO m 0 cs=some (ps,some (j,id2))):∃l s2 Rt rs,m id2=some (.arr s2 Rt rs)∧ps[l]?=some (.uY s2 rs)∧ps.length=n∧v.has id2=true∧∀(P:Program)(μ:Ro)(φ:Nat→aP)(x:Value),au P μ φ v x→x.cells.size=n∧(∀(i:Nat)(y:Value),x.cells[i]?=some y→y.oneCell'=true)∧(∀(i:Nat)p y,i≠l→ps[i]?=some p→x.cells[i]?=some y→av P μ p y)∧∃y,x.cells[l]?=some y∧au P μ φ (.os id2) y:=by
 obtain⟨t1,_,t3⟩:=Lg h;obtain⟨l,s2,Rt,rs,a1,a2,a3,a4⟩:=t3 j id2 rfl;obtain⟨n1,n2,n3⟩:=toCells_ok hc;refine⟨l,s2,Rt,rs,a2,a3,by omega,n2 id2 (bZ (aqY a1) (by simp[V.has])),fun P μ φ x hx=>?_⟩;obtain⟨x1,x2,x3⟩:=n3 P μ φ x hx;refine⟨x1,x3,fun i p y hi hp hy=>?_,?_⟩
 ·grind [Av]
 ·have hl:l<x.cells.size:=by grind
  exact⟨x.cells[l],aiX hl,x2 l _ _ a1 (aiX hl)⟩
theorem Jv{s off n:Nat}{e:PV}{ps:List PV}(hn:ps.length=n)(hb:off+n≤s)(h0:0<n)(ha:s=1→∀p,ps.head? =some p→∀cs,p≠.agg cs):(if s=1 then ps.headD .bad else PV.agg (bY (aQ s e) off ps)).cells=bY (aQ s e) off ps:=by
 split
 ·rename_i h1;subst h1;have e1:off=0:=by omega
  have e2:n=1:=by omega
  subst e1;subst e2;match ps,hn with
  |[p],_=>
   have:=ha rfl p rfl;have hp:p.cells=[p]:=by cases p<;>first|rfl|exact absurd rfl (this _)
   simp only[List.headD_cons,hp,eu,at3,atC,amo,asi];rfl
 rfl
theorem Li{T:Type}{cs ps:List T}{off l:Nat}{x:T}(hl:l<ps.length)(hb:off+ps.length≤cs.length):bY cs off (ps.set l x)=(bY cs off ps).set (off+l) x:=by
 have hto:(cs.take off).length=off:=by simp;omega
 simp_all[eu,atW,asD,List.set_append,IS,IN]
theorem Lj{id id2:Nat}{B X:bX}(cV:id2≠id):aD (fO id (bF (bS id2 (aD m id B)) id2)) id X=aD (fO id (bF (bS id2 m) id2)) id X:=by
 funext t;by_cases h:t=id
 ·subst h;simp
 ·rw[aF h,aF h];unfold fO;by_cases h2:t=id2
  ·subst h2;simp
  simp_all[gZ,bS,aF]
end
section
variable {R:Type} {E:Env}
theorem aco{t:TypeId}{v:V}{id i off s id2 j:Nat}{et:TypeId}{es ps:List PV}{cs:List V}{e:PV}{m:Mem}(hm:m id=some (.nest s et es))(hc:toCells (bj E.P t) v=some cs)(ht:nO m 0 cs=some (ps,some (j,id2)))(hb:off+bj E.P t≤s)(h0:0<bj E.P t)(cV:id2≠id)(he:es[i]?=some e){G:Nat→Option (List PV)}{w0:bO}{μ:Ro}{φ:Nat→aP}{w:World}{f:Fr}{ρ:Nat→Value}{ya yx:Value}(hM:aL E.P G w0 μ φ m w)(hF:cp E.P μ φ m f ρ)(ha:au E.P μ φ (.oe id i off) ya)(hx:au E.P μ φ v yx):∃w' φ',(Instr.storeAt t ya yx).run E.P w=.ok () w'∧aL E.P G w0 μ φ' (Ak [(id,.nest s et (es.set i (if s=1 then ps.headD .bad else .agg (bY (aQ s e) off ps))))] (km [(true,id2),(false,id)] m)) w'∧cp E.P μ φ' (Ak [(id,.nest s et (es.set i (if s=1 then ps.headD .bad else .agg (bY (aQ s e) off ps))))] (km [(true,id2),(false,id)] m)) (kf [(true,id2),(false,id)] f) ρ:=by
 obtain⟨l,s2,Rt,rs,db,pz,Ns,apW,nC⟩:=Lh hc ht;obtain⟨x1,x2,x3,y,hy,hvy⟩:=nC E.P μ φ yx hx;have TL:l<ps.length:=(OF.1 pz).1;have hN:bu E.P μ φ w id s et es:=hM.dX id _ hm;have N9:=hN.2.2.2.2.1 i e he;have N2:(aQ s e).length=s:=bt _ _;have tU:ps=(ps.set l .bad).set l (.uY s2 rs):=by rw[ava];apply asB;grind
 have rX:∀(a:Nat)p,(ps.set l .bad)[a]?=some p→(a=l∧p=.bad)∨(a≠l∧ps[a]?=some p):=fun a p h=>fE h;have hE:zi E.P μ (bj E.P t) (.agg (ps.set l .bad)) yx:=by
  refine⟨by simp[PV.cells,Ns],x1,fun a p z hp hz=>?_,x2⟩;rcases rX a p (by simpa[PV.cells]using hp)with⟨_,rfl⟩|⟨h1,h2⟩
  ·exact .bad
  grind
 have one:s=1→ps.length=1:=fun h=>by omega
 have hq:(if s=1 then ps.headD .bad else PV.agg (bY (aQ s e) off ps)).cells=bY (aQ s e) off ps:=Jv Ns hb h0 fun h1 p hp T5=>by grind [List.head?_eq_getElem?,Option.some.injEq]
 have hq':(if s=1 then(ps.set l .bad).headD .bad else PV.agg (bY (aQ s e) off (ps.set l .bad))).cells=bY (aQ s e) off (ps.set l .bad):=Jv (by simpa using Ns) hb h0 fun h1 p hp T5=>by
  have Wt:l=0:=by omega
  subst Wt;rw[atV,asU,IN rfl,IN TL]at hp;grind
 generalize (if s=1 then ps.headD .bad else PV.agg (bY (aQ s e) off ps))=q at hq⊢;generalize (if s=1 then(ps.set l .bad).headD .bad else PV.agg (bY (aQ s e) off (ps.set l .bad)))=q' at hq';cases ha with
 | @oe _ _ _ g hg=>
  obtain⟨c,T,hh,oI,FG,hrw⟩:=bu.set (q:=q') hN (hM.apart id _ hm) hg he hE hb (by rw[hq'];rfl);have rW:(φ id).sz=s:=hN.2.1;have hi:=mQ (P:=E.P) (t:=t) (by omega);have Bg:aL E.P G w0 μ φ (aD m id (.nest s et (es.set i q'))) (w.setRow g (bY c.toList (i*s+off) yx.cells.toList).toArray):=hM.write hm rfl hg (nD.setRow (ast _)) setRow_size (fun k hk=>cr hk) FG rfl (fun j hj=>by simp[bX.names]at hj) (fun st h=>by cases h) hrw;have QJ:i<es.length:=(OF.1 he).1;have acp:q.cells=q'.cells.set (off+l) (.uY s2 rs):=by grind [Li]
  have GX:q'.cells[off+l]?=some .bad:=by rw[hq',Li TL (by omega),asU,IN rfl,IN];grind [cL]
  have Az:=aL.ajd Bg (id:=id) (id2:=id2) (i:=i) (off:=off+l) (e:=q') (q:=q) (x:=y) cV (cg _ _ _) (by rw[aF cV];exact db) (by simp[QJ]) GX (fun g0 c0 _ T2 Na=>by
   rw[hg]at T2;simp only[cO]at T2;subst T2;rw[setRow_heap w g c _ T (0,0) hh]at Na;simp only[cO,Obj.cells.injEq]at Na;obtain⟨rfl,_⟩:=Na;rw[asM,eu];have cd:(c.toList.take (i*s+off)).length=i*s+off:=by simp;omega
   have Rm:l<yx.cells.toList.length:=by grind
   rw[asD,atd (by omega),cd,show i*s+(off+l)-(i*s+off)=l by omega,as4 Rm];simpa using hy) hvy acp
  rw[ava,Lj cV]at Az;refine⟨_,_,by grind [hZ],Az,?_⟩;have J1:cp E.P μ φ (aD m id (.nest s et (es.set i q'))) f ρ:=hF.pP (fun _ _ h=>h) .set;have hF2:=(J1.forget id2).Bi id;refine hF2.ain (by simp[mR]) (fun k hk=>by simp[hk]) fun k hk=>?_;show(aD (fO id (bF (bS id2 m) id2)) id _ k).isSome=true;by_cases e1:k=id
  ·subst e1;simp
  ·rw[aF e1];rw[sH]at hk⊢;by_cases e2:k=id2
   ·subst e2;simp at hk
   grind [gZ,bS,aF]
end
section
variable {R:Type} {E:Env}
variable{e:TypeId}{id2:Nat}{G:Nat→Option (List PV)}{w0:bO}{φ:Nat→aP}{w:World}{ρ:Nat→Value}
theorem aaa{t:TypeId}{v:V}{j site:Nat}{cs:List V}{ps:List PV}{p:PV}{m:Mem}(hu:E.P.underlying t=some (.slice e))(hc:toCells (bj E.P e) v=some cs)(ht:nO m 0 cs=some (ps,some (j,id2)))(hs:m site=none)(hp:elemOf (aN E.P e) ps=some p)(eS:0<bj E.P e)(Ih:bj E.P e≤16777216)(hz:(dD E e).isSome=true){μ:Ro}{f:Fr}{yx:Value}(hM:aL E.P G w0 μ φ m w)(hF:cp E.P μ φ m f ρ)(hx:au E.P μ φ v yx):∃y w' φ',(Instr.buildSlice t 1 #[(0,yx)]).run E.P w=.ok y w'∧aL E.P G w0 μ φ' (Ak [(site,.nest (bj E.P e) e [p])] (km [(true,id2)] m)) w'∧cp E.P μ φ' (Ak [(site,.nest (bj E.P e) e [p])] (km [(true,id2)] m)) (kf [(true,id2)] f) ρ∧au E.P μ φ' (.os site) y:=by
 obtain⟨l,s2,Rt,rs,db,pz,Ns,apW,nC⟩:=Lh hc ht;obtain⟨x1,x2,x3,z,hz1,hvz⟩:=nC E.P μ φ yx hx;obtain⟨zc,hzc⟩:=asA.1 hz;obtain⟨iz,zv,i1,i2,i3,_⟩:=fb hzc;have cV:id2≠site:=fun e=>by simp_all
 have Uq:p.cells=ps:=by
  unfold elemOf at hp;split at hp
  ·simp only[cO]at hp;subst hp;rfl
  ·split at hp
   ·rename_i q;simp only[cO]at hp;subst hp;have Wt:l=0:=by grind
    subst Wt;simp only[asL,cO]at pz;subst pz;rfl
   ·cases hp
 have hA2:aX E.P μ φ w id2 s2 Rt rs:=hM.dX id2 _ db;have arT:Instr.fill (fun i=>some (i*bj E.P e,bj E.P e)) ((Array.range (1*bj E.P e)).map (zv.cells[·%zv.cells.size]!)) [(0,yx)]=some yx.cells:=by
  have Ur:((Array.range (1*bj E.P e)).map (zv.cells[·%zv.cells.size]!)).size=bj E.P e:=by simp
  rw[Ez (off:=0) (size:=bj E.P e) (by simp) x1 (by omega)];simp only[Instr.fill,cO];apply atO;simp only[eu,at3,atC,as5];simp_all
 have zd:=run_buildSlice (P:=E.P) w t e 1 #[(0,yx)] yx.cells iz zv hu i1 i2 (by omega) (by omega) (by rw[i3];omega);let q:aP:={g:=some w.heap.size,cap:=1,len:=1,sz:=bj E.P e,row:=fun a b=>if a=0∧b=l then(φ id2).toJk else default};have Rk:∀k,(bF (bS id2 m) id2 k).isSome=true→k≠site:=fun k hk e=>by simp_all[gZ,Ne.symm,bS]
 have acq:∀a b,(bX.nest (bj E.P e) e [p]).rowAt a b=true→a=0∧b=l:=by
  intro a b hr;rcases mf hr with⟨_,_,_,e',s',rs',ke,h',Ax⟩|⟨_,_,_,_,_,_,ke,_⟩
  ·simp only[bX.nest.injEq]at ke;obtain⟨rfl,rfl,rfl⟩:=ke;cases a with
   |succ a=>simp at h'
   |zero=>
    simp only[asL,cO]at h';subst h';rw[Uq]at Ax;refine⟨rfl,?_⟩;by_cases Us:b=l
    ·exact Us
    ·exfalso;have cd:b<yx.cells.size:=by rw[x1,←Ns];exact(OF.1 Ax).1
     exact absurd (x3 b _ _ Us Ax (aiX cd)).Ki (by simp[PV.isRow])
  ·cases ke
 have Bg:=hM.forget id2;have oK:aL E.P G w0 μ (fun i=>if i=site then q else φ i) (aD (bF (bS id2 m) id2) site (.nest (bj E.P e) e [p])) (w.alloc (.cells yx.cells e)):=by
  have hold:∀k,k<w.heap.size→(w.alloc (.cells yx.cells e)).heap[k]?=w.heap[k]?:=fun k hk=>nD.heap_alloc w _ k hk;refine Bg.put (by rw[gZ (Ne.symm cV)];simp[bS,hs]) ((nD.refl _ w).alloc hM.below.size _) (fun k o hk=>?_) (fun id b' g hid hg=>hold g ((Bg.dX id b' hid).KZ hg)) (fun g hg=>?_) ?_ ?_ (by simp[bX.names]) (fun st h=>by cases h)
  ·have:=hM.ro k o hk;rw[hold k (apj.1 this).1];exact this
  ·rcases hg with hg|⟨a,b,hr,hg⟩
   ·simp only[q,cO]at hg;subst hg;refine⟨hM.below.size,?_,fun id b' hid ho=>?_⟩
    ·cases hq:μ w.heap.size with
     |none=>rfl
     |some o'=>have:=hM.ro _ _ hq;simp at this
    ·have:=(Bg.dX id b' hid).KZ ho;omega
   ·have Az:=acq a b hr;have hg:(φ id2).g=some g:=by simpa[q,Az]using hg
    obtain⟨o1,o2⟩:=hM.own id2 _ g db (.inl hg);refine⟨o1,o2 rfl,fun id b' hid ho=>?_⟩;obtain⟨h1,b2,yq,rfl⟩:=gm hid;exact h1 (hM.inj id id2 _ _ g yq db (hU.1 ho) (.inl hg))
  ·intro a b g hr hg;have Az:=acq a b hr;have hg:(φ id2).g=some g:=by simpa[q,Az]using hg
   refine⟨fun h=>?_,fun a' b' Cz _=>by have:=acq a' b' Cz;omega⟩;simp only[q,cO]at h;have:=(hM.dX id2 _ db).KZ (.inl hg);omega
  ·show bu E.P μ (fun i=>if i=site then q else φ i) (w.alloc (.cells yx.cells e)) site (bj E.P e) e [p];unfold bu;simp only[BY];refine⟨rfl,rfl,trivial,eS,fun i e' he'=>?_,by simp[q,maxLen],yx.cells,e,gq w _,by simp[q,x1],by simp[q],fun i e' b p' x' he' Ax Px=>?_,fun i x' _ Px=>x2 i x' Px⟩
   ·cases i with
    |zero=>simp at he';subst he';rw[Uq,Ns]
    |succ i=>simp at he'
   ·cases i with
    |succ i=>simp at he'
    |zero=>
     simp only[asL,cO]at he';subst he';rw[Uq]at Ax;rw[avt,as5]at Px;by_cases Us:b=l
     ·subst Us;rw[pz]at Ax;simp only[cO]at Ax;subst Ax;rw[hz1]at Px;simp only[cO]at Px;subst Px;have:q.row 0 b=(φ id2).toJk:=by simp[q]
      rw[this];refine fm.cF ⟨⟨Rt,hA2.up⟩,Uk hvz⟩ (fun _ _ h=>h) fun g hg=>hold g ((hM.dX id2 _ db).KZ (.inl hg))
     ·exact .pure (x3 b p' x' Us Ax Px)
 refine⟨_,_,_,zd,oK,?_,?_⟩
 ·exact(hF.forget id2).mono (fun _ _ h=>h) fun k hk=>⟨by simp[Rk k hk],by show(aD (bF (bS id2 m) id2) site _ k).isSome=true;rw[aF (Rk k hk)];exact hk⟩
 ·have:=au.os (P:=E.P) (μ:=μ) (φ:=fun i=>if i=site then q else φ i) (id:=site) (g:=w.heap.size) (by simp[q]);simpa[q]using this
theorem acr{k v v':PV}:∀{es:List (PV×PV)}{j:Nat},(dJ k v es)[j]?=some (k,v)→(pA k es=some j∨(pA k es=none∧j=es.length))→(dJ k v es).set j (k,v')=dJ k v' es:=by
 intro es j hj hp;rw[pQ,pQ];rcases hp with hp|⟨hp,rfl⟩
 ·rw[hp];simp
 ·rw[hp];simp
variable{es:List (PV×PV)}
theorem aL.agS{P:Program}{μ:Ro}{m:Mem}(hM:aL P G w0 μ φ m w){id i s2:Nat}{kt:TypeId}{k:PV}{rs:List PV}{x:Value}(cV:id2≠id)(hm:m id=some (.fU kt e es))(db:m id2=some (.arr s2 e rs))(he:es[i]?=some (k,.bad))(hx:∀g en clock,(φ id).g=some g→w.heap[g]?=some (.map en clock)→∃e0,en[i]?=some e0∧e0.val=x)(hv:au P μ φ (.os id2) x):aL P G w0 μ (fun j=>if j=id then mR (φ id) i 0 (φ id2).toJk else φ j) (aD (fO id (bF (bS id2 m) id2)) id (.fU kt e (es.set i (k,.uY s2 rs)))) w:=by
 have Bg:=(hM.forget id2).Bi id;obtain⟨g0,en,clock,kk,hN⟩:=AB.1 (hM.dX id _ hm);have hA2:aX P μ φ w id2 s2 e rs:=hM.dX id2 _ db;have pz:∀a b,(bX.fU kt e (es.set i (k,.uY s2 rs))).rowAt a b=true→(a=i∧b=0)∨((bX.fU kt e es).rowAt a b=true∧¬(a=i∧b=0)):=by
  intro a b hr;by_cases Az:a=i∧b=0
  ·exact .inl Az
  ·refine .inr ⟨?_,Az⟩;rcases mf hr with⟨_,_,_,_,_,_,ke,_⟩|⟨_,_,_,k',s',rs',ke,rfl,h'⟩
   ·cases ke
   ·simp only[bX.fU.injEq]at ke;obtain⟨rfl,rfl,rfl⟩:=ke;rcases fE h' with⟨rfl,_⟩|⟨hni,h'⟩
    ·exact absurd ⟨rfl,rfl⟩ Az
    ·rw[me h'];rfl
 refine hM.Wv (fun _ k=>if k=id2 then id else k) (fun j b' hj=>?_) (fun j b' g hj ho=>?_) (fun j b' hj=>?_) (fun j cs k hj hk=>?_) (fun j st hj=>?_)
 ·rcases gn hj with⟨rfl,rfl⟩|⟨h1,h2,c,hc,rfl⟩
  ·refine AB.2 ⟨g0,en,clock,kk,by simp[mR,hN.pl],hN.heap,by simp[hN.size],hN.HT,fun a k' v' h'=>?_,hN.born,fun a k' v' e' h' he'=>?_⟩
   ·rcases fE h' with⟨rfl,hq⟩|⟨_,h'⟩
    ·simp only[amn]at hq;rw[hq.1];exact hN.key a k _ he
    ·exact hN.key a k' v' h'
   ·simp only[BY];rcases fE h' with⟨rfl,hq⟩|⟨hni,h'⟩
    ·simp only[amn]at hq;obtain⟨rfl,rfl⟩:=hq;refine⟨(hN.rep a _ _ e' he he').1,?_⟩;rw[im];obtain⟨e1,he1,hxe⟩:=hx g0 en clock hN.pl hN.heap;rw[he']at he1;simp only[cO]at he1;subst he1;rw[hxe];exact⟨hA2.up,Uk hv⟩
    ·rw[iL _ _ (fun h=>hni h.1)];exact hN.rep a k' v' e' h' he'
  ·have hb:iK P μ φ w j (eh id (il id2 c)):=(hM.dX j c hc).kill.E4;exact hb.Ww h1 (by simp[mR]) fun k hk=>by simp[hk]
 ·rcases gn hj with⟨rfl,rfl⟩|⟨h1,h2,c,hc,rfl⟩
  ·simp only[BY]at ho;rcases ho with ho|⟨a,b,hr,ho⟩
   ·exact⟨j,_,hm,.inl ho,fun _=>rfl,by simp[cV.symm]⟩
   ·rcases pz a b hr with⟨rfl,rfl⟩|⟨Cz,Az⟩
    ·rw[im]at ho;exact⟨id2,_,db,.inl ho,fun _=>rfl,by simp⟩
    ·rw[iL _ _ Az]at ho;exact⟨j,_,hm,.inr ⟨a,b,Cz,ho⟩,fun _=>rfl,by simp[cV.symm]⟩
  ·simp only[h1,IT]at ho;exact⟨j,c,hc,hU.1 (wx.1 ho),fun h=>by rw[FN,Ew]at h;exact h,by simp[h2]⟩
 ·rcases gn hj with⟨rfl,rfl⟩|⟨h1,h2,c,hc,rfl⟩
  ·simp only[BY];have Np:=hM.apart j _ hm;have new:∀g,(φ id2).g=some g→¬(bX.fU kt e es).owns (φ j) g:=fun g hg ho=>cV (hM.inj id2 j _ _ g db hm (.inl hg) ho);intro a b g hr hg;rcases pz a b hr with⟨rfl,rfl⟩|⟨Cz,Az⟩
   ·rw[im]at hg;refine⟨fun h=>new g hg (.inl h),fun a' b' Ul PD=>?_⟩;rcases pz a' b' Ul with h|⟨hr3,Um⟩
    ·exact h
    ·rw[iL _ _ Um]at PD;exact absurd (.inr ⟨a',b',hr3,PD⟩) (new g hg)
   ·rw[iL _ _ Az]at hg;obtain⟨h3,h4⟩:=Np a b g Cz hg;refine⟨h3,fun a' b' Ul PD=>?_⟩;rcases pz a' b' Ul with⟨rfl,rfl⟩|⟨hr3,Um⟩
    ·rw[im]at PD;exact absurd (.inr ⟨a,b,Cz,hg⟩) (new g PD)
    ·rw[iL _ _ Um]at PD;exact h4 a' b' hr3 PD
  ·simp only[h1,IT];exact CQ.2 (Bf.2 (hM.apart j c hc))
 ·rcases gn hj with⟨rfl,hb⟩|⟨h1,h2,c,hc,hb⟩
  ·cases hb
  ·have TO:fO id (bF (bS id2 m) id2) j=some (.box cs):=by rw[aF h1]at hj;exact hj
   have:=Bg.gz j cs k TO hk;by_cases e:k=id
   ·subst e;simp
   ·rw[aF e];exact this
 ·rcases gn hj with⟨rfl,hb⟩|⟨h1,h2,c,hc,hb⟩
  ·cases hb
  ·cases c<;>first|(simp[eh,il]at hb;done)|skip
   simp only[eh,il,bX.loop.injEq]at hb;subst hb;exact⟨hc,by simp[h1]⟩
theorem aab{t kt et:TypeId}{xk:V}{id s:Nat}{key:PV}{rs:List PV}{m:Mem}(hu:E.P.underlying t=some (.map kt et))(hm:m id=some (.fU kt e es))(db:m id2=some (.arr s e rs))(Cf:keyOf E kt xk=some key){μ:Ro}{f:Fr}{ya yk yv:Value}(hM:aL E.P G w0 μ φ m w)(hF:cp E.P μ φ m f ρ)(ha:au E.P μ φ (.om id) ya)(hk:au E.P μ φ xk yk)(hv:au E.P μ φ (.os id2) yv):∃w' φ',(Instr.mapUpdate t ya yk yv).run E.P w=.ok () w'∧aL E.P G w0 μ φ' (Ak [(id,.fU kt e (dJ key (.uY s rs) es))] (km [(true,id2),(false,id)] m)) w'∧cp E.P μ φ' (Ak [(id,.fU kt e (dJ key (.uY s rs) es))] (km [(true,id2),(false,id)] m)) (kf [(true,id2),(false,id)] f) ρ:=by
 have cV:id2≠id:=fun h=>by subst h;rw[hm]at db;cases db
 obtain⟨ks,k1,k2,k3⟩:=Ay Cf;obtain⟨g,en,clock,kk,hN⟩:=AB.1 (hM.dX id _ hm);have B5:=hN.HT;rw[k1]at B5;simp only[cO]at B5;subst B5;have Z2:=EA k1;have hkr:=k3 μ φ yk hk;obtain⟨hc,hkv⟩:=po k2 hkr;obtain⟨res,r1,r2⟩:=ob (v:=.vT) (z:=.bad) Z2 hc w hN.ent;have Nn:=Go.MapKept.run_getObj_map (P:=E.P) hN.heap;have h1:(Instr.checkKey false 10000 kt yk).run E.P w=.ok () w:=by rw[hkv];exact jJ 8 kt ks Z2 9992 w false key.cells hc
 rw[←hkv]at r1;have cd:g<w.heap.size:=(apj.1 hN.heap).1;cases ha with
 |om du=>
  rw[hN.pl]at du;simp only[cO]at du;subst du;have fin:∀(J:Nat)(TM:Array MapEntry)(tY:Nat),(pA key es=some J∨(pA key es=none∧J=es.length))→(Instr.mapUpdate t (.map (some g)) yk yv).run E.P w=.ok () {w with heap:=w.heap.setIfInBounds g (.map TM tY)}→oG TM tY→TM.size=(dJ key .bad es).length→(∃e0,TM[J]?=some e0∧e0.key=yk∧e0.val=yv)→(∀i e0,i≠J→TM[i]?=some e0→en[i]?=some e0)→∃w' φ',(Instr.mapUpdate t (.map (some g)) yk yv).run E.P w=.ok () w'∧aL E.P G w0 μ φ' (Ak [(id,.fU kt e (dJ key (.uY s rs) es))] (km [(true,id2),(false,id)] m)) w'∧cp E.P μ φ' (Ak [(id,.fU kt e (dJ key (.uY s rs) es))] (km [(true,id2),(false,id)] m)) (kf [(true,id2),(false,id)] f) ρ:=by
   intro J TM tY hJ hr Cy rW hJe Nt;obtain⟨eJ,amQ,apX,apY⟩:=hJe;have oK:∀i k' v',(dJ key .bad es)[i]?=some (k',v')→(i=J∧k'=key∧v'=.bad)∨(i≠J∧es[i]?=some (k',v')):=by
    intro i k' v' h;rw[pQ]at h;rcases hJ with hJ|⟨hJ,rfl⟩
    ·rw[hJ]at h;rcases fE h with⟨rfl,hq⟩|⟨hni,h⟩
     ·simp only[amn]at hq;exact .inl ⟨rfl,hq.1,hq.2⟩
     ·exact .inr ⟨hni,h⟩
    ·rw[hJ]at h;simp only at h;rw[asH]at h;split at h
     ·rename_i cd;exact .inr ⟨by omega,h⟩
     ·rename_i Kk;cases hd:i-es.length with
      |zero=>rw[hd]at h;simp only[asL,cO,amn]at h;exact .inl ⟨by omega,h.1.symm,h.2.symm⟩
      |succ n=>rw[hd]at h;simp at h
   have hJb:(dJ key .bad es)[J]?=some (key,.bad):=by
    rw[pQ];rcases hJ with hJ|⟨hJ,rfl⟩
    ·rw[hJ];obtain⟨a,u,hj,_⟩:=Km hJ;simp[(OF.1 hj).1]
    ·rw[hJ];simp
   have Bg:aL E.P G w0 μ φ (aD m id (.fU kt e (dJ key .bad es))) {w with heap:=w.heap.setIfInBounds g (.map TM tY)}:=by
    refine hM.write hm rfl hN.pl ⟨⟨rfl,rfl,rfl,by simp,fun k hk=>by simp[atN (Nat.ne_of_gt hk)]⟩,fun _=>ast _⟩ (by simp) (fun k hk=>by simp[atN (Ne.symm hk)]) (AB.2 ⟨g,TM,tY,ks,hN.pl,by simp[cd],rW,k1,fun i k' v' h=>?_,Cy,fun i k' v' e0 h he0=>?_⟩) rfl (by simp[bX.names]) (fun st h=>by cases h) fun a b hr=>?_
    ·rcases oK i k' v' h with⟨_,rfl,_⟩|⟨_,h⟩
     ·exact k2
     ·exact hN.key i k' v' h
    ·rcases oK i k' v' h with⟨rfl,rfl,rfl⟩|⟨hni,h⟩
     ·rw[amQ]at he0;simp only[cO]at he0;subst he0;exact⟨by rw[apX];exact hkr,.pure .bad⟩
     ·obtain⟨q1,q2⟩:=hN.rep i k' v' e0 h (Nt i e0 hni he0);refine⟨q1,?_⟩;unfold Le at q2⊢;split at q2
      ·refine⟨q2.1.cF rfl (fun _ _ h=>h) fun g' du=>?_,q2.2⟩;have hr:(bX.fU kt e es).rowAt i 0=true:=by rw[me h];rfl
       have:=(hM.apart id _ hm i 0 g' hr du).1;rw[hN.pl]at this;simp only[avA,cO]at this;simp[atN this]
      ·exact q2
    ·rcases mf hr with⟨_,_,_,_,_,_,ke,_⟩|⟨_,_,_,k',s',rs',ke,rfl,h'⟩
     ·cases ke
     ·simp only[bX.fU.injEq]at ke;obtain⟨rfl,rfl,rfl⟩:=ke;rcases oK a k' _ h' with⟨_,_,h⟩|⟨_,h⟩
      ·cases h
      ·rw[me h];rfl
   have Az:=aL.agS Bg (id:=id) (id2:=id2) (i:=J) (x:=yv) cV (cg _ _ _) (by rw[aF cV];exact db) hJb (fun g0 en0 apZ T2 hh0=>by
    rw[hN.pl]at T2;simp only[cO]at T2;subst T2;have:(w.heap.setIfInBounds g (Obj.map TM tY))[g]?=some (.map TM tY):=by simp[cd]
    rw[this]at hh0;simp only[cO,Obj.map.injEq]at hh0;obtain⟨rfl,_⟩:=hh0;exact⟨eJ,amQ,apY⟩) hv
   rw[acr hJb hJ,Lj cV]at Az;refine⟨_,_,hr,Az,?_⟩;have J1:cp E.P μ φ (aD m id (.fU kt e (dJ key .bad es))) f ρ:=hF.pP (fun _ _ h=>h) .set;refine((J1.forget id2).Bi id).ain (by simp[mR]) (fun k hk=>by simp[hk]) fun k hk=>?_;show(aD (fO id (bF (bS id2 m) id2)) id _ k).isSome=true;by_cases e1:k=id
   ·subst e1;simp
   ·rw[aF e1];rw[sH]at hk⊢;by_cases e2:k=id2
    ·subst e2;simp at hk
    ·rw[gZ e2]at hk⊢;simp only[bS,aF e1]at hk⊢;exact hk
  rcases Oh r2 with⟨rfl,hp⟩|⟨j,e0,rfl,he0,hp⟩
  ·have Z3:=Go.MapKept.run_setObj_map (P:=E.P) (.map (en.push {key:=yk,val:=yv,born:=clock}) (clock+1)) hN.heap;refine fin es.length _ _ (.inr ⟨hp,rfl⟩) (by simp only[Instr.mapUpdate,Sem.run_bind,run_underlying hu,Nn,h1,r1,Result.andThen_ok];exact Z3) hN.born.push (by rw[pQ,hp];simp[hN.size]) ⟨{key:=yk,val:=yv,born:=clock},?_,rfl,rfl⟩ fun i e0 hi h=>?_
   ·rw[←hN.size];simp
   ·rw[auz]at h;split at h
    ·rename_i h';rw[hN.size]at h';exact absurd h' hi
    ·exact h
  ·have agT:en[j]?=some e0:=by simpa using he0
   obtain⟨a,u,haj,hpq⟩:=Km hp;obtain⟨hca,hva⟩:=po (hN.key j a u haj) (hN.rep j a u e0 haj agT).1;have Bh:=Pz hc hca hpq;have hsb:Instr.sameBits 10000 e0.key yk=true:=by rw[hva,hkv,←Bh];refine CP (n:=9999) hc (fun ha=>?_);rw[vc hc];exact(Eu Z2).2.1 ha
   have Z3:=Go.MapKept.run_setObj_map (P:=E.P) (.map (en.modify j fun e=>{e with key:=yk,val:=yv}) clock) hN.heap;have zj:j<en.size:=(apj.1 agT).1;refine fin j _ _ (.inl hp) (by simp only[Instr.mapUpdate,Sem.run_bind,run_underlying hu,Nn,h1,r1,Result.andThen_ok];simp only[as5,agT,No,atk,Instr.keyThatStays,hsb,BY,Sem.run_pure,Result.andThen_ok];exact Z3) (hN.born.modify (fun e=>{e with key:=yk,val:=yv}) (fun _=>rfl) _) (by rw[pQ,hp];simp[hN.size]) ⟨{e0 with key:=yk,val:=yv},by rw[atH,IN rfl,agT];rfl,rfl,rfl⟩ fun i e1 hi h=>?_;rw[atH,IS (Ne.symm hi)]at h;exact h
end
section
variable {P:Program} {G:Nat→Option (List PV)} {w0:bO} {μ μ':Ro} {φ φ':Nat→aP} {m m':Mem} {w w':World}
structure nE(P:Program)(μ:Ro)(rows:Nat→Nat→Jk)(w:World)(s:Nat)(es:List PV)(xs:List Value):Prop where
 len:xs.length=es.length*s
 each:∀(i:Nat)e,es[i]?=some e→e.cells.length=s
 rep:∀(i:Nat)e(j:Nat)p x,es[i]?=some e→e.cells[j]?=some p→xs[i*s+j]?=some x→eH P μ (rows i j) w p x
 one:∀(i:Nat)(x:Value),xs[i]?=some x→x.oneCell'=true
variable{rows:Nat→Nat→Jk}{es:List PV}{xs:List Value}
theorem nE.append{Lk acs:Nat→Nat→Jk}{s:Nat}{es':List PV}{xs':List Value}(h:nE P μ rows w s es xs)(h':nE P μ Lk w s es' xs')(h1:∀i j,i<es.length→acs i j=rows i j)(h2:∀i j,es.length≤i→acs i j=Lk (i-es.length) j):nE P μ acs w s (es++es') (xs++xs'):=by
 refine⟨by simp[h.len,h'.len,as2],fun i e he=>?_,fun i e j p x he hp hx=>?_,fun i x hx=>?_⟩
 ·rw[asH]at he;split at he
  ·exact h.each i e he
  ·exact h'.each _ e he
 ·rw[asH]at he;split at he
  ·rename_i hi;rw[h1 i j hi];have hj:j<s:=by rw[←h.each i e he];grind
   rw[as4 (by rw[h.len];exact K5 hi hj)]at hx;exact h.rep i e j p x he hp hx
  ·rename_i hi;rw[h2 i j (by omega)];have e1:i*s+j=es.length*s+((i-es.length)*s+j):=by
    have:i=es.length+(i-es.length):=by omega
    grind
   rw[atd (by rw[h.len,e1];omega),h.len,show i*s+j-es.length*s=(i-es.length)*s+j by omega]at hx;exact h'.rep _ e j p x he hp hx
 ·rw[asH]at hx;split at hx
  ·exact h.one i x hx
  ·exact h'.one _ x hx
theorem Cells.PE{s:Nat}(h:Cells P μ s es xs):nE P μ rows w s es xs:=⟨h.len,h.each,fun i e j p x he hp hx=>.pure (h.rep i e j p x he hp hx),h.one⟩
theorem nE.cF{rows:Nat→Nat→Jk}{s:Nat}{es:List PV}{xs:List Value}(h:nE P μ rows w s es xs)(hw:∀i e j p g,es[i]?=some e→e.cells[j]?=some p→p.isRow=true→(rows i j).g=some g→w'.heap[g]?=w.heap[g]?):nE P μ rows w' s es xs:=⟨h.len,h.each,fun i e j p x he hp hx=>(h.rep i e j p x he hp hx).cF (fun _ _ h=>h) fun hr g hg=>hw i e j p g he hp hr hg,h.one⟩
theorem bu.PE{id sz:Nat}{et:TypeId}(h:bu P μ φ w id sz et es){g:Nat}(hg:(φ id).g=some g):∃(c:Array Value)(T:TypeId),w.heap[g]?=some (.cells c T (0,0))∧(φ id).cap*sz≤c.size∧es.length≤(φ id).cap∧nE P μ (φ id).row w sz es (c.toList.take (es.length*sz)):=by obtain⟨a1,a2,a3,a4,a5,a6,a7⟩:=h;rw[hg]at a7;obtain⟨c,T,c1,c2,c3,c4,c5⟩:=a7;have hle:es.length*sz≤c.size:=asZ (asj _ c3) c2;refine⟨c,T,c1,c2,c3,by simp;omega,a5,fun i e j p x he hp hx=>c4 i e j p x he hp (by grind),fun i x hx=>?_⟩;grind
theorem nE.nest{id g sz:Nat}{et T:TypeId}{c:Array Value}(hph:(φ id).toJk=⟨some g,(φ id).cap,es.length,sz⟩)(rW:sz=bj P et)(eS:0<sz)(vb:(φ id).cap≤maxLen)(hh:w.heap[g]?=some (.cells c T (0,0)))(hc:(φ id).cap*sz≤c.size)(hle:es.length≤(φ id).cap)(hC:nE P μ (φ id).row w sz es (c.toList.take (es.length*sz))):bu P μ φ w id sz et es:=by
 have e1:(φ id).g=some g:=by rw[hph]
 refine⟨by rw[hph],by rw[hph],rW,eS,hC.each,vb,?_⟩;rw[e1];have zj:∀(i:Nat)e(j:Nat)p,es[i]?=some e→e.cells[j]?=some p→i*sz+j<es.length*sz:=fun i e j p hi hj=>K5 (OF.1 hi).1 (by rw[←hC.each i e hi];grind);refine⟨c,T,hh,hc,hle,fun i e j p x hi hj hx=>?_,fun i x hi hx=>?_⟩
 ·exact hC.rep i e j p x hi hj (by grind)
 ·exact hC.one i x (by grind)
end
section
variable {R:Type} {E:Env}
def Wx(src:Option Nat)(m:Mem):Mem:=match src with|some id2=>bF (bS id2 m) id2|none=>m
def kfS(src:Option Nat)(f:Fr):Fr:=match src with|some id2=>fD id2 f|none=>f
variable{src:Option Nat}
theorem acu{m:Mem}{j:Nat}{b:bX}(h:Wx src m j=some b):src≠some j∧∃b',m j=some b'∧b.rowAt=b'.rowAt:=by
 cases src with
 |none=>exact⟨by simp,b,h,rfl⟩
 |some id2=>obtain⟨h1,b',h2,rfl⟩:=gm h;grind [Be]
theorem aac{t e ty:TypeId}{x:V}{id s:Nat}{es new:List PV}{rd:bN}{m:Mem}(hu:E.P.underlying t=some (.slice e))(hm:m id=some (.nest s e es))(hs:s=bj E.P e)(hz:(dD E e).isSome=true)(eS:0<bj E.P e)(hby:0<Nf E.P e)(ee:(es++new).length*Nf E.P e≤ah)(FL:(∃id2,src=some id2∧id2≠id∧x=.os id2∧m id2=some (.nest s e new))∨(src=none∧ga m s x=some (new,rd))){G:Nat→Option (List PV)}{w0:bO}{μ:Ro}{φ:Nat→aP}{w:World}{f:Fr}{ρ:Nat→Value}{ys yx:Value}(hM:aL E.P G w0 μ φ m w)(hF:cp E.P μ φ m f ρ)(ha:au E.P μ φ (.os id) ys)(hx:au E.P μ φ x yx):∃w' y φ',(Builtin.append_ #[t,t] ty #[ys,yx]).run E.P w=.ok y w'∧aL E.P G w0 μ φ' (aD (bF (bS id (Wx src m)) id) id (.nest s e (es++new))) w'∧cp E.P μ φ' (aD (bF (bS id (Wx src m)) id) id (.nest s e (es++new))) (fD id (kfS src f)) ρ∧au E.P μ φ' (.os id) y:=by
 obtain⟨zc,hzc⟩:=asA.1 hz;obtain⟨i,zv,hi,hzv,his,_,Ws,_,_,_⟩:=fb hzc;have hN:bu E.P μ φ w id s e es:=hM.dX id _ hm;have TL:(es++new).length=es.length+new.length:=by simp
 have Ey:0<s:=by omega
 obtain⟨Lk,Cz⟩:∃Lk:Nat→Nat→Jk,Lk=match src with|some id2=>(φ id2).row|none=>fun _ _=>default:=⟨_,rfl⟩
 obtain⟨os,hos,hC⟩:∃os,((ys=.slice none 0 0∧es.length=0∧os=[])∨∃(g cap:Nat)(c:Array Value)(T:TypeId),ys=.slice (some ⟨g,0,none⟩) es.length cap∧w.heap[g]?=some (.cells c T (0,0))∧cap*s≤c.size∧es.length≤cap∧cap≤maxLen∧os=c.toList.take (es.length*s))∧nE E.P μ (φ id).row w s es os:=by
  cases ha with
  |yp hg=>have a7:=hN.2.2.2.2.2.2;rw[hg]at a7;rw[a7.1];exact⟨[],.inl ⟨rfl,rfl,rfl⟩,by simp,by simp,fun i e j p x he=>by simp at he,by simp⟩
  | @os _ g hg=>obtain⟨c,T,c1,c2,c3,c4⟩:=hN.PE hg;exact⟨_,.inr ⟨g,(φ id).cap,c,T,by rw[hN.1],c1,c2,c3,hN.2.2.2.2.2.1,rfl⟩,c4⟩
 obtain⟨xs,QH,hCx⟩:∃xs,((yx=.slice none 0 0∧new.length=0∧xs=[])∨∃(a:Addr)(cx:Nat),yx=.slice (some a) new.length cx∧xs.length=new.length*s∧(∀(j:Nat)v,xs[j]?=some v→w.cell? (a.add j)=some v)∧(∀v∈xs,v.oneCell'=true)∧new.length≤cx∧cx≤maxLen)∧nE E.P μ Lk w s new xs:=by
  rcases FL with⟨id2,rfl,cV,rfl,db⟩|⟨rfl,N9⟩
  ·have hN2:bu E.P μ φ w id2 s e new:=hM.dX id2 _ db;simp only at Cz;subst Cz;cases hx with
   |yp hg=>have a7:=hN2.2.2.2.2.2.2;rw[hg]at a7;rw[a7.1];exact⟨[],.inl ⟨rfl,rfl,rfl⟩,by simp,by simp,fun i e j p x he=>by simp at he,by simp⟩
   | @os _ g hg=>
    obtain⟨c,_,c1,c2,c3,c4⟩:=hN2.PE hg;refine⟨_,.inr ⟨⟨g,0,none⟩,(φ id2).cap,by rw[hN2.1],c4.len,fun j v hj=>?_,fun v hv=>?_,c3,hN2.2.2.2.2.2.1⟩,c4⟩
    ·grind [Addr.add_mid,dL,jH]
    ·obtain⟨j,hj⟩:=asE hv;exact c4.one j v hj
  ·obtain⟨_,_,hsr⟩:=rY N9;have:=hsr _ _ _ _ _ _ _ hM hx;cases this with
   |none hn=>subst hn;exact⟨[],.inl ⟨rfl,rfl,rfl⟩,by simp,by simp,fun i e j p x he=>by simp at he,by simp⟩
   | @some a cx xs hC QH hcx hcm=>exact⟨xs,.inr ⟨a,cx,rfl,hC.len,QH,fun u hu=>by obtain⟨j,hj⟩:=asE hu;exact hC.one j u hj,hcx,hcm⟩,hC.PE⟩
 obtain⟨w',y,hr,ace⟩:=K6 (ty:=ty) hu hi hzv (by omega) hs eS hby (by simp_all) hos QH;let uS:Nat→Nat→Jk:=fun a b=>if a<es.length then(φ id).row a b else Lk (a-es.length) b;have hCC:nE E.P μ uS w s (es++new) (os++xs):=hC.append hCx (fun a b h=>by grind) (fun a b h=>by grind);have pz:∀a b g,(bX.nest s e (es++new)).rowAt a b=true→(uS a b).g=some g→(a<es.length∧(bX.nest s e es).rowAt a b=true∧((φ id).row a b).g=some g)∨(es.length≤a∧∃id2,src=some id2∧id2≠id∧m id2=some (.nest s e new)∧(bX.nest s e new).rowAt (a-es.length) b=true∧((φ id2).row (a-es.length) b).g=some g):=by
  intro a b g QF hg;rcases mf QF with⟨_,_,_,e',s',rs',ke,h',Ax⟩|⟨_,_,_,_,_,_,ke,_⟩
  ·simp only[bX.nest.injEq]at ke;obtain⟨rfl,rfl,rfl⟩:=ke;by_cases cd:a<es.length
   ·rw[as4 cd]at h';exact .inl ⟨cd,by rw[dS h' Ax];rfl,by grind⟩
   ·rw[atd (by omega)]at h';simp only[uS,cd,IT]at hg;rcases FL with⟨id2,rfl,cV,rfl,db⟩|⟨rfl,N9⟩
    ·simp only at Cz;subst Cz;exact .inr ⟨by omega,id2,rfl,cV,db,by rw[dS h' Ax];rfl,hg⟩
    ·exfalso;obtain⟨_,_,hsr⟩:=rY N9;have h3:=hsr _ _ _ _ _ _ _ hM hx;cases h3 with
     |none hn=>subst hn;simp at h'
     | @some a2 cx xs2 hC2 ar7 hcx hcm=>
      have hj:(a-es.length)*s+b<xs2.length:=by rw[hC2.len];exact K5 (OF.1 h').1 (by rw[←hC2.each _ _ h'];grind)
      exact absurd (hC2.rep _ _ _ _ _ h' Ax (cN hj)).Ki (by simp[PV.isRow])
  ·cases ke
 have aje:∀j,(bF (bS id (Wx src m)) id j).isSome=true→j≠id:=fun j hj e=>by subst e;simp at hj
 have bB:∀j b',bF (bS id (Wx src m)) id j=some b'→j≠id∧src≠some j∧∃b,m j=some b∧b'.rowAt=b.rowAt:=by intro j b' hj;obtain⟨h1,b1,h2,rfl⟩:=gm hj;grind [acu,Be]
 have Ut:∀{j b' b g},b'.rowAt=b.rowAt→bX.owns b' (φ j) g→bX.owns b (φ j) g:=fun h ho=>by simp_all[bX.owns]
 have hM0:aL E.P G w0 μ φ (Wx src m) w:=by
  cases src with
  |none=>exact hM
  |some id2=>exact hM.forget id2
 have hF0:cp E.P μ φ (Wx src m) (kfS src f) ρ:=by
  cases src with
  |none=>exact hF
  |some id2=>exact hF.forget id2
 have Bg:=hM0.forget id;have J1:=hF0.forget id;have agU:∀a b g,(bX.nest s e (es++new)).rowAt a b=true→(uS a b).g=some g→w0.heap.size≤g∧μ g=none∧g<w.heap.size∧∀j b',bF (bS id (Wx src m)) id j=some b'→¬b'.owns (φ j) g:=by
  intro a b g QF hg;rcases pz a b g QF hg with⟨_,h2,h3⟩|⟨_,id2,rfl,cV,db,h2,h3⟩
  ·obtain⟨o1,o2⟩:=hM.own id _ g hm (.inr ⟨a,b,h2,h3⟩);refine⟨o1,o2 rfl,(hM.dX id _ hm).KZ (.inr ⟨a,b,h2,h3⟩),fun j b' hj ho=>?_⟩;obtain⟨k1,_,b2,k3,k4⟩:=bB j b' hj;exact k1 (hM.inj j id _ _ g k3 hm (Ut k4 ho) (.inr ⟨a,b,h2,h3⟩))
  ·obtain⟨o1,o2⟩:=hM.own id2 _ g db (.inr ⟨_,b,h2,h3⟩);refine⟨o1,o2 rfl,(hM.dX id2 _ db).KZ (.inr ⟨_,b,h2,h3⟩),fun j b' hj ho=>?_⟩;obtain⟨_,k1,b2,k3,k4⟩:=bB j b' hj;exact k1 (by rw[hM.inj j id2 _ _ g k3 db (Ut k4 ho) (.inr ⟨_,b,h2,h3⟩)])
 have amx:∀a b a' b' g,(bX.nest s e (es++new)).rowAt a b=true→(uS a b).g=some g→(bX.nest s e (es++new)).rowAt a' b'=true→(uS a' b').g=some g→a'=a∧b'=b:=by
  intro a b a' b' g h1 h2 h3 h4;rcases pz a b g h1 h2 with⟨u1,u2,u3⟩|⟨u1,i2,u0,une,um,u2,u3⟩<;>rcases pz a' b' g h3 h4 with⟨v1,v2,v3⟩|⟨v1,i3,v0,vne,vm,v2,v3⟩
  ·exact(hM.apart id _ hm a b g u2 u3).2 a' b' v2 v3
  ·exact absurd (hM.inj i3 id _ _ g vm hm (.inr ⟨_,_,v2,v3⟩) (.inr ⟨_,_,u2,u3⟩)) vne
  ·exact absurd (hM.inj i2 id _ _ g um hm (.inr ⟨_,_,u2,u3⟩) (.inr ⟨_,_,v2,v3⟩)) une
  ·rw[u0]at v0;simp only[cO]at v0;subst v0;obtain⟨h5,h6⟩:=(hM.apart i2 _ um (a-es.length) b g u2 u3).2 (a'-es.length) b' v2 v3;omega
 have fin:∀(q:aP)(w1:World),q.row=uS→nD w0.heap.size w w1→(∀k o,μ k=some o→w1.heap[k]?=some o)→(∀j b' g,bF (bS id (Wx src m)) id j=some b'→b'.owns (φ j) g→w1.heap[g]?=w.heap[g]?)→(∀g,q.g=some g→w0.heap.size≤g∧μ g=none∧(∀j b',bF (bS id (Wx src m)) id j=some b'→¬b'.owns (φ j) g)∧∀a b,(bX.nest s e (es++new)).rowAt a b=true→(uS a b).g≠some g)→(bu E.P μ (fun k=>if k=id then q else φ k) w1 id s e (es++new))→aL E.P G w0 μ (fun k=>if k=id then q else φ k) (aD (bF (bS id (Wx src m)) id) id (.nest s e (es++new))) w1∧cp E.P μ (fun k=>if k=id then q else φ k) (aD (bF (bS id (Wx src m)) id) id (.nest s e (es++new))) (fD id (kfS src f)) ρ:=by
  intro q w1 hq T6 B4 hold H7 nC;refine⟨Bg.put (by simp) T6 B4 hold (fun g hg=>?_) (fun a b g QF hg=>?_) nC (by simp[bX.names]) (fun st h=>by cases h),J1.mono (fun _ _ h=>h) fun j hj=>⟨by simp[aje j hj],by grind [aF]⟩⟩
  ·rcases hg with hg|⟨a,b,QF,hg⟩
   ·grind
   grind
  grind
 rcases ace with⟨rfl,rfl,h1,h2⟩|⟨g',J0,c',T',rfl,b1,b2,b3,b4,b5,b6⟩
 ·have h1:es=[]:=aso h1;have h2:new=[]:=aso h2;obtain⟨k1,k2⟩:=fin {g:=none,cap:=0,len:=0,sz:=s,row:=uS} w' rfl (nD.refl _ _) hM.ro (fun _ _ _ _ _=>rfl) (fun g hg=>by cases hg) ⟨by simp[h1,h2],by simp,hs,Ey,by simp[h1,h2],by simp[maxLen],by simp[h1,h2]⟩;exact⟨w',_,_,hr,k1,k2,.yp (by simp)⟩
 ·have hq:∀(w1:World)(T:TypeId),w1.heap[g']?=some (.cells c' T (0,0))→nE E.P μ uS w1 s (es++new) (os++xs)→bu E.P μ (fun k=>if k=id then({g:=some g',cap:=J0,len:=(es++new).length,sz:=s,row:=uS}:aP)else φ k) w1 id s e (es++new):=fun w1 T hh hC1=>nE.nest (g:=g') (c:=c') (by simp) hs Ey (by simpa using b4) hh (by simpa using b2) (by simpa[TL]using b3) (by grind);have arU:au E.P μ (fun k=>if k=id then({g:=some g',cap:=J0,len:=(es++new).length,sz:=s,row:=uS}:aP)else φ k) (.os id) (.slice (some ⟨g',0,none⟩) (es.length+new.length) J0):=by have:=au.os (P:=E.P) (μ:=μ) (φ:=fun k=>if k=id then({g:=some g',cap:=J0,len:=(es++new).length,sz:=s,row:=uS}:aP)else φ k) (id:=id) (g:=g') (by simp);grind
  rcases b6 with⟨agR,hys,b6,b7⟩|⟨rfl,rfl⟩
  ·have du:(φ id).g=some g':=by
    have key:∀z,au E.P μ φ (.os id) z→z=.slice (some ⟨g',0,none⟩) es.length agR→(φ id).g=some g':=by
     intro z hz he;cases hz with
     |yp _=>cases he
     |os hg=>grind
    exact key _ ha hys
   obtain⟨o1,o2⟩:=hM.own id _ g' hm (.inl du);have TJ:∀a b,(bX.nest s e (es++new)).rowAt a b=true→(uS a b).g≠some g':=by
    intro a b QF hg;rcases pz a b g' QF hg with⟨u1,u2,u3⟩|⟨u1,i2,u0,une,um,u2,u3⟩
    ·exact(hM.apart id _ hm a b g' u2 u3).1 du
    ·exact une (hM.inj i2 id _ _ g' um hm (.inr ⟨_,_,u2,u3⟩) (.inl du))
   have Nt:∀j b',bF (bS id (Wx src m)) id j=some b'→¬b'.owns (φ j) g':=fun j b' hj ho=>by obtain⟨k1,_,b2,k3,k4⟩:=bB j b' hj;exact k1 (hM.inj j id _ _ g' k3 hm (Ut k4 ho) (.inl du))
   obtain⟨k1,k2⟩:=fin {g:=some g',cap:=J0,len:=(es++new).length,sz:=s,row:=uS} w' rfl (b6.mono o1) (fun k o hk=>by rw[b7 k (fun e=>by subst e;rw[o2 rfl]at hk;cases hk)];exact hM.ro k o hk) (fun j b' g hj ho=>b7 g fun e=>by grind) (fun g hg=>by
     simp only[cO]at hg;subst hg;exact⟨o1,o2 rfl,Nt,TJ⟩)
    (hq w' _ b1 (hCC.cF fun a e1 b p1 g he hp QF hg=>b7 g fun e=>by grind [dS]))
   grind
  ·have hold:∀k,k<w.heap.size→(w.drew.alloc (.cells c' e)).heap[k]?=w.heap[k]?:=fun k hk=>nD.heap_alloc w.drew _ k hk;obtain⟨k1,k2⟩:=fin {g:=some w.heap.size,cap:=J0,len:=(es++new).length,sz:=s,row:=uS} (w.drew.alloc (.cells c' e)) rfl ((nD.refl _ w).drew.alloc hM.below.size _) (fun k o hk=>by
     have:=hM.ro k o hk;grind)
    (fun j b' g hj ho=>hold g ((Bg.dX j b' hj).KZ ho)) (fun g hg=>by
     simp only[cO]at hg;subst hg;refine⟨hM.below.size,?_,fun j b' hj ho=>?_,fun a b QF hg=>?_⟩
     ·cases hq:μ w.heap.size with
      |none=>rfl
      |some o'=>have:=hM.ro _ _ hq;simp at this
     ·have:=(Bg.dX j b' hj).KZ ho;omega
     grind)
    (hq _ _ b1 (hCC.cF fun a e1 b p1 g he hp QF hg=>hold g (agU a b g (by rw[dS he hp];omega) hg).2.2.1))
   grind
theorem Ll{m:Mem}:∀{cs:List V}{j0:Nat}{ps:List PV},nO m j0 cs=some (ps,none)→∀m2:Mem,nO m2 j0 cs=some (ps,none)
 |[],j0,ps,h,m2=>h
 |v::r,j0,ps,h,m2=>by
  unfold nO at h;split at h
  ·rename_i heq;cases heq
  ·grind
  ·rename_i j v' r' cV heq;simp only[ato]at heq;obtain⟨rfl,rfl⟩:=heq;unfold nO;split
   ·rename_i heq;cases heq
   ·simp_all
   ·rename_i j v' r' cV heq;simp only[ato]at heq;obtain⟨rfl,rfl⟩:=heq;split at h
    ·rename_i p hp;split at h
     ·rename_i ps' t ht;simp only[cO,amn]at h;obtain⟨rfl,rfl⟩:=h;rw[Ll ht m2]
     ·cases h
    omega
theorem CR{m m2:Mem}{j id2:Nat}(hm:m2 id2=m id2):∀{cs:List V}{j0:Nat}{ps:List PV},nO m j0 cs=some (ps,some (j,id2))→nO m2 j0 cs=some (ps,some (j,id2))
 |[],j0,ps,h=>by simp[nO]at h
 |v::r,j0,ps,h=>by
  unfold nO at h;split at h
  ·rename_i heq;cases heq
  ·rename_i j id r' heq;simp only[ato]at heq;obtain⟨rfl,rfl⟩:=heq;split at h
   ·rename_i s et es hmm;split at h
    ·rename_i ps' ht;simp only[cO,amn]at h;obtain⟨rfl,rfl,rfl⟩:=h;grind [nO,Ll]
    ·cases h
   ·cases h
  ·rename_i j v' r' cV heq;simp only[ato]at heq;obtain⟨rfl,rfl⟩:=heq;unfold nO;split
   ·rename_i heq;cases heq
   ·simp_all
   ·rename_i j v' r' cV heq;simp only[ato]at heq;obtain⟨rfl,rfl⟩:=heq;split at h
    ·rename_i p hp;split at h
     ·rename_i ps' t ht;simp only[cO,amn]at h;obtain⟨rfl,rfl⟩:=h;rw[CR hm ht]
     ·cases h
    omega
theorem Uu{site:Nat}{o:Oper}{f f2:Fr}{m m2:Mem}{sp:Sp}(h:FC E site o f m=some sp)(hf:∀x∈o.op.operands,bR E f2 x=bR E f x)(hm:∀x∈(sp.info site).2,m2 x.2=m x.2):FC E site o f2 m2=some sp:=by
 obtain⟨dst,op,type,pos,after,guard⟩:=o;unfold FC at h⊢;cases op;case store t a x=>
  simp only at h⊢;rw[hf a (by simp[Op.operands]),hf x (by simp[Op.operands])];split at h
  ·rename_i id i off ha;split at h
   ·rename_i s et es hmm;split at h
    ·rename_i cs hc;split at h
     ·rename_i ps j id2 ht;split at h
      ·rename_i nB;simp only[cO]at h;subst h;have h1:m2 id=m id:=hm (true,id) (by simp[Sp.info]);have h2:m2 id2=m id2:=hm (true,id2) (by simp[Sp.info]);simp only[ha,h1,hmm,hc,CR h2 ht,nB,BY]
      ·cases h
     ·cases h
    ·cases h
   ·cases h
  omega
 case buildSlice t len parts=>
  simp only at h⊢;have Uq:(parts.toList.map fun(x:Nat×Operand)=>(x.1,bR E f2 x.2))=parts.toList.map fun(x:Nat×Operand)=>(x.1,bR E f x.2):=asJ fun x hx=>by rw[hf x.2 (by simp only[Op.operands,at4,asC];exact⟨x,hx,rfl⟩)]
  rw[Uq];split at h
  ·rename_i e v hu hp;split at h
   ·rename_i cs hc;split at h
    ·rename_i ps j id2 ht hs;split at h
     ·rename_i p PF;split at h
      ·rename_i nB;simp only[cO]at h;subst h;have h1:m2 site=m site:=hm (true,site) (by simp[Sp.info]);have h2:m2 id2=m id2:=hm (true,id2) (by simp[Sp.info]);simp only[hu,hp,hc,CR h2 ht,h1,hs,PF,nB,BY]
      ·cases h
     ·cases h
    ·cases h
   ·cases h
  omega
 case call c=>
  obtain⟨callee,args,argTypes⟩:=c;simp only at h⊢;have wy:args.toList.map (bR E f2)=args.toList.map (bR E f):=asJ fun x hx=>hf x (by simp_all[Op.operands,Call.operands]);rw[wy];split at h
  ·rename_i id x t t' ha Uv;split at h
   ·rename_i e s et es hu hmm;split at h
    ·rename_i nB;have plain:∀{new:List PV}{rd:bN},ga m s x=some (new,rd)→x.has id=false→sp=.app id s et es new none rd→ga m2 s x=some (new,rd):=by grind [rY,Sp.info]
     split at h
     ·rename_i yn;split at h
      ·rename_i s' M9 new hm';split at h
       ·rename_i hc2;simp only[cO]at h;subst h;have h1:m2 id=m id:=hm (true,id) (by simp[Sp.info]);simp_all[Sp.info,BY]
       ·cases h
      ·rename_i hnn;split at h
       ·rename_i new rd N9;split at h
        ·cases h
        ·rename_i hxh;simp only[cO]at h;have acv:=plain N9 (by simpa using hxh) h.symm;subst h;have h1:m2 id=m id:=hm (true,id) (by simp[Sp.info]);simp only[ha,Uv,hu,h1,hmm,nB,BY,acv];split
         ·rename_i s' M9 ar8 db;exfalso;simp only[ga,db]at acv;cases acv
         ·rw[IS hxh]
       ·cases h
     ·rename_i ar9;split at h
      ·rename_i new rd N9;split at h
       ·cases h
       ·rename_i hxh;simp only[cO]at h;have acv:=plain N9 (by simpa using hxh) h.symm;subst h;have h1:m2 id=m id:=hm (true,id) (by simp[Sp.info]);simp only[ha,Uv,hu,h1,hmm,nB,BY,acv];try rw[IS hxh]
      ·cases h
    ·cases h
   ·cases h
  ·cases h
 case mapUpdate t x key v=>
  simp only at h⊢;rw[hf x (by simp[Op.operands]),hf key (by simp[Op.operands]),hf v (by simp[Op.operands])];split at h
  ·rename_i kt et id id2 hu hx hv;split at h
   ·rename_i Cx e es s e' rs kp h1 h2 hk;split at h
    ·rename_i nB;simp only[cO]at h;subst h;have h3:m2 id=m id:=hm (true,id) (by simp[Sp.info]);have h4:m2 id2=m id2:=hm (true,id2) (by simp[Sp.info]);simp only[hu,hx,hv,h3,h4,h1,h2,hk,nB,BY]
    ·cases h
   ·cases h
  ·cases h
 all_goals (cases h)
end
end Go.Ab
