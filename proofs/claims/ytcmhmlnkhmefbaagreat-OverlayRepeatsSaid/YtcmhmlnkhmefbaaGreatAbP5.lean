import Derived.Test.YtcmhmlnkhmefbaaGreatAbP4
import Derived.RangeFuncRecord
import Derived.Laws.IdiomRangeMap
set_option linter.unusedVariables false
namespace Go.Ab
section
variable {P:Program} {G:Nat→Option (List PV)} {w0:bw} {μ:Ro} {φ:Nat→aG} {m:Mem} {w:World}
theorem ay.ZW(hM:ay P G w0 μ φ m w){g:Nat}(hB:w0.heap.size≤g)(ZX:∀id b,m id=some b→¬b.eg (φ id) g):ay P G w0 (nq μ w (some g)) φ m w:=by
 have mono:=jY hM (some g);refine⟨hM.below,fun b o hb=>?_,fun g' cs hg=>(hM.aI g' cs hg).mono mono,fun j c hj=>(hM.dJ j c hj).cH (fun _ _=>rfl) rfl mono (fun _ _=>rfl),fun j c g' hj bX=>?_,hM.inj,hM.apart,hM.fj,fun b o hb br=>?_,fun b o hb=>mono b o (hM.dF b o hb),hM.zd⟩
 ·unfold nq at hb;split at hb
  ·exact hb
  ·exact hM.ro b o hb
 ·obtain⟨h1,h2⟩:=hM.own j c g' hj bX;refine⟨h1,fun Bf=>?_⟩;unfold nq;split
  ·rename_i he;simp only[Option.some.injEq]at he;subst he;exact absurd bX (ZX j c hj)
  ·exact h2 Bf
 ·unfold nq at hb;split at hb
  ·rename_i he;simp only[Option.some.injEq]at he;omega
  ·exact hM.base b o hb br
theorem I0(w:World)(g:Nat)(o:Obj):jx g w (w.putObj g o):=⟨⟨rfl,rfl,rfl,by simp,fun k hk=>World.putObj_heap_other (by omega)⟩,fun _=>Nat.le_refl _⟩
theorem wX{A:Type}(f:A→Nat):∀{l:List A}{i:Nat}{e:A},l[i]?=some e→(∀(j:Nat)x,l[j]?=some x→f x=f e→j=i)→l.filter (fun x=> !(f x==f e))=l.eraseIdx i
 |[],i,e,h,_=>by simp at h
 |y::l,0,e,h,inj=>by simp only[List.getElem?_cons_zero,Option.some.injEq]at h;subst h;simp only[List.filter_cons,BEq.rfl,Bool.not_true,Bool.false_eq_true,if_false,List.eraseIdx_cons_zero];rw[List.filter_eq_self];intro x hx;obtain⟨j,hj⟩:=List.mem_iff_getElem?.1 hx;simp only[Bool.not_eq_true',beq_eq_false_iff_ne];intro e;have:=inj (j+1) x (by simpa using hj) e;omega
 |y::l,i+1,e,h,inj=>by
  have h':l[i]?=some e:=by simpa using h
  have cT:¬f y=f e:=fun e'=>by have:=inj 0 y rfl e';omega
  have hb:(f y==f e)=false:=by simpa using cT
  simp only[List.filter_cons,hb,Bool.not_false,if_true,List.eraseIdx_cons_succ];rw[wX f h' (fun j x hj e'=>by have:=inj (j+1) x (by simpa using hj) e';omega)]
theorem Dw(en:Array MapEntry):jy en #[]=en.toList:=by unfold jy;rw[List.filter_eq_self];intro x _;simp
variable{en:Array MapEntry}{clock:Nat}{seen:Array Nat}{e:MapEntry}
theorem Bt(hb:jX en clock){i:Nat}(hi:(jy en seen)[i]?=some e):jy en (seen.push e.born)=(jy en seen).eraseIdx i:=by
 have h1:jy en (seen.push e.born)=(jy en seen).filter (fun x=> !(x.born==e.born)):=by unfold jy;rw[List.filter_filter];congr 1;funext x;simp only[Array.contains_push,Bool.not_or];rw[Bool.and_comm]
 rw[h1];refine wX (fun x=>x.born) hi fun j x hj e'=>?_;have To:(jy en seen).Pairwise fun a b=>a.born≠b.born:=by
  unfold jy;refine List.Pairwise.filter _ ?_;rw[List.pairwise_iff_getElem];intro a b ha fP qN he;have h2:en[a]?=some en.toList[a]:=by rw[←Array.getElem?_toList];exact List.getElem?_eq_getElem ha
  have h3:en[b]?=some en.toList[b]:=by rw[←Array.getElem?_toList];exact List.getElem?_eq_getElem fP
  have:=(hb b _ h3).2 a _ h2 he;omega
 have xP:j<(jy en seen).length:=(List.getElem?_eq_some_iff.1 hj).1;have PU:i<(jy en seen).length:=(List.getElem?_eq_some_iff.1 hi).1;rw[List.getElem?_eq_getElem xP]at hj;rw[List.getElem?_eq_getElem PU]at hi;simp only[Option.some.injEq]at hj hi;rw[List.pairwise_iff_getElem]at To;rcases Nat.lt_trichotomy j i with h|h|h
 ·exact absurd (by rw[hj,hi];exact e') (To j i xP PU h)
 ·exact h
 ·exact absurd (by rw[hj,hi];exact e'.symm) (To i j PU xP h)
theorem N7(h:e∈jy en seen):∃i:Nat,en[i]?=some e:=by unfold jy at h;have:=(List.mem_filter.1 h).1;obtain⟨i,hi⟩:=List.mem_iff_getElem?.1 this;exact⟨i,by rw[←Array.getElem?_toList];exact hi⟩
theorem N8{w:World}{g mg:Nat}(hg:w.heap[g]?=some (.mapIter (some mg) clock seen clock))(hm:w.heap[mg]?=some (.map en clock))(hb:jX en clock)(ty:TypeId):(jy en seen=[]∧(Instr.next (.pointer (some ⟨g,0,none⟩)) false ty).run P w=.ok (.tuple #[.bool false]) w)∨∃(j:Nat)(e:MapEntry)(w1:World),(jy en seen)[j]?=some e∧(w1=w∨w1=w.drew)∧(Instr.next (.pointer (some ⟨g,0,none⟩)) false ty).run P w=.ok (.tuple #[.bool true,e.key,e.val]) (w1.putObj g (.mapIter (some mg) clock (seen.push e.born) clock)):=by
 have hold:∀x∈en.toList,x.born<clock:=fun x hx=>by obtain⟨i,hi⟩:=List.mem_iff_getElem?.1 hx;exact(hb i x (by rw[←Array.getElem?_toList];exact hi)).1
 simp only[Instr.next,getObj,Sem.run_bind,Sem.run,hg,hm,Result.andThen,next_test_false seen en clock clock hold (Nat.le_refl _),Bool.false_eq_true,if_false];have hL:(Array.filter (fun e=> !seen.contains e.born) en).toList=jy en seen:=by simp[jy]
 have bO:∀x∈(Array.filter (fun e=> !seen.contains e.born) en).toList,x.born<clock:=fun x hx=>hold x (by simp at hx⊢;exact hx.1);generalize Array.filter (fun e=> !seen.contains e.born) en=L at bO hL⊢;have e1:L.filter (fun x=>decide (x.born<clock))=L:=Array.filter_eq_self.2 (fun x hx=>by simpa using bO x (by simpa using hx));have e2:L.filter (fun x=>decide (x.born≥clock))= #[]:=by rw[Array.filter_eq_empty_iff];intro x hx;have:=bO x (by simpa using hx);simp;omega
 simp only[e1,e2,Array.append_empty];rw[←hL];by_cases h0:L.size=0
 ·left;have:L= #[]:=Array.eq_empty_of_size_eq_zero h0;subst this;refine⟨rfl,?_⟩;simp[choose,Sem.run,Question.forced]
 ·right;have cT:L.isEmpty=false:=by simp[Array.isEmpty,h0]
  simp only[cT,Bool.false_eq_true,if_false,Array.empty_append,Array.size_map];have hch:∃(j:Nat)(w1:World),j<L.size∧(w1=w∨w1=w.drew)∧(choose (Question.mapNext L.size)).run P w=.ok j w1:=by
   by_cases hf:L.size≤1
   ·exact⟨0,w,by omega,.inl rfl,by simp[choose,Sem.run,Question.forced,hf]⟩
   ·exact⟨_,w.drew,Nat.mod_lt _ (by omega),.inr rfl,by simp only[choose,Sem.run,Question.forced,decide_eq_true_eq,hf,if_false,Question.cut];rfl⟩
  obtain⟨j,w1,hj,NZ,lZ⟩:=hch;refine⟨j,L[j],w1,by rw[Array.getElem?_toList,Array.getElem?_eq_getElem hj],NZ,?_⟩;have hg1:w1.heap[g]?=some (.mapIter (some mg) clock seen clock):=by rcases NZ with rfl|rfl<;>exact hg
  have qY:(setObj g (.mapIter (some mg) clock (seen.push L[j].born) clock)).run P w1=.ok () (w1.putObj g (.mapIter (some mg) clock (seen.push L[j].born) clock)):=by simp only[setObj,Sem.run,hg1];rfl
  simp only[lZ,Array.getElem?_map,Array.getElem?_eq_getElem hj,Option.map_some,Sem.run_bind,qY,Result.andThen];rfl
theorem I1{w:World}{g mg:Nat}{i:Nat}(hg:w.heap[g]?=some (.mapIter (some mg) clock seen clock))(hm:w.heap[mg]?=some (.map en clock))(hb:jX en clock)(hi:en[i]?=some e)(hs:seen.back? =some e.born):(Instr.entry (.pointer (some ⟨g,0,none⟩))).run P w=.ok (.tuple #[e.key,e.val]) w:=by
 have hf:en.find? (·.born==e.born)=some e:=by
  rw[←Array.find?_toList];refine find_born e en.toList ?_ (by rw[Array.mem_toList_iff];exact Array.mem_of_getElem? hi);rw[List.Nodup,List.pairwise_map,List.pairwise_iff_getElem];intro a b ha fP qN he;have h2:en[a]?=some en.toList[a]:=by rw[←Array.getElem?_toList];exact List.getElem?_eq_getElem ha
  have h3:en[b]?=some en.toList[b]:=by rw[←Array.getElem?_toList];exact List.getElem?_eq_getElem fP
  have:=(hb b _ h3).2 a _ h2 he;omega
 simp only[Instr.entry,getObj,Sem.run_bind,Sem.run,hg,hm,Result.andThen,hs,bne_self_eq_false,Bool.false_eq_true,if_false,hf];rfl
end
section
variable {R:Type} {E:Env}
variable{g:Nat→Option R}{r:R}
theorem I2{n:Nat}(h:pO n g=some r)(i:Nat)(hi:i<n):g i=some r:=by
 unfold pO at h;split at h
 ·rename_i hh;simp only[Option.some.injEq]at h;subst h;exact Classical.choose_spec hh i hi
 ·cases h
theorem Bu{n:Nat}(h0:0<n)(h:∀i,i<n→g i=some r):pO n g=some r:=by unfold pO;have hh:∃r,∀i,i<n→g i=some r:=⟨r,h⟩;rw[dif_pos hh];have:=Classical.choose_spec hh 0 h0;rw[h 0 h0]at this;exact this.symm
variable{k:V→Fr→Mem→Option R}
theorem N9{site:Nat}{t:TypeId}{x:V}{f:Fr}{m:Mem}(h:IE E site t x f m k=some r):∃f' m',k (.it site) f' m'=some r∧(m' site).isSome=true∧∀(G:Nat→Option (List PV))(w0:bw)(μ:Ro)(φ:Nat→aG)(w:World)(ρ:Nat→Value)(y:Value),ay E.P G w0 μ φ m w→cm E.P μ φ m f ρ→ai E.P μ φ x y→∃w' y' μ' φ',(Instr.range t y).run E.P w=.ok y' w'∧ay E.P G w0 μ' φ' m' w'∧cm E.P μ' φ' m' f' ρ∧ai E.P μ' φ' (.it site) y':=by
 unfold IE at h;split at h
 ·rename_i kt et hu;split at h
  ·rename_i id;split at h
   ·rename_i sU es hm;split at h
    ·obtain⟨f',m',hn,jA,uQ,vT,tl⟩:=cJ h;refine⟨f',m',jA,by simp[uQ],fun G w0 μ φ w ρ y hM hF hx=>?_⟩;obtain⟨g,en,clock,kk,hg,hh,hs,xQ,Be,sJ,hv⟩:=hM.dJ id _ hm;obtain⟨o1,o2⟩:=hM.own id _ g hm (.inl hg);cases hx with
     |om bX=>
      rw[hg]at bX;simp only[Option.some.injEq]at bX;subst bX;have qX:=hM.forget id;have YU:=qX.ZW o1 (fun j b hj e=>by obtain⟨cT,b',fP,rfl⟩:=eM hj;exact cT (hM.inj j id b' _ g fP hm (fD.1 e) (.inl hg)));have Dx:=jY qX (some g);have Af:cm E.P (nq μ w (some g)) φ (bg (bD id m) id) (eP id f) ρ:=(hF.forget id).mono Dx fun j hj=>⟨rfl,hj⟩;have ja:∀φ':Nat→aG,φ' site=(CF (some w.heap.size) 0 0 0)→(∀j,(bK.iter t es none).names j=true→φ' j=φ j)→fQ E.P (nq μ w (some g)) φ' (w.alloc (.mapIter (some g) clock #[] clock)) site (.iter t es none):=fun φ' hp _=>by
       refine⟨w.heap.size,g,en,clock,#[],by rw[hp],fE w _,by simp[nq,hh],sJ,(by rw[Dw,Array.length_toList,hs]),fun i k v e h1 h2=>?_,fun k v h=>by cases h⟩;have N4:en[i]?=some e:=by rw[←Array.getElem?_toList,←Dw en];exact h2
       exact⟨(hv i k v e h1 N4).1.mono Dx,(hv i k v e h1 N4).2.mono Dx⟩
      obtain⟨φ',a1,a2,a3⟩:=tl E.P G w0 _ φ w (w.alloc (.mapIter (some g) clock #[] clock)) ρ (CF (some w.heap.size) 0 0 0) YU Af (jz.alloc (o:=.mapIter (some g) clock #[] clock) YU rfl ja (by simp[bK.names]));exact⟨_,_,_,φ',run_range_map w t kt et g en clock hu hh,a2,a3,.it (by rw[a1])⟩
    ·cases h
   ·cases h
  ·cases h
 ·cases h
theorem wY{A:Type}{l:List A}{i j:Nat}{x:A}(h:(l.eraseIdx i)[j]?=some x):l[if j<i then j else j+1]?=some x:=by
 rw[List.getElem?_eraseIdx]at h;split at h
 ·rename_i br;rw[if_pos br];exact h
 ·rename_i br;rw[if_neg br];exact h
theorem QG{x:V}{f:Fr}{m:Mem}(h:Qe E x f m k=some r)(G:Nat→Option (List PV))(w0:bw)(μ:Ro)(φ:Nat→aG)(w:World)(y:Value)(ty:TypeId)(hM:ay E.P G w0 μ φ m w)(hx:ai E.P μ φ x y):∃v m' y' w',k v f m'=some r∧(∀id,v.has id=false)∧iP m m'∧(Instr.next y false ty).run E.P w=.ok y' w'∧ay E.P G w0 μ φ m' w'∧ai E.P μ φ v y':=by
 unfold Qe at h;split at h
 ·rename_i id;split at h
  ·rename_i t es cur hm;split at h
   ·rename_i kt et hu;obtain⟨g,mg,en,clock,seen,hg,hh,Bf,sJ,yn,hv,_⟩:=hM.dJ id _ hm;obtain⟨o1,o2⟩:=hM.own id _ g hm (.inl hg);cases hx with
    |it bX=>
     rw[hg]at bX;simp only[Option.some.injEq]at bX;subst bX;have hmg:=hM.ro _ _ Bf;rcases N8 (P:=E.P) hh hmg sJ ty with⟨T5,lZ⟩|⟨j,e,w1,hj,Mw,lZ⟩
     ·have:es=[]:=by rw[T5]at yn;exact List.eq_nil_of_length_eq_zero yn.symm
      subst this;simp only[List.isEmpty_nil,if_true]at h;refine⟨_,m,_,w,h,by simp[V.has,cr],iP.refl m,lZ,hM,.bl rfl fun i p x hp hx=>?_⟩;cases i with
      |zero=>simp at hp hx;subst hp;subst hx;exact .pv .bool
      |succ i=>simp at hp
     ·have xP:j<(jy en seen).length:=(List.getElem?_eq_some_iff.1 hj).1;have cT:¬es.isEmpty=true:=by
       have ep:0<es.length:=by omega
       intro e';rw[List.isEmpty_iff]at e';rw[e']at ep;exact absurd ep (Nat.lt_irrefl 0)
      rw[if_neg cT]at h;have h:=I2 h j (by omega);obtain⟨e0,FV,h⟩:=Option.bind_eq_some_iff.1 h;obtain⟨qa,_,ha,ra,_⟩:=jO h;obtain⟨qb,_,hb,rb,_⟩:=jO ha;obtain⟨rk,rv⟩:=hv j e0.1 e0.2 e FV hj;refine⟨_,_,_,_,hb,by simp[V.has,cr],.set,lZ,?_,.bl rfl fun i p x hp hx=>?_⟩
      ·have qX:ay E.P G w0 μ φ m w1:=by rcases Mw with rfl|rfl;exact hM;exact hM.drew
       have br:g<w1.heap.size:=by have:g<w.heap.size:=(Array.getElem?_eq_some_iff.1 hh).1;rcases Mw with rfl|rfl<;>exact this
       refine qX.write hm rfl hg (I0 w1 g _) World.putObj_size (fun k hk=>World.putObj_heap_other hk) ?_ rfl (by simp[bK.names]);refine⟨g,mg,en,clock,seen.push e.born,hg,World.putObj_heap_same br,Bf,sJ,?_,fun i k v e' h1 h2=>?_,fun k v hc=>?_⟩
       ·rw[Bt sJ hj,List.length_eraseIdx,List.length_eraseIdx,yn]
       ·rw[Bt sJ hj]at h2;exact hv _ k v e' (wY h1) (wY h2)
       ·simp only[Option.some.injEq,Prod.mk.injEq]at hc;obtain⟨rfl,rfl⟩:=hc;obtain⟨i,hi⟩:=N7 (List.mem_of_getElem? hj);exact⟨i,e,hi,by simp,ra _ _ _ rk,rb _ _ _ rv⟩
      ·match i with
       |0=>simp at hp hx;subst hp;subst hx;exact .pv .bool
       |1=>simp at hp hx;subst hp;subst hx;exact .pv (ra _ _ _ rk)
       |2=>simp at hp hx;subst hp;subst hx;exact .pv (rb _ _ _ rv)
       |i+3=>simp at hp
   ·cases h
  ·cases h
 ·cases h
theorem Oa{x:V}{m:Mem}{k:V→Mem→Option R}(h:IF x m k=some r)(P:Program)(G:Nat→Option (List PV))(w0:bw)(μ:Ro)(φ:Nat→aG)(w:World)(y:Value)(hM:ay P G w0 μ φ m w)(hx:ai P μ φ x y):∃v m' y',k v m'=some r∧(∀id,v.has id=false)∧iP m m'∧(Instr.entry y).run P w=.ok y' w∧ay P G w0 μ φ m' w∧ai P μ φ v y':=by
 unfold IF at h;split at h
 ·rename_i id;split at h
  ·rename_i t es a b hm;obtain⟨g,mg,en,clock,seen,hg,hh,Bf,sJ,yn,hv,ZB⟩:=hM.dJ id _ hm;obtain⟨i,e,hi,hs,ra,rb⟩:=ZB a b rfl;cases hx with
   |it bX=>
    rw[hg]at bX;simp only[Option.some.injEq]at bX;subst bX;refine⟨_,_,_,h,by simp[V.has,cr],.set,I1 hh (hM.ro _ _ Bf) sJ hi hs,?_,.bl rfl fun i p x hp hx=>?_⟩
    ·exact hM.write hm rfl hg (jx.refl _ _) rfl (fun _ _=>rfl) ⟨g,mg,en,clock,seen,hg,hh,Bf,sJ,yn,hv,fun k v h=>by cases h⟩ rfl (by simp[bK.names])
    match i with
    |0=>simp at hp hx;subst hp;subst hx;exact .pv ra
    |1=>simp at hp hx;subst hp;subst hx;exact .pv rb
    |i+2=>simp at hp
  ·cases h
 ·cases h
end
end Go.Ab
set_option linter.unusedVariables false
namespace Go.Ab
section
variable {P:Program} {G:Nat→Option (List PV)} {w0:bw} {μ μ':Ro} {φ φ':Nat→aG} {m m':Mem} {w w':World}
variable{id j:Nat}{b:bK}
theorem gx(h:eS id m j=some b):∃b',m j=some b'∧b=dP id b':=by
 unfold eS at h;cases hm:m j with
 |none=>rw[hm]at h;cases h
 |some b'=>rw[hm]at h;simp only[Option.some.injEq]at h;exact⟨b',rfl,h.symm⟩
theorem mn:(eS id m j).isSome=(m j).isSome:=by unfold eS;cases m j<;>rfl
theorem zo(id:Nat)(b:bK):(dP id b).rowAt=b.rowAt:=by cases b<;>rfl
theorem oF{p:aG}{g:Nat}:(dP id b).eg p g↔b.eg p g:=by unfold bK.eg;rw[zo]
theorem tx{p:aG}:(dP id b).apart p↔b.apart p:=by unfold bK.apart;rw[zo]
theorem vV(id:Nat)(b:bK):(dP id b).iu=b.iu:=by cases b<;>rfl
theorem I3{cs:List V}(h:cr j (cs.map (lX id))=true):cr j cs=true:=by obtain⟨v,hv,hh⟩:=cU.1 h;obtain⟨u,hu,rfl⟩:=List.mem_map.1 hv;exact bM hu (uJ hh).1
theorem fQ.vu{id j:Nat}{b:bK}(h:fQ P μ φ w j b):fQ P μ φ w j (dP id b):=by
 cases b with
 |box cs=>obtain⟨g,c,T,hg,hh,hs,hv,h1,yn⟩:=h;refine⟨g,c,T,hg,hh,by simpa using hs,fun i v x hi hx=>?_,h1,by simpa using yn⟩;simp only[List.getElem?_map,Option.map_eq_some_iff]at hi;obtain⟨u,hu,rfl⟩:=hi;exact(hv i u x hu hx).vu id
 |_=>exact h
theorem ay.sf(hM:ay P G w0 μ φ m w)(id:Nat):ay P G w0 μ φ (eS id m) w:=by
 refine⟨hM.below,hM.ro,hM.aI,fun j b h=>?_,fun j b g h hg=>?_,fun i j b1 b2 g h1 h2 g1 g2=>?_,fun j b h=>?_,fun j cs i h hh=>?_,hM.base,hM.dF,fun j st h=>?_⟩
 ·obtain⟨b',hb,rfl⟩:=gx h;exact(hM.dJ j b' hb).vu
 ·obtain⟨b',hb,rfl⟩:=gx h;rw[vV];exact hM.own j b' g hb (oF.1 hg)
 ·obtain⟨ZD,Tm,rfl⟩:=gx h1;obtain⟨ZE,pB,rfl⟩:=gx h2;exact hM.inj i j ZD ZE g Tm pB (oF.1 g1) (oF.1 g2)
 ·obtain⟨b',hb,rfl⟩:=gx h;exact tx.2 (hM.apart j b' hb)
 ·obtain⟨b',hb,e⟩:=gx h;cases b' with
  |box Dj=>simp only[dP,bK.box.injEq]at e;subst e;rw[mn];exact hM.fj j Dj i hb (I3 hh)
  |_=>simp[dP]at e
 ·obtain⟨b',hb,e⟩:=gx h;cases b' with
  |loop st'=>simp only[dP,bK.loop.injEq]at e;subst e;exact hM.zd j st hb
  |_=>simp[dP]at e
variable{ρ:Nat→Value}
theorem cm.sf{f:Fr}(h:cm P μ φ m f ρ)(id:Nat):cm P μ φ (eS id m) (gi id f) ρ:=⟨fun t=>(h.fr t).vu id,fun t j hj=>by rw[mn];exact h.live t j (uJ hj).1⟩
theorem ay.km:∀{kl:Kl}{m:Mem},ay P G w0 μ φ m w→ay P G w0 μ φ (Go.Ab.km kl m) w
 |[],_,h=>h
 |(true,id)::r,m,h=>(ay.km (kl:=r) (m:=bg (bD id m) id) (h.forget id):)
 |(false,id)::r,m,h=>(ay.km (kl:=r) (m:=eS id m) (h.sf id):)
theorem cm.km{ρ:Nat→Value}:∀{kl:Kl}{m:Mem}{f:Fr},cm P μ φ m f ρ→cm P μ φ (Go.Ab.km kl m) (kf kl f) ρ
 |[],_,_,h=>h
 |(true,id)::r,m,f,h=>(cm.km (kl:=r) (m:=bg (bD id m) id) (f:=eP id f) (h.forget id):)
 |(false,id)::r,m,f,h=>(cm.km (kl:=r) (m:=eS id m) (f:=gi id f) (h.sf id):)
theorem ay.My(hM:ay P G w0 μ φ m w)(nw:Nat→Nat→Nat)(hblk:∀j b',m' j=some b'→fQ P μ φ' w j b')(vS:∀j b' g,m' j=some b'→b'.eg (φ' j) g→∃k b,m k=some b∧b.eg (φ k) g∧(b'.iu=true→b.iu=true)∧j=nw g k)(Bj:∀j b',m' j=some b'→b'.apart (φ' j))(zb:∀j cs id,m' j=some (.box cs)→cr id cs=true→(m' id).isSome=true)(ad1:∀j st,m' j=some (.loop st)→m j=some (.loop st)∧(φ' j).g=(φ j).g):ay P G w0 μ φ' m' w:=by
 refine⟨hM.below,hM.ro,hM.aI,hblk,fun j b' g h hg=>?_,fun i j b1 b2 g h1 h2 g1 g2=>?_,Bj,zb,hM.base,hM.dF,fun j st h=>?_⟩
 ·obtain⟨k,b,hk,ho,Bf,_⟩:=vS j b' g h hg;obtain⟨o1,o2⟩:=hM.own k b g hk ho;exact⟨o1,fun h=>o2 (Bf h)⟩
 ·obtain⟨k1,c1,Ob,YX,_,e1⟩:=vS i b1 g h1 g1;obtain⟨k2,c2,T6,ho2,_,e2⟩:=vS j b2 g h2 g2;rw[e1,e2,hM.inj k1 k2 c1 c2 g Ob T6 YX ho2]
 ·obtain⟨h1,h2⟩:=ad1 j st h;obtain⟨g,rc,r1,r2,r3⟩:=hM.zd j st h1;exact⟨g,rc,by rw[h2];exact r1,r2,r3⟩
def je(p:aG)(i off:Nat)(r:ze):aG:={p with row:=fun a b=>if a=i∧b=off then r else p.row a b}
theorem fK(p:aG)(i off:Nat)(r:ze):(je p i off r).row i off=r:=by simp[je]
theorem fR(p:aG){i off a b:Nat}(r:ze)(h:¬(a=i∧b=off)):(je p i off r).row a b=p.row a b:=by simp[je,h]
theorem fQ.Mz(h:fQ P μ φ w j (dP id b))(hj:j≠id)(h0:(φ' id).toze=(φ id).toze)(hφ:∀k,k≠id→φ' k=φ k):fQ P μ φ' w j (dP id b):=by
 have e:=hφ j hj;cases b with
 |box cs=>
  obtain⟨g,c,T,hg,hh,hs,hv,h1,yn⟩:=h;refine⟨g,c,T,by rw[e];exact hg,hh,hs,fun i v x hi hx=>?_,h1,by rw[e];exact yn⟩;refine(hv i v x hi hx).Vn (fun _ _ h=>h) fun k hk=>?_;by_cases T7:k=id
  ·subst T7;refine⟨h0,fun h2=>?_⟩;simp only[List.getElem?_map,Option.map_eq_some_iff]at hi;obtain⟨u,hu,rfl⟩:=hi;rw[(uJ hk).2]at h2;cases h2
  ·rw[hφ k T7];exact⟨rfl,fun _=>rfl⟩
 |arr sz et es=>exact fQ.cH h (fun k hk=>by simp[bK.names,dP]at hk) e (fun _ _ h=>h) (fun _ _=>rfl)
 |nO sz et es=>exact fQ.cH h (fun k hk=>by simp[bK.names,dP]at hk) e (fun _ _ h=>h) (fun _ _=>rfl)
 |map kt es=>exact fQ.cH h (fun k hk=>by simp[bK.names,dP]at hk) e (fun _ _ h=>h) (fun _ _=>rfl)
 |nest sz et es=>exact fQ.cH h (fun k hk=>by simp[bK.names,dP]at hk) e (fun _ _ h=>h) (fun _ _=>rfl)
 |eU kt e0 es=>exact fQ.cH h (fun k hk=>by simp[bK.names,dP]at hk) e (fun _ _ h=>h) (fun _ _=>rfl)
 |loop st=>exact fQ.cH h (fun k hk=>by simp[bK.names,dP]at hk) e (fun _ _ h=>h) (fun _ _=>rfl)
 |iter t es cur=>exact fQ.cH h (fun k hk=>by simp[bK.names,dP]at hk) e (fun _ _ h=>h) (fun _ _=>rfl)
theorem cm.VB{f:Fr}(h:cm P μ φ m (gi id f) ρ)(h0:(φ' id).toze=(φ id).toze)(hφ:∀k,k≠id→φ' k=φ k)(hl:∀j,(m j).isSome=true→(m' j).isSome=true):cm P μ φ' m' (gi id f) ρ:=by
 refine⟨fun t=>(h.fr t).Vn (fun _ _ h=>h) fun k hk=>?_,fun t j hj=>hl j (h.live t j hj)⟩;by_cases T7:k=id
 ·subst T7;refine⟨h0,fun h2=>?_⟩;have:=(uJ (show(lX k (f t)).has k=true from hk)).2;rw[show gi k f t=lX k (f t)from rfl,this]at h2;cases h2
 ·rw[hφ k T7];exact⟨rfl,fun _=>rfl⟩
theorem eZ{id2:Nat}{b':bK}(h:ao (eS id (bg (bD id2 m) id2)) id b j=some b'):(j=id∧b'=b)∨(j≠id∧j≠id2∧∃c,m j=some c∧b'=dP id (fH id2 c)):=by
 by_cases e:j=id
 ·subst e;rw[aN]at h;simp only[Option.some.injEq]at h;exact .inl ⟨rfl,h.symm⟩
 ·rw[aq e]at h;obtain⟨c1,h1,rfl⟩:=gx h;obtain⟨cT,c,hc,rfl⟩:=eM h1;exact .inr ⟨e,cT,c,hc,rfl⟩
theorem I4{x:Value}(h:ai P μ φ (.os id) x):ai P μ (fun _=>((φ id).toze).up) (.os 0) x:=by
 cases h with
 |pA h=>exact .pA h
 |os h=>exact .os (id:=0) (φ:=fun _=>((φ id).toze).up) h
theorem aM.up{sz:Nat}{et:TypeId}{es:List PV}(h:aM P μ φ w id sz et es):aM P μ (fun _=>((φ id).toze).up) w 0 sz et es:=h
theorem ay.W2(hM:ay P G w0 μ φ m w){id2 i off s s2:Nat}{et Gw:TypeId}{es rs:List PV}{e q:PV}{x:Value}(cT:id2≠id)(hm:m id=some (.nest s et es))(cO:m id2=some (.arr s2 Gw rs))(he:es[i]?=some e)(vB:e.cells[off]?=some .bad)(hx:∀g c,(φ id).g=some g→w.heap[g]?=some (.cells c et (0,0))→c[i*s+off]?=some x)(hv:ai P μ φ (.os id2) x)(hq:q.cells=e.cells.set off (.fO s2 rs)):ay P G w0 μ (fun j=>if j=id then je (φ id) i off (φ id2).toze else φ j) (ao (eS id (bg (bD id2 m) id2)) id (.nest s et (es.set i q))) w:=by
 have qX:=(hM.forget id2).sf id;have hN:aV P μ φ w id s et es:=hM.dJ id _ hm;have W0:aM P μ φ w id2 s2 Gw rs:=hM.dJ id2 _ cO;have PU:i<es.length:=(List.getElem?_eq_some_iff.1 he).1;have YY:off<e.cells.length:=(List.getElem?_eq_some_iff.1 vB).1;have iL:∀a b,(bK.nest s et (es.set i q)).rowAt a b=true→(a=i∧b=off)∨((bK.nest s et es).rowAt a b=true∧¬(a=i∧b=off)):=by
  intro a b hr;by_cases qN:a=i∧b=off
  ·exact .inl qN
  ·refine .inr ⟨?_,qN⟩;rcases iO hr with⟨_,_,_,e',s',ZI,fP,h',pQ⟩|⟨_,_,_,_,_,_,fP,_⟩
   ·simp only[bK.nest.injEq]at fP;obtain⟨rfl,rfl,rfl⟩:=fP;rcases ek h' with⟨rfl,rfl⟩|⟨Qy,h'⟩
    ·rw[hq]at pQ;rcases ek pQ with⟨rfl,_⟩|⟨hnj,pQ⟩
     ·exact absurd ⟨rfl,rfl⟩ qN
     ·rw[dA he pQ];rfl
    ·rw[dA h' pQ];rfl
   ·cases fP
 refine hM.My (fun _ k=>if k=id2 then id else k) (fun j b' hj=>?_) (fun j b' g hj ho=>?_) (fun j b' hj=>?_) (fun j cs k hj hk=>?_) (fun j st hj=>?_)
 ·rcases eZ hj with⟨rfl,rfl⟩|⟨h1,h2,c,hc,rfl⟩
  ·show aV P μ (fun k=>if k=j then je (φ j) i off (φ id2).toze else φ k) w j s et (es.set i q);refine aV.change (μ':=μ) (w':=w) (es':=es.set i q) hN (by simp) (fun i' e' h'=>?_) (by simp[je]) (fun _ _=>rfl) (fun i' e' j' p' g c x' h' pQ hg hc IQ hold=>?_)
   ·rcases ek h' with⟨_,rfl⟩|⟨_,h'⟩
    ·rw[hq,List.length_set];exact hN.2.2.2.2.1 i e he
    ·exact hN.2.2.2.2.1 i' e' h'
   ·simp only[if_true];by_cases qN:i'=i∧j'=off
    ·obtain⟨rfl,rfl⟩:=qN;rw[fK];have e1:e'=q:=by
      rcases ek h' with⟨_,h⟩|⟨h,_⟩
      ·exact h
      ·exact absurd rfl h
     subst e1;rw[hq]at pQ;have e2:p'=.fO s2 rs:=by
      rcases ek pQ with⟨_,h⟩|⟨h,_⟩
      ·exact h
      ·exact absurd rfl h
     subst e2;have e3:x'=x:=by have:=hx g c hg hc;rw[IQ]at this;simpa using this
     subst e3;exact⟨⟨Gw,W0.up⟩,I4 hv⟩
    ·rw[fR _ _ qN];rcases ek h' with⟨rfl,rfl⟩|⟨Qy,h'⟩
     ·rw[hq]at pQ;rcases ek pQ with⟨rfl,_⟩|⟨hnj,pQ⟩
      ·exact absurd ⟨rfl,rfl⟩ qN
      ·exact hold e p' he pQ
     ·exact hold e' p' h' pQ
  ·have hb:fQ P μ φ w j (dP id (fH id2 c)):=(hM.dJ j c hc).kill.vu;exact hb.Mz h1 (by simp[je]) fun k hk=>by simp[hk]
 ·rcases eZ hj with⟨rfl,rfl⟩|⟨h1,h2,c,hc,rfl⟩
  ·simp only[if_true]at ho;rcases ho with ho|⟨a,b,hr,ho⟩
   ·exact⟨j,_,hm,.inl ho,fun _=>rfl,by simp[cT.symm]⟩
   ·rcases iL a b hr with⟨rfl,rfl⟩|⟨qM,qN⟩
    ·rw[fK]at ho;exact⟨id2,_,cO,.inl ho,fun _=>rfl,by simp⟩
    ·rw[fR _ _ qN]at ho;exact⟨j,_,hm,.inr ⟨a,b,qM,ho⟩,fun _=>rfl,by simp[cT.symm]⟩
  ·simp only[h1,if_false]at ho;exact⟨j,c,hc,fD.1 (oF.1 ho),fun h=>by rw[vV,uP]at h;exact h,by simp[h2]⟩
 ·rcases eZ hj with⟨rfl,rfl⟩|⟨h1,h2,c,hc,rfl⟩
  ·simp only[if_true];have Bj:=hM.apart j _ hm;have new:∀g,(φ id2).g=some g→¬(bK.nest s et es).eg (φ j) g:=fun g hg ho=>cT (hM.inj id2 j _ _ g cO hm (.inl hg) ho);intro a b g hr hg;rcases iL a b hr with⟨rfl,rfl⟩|⟨qM,qN⟩
   ·rw[fK]at hg;refine⟨fun h=>new g hg (.inl h),fun a' b' QH I5=>?_⟩;rcases iL a' b' QH with h|⟨T8,I6⟩
    ·exact h
    ·rw[fR _ _ I6]at I5;exact absurd (.inr ⟨a',b',T8,I5⟩) (new g hg)
   ·rw[fR _ _ qN]at hg;obtain⟨h3,h4⟩:=Bj a b g qM hg;refine⟨h3,fun a' b' QH I5=>?_⟩;rcases iL a' b' QH with⟨rfl,rfl⟩|⟨T8,I6⟩
    ·rw[fK]at I5;exact absurd (.inr ⟨a,b,qM,hg⟩) (new g I5)
    ·rw[fR _ _ I6]at I5;exact h4 a' b' T8 I5
  ·simp only[h1,if_false];exact tx.2 (sc.2 (hM.apart j c hc))
 ·rcases eZ hj with⟨rfl,hb⟩|⟨h1,h2,c,hc,hb⟩
  ·cases hb
  ·have FW:eS id (bg (bD id2 m) id2) j=some (.box cs):=by rw[aq h1]at hj;exact hj
   have:=qX.fj j cs k FW hk;by_cases e:k=id
   ·subst e;simp
   ·rw[aq e];exact this
 ·rcases eZ hj with⟨rfl,hb⟩|⟨h1,h2,c,hc,hb⟩
  ·cases hb
  ·cases c<;>first|(simp[dP,fH]at hb;done)|skip
   simp only[dP,fH,bK.loop.injEq]at hb;subst hb;exact⟨hc,by simp[h1]⟩
end
end Go.Ab
set_option linter.unusedVariables false
namespace Go.Ab
def j3(k:PV):List (PV×PV)→Option Nat
 |[]=>none
 |(a,_)::r=>if cB k.cells a.cells then some 0 else(j3 k r).map (·+1)
def iv(es:List (PV×PV)):List (PV×PV):=es.map fun x=>(x.1,.bad)
theorem Bv(k:PV):∀es,j3 k (iv es)=j3 k es
 |[]=>rfl
 |(a,u)::r=>by simp only[iv,List.map_cons,j3];rw[←Bv k r];rfl
theorem Az{k:PV}:∀{es:List (PV×PV)}{j:Nat},j3 k es=some j→∃a u,es[j]?=some (a,u)∧cB k.cells a.cells=true
 |(a,u)::r,j,h=>by
  simp only[j3]at h;split at h
  ·rename_i hp;simp only[Option.some.injEq]at h;subst h;exact⟨a,u,rfl,hp⟩
  ·obtain⟨i,hi,rfl⟩:=Option.map_eq_some_iff.1 h;simpa using Az hi
theorem kV(k v:PV):∀es,eO k v es=match j3 k es with|some j=>es.set j (k,v)|none=>es++[(k,v)]
 |[]=>rfl
 |(a,u)::r=>by
  simp only[eO,j3];split
  ·rfl
  ·rw[kV k v r];cases j3 k r<;>rfl
theorem q6(k:PV):∀es,pK k es=match j3 k es with|some j=>es.modify j fun x=>(x.1,.bad)|none=>es
 |[]=>rfl
 |(a,u)::r=>by
  simp only[pK,j3];split
  ·rfl
  ·rw[q6 k r];cases j3 k r<;>simp
theorem Gx(sz:Nat)(k:PV):∀es,F0 sz k es=match j3 k es with|some j=>(es[j]?).bind fun x=>aZ sz x.2|none=>some []
 |[]=>rfl
 |(a,u)::r=>by
  simp only[F0,j3];split
  ·simp
  ·rw[Gx sz k r];cases j3 k r<;>simp
theorem Dy{k z:PV}{l:List (PV×PV)}{es:List MapEntry}{i:Nat}{r:Option (Nat×Value)}(h:Found k .ny z (iv l) es i r):(r=none∧j3 k l=none)∨∃j e,r=some (i+j,e.val)∧es[j]?=some e∧j3 k l=some j:=by
 cases h with
 |none h1 h2 h3=>
  refine .inl ⟨rfl,?_⟩;rw[kV]at h3;rw[←Bv];cases hp:j3 k (iv l)with
  |none=>rfl
  |some j=>rw[hp]at h3;have:=congrArg List.length h3;simp at this
 | @some j a u e h1 h2 h3 h4 h5 h6=>
  refine .inr ⟨j,e,rfl,h2,?_⟩;rw[kV]at h6;rw[←Bv];have br:j<(iv l).length:=(List.getElem?_eq_some_iff.1 h1).1;cases hp:j3 k (iv l)with
  |none=>rw[hp]at h6;have:=congrArg List.length h6;simp at this
  |some j'=>
   rw[hp]at h6;simp only at h6;obtain⟨a',u',FW,_⟩:=Az hp;have ad2:j'<(iv l).length:=(List.getElem?_eq_some_iff.1 FW).1;have e1:((iv l).set j (k,.ny))[j']?=some (k,.ny):=by rw[←h6];simp[ad2]
   rw[List.getElem?_set]at e1;split at e1
   ·rename_i h;rw[h]
   ·exfalso;simp only[iv,List.getElem?_map,Option.map_eq_some_iff]at e1;obtain⟨x,_,hx⟩:=e1;simp at hx
section
variable {P:Program} {G:Nat→Option (List PV)} {w0:bw} {μ μ':Ro} {φ φ':Nat→aG} {m m':Mem} {w w':World}
def Bw(P:Program)(μ:Ro)(R:ze)(w:World)(e0:TypeId)(v:PV)(x:Value):Prop:=match v with
 |.fO s rs=>aM P μ (fun _=>R.up) w 0 s e0 rs∧ai P μ (fun _=>R.up) (.os 0) x
 |v=>ak P μ v x
variable{e0:TypeId}
theorem Bw.pure{R:ze}{v:PV}{x:Value}(h:ak P μ v x):Bw P μ R w e0 v x:=by
 unfold Bw;split
 ·cases h
 ·exact h
structure I7(P:Program)(μ:Ro)(p:aG)(w:World)(kt e0:TypeId)(es:List (PV×PV))(g:Nat)(en:Array MapEntry)(clock:Nat)(kk:List Kd):Prop where
 pl:p.g=some g
 heap:w.heap[g]?=some (.map en clock)
 size:en.size=es.length
 xO:pL P kt=some kk
 key:∀(i:Nat)k v,es[i]?=some (k,v)→sG P kt kk k=true
 born:jX en clock
 rep:∀(i:Nat)k v e,es[i]?=some (k,v)→en[i]?=some e→ak P μ k e.key∧Bw P μ (p.row i 0) w e0 v e.val
variable{kt:TypeId}{es:List (PV×PV)}
theorem q7{id:Nat}:fQ P μ φ w id (.eU kt e0 es)↔∃g en clock kk,I7 P μ (φ id) w kt e0 es g en clock kk:=by
 constructor
 ·rintro⟨g,en,clock,kk,h1,h2,h3,h4,h5,h6,h7⟩;exact⟨g,en,clock,kk,h1,h2,h3,h4,h5,h6,fun i k v e a b=>h7 i k v e a b⟩
 ·rintro⟨g,en,clock,kk,h1,h2,h3,h4,h5,h6,h7⟩;exact⟨g,en,clock,kk,h1,h2,h3,h4,h5,h6,fun i k v e a b=>h7 i k v e a b⟩
variable{en:Array MapEntry}
theorem I7.ent{p:aG}{g:Nat}{clock:Nat}{kk:List Kd}(h:I7 P μ p w kt e0 es g en clock kk):tv P μ kt kk (iv es) en.toList:=by
 refine⟨by simp[iv,h.size],fun i k v hi=>?_,fun i k v e hi he=>?_⟩
 ·simp only[iv,List.getElem?_map,Option.map_eq_some_iff]at hi;obtain⟨⟨a,u⟩,hq,hx⟩:=hi;simp only[Prod.mk.injEq]at hx;obtain⟨rfl,rfl⟩:=hx;exact h.key i a u hq
 ·simp only[iv,List.getElem?_map,Option.map_eq_some_iff]at hi;obtain⟨⟨a,u⟩,hq,hx⟩:=hi;simp only[Prod.mk.injEq]at hx;obtain⟨rfl,rfl⟩:=hx;exact⟨(h.rep i a u e hq (by simpa using he)).1,.bad⟩
theorem Bx{t et:TypeId}{ks:List Kd}{key:PV}{zv yi:Value}{g clock:Nat}{l:List (PV×PV)}(hu:P.underlying t=some (.map kt et))(hk:pL P kt=some ks)(qq:sG P kt ks key=true)(hyi:ak P μ key yi)(hg:w.heap[g]?=some (.map en clock))(hE:tv P μ kt ks (iv l) en.toList)(hz:(zeroValue et).run P w=.ok zv w):(j3 key l=none∧(Instr.lookup t (.map (some g)) yi false).run P w=.ok zv w)∨∃j e,j3 key l=some j∧en[j]?=some e∧(Instr.lookup t (.map (some g)) yi false).run P w=.ok e.val w:=by
 have N3:=uU hk;obtain⟨hc,hv⟩:=kB qq hyi;obtain⟨r,r1,r2⟩:=jQ (v:=.ny) (z:=.bad) N3 hc w hE;have h1:=gm 8 kt ks N3 9992 w en.isEmpty key.cells hc;have Ae:=Go.MapKept.run_getObj_map (P:=P) hg;have Mu:(Instr.checkKey en.isEmpty 10000 kt (eL P kt key.cells)).run P w=.ok () w:=h1;rw[hv];unfold Instr.lookup;simp only[Sem.run_bind,run_underlying hu,Result.andThen_ok,Sem.run_pure,Ae];rcases Dy r2 with⟨rfl,h⟩|⟨j,e,rfl,he,h⟩
 ·exact .inl ⟨h,by simp[Mu,r1,hz]⟩
 ·exact .inr ⟨j,e,h,by simpa using he,by simp[Mu,r1]⟩
end
section
variable {R:Type} {E:Env}
theorem I8{t:TypeId}(h:zeroV E.P t=some .bj)(w:World):(zeroValue t).run E.P w=.ok (.slice none 0 0) w:=by unfold zeroV at h;obtain⟨c,hc,h⟩:=Option.map_eq_some_iff.1 h;obtain⟨i,hi,hz⟩:=Option.bind_eq_some_iff.1 hc;have:=qT (P:=E.P) (μ:=fun _=>none) (φ:=fun _=>default) c;rw[h]at this;cases this;exact ml hi hz
theorem QI{site:Nat}{t:TypeId}{x ix:V}{m:Mem}{k:V→Mem→bp→Option R}{r:R}(h:F4 E site t x ix m k=some r):∃id b1 b2 m',m'=qL [(id,b1),(site,b2)] m∧k (.os site) m' [(true,id),(true,site)]=some r∧m site=none∧b2.names=(fun _=>false)∧b1.names=(fun _=>false)∧(m id).isSome=true∧(∀m2:Mem,m2 id=m id→m2 site=none→∀(R':Type)(k':V→Mem→bp→Option R'),F4 E site t x ix m2 k'=k' (.os site) (qL [(id,b1),(site,b2)] m2) [(true,id),(true,site)])∧∀(G:Nat→Option (List PV))(w0:bw)(μ:Ro)(φ:Nat→aG)(w:World)(f:Fr)(ρ:Nat→Value)(y yi:Value),ay E.P G w0 μ φ m w→cm E.P μ φ m f ρ→ai E.P μ φ x y→ai E.P μ φ ix yi→∃u φ',(Instr.lookup t y yi false).run E.P w=.ok u w∧ay E.P G w0 μ φ' m' w∧cm E.P μ φ' m' f ρ∧ai E.P μ φ' (.os site) u:=by
 unfold F4 at h;split at h
 ·rename_i kt et hu;split at h
  ·rename_i e hue;split at h
   ·rename_i id hz;split at h
    ·rename_i sU e' es hm hs;split at h
     ·rename_i hc;obtain⟨rfl,rfl,ep⟩:=hc;obtain⟨key,qq,h⟩:=Option.bind_eq_some_iff.1 h;obtain⟨rs,W3,h⟩:=Option.bind_eq_some_iff.1 h;obtain⟨ks,k1,k2,k3⟩:=qZ qq;have cT:site≠id:=fun e=>by subst e;rw[hs]at hm;cases hm
      refine⟨id,.eU sU e' (pK key es),.arr (aT E.P e') e' rs,_,rfl,h,hs,rfl,rfl,by rw[hm];rfl,fun m2 h1 h2 R' k'=>?_,fun G w0 μ φ w f ρ y yi hM hF hx hi=>?_⟩
      ·simp only[F4,hu,hue,hz,h1,h2,hm,qq,W3,Option.bind_some,ep,and_self,if_true];rfl
      ·obtain⟨g,en,clock,kk,hN⟩:=q7.1 (hM.dJ id _ hm);have xQ:=hN.xO;rw[k1]at xQ;simp only[Option.some.injEq]at xQ;subst xQ;cases hx with
       |om bX=>
        rw[hN.pl]at bX;simp only[Option.some.injEq]at bX;subst bX;have QJ:=Bx hu k1 k2 (k3 μ φ yi hi) hN.heap hN.ent (I8 hz w);have Oc:∀i off,(bK.eU sU e' (pK key es)).rowAt i off=true→(bK.eU sU e' es).rowAt i off=true∧j3 key es≠some i:=by
         intro i off hr;rcases iO hr with⟨_,_,_,_,_,_,hb,_⟩|⟨_,_,_,k0,s0,rs0,hb,rfl,he⟩
         ·cases hb
         ·simp only[bK.eU.injEq]at hb;obtain⟨rfl,rfl,rfl⟩:=hb;rw[q6]at he;cases hp:j3 key es with
          |none=>rw[hp]at he;simp only at he;exact⟨by rw[iN he];rfl,by simp⟩
          |some j=>
           rw[hp]at he;simp only[List.getElem?_modify]at he;split at he
           ·rename_i I9;exfalso;obtain⟨x0,_,IU⟩:=Option.map_eq_some_iff.1 he;simp at IU
           ·rename_i I9;have he:es[i]?=some (k0,PV.fO s0 rs0):=by simpa using he
            exact⟨by rw[iN he];rfl,fun h=>I9 (by simpa using h)⟩
        have qX:ay E.P G w0 μ φ (ao m id (.eU sU e' (pK key es))) w:=by
         refine hM.write hm rfl hN.pl (jx.refl _ _) rfl (fun _ _=>rfl) (q7.2 ⟨g,en,clock,ks,hN.pl,hN.heap,?_,k1,fun i k0 v0 h0=>?_,hN.born,fun i k0 v0 e0 h0 FV=>?_⟩) rfl (by simp[bK.names]) (fun st h=>by cases h) (fun i off hr=>(Oc i off hr).1)
         ·rw[hN.size,q6];cases j3 key es<;>simp
         ·rw[q6]at h0;cases hp:j3 key es with
          |none=>rw[hp]at h0;exact hN.key i k0 v0 h0
          |some j=>
           rw[hp]at h0;simp only[List.getElem?_modify]at h0;obtain⟨x0,IU,hq⟩:=Option.map_eq_some_iff.1 h0;obtain⟨xa,xu⟩:=x0;split at hq
           ·simp only[Prod.mk.injEq]at hq;rw[←hq.1];exact hN.key i xa xu IU
           ·simp only[id_eq,Prod.mk.injEq]at hq;rw[←hq.1];exact hN.key i xa xu IU
         ·rw[q6]at h0;cases hp:j3 key es with
          |none=>rw[hp]at h0;exact hN.rep i k0 v0 e0 h0 FV
          |some j=>
           rw[hp]at h0;simp only[List.getElem?_modify]at h0;obtain⟨x0,IU,hq⟩:=Option.map_eq_some_iff.1 h0;obtain⟨xa,xu⟩:=x0;obtain⟨q1,q2⟩:=hN.rep i xa xu e0 IU FV;split at hq
           ·simp only[Prod.mk.injEq]at hq;obtain⟨rfl,rfl⟩:=hq;exact⟨q1,.pure .bad⟩
           ·simp only[id_eq,Prod.mk.injEq]at hq;obtain⟨rfl,rfl⟩:=hq;exact⟨q1,q2⟩
        have ZY:∀(ph:aG)(u:Value),aM E.P μ (fun _=>ph) w 0 (aT E.P e') e' rs→ai E.P μ (fun _=>ph) (.os 0) u→(∀g',ph.g=some g'→∃j,j3 key es=some j∧(bK.eU sU e' es).rowAt j 0=true∧((φ id).row j 0).g=some g')→∃φ',ay E.P G w0 μ φ' (qL [(id,.eU sU e' (pK key es)),(site,.arr (aT E.P e') e' rs)] m) w∧cm E.P μ φ' (qL [(id,.eU sU e' (pK key es)),(site,.arr (aT E.P e') e' rs)] m) f ρ∧ai E.P μ φ' (.os site) u:=by
         intro ph u hA hV Ae;have IP:∀j,(m j).isSome=true→j≠site:=fun j hj e=>by subst e;rw[hs]at hj;cases hj
         refine⟨fun i=>if i=site then ph else φ i,?_,?_,?_⟩
         ·refine qX.put (by rw[aq cT];exact hs) (jx.refl _ _) hM.ro (fun _ _ _ _ _=>rfl) (fun g' bX=>?_) (oz nP) ?_ (by simp[bK.names]) (fun st h=>by cases h)
          ·have bX:=mj nP bX;obtain⟨j,hj,hr,hjg⟩:=Ae g' bX;obtain⟨o1,o2⟩:=hM.own id _ g' hm (.inr ⟨j,0,hr,hjg⟩);refine⟨o1,o2 rfl,fun i b' hi ho=>?_⟩;by_cases Dp:i=id
           ·subst Dp;rw[aN]at hi;simp only[Option.some.injEq]at hi;subst hi;obtain⟨a1,a2⟩:=hM.apart i _ hm j 0 g' hr hjg;rcases ho with ho|⟨i',qi,qM,ho⟩
            ·exact a1 ho
            ·obtain⟨h3,h4⟩:=Oc i' qi qM;exact h4 (by rw[hj,(a2 i' qi h3 ho).1])
           ·rw[aq Dp]at hi;exact Dp (hM.inj i id _ _ g' hi hm ho (.inr ⟨j,0,hr,hjg⟩))
          ·exact aM.move (φ':=fun i=>if i=site then ph else φ i) (j:=site) hA (by simp) (fun _ _ h=>h)
         ·refine hF.mono (fun _ _ h=>h) fun j hj=>⟨by simp[IP j hj],?_⟩;show(ao (ao m id _) site _ j).isSome=true;rw[aq (IP j hj)];by_cases I9:j=id
          ·subst I9;simp
          ·rw[aq I9];exact hj
         ·cases hV with
          |pA h=>exact .pA (by simpa using h)
          | @os _ g0 h=>have:=ai.os (P:=E.P) (μ:=μ) (φ:=fun i=>if i=site then ph else φ i) (id:=site) (g:=g0) (by simpa using h);simpa using this
        rw[Gx]at W3;rcases QJ with⟨hp,lZ⟩|⟨j,en0,hp,hen,lZ⟩
        ·rw[hp]at W3;simp only[Option.some.injEq]at W3;subst W3;obtain⟨φ',a1,a2,a3⟩:=ZY (CF none 0 0 (aT E.P e')) (.slice none 0 0) ⟨rfl,rfl,rfl,ep,by simp,by simp[maxLen],⟨rfl,rfl⟩⟩ (.pA rfl) (fun g' bX=>by cases bX);exact⟨_,φ',lZ,a1,a2,a3⟩
        ·rw[hp]at W3;obtain⟨x0,IU,iL⟩:=Option.bind_eq_some_iff.1 W3;obtain⟨xa,xu⟩:=x0;have hxu:=Gg iL;simp only at hxu;subst hxu;obtain⟨_,q2⟩:=hN.rep j xa _ en0 IU hen;obtain⟨φ',a1,a2,a3⟩:=ZY ((φ id).row j 0).up en0.val q2.1 q2.2 (fun g' bX=>⟨j,hp,by rw[iN IU];rfl,bX⟩);exact⟨_,φ',lZ,a1,a2,a3⟩
     ·cases h
    ·cases h
   ·cases h
  ·cases h
 ·cases h
end
end Go.Ab
set_option linter.unusedVariables false
namespace Go.Ab
theorem Bz{m:Mem}:∀{cs:List V}{j0:Nat}{ps:List PV}{tk:Option (Nat×Nat)},jw m j0 cs=some (ps,tk)→ps.length=cs.length∧(tk=none→∀(i:Nat)p,ps[i]?=some p→∃v,cs[i]?=some v∧jm dh 1 v=some p)∧∀j id2,tk=some (j,id2)→∃l s2 Gw rs,cs[l]?=some (.os id2)∧m id2=some (.arr s2 Gw rs)∧ps[l]?=some (.fO s2 rs)∧∀(i:Nat)p,i≠l→ps[i]?=some p→∃v,cs[i]?=some v∧jm dh 1 v=some p
 |[],j0,ps,tk,h=>by simp only[jw,Option.some.injEq,Prod.mk.injEq]at h;obtain⟨rfl,rfl⟩:=h;exact⟨rfl,fun _ i p hp=>by simp at hp,fun j id2 h=>by cases h⟩
 |v::r,j0,ps,tk,h=>by
  have plain:∀{p:PV},jm dh 1 v=some p→(match jw m (j0+1) r with
   |some (ps,t)=>some (p::ps,t)
   |none=>none)=some (ps,tk)→ps.length=(v::r).length∧
   (tk=none→∀(i:Nat)p,ps[i]?=some p→∃u,(v::r)[i]?=some u∧jm dh 1 u=some p)∧
   ∀j id2,tk=some (j,id2)→∃l s2 Gw rs,(v::r)[l]?=some (.os id2)∧m id2=some (.arr s2 Gw rs)∧ps[l]?=some (.fO s2 rs)∧∀(i:Nat)p,i≠l→ps[i]?=some p→∃u,(v::r)[i]?=some u∧jm dh 1 u=some p:=by
   intro p hp h
   split at h
   ·rename_i Zw t ht;simp only[Option.some.injEq,Prod.mk.injEq]at h;obtain⟨rfl,rfl⟩:=h;obtain⟨h1,h2,h3⟩:=Bz ht;refine⟨by simp[h1],fun hn i q hq=>?_,fun j id2 hj=>?_⟩
    ·cases i with
     |zero=>simp at hq;subst hq;exact⟨v,rfl,hp⟩
     |succ i=>simpa using h2 hn i q (by simpa using hq)
    ·obtain⟨l,s2,Gw,rs,a1,a2,a3,a4⟩:=h3 j id2 hj;refine⟨l+1,s2,Gw,rs,by simpa using a1,a2,by simpa using a3,fun i q hi hq=>?_⟩;cases i with
     |zero=>simp at hq;subst hq;exact⟨v,rfl,hp⟩
     |succ i=>simpa using a4 i q (by omega) (by simpa using hq)
   ·cases h
  unfold jw at h;split at h
  ·rename_i heq;cases heq
  ·rename_i j id r' heq;simp only[List.cons.injEq]at heq;obtain⟨rfl,rfl⟩:=heq;split at h
   ·rename_i s et es hm;split at h
    ·rename_i Zw ht;simp only[Option.some.injEq,Prod.mk.injEq]at h;obtain⟨rfl,rfl⟩:=h;obtain⟨h1,h2,_⟩:=Bz ht;refine⟨by simp[h1],fun hn=>(nomatch hn),fun j id2 hj=>?_⟩;simp only[Option.some.injEq,Prod.mk.injEq]at hj;obtain⟨rfl,rfl⟩:=hj;refine⟨0,s,et,es,rfl,hm,rfl,fun i q hi hq=>?_⟩;cases i with
     |zero=>exact absurd rfl hi
     |succ i=>simpa using h2 rfl i q (by simpa using hq)
    ·cases h
   ·cases h
  ·rename_i j v' r' _ heq;simp only[List.cons.injEq]at heq;obtain⟨rfl,rfl⟩:=heq;split at h
   ·rename_i p hp;exact plain hp h
   ·cases h
section
variable {P:Program} {G:Nat→Option (List PV)} {w0:bw} {μ μ':Ro} {φ φ':Nat→aG} {m m':Mem} {w w':World}
theorem BA{v:V}{n j id2:Nat}{cs:List V}{ps:List PV}(hc:toCells n v=some cs)(h:jw m 0 cs=some (ps,some (j,id2))):∃l s2 Gw rs,m id2=some (.arr s2 Gw rs)∧ps[l]?=some (.fO s2 rs)∧ps.length=n∧v.has id2=true∧∀(P:Program)(μ:Ro)(φ:Nat→aG)(x:Value),ai P μ φ v x→x.cells.size=n∧(∀(i:Nat)(y:Value),x.cells[i]?=some y→y.oneCell'=true)∧(∀(i:Nat)p y,i≠l→ps[i]?=some p→x.cells[i]?=some y→ak P μ p y)∧∃y,x.cells[l]?=some y∧ai P μ φ (.os id2) y:=by
 obtain⟨t1,_,t3⟩:=Bz h;obtain⟨l,s2,Gw,rs,a1,a2,a3,a4⟩:=t3 j id2 rfl;obtain⟨n1,n2,n3⟩:=toCells_ok hc;refine⟨l,s2,Gw,rs,a2,a3,by rw[t1,n1],n2 id2 (bM (List.mem_of_getElem? a1) (by simp[V.has])),fun P μ φ x hx=>?_⟩;obtain⟨x1,x2,x3⟩:=n3 P μ φ x hx;refine⟨x1,x3,fun i p y hi hp hy=>?_,?_⟩
 ·obtain⟨u,hu,hf⟩:=a4 i p hi hp;exact qV 1 hf (x2 i u y hu hy)
 ·have hl:l<x.cells.size:=by rw[x1,←n1];exact(List.getElem?_eq_some_iff.1 a1).1
  exact⟨x.cells[l],Array.getElem?_eq_getElem hl,x2 l _ _ a1 (Array.getElem?_eq_getElem hl)⟩
theorem zp{s off n:Nat}{e:PV}{ps:List PV}(hn:ps.length=n)(hb:off+n≤s)(h0:0<n)(ha:s=1→∀p,ps.head? =some p→∀cs,p≠.agg cs):(if s=1 then ps.headD .bad else PV.agg (bR (aL s e) off ps)).cells=bR (aL s e) off ps:=by
 split
 ·rename_i h1;subst h1;have e1:off=0:=by omega
  have e2:n=1:=by omega
  subst e1;subst e2;match ps,hn with
  |[p],_=>
   have:=ha rfl p rfl;have hp:p.cells=[p]:=by cases p<;>first|rfl|exact absurd rfl (this _)
   simp only[List.headD_cons,hp,dE,List.take_zero,List.nil_append,List.length_cons,List.length_nil];rw[List.drop_of_length_le (by rw[bm];exact Nat.le_refl _)];rfl
 ·rfl
theorem BB{T:Type}{cs ps:List T}{off l:Nat}{x:T}(hl:l<ps.length)(hb:off+ps.length≤cs.length):bR cs off (ps.set l x)=(bR cs off ps).set (off+l) x:=by
 have hto:(cs.take off).length=off:=by simp;omega
 rw[dE,dE,List.length_set,List.append_assoc,List.append_assoc,List.set_append,if_neg (by omega),List.set_append,if_pos (by omega)];rw[show off+l-(cs.take off).length=l by omega]
theorem BC{id id2:Nat}{B X:bK}(cT:id2≠id):ao (eS id (bg (bD id2 (ao m id B)) id2)) id X=ao (eS id (bg (bD id2 m) id2)) id X:=by
 funext t;by_cases h:t=id
 ·subst h;simp
 ·rw[aq h,aq h];unfold eS;by_cases h2:t=id2
  ·subst h2;simp
  ·rw[eQ h2,eQ h2];unfold bD;rw[aq h]
end
section
variable {R:Type} {E:Env}
theorem QK{t:TypeId}{v:V}{id i off s id2 j:Nat}{et:TypeId}{es ps:List PV}{cs:List V}{e:PV}{m:Mem}(hm:m id=some (.nest s et es))(hc:toCells (aT E.P t) v=some cs)(ht:jw m 0 cs=some (ps,some (j,id2)))(hb:off+aT E.P t≤s)(h0:0<aT E.P t)(cT:id2≠id)(he:es[i]?=some e){G:Nat→Option (List PV)}{w0:bw}{μ:Ro}{φ:Nat→aG}{w:World}{f:Fr}{ρ:Nat→Value}{ya yx:Value}(hM:ay E.P G w0 μ φ m w)(hF:cm E.P μ φ m f ρ)(ha:ai E.P μ φ (.oe id i off) ya)(hx:ai E.P μ φ v yx):∃w' φ',(Instr.storeAt t ya yx).run E.P w=.ok () w'∧ay E.P G w0 μ φ' (qL [(id,.nest s et (es.set i (if s=1 then ps.headD .bad else .agg (bR (aL s e) off ps))))] (km [(true,id2),(false,id)] m)) w'∧cm E.P μ φ' (qL [(id,.nest s et (es.set i (if s=1 then ps.headD .bad else .agg (bR (aL s e) off ps))))] (km [(true,id2),(false,id)] m)) (kf [(true,id2),(false,id)] f) ρ:=by
 obtain⟨l,s2,Gw,rs,cO,iL,AA,ad3,ja⟩:=BA hc ht;obtain⟨x1,x2,x3,y,hy,TZ⟩:=ja E.P μ φ yx hx;have Gp:l<ps.length:=(List.getElem?_eq_some_iff.1 iL).1;have hN:aV E.P μ φ w id s et es:=hM.dJ id _ hm;have yo:=hN.2.2.2.2.1 i e he;have Ad:(aL s e).length=s:=bm _ _;have l0:ps=(ps.set l .bad).set l (.fO s2 rs):=by
  rw[List.set_set];apply List.ext_getElem?;intro a;rw[List.getElem?_set];split
  ·rename_i e1;subst e1;first|exact iL|(rw[if_pos Gp];exact iL)
  ·rfl
 have qY:∀(a:Nat)p,(ps.set l .bad)[a]?=some p→(a=l∧p=.bad)∨(a≠l∧ps[a]?=some p):=fun a p h=>ek h;have hE:qo E.P μ (aT E.P t) (.agg (ps.set l .bad)) yx:=by
  refine⟨by simp[PV.cells,AA],x1,fun a p z hp hz=>?_,x2⟩;rcases qY a p (by simpa[PV.cells]using hp)with⟨_,rfl⟩|⟨h1,h2⟩
  ·exact .bad
  ·exact x3 a p z h1 h2 hz
 have one:s=1→ps.length=1:=fun h=>by omega
 have hq:(if s=1 then ps.headD .bad else PV.agg (bR (aL s e) off ps)).cells=bR (aL s e) off ps:=zp AA hb h0 fun h1 p hp Dj=>by
  have Iu:l=0:=by have:=one h1;omega
  subst Iu;rw[List.head?_eq_getElem?,iL]at hp;simp only[Option.some.injEq]at hp;subst hp;simp
 have NY:(if s=1 then(ps.set l .bad).headD .bad else PV.agg (bR (aL s e) off (ps.set l .bad))).cells=bR (aL s e) off (ps.set l .bad):=zp (by simpa using AA) hb h0 fun h1 p hp Dj=>by
  have Iu:l=0:=by have:=one h1;omega
  subst Iu;rw[List.head?_eq_getElem?,List.getElem?_set,if_pos rfl,if_pos Gp]at hp;simp only[Option.some.injEq]at hp;subst hp;simp
 generalize (if s=1 then ps.headD .bad else PV.agg (bR (aL s e) off ps))=q at hq⊢;generalize (if s=1 then(ps.set l .bad).headD .bad else PV.agg (bR (aL s e) off (ps.set l .bad)))=q' at NY;cases ha with
 | @oe _ _ _ g hg=>
  obtain⟨c,T,hh,nD,sY,ZG⟩:=aV.set (q:=q') hN (hM.apart id _ hm) hg he hE hb (by rw[NY];rfl);have kO:(φ id).sz=s:=hN.2.1;have hi:=kT (P:=E.P) (t:=t) (by omega);have qX:ay E.P G w0 μ φ (ao m id (.nest s et (es.set i q'))) (w.setRow g (bR c.toList (i*s+off) yx.cells.toList).toArray):=hM.write hm rfl hg (jx.setRow (Nat.le_refl _)) setRow_size (fun k hk=>cK hk) sY rfl (fun j hj=>by simp[bK.names]at hj) (fun st h=>by cases h) ZG;have PU:i<es.length:=(List.getElem?_eq_some_iff.1 he).1;have ZZ:q.cells=q'.cells.set (off+l) (.fO s2 rs):=by rw[hq,NY,←BB (by simpa using Gp) (by simp[Ad,AA];omega),←l0]
  have vB:q'.cells[off+l]?=some .bad:=by rw[NY,BB Gp (by rw[Ad,AA];exact hb),List.getElem?_set,if_pos rfl,if_pos];rw[cP (by rw[Ad,AA];exact hb),Ad];omega
  have qN:=ay.W2 qX (id:=id) (id2:=id2) (i:=i) (off:=off+l) (e:=q') (q:=q) (x:=y) cT (aN _ _ _) (by rw[aq cT];exact cO) (by simp[PU]) vB (fun g0 c0 It hc0=>by
   rw[hg]at It;simp only[Option.some.injEq]at It;subst It;rw[setRow_heap w g c _ T (0,0) hh]at hc0;simp only[Option.some.injEq,Obj.cells.injEq]at hc0;obtain⟨rfl,_⟩:=hc0;rw[List.getElem?_toArray,dE];have br:(c.toList.take (i*s+off)).length=i*s+off:=by simp;omega
   have Dn:l<yx.cells.toList.length:=by simp only[Array.length_toList];rw[x1];omega
   rw[List.append_assoc,List.getElem?_append_right (by omega),br,show i*s+(off+l)-(i*s+off)=l by omega,List.getElem?_append_left Dn];simpa using hy) TZ ZZ
  rw[List.set_set,BC cT]at qN;refine⟨_,_,by rw[kO];exact gS hE.size hi hh nD hE.one,qN,?_⟩;have Af:cm E.P μ φ (ao m id (.nest s et (es.set i q'))) f ρ:=hF.kU (fun _ _ h=>h) .set;have T4:=(Af.forget id2).sf id;refine T4.VB (by simp[je]) (fun k hk=>by simp[hk]) fun k hk=>?_;show(ao (eS id (bg (bD id2 m) id2)) id _ k).isSome=true;by_cases e1:k=id
  ·subst e1;simp
  ·rw[aq e1];rw[mn]at hk⊢;by_cases e2:k=id2
   ·subst e2;simp at hk
   ·rw[eQ e2]at hk⊢;simp only[bD,aq e1]at hk⊢;exact hk
end
end Go.Ab
set_option linter.unusedVariables false
namespace Go.Ab
section
variable {R:Type} {E:Env}
variable{e:TypeId}{id2:Nat}{G:Nat→Option (List PV)}{w0:bw}{φ:Nat→aG}{w:World}{ρ:Nat→Value}
theorem Od{t:TypeId}{v:V}{j site:Nat}{cs:List V}{ps:List PV}{p:PV}{m:Mem}(hu:E.P.underlying t=some (.slice e))(hc:toCells (aT E.P e) v=some cs)(ht:jw m 0 cs=some (ps,some (j,id2)))(hs:m site=none)(hp:elemOf (aF E.P e) ps=some p)(ep:0<aT E.P e)(yq:aT E.P e≤16777216)(hz:(dn E e).isSome=true){μ:Ro}{f:Fr}{yx:Value}(hM:ay E.P G w0 μ φ m w)(hF:cm E.P μ φ m f ρ)(hx:ai E.P μ φ v yx):∃y w' φ',(Instr.buildSlice t 1 #[(0,yx)]).run E.P w=.ok y w'∧ay E.P G w0 μ φ' (qL [(site,.nest (aT E.P e) e [p])] (km [(true,id2)] m)) w'∧cm E.P μ φ' (qL [(site,.nest (aT E.P e) e [p])] (km [(true,id2)] m)) (kf [(true,id2)] f) ρ∧ai E.P μ φ' (.os site) y:=by
 obtain⟨l,s2,Gw,rs,cO,iL,AA,ad3,ja⟩:=BA hc ht;obtain⟨x1,x2,x3,z,T2,hvz⟩:=ja E.P μ φ yx hx;obtain⟨zc,PS⟩:=Option.isSome_iff_exists.1 hz;obtain⟨iz,zv,i1,i2,i3,_⟩:=eE PS;have cT:id2≠site:=fun e=>by subst e;rw[hs]at cO;cases cO
 have Oe:p.cells=ps:=by
  unfold elemOf at hp;split at hp
  ·simp only[Option.some.injEq]at hp;subst hp;rfl
  ·split at hp
   ·rename_i q;simp only[Option.some.injEq]at hp;subst hp;have Iu:l=0:=by have:=(List.getElem?_eq_some_iff.1 iL).1;simp at this;exact this
    subst Iu;simp only[List.getElem?_cons_zero,Option.some.injEq]at iL;subst iL;rfl
   ·cases hp
 have W0:aM E.P μ φ w id2 s2 Gw rs:=hM.dJ id2 _ cO;have Z0:Instr.fill (fun i=>some (i*aT E.P e,aT E.P e)) ((Array.range (1*aT E.P e)).map (zv.cells[·%zv.cells.size]!)) [(0,yx)]=some yx.cells:=by
  have Ix:((Array.range (1*aT E.P e)).map (zv.cells[·%zv.cells.size]!)).size=aT E.P e:=by simp
  rw[uT (off:=0) (size:=aT E.P e) (by simp) x1 (by rw[Ix];omega)];simp only[Instr.fill,Option.some.injEq];apply Array.ext';simp only[dE,List.take_zero,List.nil_append,Nat.zero_add];rw[List.drop_of_length_le (by simp only[Array.length_toList];rw[Ix,x1];exact Nat.le_refl _),List.append_nil]
 have lZ:=run_buildSlice (P:=E.P) w t e 1 #[(0,yx)] yx.cells iz zv hu i1 i2 (by rw[i3];omega) (by rw[i3];omega) (by rw[i3];exact Z0);let q:aG:={g:=some w.heap.size,cap:=1,len:=1,sz:=aT E.P e,row:=fun a b=>if a=0∧b=l then(φ id2).toze else default};have IP:∀k,(bg (bD id2 m) id2 k).isSome=true→k≠site:=fun k hk e=>by subst e;rw[eQ (Ne.symm cT)]at hk;simp[bD,hs]at hk
 have QL:∀a b,(bK.nest (aT E.P e) e [p]).rowAt a b=true→a=0∧b=l:=by
  intro a b hr;rcases iO hr with⟨_,_,_,e',s',ZI,fP,h',pQ⟩|⟨_,_,_,_,_,_,fP,_⟩
  ·simp only[bK.nest.injEq]at fP;obtain⟨rfl,rfl,rfl⟩:=fP;cases a with
   |succ a=>simp at h'
   |zero=>
    simp only[List.getElem?_cons_zero,Option.some.injEq]at h';subst h';rw[Oe]at pQ;refine⟨rfl,?_⟩;by_cases Z1:b=l
    ·exact Z1
    ·exfalso;have br:b<yx.cells.size:=by rw[x1,←AA];exact(List.getElem?_eq_some_iff.1 pQ).1
     exact absurd (x3 b _ _ Z1 pQ (Array.getElem?_eq_getElem br)).Ax (by simp[PV.isRow])
  ·cases fP
 have qX:=hM.forget id2;have qu:ay E.P G w0 μ (fun i=>if i=site then q else φ i) (ao (bg (bD id2 m) id2) site (.nest (aT E.P e) e [p])) (w.alloc (.cells yx.cells e)):=by
  have hold:∀k,k<w.heap.size→(w.alloc (.cells yx.cells e)).heap[k]?=w.heap[k]?:=fun k hk=>jx.heap_alloc w _ k hk;refine qX.put (by rw[eQ (Ne.symm cT)];simp[bD,hs]) ((jx.refl _ w).alloc hM.below.size _) (fun k o hk=>?_) (fun id b' g hid hg=>hold g ((qX.dJ id b' hid).Bg hg)) (fun g hg=>?_) ?_ ?_ (by simp[bK.names]) (fun st h=>by cases h)
  ·have:=hM.ro k o hk;rw[hold k (Array.getElem?_eq_some_iff.1 this).1];exact this
  ·rcases hg with hg|⟨a,b,hr,hg⟩
   ·simp only[q,Option.some.injEq]at hg;subst hg;refine⟨hM.below.size,?_,fun id b' hid ho=>?_⟩
    ·cases hq:μ w.heap.size with
     |none=>rfl
     |some o'=>have:=hM.ro _ _ hq;simp at this
    ·have:=(qX.dJ id b' hid).Bg ho;omega
   ·have qN:=QL a b hr;have hg:(φ id2).g=some g:=by simpa[q,qN]using hg
    obtain⟨o1,o2⟩:=hM.own id2 _ g cO (.inl hg);refine⟨o1,o2 rfl,fun id b' hid ho=>?_⟩;obtain⟨h1,b2,pB,rfl⟩:=eM hid;exact h1 (hM.inj id id2 _ _ g pB cO (fD.1 ho) (.inl hg))
  ·intro a b g hr hg;have qN:=QL a b hr;have hg:(φ id2).g=some g:=by simpa[q,qN]using hg
   refine⟨fun h=>?_,fun a' b' qM _=>by have:=QL a' b' qM;omega⟩;simp only[q,Option.some.injEq]at h;have:=(hM.dJ id2 _ cO).Bg (.inl hg);omega
  ·show aV E.P μ (fun i=>if i=site then q else φ i) (w.alloc (.cells yx.cells e)) site (aT E.P e) e [p];unfold aV;simp only[if_true];refine⟨rfl,rfl,trivial,ep,fun i e' QM=>?_,by simp[q,maxLen],yx.cells,fE w _,by simp[q,x1],by simp[q],fun i e' b p' x' QM pQ IQ=>?_,fun i x' _ IQ=>x2 i x' IQ⟩
   ·cases i with
    |zero=>simp at QM;subst QM;rw[Oe,AA]
    |succ i=>simp at QM
   ·cases i with
    |succ i=>simp at QM
    |zero=>
     simp only[List.getElem?_cons_zero,Option.some.injEq]at QM;subst QM;rw[Oe]at pQ;rw[Nat.zero_mul,Nat.zero_add]at IQ;by_cases Z1:b=l
     ·subst Z1;rw[iL]at pQ;simp only[Option.some.injEq]at pQ;subst pQ;rw[T2]at IQ;simp only[Option.some.injEq]at IQ;subst IQ;have:q.row 0 b=(φ id2).toze:=by simp[q]
      rw[this];refine eK.cH ⟨⟨Gw,W0.up⟩,I4 hvz⟩ (fun _ _ h=>h) fun g hg=>hold g ((hM.dJ id2 _ cO).Bg (.inl hg))
     ·exact .pure (x3 b p' x' Z1 pQ IQ)
 refine⟨_,_,_,lZ,qu,?_,?_⟩
 ·exact(hF.forget id2).mono (fun _ _ h=>h) fun k hk=>⟨by simp[IP k hk],by show(ao (bg (bD id2 m) id2) site _ k).isSome=true;rw[aq (IP k hk)];exact hk⟩
 ·have:=ai.os (P:=E.P) (μ:=μ) (φ:=fun i=>if i=site then q else φ i) (id:=site) (g:=w.heap.size) (by simp[q]);simpa[q]using this
theorem QN{k v v':PV}:∀{es:List (PV×PV)}{j:Nat},(eO k v es)[j]?=some (k,v)→(j3 k es=some j∨(j3 k es=none∧j=es.length))→(eO k v es).set j (k,v')=eO k v' es:=by
 intro es j hj hp;rw[kV,kV];rcases hp with hp|⟨hp,rfl⟩
 ·rw[hp];simp
 ·rw[hp];simp
variable{es:List (PV×PV)}
theorem ay.T9{P:Program}{μ:Ro}{m:Mem}(hM:ay P G w0 μ φ m w){id i s2:Nat}{kt:TypeId}{k:PV}{rs:List PV}{x:Value}(cT:id2≠id)(hm:m id=some (.eU kt e es))(cO:m id2=some (.arr s2 e rs))(he:es[i]?=some (k,.bad))(hx:∀g en clock,(φ id).g=some g→w.heap[g]?=some (.map en clock)→∃e0,en[i]?=some e0∧e0.val=x)(hv:ai P μ φ (.os id2) x):ay P G w0 μ (fun j=>if j=id then je (φ id) i 0 (φ id2).toze else φ j) (ao (eS id (bg (bD id2 m) id2)) id (.eU kt e (es.set i (k,.fO s2 rs)))) w:=by
 have qX:=(hM.forget id2).sf id;obtain⟨g0,en,clock,kk,hN⟩:=q7.1 (hM.dJ id _ hm);have W0:aM P μ φ w id2 s2 e rs:=hM.dJ id2 _ cO;have iL:∀a b,(bK.eU kt e (es.set i (k,.fO s2 rs))).rowAt a b=true→(a=i∧b=0)∨((bK.eU kt e es).rowAt a b=true∧¬(a=i∧b=0)):=by
  intro a b hr;by_cases qN:a=i∧b=0
  ·exact .inl qN
  ·refine .inr ⟨?_,qN⟩;rcases iO hr with⟨_,_,_,_,_,_,fP,_⟩|⟨_,_,_,k',s',ZI,fP,rfl,h'⟩
   ·cases fP
   ·simp only[bK.eU.injEq]at fP;obtain⟨rfl,rfl,rfl⟩:=fP;rcases ek h' with⟨rfl,_⟩|⟨Qy,h'⟩
    ·exact absurd ⟨rfl,rfl⟩ qN
    ·rw[iN h'];rfl
 refine hM.My (fun _ k=>if k=id2 then id else k) (fun j b' hj=>?_) (fun j b' g hj ho=>?_) (fun j b' hj=>?_) (fun j cs k hj hk=>?_) (fun j st hj=>?_)
 ·rcases eZ hj with⟨rfl,rfl⟩|⟨h1,h2,c,hc,rfl⟩
  ·refine q7.2 ⟨g0,en,clock,kk,by simp[je,hN.pl],hN.heap,by simp[hN.size],hN.xO,fun a k' v' h'=>?_,hN.born,fun a k' v' e' h' QM=>?_⟩
   ·rcases ek h' with⟨rfl,hq⟩|⟨_,h'⟩
    ·simp only[Prod.mk.injEq]at hq;rw[hq.1];exact hN.key a k _ he
    ·exact hN.key a k' v' h'
   ·simp only[if_true];rcases ek h' with⟨rfl,hq⟩|⟨Qy,h'⟩
    ·simp only[Prod.mk.injEq]at hq;obtain⟨rfl,rfl⟩:=hq;refine⟨(hN.rep a _ _ e' he QM).1,?_⟩;rw[fK];obtain⟨e1,Z2,hxe⟩:=hx g0 en clock hN.pl hN.heap;rw[QM]at Z2;simp only[Option.some.injEq]at Z2;subst Z2;rw[hxe];exact⟨W0.up,I4 hv⟩
    ·rw[fR _ _ (fun h=>Qy h.1)];exact hN.rep a k' v' e' h' QM
  ·have hb:fQ P μ φ w j (dP id (fH id2 c)):=(hM.dJ j c hc).kill.vu;exact hb.Mz h1 (by simp[je]) fun k hk=>by simp[hk]
 ·rcases eZ hj with⟨rfl,rfl⟩|⟨h1,h2,c,hc,rfl⟩
  ·simp only[if_true]at ho;rcases ho with ho|⟨a,b,hr,ho⟩
   ·exact⟨j,_,hm,.inl ho,fun _=>rfl,by simp[cT.symm]⟩
   ·rcases iL a b hr with⟨rfl,rfl⟩|⟨qM,qN⟩
    ·rw[fK]at ho;exact⟨id2,_,cO,.inl ho,fun _=>rfl,by simp⟩
    ·rw[fR _ _ qN]at ho;exact⟨j,_,hm,.inr ⟨a,b,qM,ho⟩,fun _=>rfl,by simp[cT.symm]⟩
  ·simp only[h1,if_false]at ho;exact⟨j,c,hc,fD.1 (oF.1 ho),fun h=>by rw[vV,uP]at h;exact h,by simp[h2]⟩
 ·rcases eZ hj with⟨rfl,rfl⟩|⟨h1,h2,c,hc,rfl⟩
  ·simp only[if_true];have Bj:=hM.apart j _ hm;have new:∀g,(φ id2).g=some g→¬(bK.eU kt e es).eg (φ j) g:=fun g hg ho=>cT (hM.inj id2 j _ _ g cO hm (.inl hg) ho);intro a b g hr hg;rcases iL a b hr with⟨rfl,rfl⟩|⟨qM,qN⟩
   ·rw[fK]at hg;refine⟨fun h=>new g hg (.inl h),fun a' b' QH I5=>?_⟩;rcases iL a' b' QH with h|⟨T8,I6⟩
    ·exact h
    ·rw[fR _ _ I6]at I5;exact absurd (.inr ⟨a',b',T8,I5⟩) (new g hg)
   ·rw[fR _ _ qN]at hg;obtain⟨h3,h4⟩:=Bj a b g qM hg;refine⟨h3,fun a' b' QH I5=>?_⟩;rcases iL a' b' QH with⟨rfl,rfl⟩|⟨T8,I6⟩
    ·rw[fK]at I5;exact absurd (.inr ⟨a,b,qM,hg⟩) (new g I5)
    ·rw[fR _ _ I6]at I5;exact h4 a' b' T8 I5
  ·simp only[h1,if_false];exact tx.2 (sc.2 (hM.apart j c hc))
 ·rcases eZ hj with⟨rfl,hb⟩|⟨h1,h2,c,hc,hb⟩
  ·cases hb
  ·have FW:eS id (bg (bD id2 m) id2) j=some (.box cs):=by rw[aq h1]at hj;exact hj
   have:=qX.fj j cs k FW hk;by_cases e:k=id
   ·subst e;simp
   ·rw[aq e];exact this
 ·rcases eZ hj with⟨rfl,hb⟩|⟨h1,h2,c,hc,hb⟩
  ·cases hb
  ·cases c<;>first|(simp[dP,fH]at hb;done)|skip
   simp only[dP,fH,bK.loop.injEq]at hb;subst hb;exact⟨hc,by simp[h1]⟩
theorem Of{t kt et:TypeId}{xk:V}{id s:Nat}{key:PV}{rs:List PV}{m:Mem}(hu:E.P.underlying t=some (.map kt et))(hm:m id=some (.eU kt e es))(cO:m id2=some (.arr s e rs))(qq:keyOf E kt xk=some key){μ:Ro}{f:Fr}{ya yk yv:Value}(hM:ay E.P G w0 μ φ m w)(hF:cm E.P μ φ m f ρ)(ha:ai E.P μ φ (.om id) ya)(hk:ai E.P μ φ xk yk)(hv:ai E.P μ φ (.os id2) yv):∃w' φ',(Instr.mapUpdate t ya yk yv).run E.P w=.ok () w'∧ay E.P G w0 μ φ' (qL [(id,.eU kt e (eO key (.fO s rs) es))] (km [(true,id2),(false,id)] m)) w'∧cm E.P μ φ' (qL [(id,.eU kt e (eO key (.fO s rs) es))] (km [(true,id2),(false,id)] m)) (kf [(true,id2),(false,id)] f) ρ:=by
 have cT:id2≠id:=fun h=>by subst h;rw[hm]at cO;cases cO
 obtain⟨ks,k1,k2,k3⟩:=qZ qq;obtain⟨g,en,clock,kk,hN⟩:=q7.1 (hM.dJ id _ hm);have xQ:=hN.xO;rw[k1]at xQ;simp only[Option.some.injEq]at xQ;subst xQ;have N3:=uU k1;have YV:=k3 μ φ yk hk;obtain⟨hc,WV⟩:=kB k2 YV;obtain⟨res,r1,r2⟩:=jQ (v:=.ny) (z:=.bad) N3 hc w hN.ent;have Ae:=Go.MapKept.run_getObj_map (P:=E.P) hN.heap;have h1:(Instr.checkKey false 10000 kt yk).run E.P w=.ok () w:=by rw[WV];exact gm 8 kt ks N3 9992 w false key.cells hc
 rw[←WV]at r1;have br:g<w.heap.size:=(Array.getElem?_eq_some_iff.1 hN.heap).1;cases ha with
 |om bX=>
  rw[hN.pl]at bX;simp only[Option.some.injEq]at bX;subst bX;have fin:∀(J:Nat)(Iv:Array MapEntry)(na:Nat),(j3 key es=some J∨(j3 key es=none∧J=es.length))→(Instr.mapUpdate t (.map (some g)) yk yv).run E.P w=.ok () {w with heap:=w.heap.setIfInBounds g (.map Iv na)}→jX Iv na→Iv.size=(eO key .bad es).length→(∃e0,Iv[J]?=some e0∧e0.key=yk∧e0.val=yv)→(∀i e0,i≠J→Iv[i]?=some e0→en[i]?=some e0)→∃w' φ',(Instr.mapUpdate t (.map (some g)) yk yv).run E.P w=.ok () w'∧ay E.P G w0 μ φ' (qL [(id,.eU kt e (eO key (.fO s rs) es))] (km [(true,id2),(false,id)] m)) w'∧cm E.P μ φ' (qL [(id,.eU kt e (eO key (.fO s rs) es))] (km [(true,id2),(false,id)] m)) (kf [(true,id2),(false,id)] f) ρ:=by
   intro J Iv na hJ hr sJ kO hJe Ah;obtain⟨eJ,Z3,ad4,ad5⟩:=hJe;have qu:∀i k' v',(eO key .bad es)[i]?=some (k',v')→(i=J∧k'=key∧v'=.bad)∨(i≠J∧es[i]?=some (k',v')):=by
    intro i k' v' h;rw[kV]at h;rcases hJ with hJ|⟨hJ,rfl⟩
    ·rw[hJ]at h;rcases ek h with⟨rfl,hq⟩|⟨Qy,h⟩
     ·simp only[Prod.mk.injEq]at hq;exact .inl ⟨rfl,hq.1,hq.2⟩
     ·exact .inr ⟨Qy,h⟩
    ·rw[hJ]at h;simp only at h;rw[List.getElem?_append]at h;split at h
     ·rename_i br;exact .inr ⟨by omega,h⟩
     ·rename_i CP;cases hd:i-es.length with
      |zero=>rw[hd]at h;simp only[List.getElem?_cons_zero,Option.some.injEq,Prod.mk.injEq]at h;exact .inl ⟨by omega,h.1.symm,h.2.symm⟩
      |succ n=>rw[hd]at h;simp at h
   have hJb:(eO key .bad es)[J]?=some (key,.bad):=by
    rw[kV];rcases hJ with hJ|⟨hJ,rfl⟩
    ·rw[hJ];obtain⟨a,u,hj,_⟩:=Az hJ;simp[(List.getElem?_eq_some_iff.1 hj).1]
    ·rw[hJ];simp
   have qX:ay E.P G w0 μ φ (ao m id (.eU kt e (eO key .bad es))) {w with heap:=w.heap.setIfInBounds g (.map Iv na)}:=by
    refine hM.write hm rfl hN.pl ⟨⟨rfl,rfl,rfl,by simp,fun k hk=>by simp[Array.getElem?_setIfInBounds_ne (Nat.ne_of_gt hk)]⟩,fun _=>Nat.le_refl _⟩ (by simp) (fun k hk=>by simp[Array.getElem?_setIfInBounds_ne (Ne.symm hk)]) (q7.2 ⟨g,Iv,na,ks,hN.pl,by simp[br],kO,k1,fun i k' v' h=>?_,sJ,fun i k' v' e0 h FV=>?_⟩) rfl (by simp[bK.names]) (fun st h=>by cases h) fun a b hr=>?_
    ·rcases qu i k' v' h with⟨_,rfl,_⟩|⟨_,h⟩
     ·exact k2
     ·exact hN.key i k' v' h
    ·rcases qu i k' v' h with⟨rfl,rfl,rfl⟩|⟨Qy,h⟩
     ·rw[Z3]at FV;simp only[Option.some.injEq]at FV;subst FV;exact⟨by rw[ad4];exact YV,.pure .bad⟩
     ·obtain⟨q1,q2⟩:=hN.rep i k' v' e0 h (Ah i e0 Qy FV);refine⟨q1,?_⟩;unfold Bw at q2⊢;split at q2
      ·refine⟨q2.1.cH rfl (fun _ _ h=>h) fun g' bX=>?_,q2.2⟩;have hr:(bK.eU kt e es).rowAt i 0=true:=by rw[iN h];rfl
       have:=(hM.apart id _ hm i 0 g' hr bX).1;rw[hN.pl]at this;simp only[ne_eq,Option.some.injEq]at this;simp[Array.getElem?_setIfInBounds_ne this]
      ·exact q2
    ·rcases iO hr with⟨_,_,_,_,_,_,fP,_⟩|⟨_,_,_,k',s',ZI,fP,rfl,h'⟩
     ·cases fP
     ·simp only[bK.eU.injEq]at fP;obtain⟨rfl,rfl,rfl⟩:=fP;rcases qu a k' _ h' with⟨_,_,h⟩|⟨_,h⟩
      ·cases h
      ·rw[iN h];rfl
   have qN:=ay.T9 qX (id:=id) (id2:=id2) (i:=J) (x:=yv) cT (aN _ _ _) (by rw[aq cT];exact cO) hJb (fun g0 en0 ad6 It hh0=>by
    rw[hN.pl]at It;simp only[Option.some.injEq]at It;subst It;have:(w.heap.setIfInBounds g (Obj.map Iv na))[g]?=some (.map Iv na):=by simp[br]
    rw[this]at hh0;simp only[Option.some.injEq,Obj.map.injEq]at hh0;obtain⟨rfl,_⟩:=hh0;exact⟨eJ,Z3,ad5⟩) hv
   rw[QN hJb hJ,BC cT]at qN;refine⟨_,_,hr,qN,?_⟩;have Af:cm E.P μ φ (ao m id (.eU kt e (eO key .bad es))) f ρ:=hF.kU (fun _ _ h=>h) .set;refine((Af.forget id2).sf id).VB (by simp[je]) (fun k hk=>by simp[hk]) fun k hk=>?_;show(ao (eS id (bg (bD id2 m) id2)) id _ k).isSome=true;by_cases e1:k=id
   ·subst e1;simp
   ·rw[aq e1];rw[mn]at hk⊢;by_cases e2:k=id2
    ·subst e2;simp at hk
    ·rw[eQ e2]at hk⊢;simp only[bD,aq e1]at hk⊢;exact hk
  rcases Dy r2 with⟨rfl,hp⟩|⟨j,e0,rfl,FV,hp⟩
  ·have T3:=Go.MapKept.run_setObj_map (P:=E.P) (.map (en.push {key:=yk,val:=yv,born:=clock}) (clock+1)) hN.heap;refine fin es.length _ _ (.inr ⟨hp,rfl⟩) (by simp only[Instr.mapUpdate,Sem.run_bind,run_underlying hu,Ae,h1,r1,Result.andThen_ok];exact T3) hN.born.push (by rw[kV,hp];simp[hN.size]) ⟨{key:=yk,val:=yv,born:=clock},?_,rfl,rfl⟩ fun i e0 hi h=>?_
   ·rw[←hN.size];simp
   ·rw[Array.getElem?_push]at h;split at h
    ·rename_i h';rw[hN.size]at h';exact absurd h' hi
    ·exact h
  ·have Ua:en[j]?=some e0:=by simpa using FV
   obtain⟨a,u,haj,Z4⟩:=Az hp;obtain⟨WW,hva⟩:=kB (hN.key j a u haj) (hN.rep j a u e0 haj Ua).1;have se:=Ey hc WW Z4;have WX:Instr.sameBits 10000 e0.key yk=true:=by rw[hva,WV,←se];refine tw (n:=9999) hc (fun ha=>?_);rw[nC hc];exact(uN N3).2.1 ha
   have T3:=Go.MapKept.run_setObj_map (P:=E.P) (.map (en.modify j fun e=>{e with key:=yk,val:=yv}) clock) hN.heap;have xP:j<en.size:=(Array.getElem?_eq_some_iff.1 Ua).1;refine fin j _ _ (.inl hp) (by simp only[Instr.mapUpdate,Sem.run_bind,run_underlying hu,Ae,h1,r1,Result.andThen_ok];simp only[Nat.zero_add,Ua,Option.map_some,Option.getD_some,Instr.keyThatStays,WX,if_true,Sem.run_pure,Result.andThen_ok];exact T3) (hN.born.modify (fun e=>{e with key:=yk,val:=yv}) (fun _=>rfl) _) (by rw[kV,hp];simp[hN.size]) ⟨{e0 with key:=yk,val:=yv},by rw[Array.getElem?_modify,if_pos rfl,Ua];rfl,rfl,rfl⟩ fun i e1 hi h=>?_;rw[Array.getElem?_modify,if_neg (Ne.symm hi)]at h;exact h
end
end Go.Ab
set_option linter.unusedVariables false
namespace Go.Ab
section
variable {P:Program} {G:Nat→Option (List PV)} {w0:bw} {μ μ':Ro} {φ φ':Nat→aG} {m m':Mem} {w w':World}
structure jq(P:Program)(μ:Ro)(rows:Nat→Nat→ze)(w:World)(s:Nat)(es:List PV)(xs:List Value):Prop where
 len:xs.length=es.length*s
 each:∀(i:Nat)e,es[i]?=some e→e.cells.length=s
 rep:∀(i:Nat)e(j:Nat)p x,es[i]?=some e→e.cells[j]?=some p→xs[i*s+j]?=some x→ei P μ (rows i j) w p x
 one:∀(i:Nat)(x:Value),xs[i]?=some x→x.oneCell'=true
variable{rows:Nat→Nat→ze}{es:List PV}{xs:List Value}
theorem jq.append{BD QO:Nat→Nat→ze}{s:Nat}{es':List PV}{ZJ:List Value}(h:jq P μ rows w s es xs)(h':jq P μ BD w s es' ZJ)(h1:∀i j,i<es.length→QO i j=rows i j)(h2:∀i j,es.length≤i→QO i j=BD (i-es.length) j):jq P μ QO w s (es++es') (xs++ZJ):=by
 refine⟨by simp[h.len,h'.len,Nat.add_mul],fun i e he=>?_,fun i e j p x he hp hx=>?_,fun i x hx=>?_⟩
 ·rw[List.getElem?_append]at he;split at he
  ·exact h.each i e he
  ·exact h'.each _ e he
 ·rw[List.getElem?_append]at he;split at he
  ·rename_i hi;rw[h1 i j hi];have hj:j<s:=by rw[←h.each i e he];exact(List.getElem?_eq_some_iff.1 hp).1
   rw[List.getElem?_append_left (by rw[h.len];exact Bn hi hj)]at hx;exact h.rep i e j p x he hp hx
  ·rename_i hi;rw[h2 i j (by omega)];have e1:i*s+j=es.length*s+((i-es.length)*s+j):=by
    have:i=es.length+(i-es.length):=by omega
    have h3:i*s=es.length*s+(i-es.length)*s:=by rw[←Nat.add_mul,←this]
    omega
   rw[List.getElem?_append_right (by rw[h.len,e1];omega),h.len,show i*s+j-es.length*s=(i-es.length)*s+j by omega]at hx;exact h'.rep _ e j p x he hp hx
 ·rw[List.getElem?_append]at hx;split at hx
  ·exact h.one i x hx
  ·exact h'.one _ x hx
theorem Cells.EC{s:Nat}(h:Cells P μ s es xs):jq P μ rows w s es xs:=⟨h.len,h.each,fun i e j p x he hp hx=>.pure (h.rep i e j p x he hp hx),h.one⟩
theorem jq.cH{rows:Nat→Nat→ze}{s:Nat}{es:List PV}{xs:List Value}(h:jq P μ rows w s es xs)(hw:∀i e j p g,es[i]?=some e→e.cells[j]?=some p→p.isRow=true→(rows i j).g=some g→w'.heap[g]?=w.heap[g]?):jq P μ rows w' s es xs:=⟨h.len,h.each,fun i e j p x he hp hx=>(h.rep i e j p x he hp hx).cH (fun _ _ h=>h) fun hr g hg=>hw i e j p g he hp hr hg,h.one⟩
theorem aV.EC{id sz:Nat}{et:TypeId}(h:aV P μ φ w id sz et es){g:Nat}(hg:(φ id).g=some g):∃c:Array Value,w.heap[g]?=some (.cells c et (0,0))∧(φ id).cap*sz≤c.size∧es.length≤(φ id).cap∧jq P μ (φ id).row w sz es (c.toList.take (es.length*sz)):=by obtain⟨a1,a2,a3,a4,a5,a6,a7⟩:=h;rw[hg]at a7;obtain⟨c,c1,c2,c3,c4,c5⟩:=a7;have hle:es.length*sz≤c.size:=Nat.le_trans (Nat.mul_le_mul_right _ c3) c2;refine⟨c,c1,c2,c3,by simp;omega,a5,fun i e j p x he hp hx=>c4 i e j p x he hp (by simpa using(eo hx).2),fun i x hx=>?_⟩;have:=eo hx;exact c5 i x this.1 (by simpa using this.2)
theorem jq.nest{id g sz:Nat}{et:TypeId}{c:Array Value}(TV:(φ id).toze=⟨some g,(φ id).cap,es.length,sz⟩)(kO:sz=aT P et)(ep:0<sz)(mX:(φ id).cap≤maxLen)(hh:w.heap[g]?=some (.cells c et (0,0)))(hc:(φ id).cap*sz≤c.size)(hle:es.length≤(φ id).cap)(hC:jq P μ (φ id).row w sz es (c.toList.take (es.length*sz))):aV P μ φ w id sz et es:=by
 have e1:(φ id).g=some g:=by rw[TV]
 refine⟨by rw[TV],by rw[TV],kO,ep,hC.each,mX,?_⟩;rw[e1];have xP:∀(i:Nat)e(j:Nat)p,es[i]?=some e→e.cells[j]?=some p→i*sz+j<es.length*sz:=fun i e j p hi hj=>Bn (List.getElem?_eq_some_iff.1 hi).1 (by rw[←hC.each i e hi];exact(List.getElem?_eq_some_iff.1 hj).1);refine⟨c,hh,hc,hle,fun i e j p x hi hj hx=>?_,fun i x hi hx=>?_⟩
 ·exact hC.rep i e j p x hi hj (by rw[List.getElem?_take_of_lt (xP i e j p hi hj)];simpa using hx)
 ·exact hC.one i x (by rw[List.getElem?_take_of_lt hi];simpa using hx)
end
section
variable {R:Type} {E:Env}
def MA(src:Option Nat)(m:Mem):Mem:=match src with|some id2=>bg (bD id2 m) id2|none=>m
def kfS(src:Option Nat)(f:Fr):Fr:=match src with|some id2=>eP id2 f|none=>f
variable{src:Option Nat}
theorem QP{m:Mem}{j:Nat}{b:bK}(h:MA src m j=some b):src≠some j∧∃b',m j=some b'∧b.rowAt=b'.rowAt:=by
 cases src with
 |none=>exact⟨by simp,b,h,rfl⟩
 |some id2=>obtain⟨h1,b',h2,rfl⟩:=eM h;exact⟨fun e=>h1 (by simpa using e.symm),b',h2,rZ _ _⟩
theorem Og{t e ty:TypeId}{x:V}{id s:Nat}{es new:List PV}{rd:bp}{m:Mem}(hu:E.P.underlying t=some (.slice e))(hm:m id=some (.nest s e es))(hs:s=aT E.P e)(hz:(dn E e).isSome=true)(ep:0<aT E.P e)(ZK:0<CK E.P e)(eu:(es++new).length*CK E.P e≤aa)(vS:(∃id2,src=some id2∧id2≠id∧x=.os id2∧m id2=some (.nest s e new))∨(src=none∧eH m s x=some (new,rd))){G:Nat→Option (List PV)}{w0:bw}{μ:Ro}{φ:Nat→aG}{w:World}{f:Fr}{ρ:Nat→Value}{ys yx:Value}(hM:ay E.P G w0 μ φ m w)(hF:cm E.P μ φ m f ρ)(ha:ai E.P μ φ (.os id) ys)(hx:ai E.P μ φ x yx):∃w' y φ',(Builtin.append_ #[t,t] ty #[ys,yx]).run E.P w=.ok y w'∧ay E.P G w0 μ φ' (ao (bg (bD id (MA src m)) id) id (.nest s e (es++new))) w'∧cm E.P μ φ' (ao (bg (bD id (MA src m)) id) id (.nest s e (es++new))) (eP id (kfS src f)) ρ∧ai E.P μ φ' (.os id) y:=by
 obtain⟨zc,PS⟩:=Option.isSome_iff_exists.1 hz;obtain⟨i,zv,hi,YS,Vy,_,Gm,_,_,_⟩:=eE PS;have hN:aV E.P μ φ w id s e es:=hM.dJ id _ hm;have Gp:(es++new).length=es.length+new.length:=by simp
 have jd:0<s:=by omega
 obtain⟨BD,qM⟩:∃BD:Nat→Nat→ze,BD=match src with|some id2=>(φ id2).row|none=>fun _ _=>default:=⟨_,rfl⟩
 obtain⟨os,WO,hC⟩:∃os,((ys=.slice none 0 0∧es.length=0∧os=[])∨∃(g cap:Nat)(c:Array Value),ys=.slice (some ⟨g,0,none⟩) es.length cap∧w.heap[g]?=some (.cells c e (0,0))∧cap*s≤c.size∧es.length≤cap∧cap≤maxLen∧os=c.toList.take (es.length*s))∧jq E.P μ (φ id).row w s es os:=by
  cases ha with
  |pA hg=>have a7:=hN.2.2.2.2.2.2;rw[hg]at a7;rw[a7.1];exact⟨[],.inl ⟨rfl,rfl,rfl⟩,by simp,by simp,fun i e j p x he=>by simp at he,by simp⟩
  | @os _ g hg=>obtain⟨c,c1,c2,c3,c4⟩:=hN.EC hg;exact⟨_,.inr ⟨g,(φ id).cap,c,by rw[hN.1],c1,c2,c3,hN.2.2.2.2.2.1,rfl⟩,c4⟩
 obtain⟨xs,Gn,hCx⟩:∃xs,((yx=.slice none 0 0∧new.length=0∧xs=[])∨∃(a:Addr)(cx:Nat),yx=.slice (some a) new.length cx∧xs.length=new.length*s∧(∀(j:Nat)v,xs[j]?=some v→w.cell? (a.add j)=some v)∧(∀v∈xs,v.oneCell'=true)∧new.length≤cx∧cx≤maxLen)∧jq E.P μ BD w s new xs:=by
  rcases vS with⟨id2,rfl,cT,rfl,cO⟩|⟨rfl,yo⟩
  ·have hN2:aV E.P μ φ w id2 s e new:=hM.dJ id2 _ cO;simp only at qM;subst qM;cases hx with
   |pA hg=>have a7:=hN2.2.2.2.2.2.2;rw[hg]at a7;rw[a7.1];exact⟨[],.inl ⟨rfl,rfl,rfl⟩,by simp,by simp,fun i e j p x he=>by simp at he,by simp⟩
   | @os _ g hg=>
    obtain⟨c,c1,c2,c3,c4⟩:=hN2.EC hg;refine⟨_,.inr ⟨⟨g,0,none⟩,(φ id2).cap,by rw[hN2.1],c4.len,fun j v hj=>?_,fun v hv=>?_,c3,hN2.2.2.2.2.2.1⟩,c4⟩
    ·rw[Addr.add_mid,dN c1];simpa using(eo hj).2
    ·obtain⟨j,hj⟩:=List.getElem?_of_mem hv;exact c4.one j v hj
  ·obtain⟨_,_,hsr⟩:=l5 yo;have:=hsr _ _ _ _ _ _ _ hM hx;cases this with
   |none hn=>subst hn;exact⟨[],.inl ⟨rfl,rfl,rfl⟩,by simp,by simp,fun i e j p x he=>by simp at he,by simp⟩
   | @some a cx xs hC Gn Vz Qz=>exact⟨xs,.inr ⟨a,cx,rfl,hC.len,Gn,fun u hu=>by obtain⟨j,hj⟩:=List.getElem?_of_mem hu;exact hC.one j u hj,Vz,Qz⟩,hC.EC⟩
 obtain⟨w',y,hr,QA⟩:=Bo (ty:=ty) hu hi YS (by rw[Gm,hs]) hs ep ZK (by rw[←Gp];exact eu) WO Gn;let kW:Nat→Nat→ze:=fun a b=>if a<es.length then(φ id).row a b else BD (a-es.length) b;have ZM:jq E.P μ kW w s (es++new) (os++xs):=hC.append hCx (fun a b h=>by simp only[kW,h,if_true]) (fun a b h=>by simp only[kW,Nat.not_lt.2 h,if_false]);have iL:∀a b g,(bK.nest s e (es++new)).rowAt a b=true→(kW a b).g=some g→(a<es.length∧(bK.nest s e es).rowAt a b=true∧((φ id).row a b).g=some g)∨(es.length≤a∧∃id2,src=some id2∧id2≠id∧m id2=some (.nest s e new)∧(bK.nest s e new).rowAt (a-es.length) b=true∧((φ id2).row (a-es.length) b).g=some g):=by
  intro a b g Aa hg;rcases iO Aa with⟨_,_,_,e',s',ZI,fP,h',pQ⟩|⟨_,_,_,_,_,_,fP,_⟩
  ·simp only[bK.nest.injEq]at fP;obtain⟨rfl,rfl,rfl⟩:=fP;by_cases br:a<es.length
   ·rw[List.getElem?_append_left br]at h';exact .inl ⟨br,by rw[dA h' pQ];rfl,by simpa[kW,br]using hg⟩
   ·rw[List.getElem?_append_right (by omega)]at h';simp only[kW,br,if_false]at hg;rcases vS with⟨id2,rfl,cT,rfl,cO⟩|⟨rfl,yo⟩
    ·simp only at qM;subst qM;exact .inr ⟨by omega,id2,rfl,cT,cO,by rw[dA h' pQ];rfl,hg⟩
    ·exfalso;obtain⟨_,_,hsr⟩:=l5 yo;have h3:=hsr _ _ _ _ _ _ _ hM hx;cases h3 with
     |none hn=>subst hn;simp at h'
     | @some a2 cx xs2 hC2 agq Vz Qz=>
      have hj:(a-es.length)*s+b<xs2.length:=by rw[hC2.len];exact Bn (List.getElem?_eq_some_iff.1 h').1 (by rw[←hC2.each _ _ h'];exact(List.getElem?_eq_some_iff.1 pQ).1)
      exact absurd (hC2.rep _ _ _ _ _ h' pQ (List.getElem?_eq_getElem hj)).Ax (by simp[PV.isRow])
  ·cases fP
 have QQ:∀j,(bg (bD id (MA src m)) id j).isSome=true→j≠id:=fun j hj e=>by subst e;simp at hj
 have bO:∀j b',bg (bD id (MA src m)) id j=some b'→j≠id∧src≠some j∧∃b,m j=some b∧b'.rowAt=b.rowAt:=by intro j b' hj;obtain⟨h1,b1,h2,rfl⟩:=eM hj;obtain⟨h3,b2,h4,h5⟩:=QP h2;exact⟨h1,h3,b2,h4,by rw[rZ,h5]⟩
 have Ja:∀{j b' b g},b'.rowAt=b.rowAt→bK.eg b' (φ j) g→bK.eg b (φ j) g:=fun h ho=>by unfold bK.eg at*;rw[←h];exact ho
 have hM0:ay E.P G w0 μ φ (MA src m) w:=by
  cases src with
  |none=>exact hM
  |some id2=>exact hM.forget id2
 have Z5:cm E.P μ φ (MA src m) (kfS src f) ρ:=by
  cases src with
  |none=>exact hF
  |some id2=>exact hF.forget id2
 have qX:=hM0.forget id;have Af:=Z5.forget id;have ED:∀a b g,(bK.nest s e (es++new)).rowAt a b=true→(kW a b).g=some g→w0.heap.size≤g∧μ g=none∧g<w.heap.size∧∀j b',bg (bD id (MA src m)) id j=some b'→¬b'.eg (φ j) g:=by
  intro a b g Aa hg;rcases iL a b g Aa hg with⟨_,h2,h3⟩|⟨_,id2,rfl,cT,cO,h2,h3⟩
  ·obtain⟨o1,o2⟩:=hM.own id _ g hm (.inr ⟨a,b,h2,h3⟩);refine⟨o1,o2 rfl,(hM.dJ id _ hm).Bg (.inr ⟨a,b,h2,h3⟩),fun j b' hj ho=>?_⟩;obtain⟨k1,_,b2,k3,k4⟩:=bO j b' hj;exact k1 (hM.inj j id _ _ g k3 hm (Ja k4 ho) (.inr ⟨a,b,h2,h3⟩))
  ·obtain⟨o1,o2⟩:=hM.own id2 _ g cO (.inr ⟨_,b,h2,h3⟩);refine⟨o1,o2 rfl,(hM.dJ id2 _ cO).Bg (.inr ⟨_,b,h2,h3⟩),fun j b' hj ho=>?_⟩;obtain⟨_,k1,b2,k3,k4⟩:=bO j b' hj;exact k1 (by rw[hM.inj j id2 _ _ g k3 cO (Ja k4 ho) (.inr ⟨_,b,h2,h3⟩)])
 have Oh:∀a b a' b' g,(bK.nest s e (es++new)).rowAt a b=true→(kW a b).g=some g→(bK.nest s e (es++new)).rowAt a' b'=true→(kW a' b').g=some g→a'=a∧b'=b:=by
  intro a b a' b' g h1 h2 h3 h4;rcases iL a b g h1 h2 with⟨u1,u2,u3⟩|⟨u1,i2,u0,une,um,u2,u3⟩<;>rcases iL a' b' g h3 h4 with⟨v1,v2,v3⟩|⟨v1,i3,v0,vne,vm,v2,v3⟩
  ·exact(hM.apart id _ hm a b g u2 u3).2 a' b' v2 v3
  ·exact absurd (hM.inj i3 id _ _ g vm hm (.inr ⟨_,_,v2,v3⟩) (.inr ⟨_,_,u2,u3⟩)) vne
  ·exact absurd (hM.inj i2 id _ _ g um hm (.inr ⟨_,_,u2,u3⟩) (.inr ⟨_,_,v2,v3⟩)) une
  ·rw[u0]at v0;simp only[Option.some.injEq]at v0;subst v0;obtain⟨h5,h6⟩:=(hM.apart i2 _ um (a-es.length) b g u2 u3).2 (a'-es.length) b' v2 v3;exact⟨by omega,h6⟩
 have fin:∀(q:aG)(w1:World),q.row=kW→jx w0.heap.size w w1→(∀k o,μ k=some o→w1.heap[k]?=some o)→(∀j b' g,bg (bD id (MA src m)) id j=some b'→b'.eg (φ j) g→w1.heap[g]?=w.heap[g]?)→(∀g,q.g=some g→w0.heap.size≤g∧μ g=none∧(∀j b',bg (bD id (MA src m)) id j=some b'→¬b'.eg (φ j) g)∧∀a b,(bK.nest s e (es++new)).rowAt a b=true→(kW a b).g≠some g)→(aV E.P μ (fun k=>if k=id then q else φ k) w1 id s e (es++new))→ay E.P G w0 μ (fun k=>if k=id then q else φ k) (ao (bg (bD id (MA src m)) id) id (.nest s e (es++new))) w1∧cm E.P μ (fun k=>if k=id then q else φ k) (ao (bg (bD id (MA src m)) id) id (.nest s e (es++new))) (eP id (kfS src f)) ρ:=by
  intro q w1 hq IM mi hold rU ja;refine⟨qX.put (by simp) IM mi hold (fun g hg=>?_) (fun a b g Aa hg=>?_) ja (by simp[bK.names]) (fun st h=>by cases h),Af.mono (fun _ _ h=>h) fun j hj=>⟨by simp[QQ j hj],by rw[aq (QQ j hj)];exact hj⟩⟩
  ·rcases hg with hg|⟨a,b,Aa,hg⟩
   ·obtain⟨o1,o2,o3,_⟩:=rU g hg;exact⟨o1,o2,o3⟩
   ·rw[hq]at hg;obtain⟨o1,o2,_,o3⟩:=ED a b g Aa hg;exact⟨o1,o2,o3⟩
  ·rw[hq]at hg;refine⟨fun h=>(rU g h).2.2.2 a b Aa hg,fun a' b' ad7 bX=>?_⟩;rw[hq]at bX;exact Oh a b a' b' g Aa hg ad7 bX
 rcases QA with⟨rfl,rfl,h1,h2⟩|⟨g',Ac,c',rfl,b1,b2,b3,b4,b5,b6⟩
 ·have h1:es=[]:=List.eq_nil_of_length_eq_zero h1;have h2:new=[]:=List.eq_nil_of_length_eq_zero h2;obtain⟨k1,k2⟩:=fin {g:=none,cap:=0,len:=0,sz:=s,row:=kW} w' rfl (jx.refl _ _) hM.ro (fun _ _ _ _ _=>rfl) (fun g hg=>by cases hg) ⟨by simp[h1,h2],by simp,hs,jd,by simp[h1,h2],by simp[maxLen],by simp[h1,h2]⟩;exact⟨w',_,_,hr,k1,k2,.pA (by simp)⟩
 ·have hq:∀(w1:World),w1.heap[g']?=some (.cells c' e (0,0))→jq E.P μ kW w1 s (es++new) (os++xs)→aV E.P μ (fun k=>if k=id then({g:=some g',cap:=Ac,len:=(es++new).length,sz:=s,row:=kW}:aG)else φ k) w1 id s e (es++new):=fun w1 hh hC1=>jq.nest (g:=g') (c:=c') (by simp) hs jd (by simpa using b4) hh (by simpa using b2) (by simpa[Gp]using b3) (by rw[Gp,b5];simpa using hC1);have VC:ai E.P μ (fun k=>if k=id then({g:=some g',cap:=Ac,len:=(es++new).length,sz:=s,row:=kW}:aG)else φ k) (.os id) (.slice (some ⟨g',0,none⟩) (es.length+new.length) Ac):=by have:=ai.os (P:=E.P) (μ:=μ) (φ:=fun k=>if k=id then({g:=some g',cap:=Ac,len:=(es++new).length,sz:=s,row:=kW}:aG)else φ k) (id:=id) (g:=g') (by simp);simp only[if_true]at this;rw[←Gp];exact this
  rcases b6 with⟨TX,YT,b6,b7⟩|⟨rfl,rfl⟩
  ·have bX:(φ id).g=some g':=by
    have key:∀z,ai E.P μ φ (.os id) z→z=.slice (some ⟨g',0,none⟩) es.length TX→(φ id).g=some g':=by
     intro z hz he;cases hz with
     |pA _=>cases he
     |os hg=>simp only[Value.slice.injEq,Option.some.injEq,Addr.mk.injEq]at he;rw[←he.1.1];exact hg
    exact key _ ha YT
   obtain⟨o1,o2⟩:=hM.own id _ g' hm (.inl bX);have Gk:∀a b,(bK.nest s e (es++new)).rowAt a b=true→(kW a b).g≠some g':=by
    intro a b Aa hg;rcases iL a b g' Aa hg with⟨u1,u2,u3⟩|⟨u1,i2,u0,une,um,u2,u3⟩
    ·exact(hM.apart id _ hm a b g' u2 u3).1 bX
    ·exact une (hM.inj i2 id _ _ g' um hm (.inr ⟨_,_,u2,u3⟩) (.inl bX))
   have Ah:∀j b',bg (bD id (MA src m)) id j=some b'→¬b'.eg (φ j) g':=fun j b' hj ho=>by obtain⟨k1,_,b2,k3,k4⟩:=bO j b' hj;exact k1 (hM.inj j id _ _ g' k3 hm (Ja k4 ho) (.inl bX))
   obtain⟨k1,k2⟩:=fin {g:=some g',cap:=Ac,len:=(es++new).length,sz:=s,row:=kW} w' rfl (b6.mono o1) (fun k o hk=>by rw[b7 k (fun e=>by subst e;rw[o2 rfl]at hk;cases hk)];exact hM.ro k o hk) (fun j b' g hj ho=>b7 g fun e=>by subst e;exact Ah j b' hj ho) (fun g hg=>by
     simp only[Option.some.injEq]at hg;subst hg;exact⟨o1,o2 rfl,Ah,Gk⟩)
    (hq w' b1 (ZM.cH fun a e1 b p1 g he hp Aa hg=>b7 g fun e=>by subst e;exact Gk a b (by rw[dA he hp];exact Aa) hg))
   exact⟨w',_,_,hr,k1,k2,VC⟩
  ·have hold:∀k,k<w.heap.size→(w.drew.alloc (.cells c' e)).heap[k]?=w.heap[k]?:=fun k hk=>jx.heap_alloc w.drew _ k hk;obtain⟨k1,k2⟩:=fin {g:=some w.heap.size,cap:=Ac,len:=(es++new).length,sz:=s,row:=kW} (w.drew.alloc (.cells c' e)) rfl ((jx.refl _ w).drew.alloc hM.below.size _) (fun k o hk=>by
     have:=hM.ro k o hk;rw[hold k (Array.getElem?_eq_some_iff.1 this).1];exact this)
    (fun j b' g hj ho=>hold g ((qX.dJ j b' hj).Bg ho)) (fun g hg=>by
     simp only[Option.some.injEq]at hg;subst hg;refine⟨hM.below.size,?_,fun j b' hj ho=>?_,fun a b Aa hg=>?_⟩
     ·cases hq:μ w.heap.size with
      |none=>rfl
      |some o'=>have:=hM.ro _ _ hq;simp at this
     ·have:=(qX.dJ j b' hj).Bg ho;omega
     ·have:=(ED a b _ Aa hg).2.2.1;omega)
    (hq _ b1 (ZM.cH fun a e1 b p1 g he hp Aa hg=>hold g (ED a b g (by rw[dA he hp];exact Aa) hg).2.2.1))
   exact⟨_,_,_,hr,k1,k2,VC⟩
theorem BE{m:Mem}:∀{cs:List V}{j0:Nat}{ps:List PV},jw m j0 cs=some (ps,none)→∀m2:Mem,jw m2 j0 cs=some (ps,none)
 |[],j0,ps,h,m2=>h
 |v::r,j0,ps,h,m2=>by
  unfold jw at h;split at h
  ·rename_i heq;cases heq
  ·rename_i j id r' heq;split at h
   ·split at h
    ·simp at h
    ·cases h
   ·cases h
  ·rename_i j v' r' cT heq;simp only[List.cons.injEq]at heq;obtain⟨rfl,rfl⟩:=heq;unfold jw;split
   ·rename_i heq;cases heq
   ·rename_i j id r' heq;simp only[List.cons.injEq]at heq;exact absurd heq.1 (cT id)
   ·rename_i j v' r' cT heq;simp only[List.cons.injEq]at heq;obtain⟨rfl,rfl⟩:=heq;split at h
    ·rename_i p hp;split at h
     ·rename_i Zw t ht;simp only[Option.some.injEq,Prod.mk.injEq]at h;obtain⟨rfl,rfl⟩:=h;rw[BE ht m2]
     ·cases h
    ·cases h
theorem tz{m m2:Mem}{j id2:Nat}(hm:m2 id2=m id2):∀{cs:List V}{j0:Nat}{ps:List PV},jw m j0 cs=some (ps,some (j,id2))→jw m2 j0 cs=some (ps,some (j,id2))
 |[],j0,ps,h=>by simp[jw]at h
 |v::r,j0,ps,h=>by
  unfold jw at h;split at h
  ·rename_i heq;cases heq
  ·rename_i j id r' heq;simp only[List.cons.injEq]at heq;obtain⟨rfl,rfl⟩:=heq;split at h
   ·rename_i s et es MB;split at h
    ·rename_i Zw ht;simp only[Option.some.injEq,Prod.mk.injEq]at h;obtain⟨rfl,rfl,rfl⟩:=h;simp only[jw,hm,MB,BE ht m2]
    ·cases h
   ·cases h
  ·rename_i j v' r' cT heq;simp only[List.cons.injEq]at heq;obtain⟨rfl,rfl⟩:=heq;unfold jw;split
   ·rename_i heq;cases heq
   ·rename_i j id r' heq;simp only[List.cons.injEq]at heq;exact absurd heq.1 (cT id)
   ·rename_i j v' r' cT heq;simp only[List.cons.injEq]at heq;obtain⟨rfl,rfl⟩:=heq;split at h
    ·rename_i p hp;split at h
     ·rename_i Zw t ht;simp only[Option.some.injEq,Prod.mk.injEq]at h;obtain⟨rfl,rfl⟩:=h;rw[tz hm ht]
     ·cases h
    ·cases h
theorem Jb{site:Nat}{o:Oper}{f f2:Fr}{m m2:Mem}{sp:Sp}(h:vN E site o f m=some sp)(hf:∀x∈o.op.operands,bC E f2 x=bC E f x)(hm:∀x∈(sp.info site).2,m2 x.2=m x.2):vN E site o f2 m2=some sp:=by
 obtain⟨dst,op,type,pos,after,guard⟩:=o;unfold vN at h⊢;cases op;case store t a x=>
  simp only at h⊢;rw[hf a (by simp[Op.operands]),hf x (by simp[Op.operands])];split at h
  ·rename_i id i off ha;split at h
   ·rename_i s et es MB;split at h
    ·rename_i cs hc;split at h
     ·rename_i ps j id2 ht;split at h
      ·rename_i iQ;simp only[Option.some.injEq]at h;subst h;have h1:m2 id=m id:=hm (true,id) (by simp[Sp.info]);have h2:m2 id2=m id2:=hm (true,id2) (by simp[Sp.info]);simp only[ha,h1,MB,hc,tz h2 ht,iQ,if_true]
      ·cases h
     ·cases h
    ·cases h
   ·cases h
  ·cases h
 case buildSlice t len parts=>
  simp only at h⊢;have Oe:(parts.toList.map fun(x:Nat×Operand)=>(x.1,bC E f2 x.2))=parts.toList.map fun(x:Nat×Operand)=>(x.1,bC E f x.2):=List.map_congr_left fun x hx=>by rw[hf x.2 (by simp only[Op.operands,List.mem_toArray,List.mem_map];exact⟨x,hx,rfl⟩)]
  rw[Oe];split at h
  ·rename_i e v hu hp;split at h
   ·rename_i cs hc;split at h
    ·rename_i ps j id2 ht hs;split at h
     ·rename_i p CR;split at h
      ·rename_i iQ;simp only[Option.some.injEq]at h;subst h;have h1:m2 site=m site:=hm (true,site) (by simp[Sp.info]);have h2:m2 id2=m id2:=hm (true,id2) (by simp[Sp.info]);simp only[hu,hp,hc,tz h2 ht,h1,hs,CR,iQ,if_true]
      ·cases h
     ·cases h
    ·cases h
   ·cases h
  ·cases h
 case call c=>
  obtain⟨callee,args,argTypes⟩:=c;simp only at h⊢;have jB:args.toList.map (bC E f2)=args.toList.map (bC E f):=List.map_congr_left fun x hx=>hf x (by simp only[Op.operands,Call.operands];cases callee<;>simp[Array.mem_toList_iff.1 hx]);rw[jB];split at h
  ·rename_i id x t t' ha W4;split at h
   ·rename_i e s et es hu MB;split at h
    ·rename_i iQ;have plain:∀{new:List PV}{rd:bp},eH m s x=some (new,rd)→x.has id=false→sp=.app id s et es new none rd→eH m2 s x=some (new,rd):=by intro new rd yo W5 jd;subst jd;obtain⟨e1,_,_⟩:=l5 yo;exact e1 m2 fun y hy=>hm y (by simp[Sp.info,hy])
     split at h
     ·rename_i nA;split at h
      ·rename_i s' AW new Tp;split at h
       ·rename_i CO;simp only[Option.some.injEq]at h;subst h;have h1:m2 id=m id:=hm (true,id) (by simp[Sp.info]);have h2:m2 nA=m nA:=hm (true,nA) (by simp[Sp.info]);simp only[ha,W4,hu,h1,MB,iQ,if_true,h2,Tp,CO]
       ·cases h
      ·rename_i hnn;split at h
       ·rename_i new rd yo;split at h
        ·cases h
        ·rename_i W5;simp only[Option.some.injEq]at h;have QR:=plain yo (by simpa using W5) h.symm;subst h;have h1:m2 id=m id:=hm (true,id) (by simp[Sp.info]);simp only[ha,W4,hu,h1,MB,iQ,if_true,QR];split
         ·rename_i s' AW agr cO;exfalso;simp only[eH,cO]at QR;cases QR
         ·rw[if_neg W5]
       ·cases h
     ·rename_i ags;split at h
      ·rename_i new rd yo;split at h
       ·cases h
       ·rename_i W5;simp only[Option.some.injEq]at h;have QR:=plain yo (by simpa using W5) h.symm;subst h;have h1:m2 id=m id:=hm (true,id) (by simp[Sp.info]);simp only[ha,W4,hu,h1,MB,iQ,if_true,QR];try rw[if_neg W5]
      ·cases h
    ·cases h
   ·cases h
  ·cases h
 case mapUpdate t x key v=>
  simp only at h⊢;rw[hf x (by simp[Op.operands]),hf key (by simp[Op.operands]),hf v (by simp[Op.operands])];split at h
  ·rename_i kt et id id2 hu hx hv;split at h
   ·rename_i sU e es s e' rs kp h1 h2 hk;split at h
    ·rename_i iQ;simp only[Option.some.injEq]at h;subst h;have h3:m2 id=m id:=hm (true,id) (by simp[Sp.info]);have h4:m2 id2=m id2:=hm (true,id2) (by simp[Sp.info]);simp only[hu,hx,hv,h3,h4,h1,h2,hk,iQ,if_true]
    ·cases h
   ·cases h
  ·cases h
 all_goals (cases h)
end
end Go.Ab
