import Derived.Test.YtcmhmlnkhmefbaaGreatAbP4
import Derived.RangeFuncRecord
import Derived.Laws.IdiomRangeMap
set_option linter.unusedVariables false
namespace Go.Ab
section
variable {P:Program} {G:Nat→Option (List PV)} {w0:bt} {μ:Ro} {φ:Nat→aG} {m:Mem} {w:World}
theorem ay.ZK(hM:ay P G w0 μ φ m w){g:Nat}(hB:w0.heap.size≤g)(ZL:∀id b,m id=some b→¬b.ee (φ id) g):ay P G w0 (nu μ w (some g)) φ m w:=by
 have mono:=jY hM (some g);refine⟨hM.below,fun b o hb=>?_,fun g' cs hg=>(hM.aI g' cs hg).mono mono,fun j c hj=>(hM.dH j c hj).cH (fun _ _=>rfl) rfl mono (fun _ _=>rfl),fun j c g' hj bW=>?_,hM.inj,hM.apart,hM.fk,fun b o hb bq=>?_,fun b o hb=>mono b o (hM.dC b o hb),hM.y6⟩
 ·unfold nu at hb;split at hb
  ·exact hb
  ·exact hM.ro b o hb
 ·obtain⟨h1,h2⟩:=hM.own j c g' hj bW;refine⟨h1,fun A7=>?_⟩;unfold nu;split
  ·rename_i he;simp only[Option.some.injEq]at he;subst he;exact absurd bW (ZL j c hj)
  ·exact h2 A7
 ·unfold nu at hb;split at hb
  ·rename_i he;simp only[Option.some.injEq]at he;omega
  ·exact hM.base b o hb bq
theorem IP(w:World)(g:Nat)(o:Obj):jy g w (w.putObj g o):=⟨⟨rfl,rfl,rfl,by simp,fun k hk=>World.putObj_heap_other (by omega)⟩,fun _=>Nat.le_refl _⟩
theorem wS{A:Type}(f:A→Nat):∀{l:List A}{i:Nat}{e:A},l[i]?=some e→(∀(j:Nat)x,l[j]?=some x→f x=f e→j=i)→l.filter (fun x=> !(f x==f e))=l.eraseIdx i
 |[],i,e,h,_=>by simp at h
 |y::l,0,e,h,inj=>by simp only[List.getElem?_cons_zero,Option.some.injEq]at h;subst h;simp only[List.filter_cons,BEq.rfl,Bool.not_true,Bool.false_eq_true,if_false,List.eraseIdx_cons_zero];rw[List.filter_eq_self];intro x hx;obtain⟨j,hj⟩:=List.mem_iff_getElem?.1 hx;simp only[Bool.not_eq_true',beq_eq_false_iff_ne];intro e;have:=inj (j+1) x (by simpa using hj) e;omega
 |y::l,i+1,e,h,inj=>by
  have h':l[i]?=some e:=by simpa using h
  have cT:¬f y=f e:=fun e'=>by have:=inj 0 y rfl e';omega
  have hb:(f y==f e)=false:=by simpa using cT
  simp only[List.filter_cons,hb,Bool.not_false,if_true,List.eraseIdx_cons_succ];rw[wS f h' (fun j x hj e'=>by have:=inj (j+1) x (by simpa using hj) e';omega)]
theorem Dn(en:Array MapEntry):jz en #[]=en.toList:=by unfold jz;rw[List.filter_eq_self];intro x _;simp
variable{en:Array MapEntry}{clock:Nat}{seen:Array Nat}{e:MapEntry}
theorem Bl(hb:jX en clock){i:Nat}(hi:(jz en seen)[i]?=some e):jz en (seen.push e.born)=(jz en seen).eraseIdx i:=by
 have h1:jz en (seen.push e.born)=(jz en seen).filter (fun x=> !(x.born==e.born)):=by unfold jz;rw[List.filter_filter];congr 1;funext x;simp only[Array.contains_push,Bool.not_or];rw[Bool.and_comm]
 rw[h1];refine wS (fun x=>x.born) hi fun j x hj e'=>?_;have Tf:(jz en seen).Pairwise fun a b=>a.born≠b.born:=by
  unfold jz;refine List.Pairwise.filter _ ?_;rw[List.pairwise_iff_getElem];intro a b ha fP qN he;have h2:en[a]?=some en.toList[a]:=by rw[←Array.getElem?_toList];exact List.getElem?_eq_getElem ha
  have h3:en[b]?=some en.toList[b]:=by rw[←Array.getElem?_toList];exact List.getElem?_eq_getElem fP
  have:=(hb b _ h3).2 a _ h2 he;omega
 have xK:j<(jz en seen).length:=(List.getElem?_eq_some_iff.1 hj).1;have PG:i<(jz en seen).length:=(List.getElem?_eq_some_iff.1 hi).1;rw[List.getElem?_eq_getElem xK]at hj;rw[List.getElem?_eq_getElem PG]at hi;simp only[Option.some.injEq]at hj hi;rw[List.pairwise_iff_getElem]at Tf;rcases Nat.lt_trichotomy j i with h|h|h
 ·exact absurd (by rw[hj,hi];exact e') (Tf j i xK PG h)
 ·exact h
 ·exact absurd (by rw[hj,hi];exact e'.symm) (Tf i j PG xK h)
theorem NX(h:e∈jz en seen):∃i:Nat,en[i]?=some e:=by unfold jz at h;have:=(List.mem_filter.1 h).1;obtain⟨i,hi⟩:=List.mem_iff_getElem?.1 this;exact⟨i,by rw[←Array.getElem?_toList];exact hi⟩
theorem NY{w:World}{g mg:Nat}(hg:w.heap[g]?=some (.mapIter (some mg) clock seen clock))(hm:w.heap[mg]?=some (.map en clock))(hb:jX en clock)(ty:TypeId):(jz en seen=[]∧(Instr.next (.pointer (some ⟨g,0,none⟩)) false ty).run P w=.ok (.tuple #[.bool false]) w)∨∃(j:Nat)(e:MapEntry)(w1:World),(jz en seen)[j]?=some e∧(w1=w∨w1=w.drew)∧(Instr.next (.pointer (some ⟨g,0,none⟩)) false ty).run P w=.ok (.tuple #[.bool true,e.key,e.val]) (w1.putObj g (.mapIter (some mg) clock (seen.push e.born) clock)):=by
 have hold:∀x∈en.toList,x.born<clock:=fun x hx=>by obtain⟨i,hi⟩:=List.mem_iff_getElem?.1 hx;exact(hb i x (by rw[←Array.getElem?_toList];exact hi)).1
 simp only[Instr.next,getObj,Sem.run_bind,Sem.run,hg,hm,Result.andThen,next_test_false seen en clock clock hold (Nat.le_refl _),Bool.false_eq_true,if_false];have hL:(Array.filter (fun e=> !seen.contains e.born) en).toList=jz en seen:=by simp[jz]
 have bO:∀x∈(Array.filter (fun e=> !seen.contains e.born) en).toList,x.born<clock:=fun x hx=>hold x (by simp at hx⊢;exact hx.1);generalize Array.filter (fun e=> !seen.contains e.born) en=L at bO hL⊢;have e1:L.filter (fun x=>decide (x.born<clock))=L:=Array.filter_eq_self.2 (fun x hx=>by simpa using bO x (by simpa using hx));have e2:L.filter (fun x=>decide (x.born≥clock))= #[]:=by rw[Array.filter_eq_empty_iff];intro x hx;have:=bO x (by simpa using hx);simp;omega
 simp only[e1,e2,Array.append_empty];rw[←hL];by_cases h0:L.size=0
 ·left;have:L= #[]:=Array.eq_empty_of_size_eq_zero h0;subst this;refine⟨rfl,?_⟩;simp[choose,Sem.run,Question.forced]
 ·right;have cT:L.isEmpty=false:=by simp[Array.isEmpty,h0]
  simp only[cT,Bool.false_eq_true,if_false,Array.empty_append,Array.size_map];have hch:∃(j:Nat)(w1:World),j<L.size∧(w1=w∨w1=w.drew)∧(choose (Question.mapNext L.size)).run P w=.ok j w1:=by
   by_cases hf:L.size≤1
   ·exact⟨0,w,by omega,.inl rfl,by simp[choose,Sem.run,Question.forced,hf]⟩
   ·exact⟨_,w.drew,Nat.mod_lt _ (by omega),.inr rfl,by simp only[choose,Sem.run,Question.forced,decide_eq_true_eq,hf,if_false,Question.cut];rfl⟩
  obtain⟨j,w1,hj,NP,l0⟩:=hch;refine⟨j,L[j],w1,by rw[Array.getElem?_toList,Array.getElem?_eq_getElem hj],NP,?_⟩;have hg1:w1.heap[g]?=some (.mapIter (some mg) clock seen clock):=by rcases NP with rfl|rfl<;>exact hg
  have qY:(setObj g (.mapIter (some mg) clock (seen.push L[j].born) clock)).run P w1=.ok () (w1.putObj g (.mapIter (some mg) clock (seen.push L[j].born) clock)):=by simp only[setObj,Sem.run,hg1];rfl
  simp only[l0,Array.getElem?_map,Array.getElem?_eq_getElem hj,Option.map_some,Sem.run_bind,qY,Result.andThen];rfl
theorem IQ{w:World}{g mg:Nat}{i:Nat}(hg:w.heap[g]?=some (.mapIter (some mg) clock seen clock))(hm:w.heap[mg]?=some (.map en clock))(hb:jX en clock)(hi:en[i]?=some e)(hs:seen.back? =some e.born):(Instr.entry (.pointer (some ⟨g,0,none⟩))).run P w=.ok (.tuple #[e.key,e.val]) w:=by
 have hf:en.find? (·.born==e.born)=some e:=by
  rw[←Array.find?_toList];refine find_born e en.toList ?_ (by rw[Array.mem_toList_iff];exact Array.mem_of_getElem? hi);rw[List.Nodup,List.pairwise_map,List.pairwise_iff_getElem];intro a b ha fP qN he;have h2:en[a]?=some en.toList[a]:=by rw[←Array.getElem?_toList];exact List.getElem?_eq_getElem ha
  have h3:en[b]?=some en.toList[b]:=by rw[←Array.getElem?_toList];exact List.getElem?_eq_getElem fP
  have:=(hb b _ h3).2 a _ h2 he;omega
 simp only[Instr.entry,getObj,Sem.run_bind,Sem.run,hg,hm,Result.andThen,hs,bne_self_eq_false,Bool.false_eq_true,if_false,hf];rfl
end
section
variable {R:Type} {E:Env}
variable{g:Nat→Option R}{r:R}
theorem IU{n:Nat}(h:pL n g=some r)(i:Nat)(hi:i<n):g i=some r:=by
 unfold pL at h;split at h
 ·rename_i hh;simp only[Option.some.injEq]at h;subst h;exact Classical.choose_spec hh i hi
 ·cases h
theorem Bm{n:Nat}(h0:0<n)(h:∀i,i<n→g i=some r):pL n g=some r:=by unfold pL;have hh:∃r,∀i,i<n→g i=some r:=⟨r,h⟩;rw[dif_pos hh];have:=Classical.choose_spec hh 0 h0;rw[h 0 h0]at this;exact this.symm
variable{k:V→Fr→Mem→Option R}
theorem NZ{site:Nat}{t:TypeId}{x:V}{f:Fr}{m:Mem}(h:Iv E site t x f m k=some r):∃f' m',k (.it site) f' m'=some r∧(m' site).isSome=true∧∀(G:Nat→Option (List PV))(w0:bt)(μ:Ro)(φ:Nat→aG)(w:World)(ρ:Nat→Value)(y:Value),ay E.P G w0 μ φ m w→cm E.P μ φ m f ρ→ag E.P μ φ x y→∃w' y' μ' φ',(Instr.range t y).run E.P w=.ok y' w'∧ay E.P G w0 μ' φ' m' w'∧cm E.P μ' φ' m' f' ρ∧ag E.P μ' φ' (.it site) y':=by
 unfold Iv at h;split at h
 ·rename_i kt et hu;split at h
  ·rename_i id;split at h
   ·rename_i sQ es hm;split at h
    ·obtain⟨f',m',hn,jB,uK,vO,td⟩:=cJ h;refine⟨f',m',jB,by simp[uK],fun G w0 μ φ w ρ y hM hF hx=>?_⟩;obtain⟨g,en,clock,kk,hg,hh,hs,yf,A6,sE,hv⟩:=hM.dH id _ hm;obtain⟨o1,o2⟩:=hM.own id _ g hm (.inl hg);cases hx with
     |om bW=>
      rw[hg]at bW;simp only[Option.some.injEq]at bW;subst bW;have qX:=hM.forget id;have YG:=qX.ZK o1 (fun j b hj e=>by obtain⟨cT,b',fP,rfl⟩:=eL hj;exact cT (hM.inj j id b' _ g fP hm (fD.1 e) (.inl hg)));have Dp:=jY qX (some g);have zW:cm E.P (nu μ w (some g)) φ (bg (bB id m) id) (eP id f) ρ:=(hF.forget id).mono Dp fun j hj=>⟨rfl,hj⟩;have jb:∀φ':Nat→aG,φ' site=(Cz (some w.heap.size) 0 0 0)→(∀j,(bK.iter t es none).names j=true→φ' j=φ j)→fQ E.P (nu μ w (some g)) φ' (w.alloc (.mapIter (some g) clock #[] clock)) site (.iter t es none):=fun φ' hp _=>by
       refine⟨w.heap.size,g,en,clock,#[],by rw[hp],fE w _,by simp[nu,hh],sE,(by rw[Dn,Array.length_toList,hs]),fun i k v e h1 h2=>?_,fun k v h=>by cases h⟩;have NU:en[i]?=some e:=by rw[←Array.getElem?_toList,←Dn en];exact h2
       exact⟨(hv i k v e h1 NU).1.mono Dp,(hv i k v e h1 NU).2.mono Dp⟩
      obtain⟨φ',a1,a2,a3⟩:=td E.P G w0 _ φ w (w.alloc (.mapIter (some g) clock #[] clock)) ρ (Cz (some w.heap.size) 0 0 0) YG zW (jA.alloc (o:=.mapIter (some g) clock #[] clock) YG rfl jb (by simp[bK.names]));exact⟨_,_,_,φ',run_range_map w t kt et g en clock hu hh,a2,a3,.it (by rw[a1])⟩
    ·cases h
   ·cases h
  ·cases h
 ·cases h
theorem wT{A:Type}{l:List A}{i j:Nat}{x:A}(h:(l.eraseIdx i)[j]?=some x):l[if j<i then j else j+1]?=some x:=by
 rw[List.getElem?_eraseIdx]at h;split at h
 ·rename_i bq;rw[if_pos bq];exact h
 ·rename_i bq;rw[if_neg bq];exact h
theorem Qv{x:V}{f:Fr}{m:Mem}(h:P2 E x f m k=some r)(G:Nat→Option (List PV))(w0:bt)(μ:Ro)(φ:Nat→aG)(w:World)(y:Value)(ty:TypeId)(hM:ay E.P G w0 μ φ m w)(hx:ag E.P μ φ x y):∃v m' y' w',k v f m'=some r∧(∀id,v.has id=false)∧iP m m'∧(Instr.next y false ty).run E.P w=.ok y' w'∧ay E.P G w0 μ φ m' w'∧ag E.P μ φ v y':=by
 unfold P2 at h;split at h
 ·rename_i id;split at h
  ·rename_i t es cur hm;split at h
   ·rename_i kt et hu;obtain⟨g,mg,en,clock,seen,hg,hh,A7,sE,xZ,hv,_⟩:=hM.dH id _ hm;obtain⟨o1,o2⟩:=hM.own id _ g hm (.inl hg);cases hx with
    |it bW=>
     rw[hg]at bW;simp only[Option.some.injEq]at bW;subst bW;have hmg:=hM.ro _ _ A7;rcases NY (P:=E.P) hh hmg sE ty with⟨TS,l0⟩|⟨j,e,w1,hj,Mm,l0⟩
     ·have:es=[]:=by rw[TS]at xZ;exact List.eq_nil_of_length_eq_zero xZ.symm
      subst this;simp only[List.isEmpty_nil,if_true]at h;refine⟨_,m,_,w,h,by simp[V.has,cr],iP.refl m,l0,hM,.bl rfl fun i p x hp hx=>?_⟩;cases i with
      |zero=>simp at hp hx;subst hp;subst hx;exact .pv .bool
      |succ i=>simp at hp
     ·have xK:j<(jz en seen).length:=(List.getElem?_eq_some_iff.1 hj).1;have cT:¬es.isEmpty=true:=by
       have eo:0<es.length:=by omega
       intro e';rw[List.isEmpty_iff]at e';rw[e']at eo;exact absurd eo (Nat.lt_irrefl 0)
      rw[if_neg cT]at h;have h:=IU h j (by omega);obtain⟨e0,FM,h⟩:=Option.bind_eq_some_iff.1 h;obtain⟨qa,_,ha,ra,_⟩:=jO h;obtain⟨qb,_,hb,rb,_⟩:=jO ha;obtain⟨rk,rv⟩:=hv j e0.1 e0.2 e FM hj;refine⟨_,_,_,_,hb,by simp[V.has,cr],.set,l0,?_,.bl rfl fun i p x hp hx=>?_⟩
      ·have qX:ay E.P G w0 μ φ m w1:=by rcases Mm with rfl|rfl;exact hM;exact hM.drew
       have bq:g<w1.heap.size:=by have:g<w.heap.size:=(Array.getElem?_eq_some_iff.1 hh).1;rcases Mm with rfl|rfl<;>exact this
       refine qX.write hm rfl hg (IP w1 g _) World.putObj_size (fun k hk=>World.putObj_heap_other hk) ?_ rfl (by simp[bK.names]);refine⟨g,mg,en,clock,seen.push e.born,hg,World.putObj_heap_same bq,A7,sE,?_,fun i k v e' h1 h2=>?_,fun k v hc=>?_⟩
       ·rw[Bl sE hj,List.length_eraseIdx,List.length_eraseIdx,xZ]
       ·rw[Bl sE hj]at h2;exact hv _ k v e' (wT h1) (wT h2)
       ·simp only[Option.some.injEq,Prod.mk.injEq]at hc;obtain⟨rfl,rfl⟩:=hc;obtain⟨i,hi⟩:=NX (List.mem_of_getElem? hj);exact⟨i,e,hi,by simp,ra _ _ _ rk,rb _ _ _ rv⟩
      ·match i with
       |0=>simp at hp hx;subst hp;subst hx;exact .pv .bool
       |1=>simp at hp hx;subst hp;subst hx;exact .pv (ra _ _ _ rk)
       |2=>simp at hp hx;subst hp;subst hx;exact .pv (rb _ _ _ rv)
       |i+3=>simp at hp
   ·cases h
  ·cases h
 ·cases h
theorem N0{x:V}{m:Mem}{k:V→Mem→Option R}(h:Iw x m k=some r)(P:Program)(G:Nat→Option (List PV))(w0:bt)(μ:Ro)(φ:Nat→aG)(w:World)(y:Value)(hM:ay P G w0 μ φ m w)(hx:ag P μ φ x y):∃v m' y',k v m'=some r∧(∀id,v.has id=false)∧iP m m'∧(Instr.entry y).run P w=.ok y' w∧ay P G w0 μ φ m' w∧ag P μ φ v y':=by
 unfold Iw at h;split at h
 ·rename_i id;split at h
  ·rename_i t es a b hm;obtain⟨g,mg,en,clock,seen,hg,hh,A7,sE,xZ,hv,Zp⟩:=hM.dH id _ hm;obtain⟨i,e,hi,hs,ra,rb⟩:=Zp a b rfl;cases hx with
   |it bW=>
    rw[hg]at bW;simp only[Option.some.injEq]at bW;subst bW;refine⟨_,_,_,h,by simp[V.has,cr],.set,IQ hh (hM.ro _ _ A7) sE hi hs,?_,.bl rfl fun i p x hp hx=>?_⟩
    ·exact hM.write hm rfl hg (jy.refl _ _) rfl (fun _ _=>rfl) ⟨g,mg,en,clock,seen,hg,hh,A7,sE,xZ,hv,fun k v h=>by cases h⟩ rfl (by simp[bK.names])
    match i with
    |0=>simp at hp hx;subst hp;subst hx;exact .pv ra
    |1=>simp at hp hx;subst hp;subst hx;exact .pv rb
    |i+2=>simp at hp
  ·cases h
 ·cases h
end
end Go.Ab
set_option linter.unusedVariables false
namespace Go.Ab
section
variable {P:Program} {G:Nat→Option (List PV)} {w0:bt} {μ μ':Ro} {φ φ':Nat→aG} {m m':Mem} {w w':World}
variable{id j:Nat}{b:bK}
theorem gw(h:eS id m j=some b):∃b',m j=some b'∧b=dN id b':=by
 unfold eS at h;cases hm:m j with
 |none=>rw[hm]at h;cases h
 |some b'=>rw[hm]at h;simp only[Option.some.injEq]at h;exact⟨b',rfl,h.symm⟩
theorem mo:(eS id m j).isSome=(m j).isSome:=by unfold eS;cases m j<;>rfl
theorem zi(id:Nat)(b:bK):(dN id b).rowAt=b.rowAt:=by cases b<;>rfl
theorem oD{p:aG}{g:Nat}:(dN id b).ee p g↔b.ee p g:=by unfold bK.ee;rw[zi]
theorem tq{p:aG}:(dN id b).apart p↔b.apart p:=by unfold bK.apart;rw[zi]
theorem vQ(id:Nat)(b:bK):(dN id b).ir=b.ir:=by cases b<;>rfl
theorem IV{cs:List V}(h:cr j (cs.map (lY id))=true):cr j cs=true:=by obtain⟨v,hv,hh⟩:=cU.1 h;obtain⟨u,hu,rfl⟩:=List.mem_map.1 hv;exact bM hu (uE hh).1
theorem fQ.vn{id j:Nat}{b:bK}(h:fQ P μ φ w j b):fQ P μ φ w j (dN id b):=by
 cases b with
 |box cs=>obtain⟨g,c,T,hg,hh,hs,hv,h1,xZ⟩:=h;refine⟨g,c,T,hg,hh,by simpa using hs,fun i v x hi hx=>?_,h1,by simpa using xZ⟩;simp only[List.getElem?_map,Option.map_eq_some_iff]at hi;obtain⟨u,hu,rfl⟩:=hi;exact(hv i u x hu hx).vn id
 |_=>exact h
theorem ay.rZ(hM:ay P G w0 μ φ m w)(id:Nat):ay P G w0 μ φ (eS id m) w:=by
 refine⟨hM.below,hM.ro,hM.aI,fun j b h=>?_,fun j b g h hg=>?_,fun i j b1 b2 g h1 h2 g1 g2=>?_,fun j b h=>?_,fun j cs i h hh=>?_,hM.base,hM.dC,fun j st h=>?_⟩
 ·obtain⟨b',hb,rfl⟩:=gw h;exact(hM.dH j b' hb).vn
 ·obtain⟨b',hb,rfl⟩:=gw h;rw[vQ];exact hM.own j b' g hb (oD.1 hg)
 ·obtain⟨Zr,Td,rfl⟩:=gw h1;obtain⟨Zs,pz,rfl⟩:=gw h2;exact hM.inj i j Zr Zs g Td pz (oD.1 g1) (oD.1 g2)
 ·obtain⟨b',hb,rfl⟩:=gw h;exact tq.2 (hM.apart j b' hb)
 ·obtain⟨b',hb,e⟩:=gw h;cases b' with
  |box Dc=>simp only[dN,bK.box.injEq]at e;subst e;rw[mo];exact hM.fk j Dc i hb (IV hh)
  |_=>simp[dN]at e
 ·obtain⟨b',hb,e⟩:=gw h;cases b' with
  |loop st'=>simp only[dN,bK.loop.injEq]at e;subst e;exact hM.y6 j st hb
  |_=>simp[dN]at e
variable{ρ:Nat→Value}
theorem cm.rZ{f:Fr}(h:cm P μ φ m f ρ)(id:Nat):cm P μ φ (eS id m) (gh id f) ρ:=⟨fun t=>(h.fr t).vn id,fun t j hj=>by rw[mo];exact h.live t j (uE hj).1⟩
theorem ay.km:∀{kl:Kl}{m:Mem},ay P G w0 μ φ m w→ay P G w0 μ φ (Go.Ab.km kl m) w
 |[],_,h=>h
 |(true,id)::r,m,h=>(ay.km (kl:=r) (m:=bg (bB id m) id) (h.forget id):)
 |(false,id)::r,m,h=>(ay.km (kl:=r) (m:=eS id m) (h.rZ id):)
theorem cm.km{ρ:Nat→Value}:∀{kl:Kl}{m:Mem}{f:Fr},cm P μ φ m f ρ→cm P μ φ (Go.Ab.km kl m) (kf kl f) ρ
 |[],_,_,h=>h
 |(true,id)::r,m,f,h=>(cm.km (kl:=r) (m:=bg (bB id m) id) (f:=eP id f) (h.forget id):)
 |(false,id)::r,m,f,h=>(cm.km (kl:=r) (m:=eS id m) (f:=gh id f) (h.rZ id):)
theorem ay.Mn(hM:ay P G w0 μ φ m w)(nw:Nat→Nat→Nat)(hblk:∀j b',m' j=some b'→fQ P μ φ' w j b')(vN:∀j b' g,m' j=some b'→b'.ee (φ' j) g→∃k b,m k=some b∧b.ee (φ k) g∧(b'.ir=true→b.ir=true)∧j=nw g k)(Bb:∀j b',m' j=some b'→b'.apart (φ' j))(y5:∀j cs id,m' j=some (.box cs)→cr id cs=true→(m' id).isSome=true)(adV:∀j st,m' j=some (.loop st)→m j=some (.loop st)∧(φ' j).g=(φ j).g):ay P G w0 μ φ' m' w:=by
 refine⟨hM.below,hM.ro,hM.aI,hblk,fun j b' g h hg=>?_,fun i j b1 b2 g h1 h2 g1 g2=>?_,Bb,y5,hM.base,hM.dC,fun j st h=>?_⟩
 ·obtain⟨k,b,hk,ho,A7,_⟩:=vN j b' g h hg;obtain⟨o1,o2⟩:=hM.own k b g hk ho;exact⟨o1,fun h=>o2 (A7 h)⟩
 ·obtain⟨k1,c1,N1,YJ,_,e1⟩:=vN i b1 g h1 g1;obtain⟨k2,c2,TT,ho2,_,e2⟩:=vN j b2 g h2 g2;rw[e1,e2,hM.inj k1 k2 c1 c2 g N1 TT YJ ho2]
 ·obtain⟨h1,h2⟩:=adV j st h;obtain⟨g,rc,r1,r2,r3⟩:=hM.y6 j st h1;exact⟨g,rc,by rw[h2];exact r1,r2,r3⟩
def jf(p:aG)(i off:Nat)(r:y7):aG:={p with row:=fun a b=>if a=i∧b=off then r else p.row a b}
theorem fK(p:aG)(i off:Nat)(r:y7):(jf p i off r).row i off=r:=by simp[jf]
theorem fR(p:aG){i off a b:Nat}(r:y7)(h:¬(a=i∧b=off)):(jf p i off r).row a b=p.row a b:=by simp[jf,h]
theorem fQ.Mo(h:fQ P μ φ w j (dN id b))(hj:j≠id)(h0:(φ' id).toy7=(φ id).toy7)(hφ:∀k,k≠id→φ' k=φ k):fQ P μ φ' w j (dN id b):=by
 have e:=hφ j hj;cases b with
 |box cs=>
  obtain⟨g,c,T,hg,hh,hs,hv,h1,xZ⟩:=h;refine⟨g,c,T,by rw[e];exact hg,hh,hs,fun i v x hi hx=>?_,h1,by rw[e];exact xZ⟩;refine(hv i v x hi hx).Vc (fun _ _ h=>h) fun k hk=>?_;by_cases TU:k=id
  ·subst TU;refine⟨h0,fun h2=>?_⟩;simp only[List.getElem?_map,Option.map_eq_some_iff]at hi;obtain⟨u,hu,rfl⟩:=hi;rw[(uE hk).2]at h2;cases h2
  ·rw[hφ k TU];exact⟨rfl,fun _=>rfl⟩
 |arr sz et es=>exact fQ.cH h (fun k hk=>by simp[bK.names,dN]at hk) e (fun _ _ h=>h) (fun _ _=>rfl)
 |nM sz et es=>exact fQ.cH h (fun k hk=>by simp[bK.names,dN]at hk) e (fun _ _ h=>h) (fun _ _=>rfl)
 |map kt es=>exact fQ.cH h (fun k hk=>by simp[bK.names,dN]at hk) e (fun _ _ h=>h) (fun _ _=>rfl)
 |nest sz et es=>exact fQ.cH h (fun k hk=>by simp[bK.names,dN]at hk) e (fun _ _ h=>h) (fun _ _=>rfl)
 |eV kt e0 es=>exact fQ.cH h (fun k hk=>by simp[bK.names,dN]at hk) e (fun _ _ h=>h) (fun _ _=>rfl)
 |loop st=>exact fQ.cH h (fun k hk=>by simp[bK.names,dN]at hk) e (fun _ _ h=>h) (fun _ _=>rfl)
 |iter t es cur=>exact fQ.cH h (fun k hk=>by simp[bK.names,dN]at hk) e (fun _ _ h=>h) (fun _ _=>rfl)
theorem cm.Vp{f:Fr}(h:cm P μ φ m (gh id f) ρ)(h0:(φ' id).toy7=(φ id).toy7)(hφ:∀k,k≠id→φ' k=φ k)(hl:∀j,(m j).isSome=true→(m' j).isSome=true):cm P μ φ' m' (gh id f) ρ:=by
 refine⟨fun t=>(h.fr t).Vc (fun _ _ h=>h) fun k hk=>?_,fun t j hj=>hl j (h.live t j hj)⟩;by_cases TU:k=id
 ·subst TU;refine⟨h0,fun h2=>?_⟩;have:=(uE (show(lY k (f t)).has k=true from hk)).2;rw[show gh k f t=lY k (f t)from rfl,this]at h2;cases h2
 ·rw[hφ k TU];exact⟨rfl,fun _=>rfl⟩
theorem e8{id2:Nat}{b':bK}(h:ao (eS id (bg (bB id2 m) id2)) id b j=some b'):(j=id∧b'=b)∨(j≠id∧j≠id2∧∃c,m j=some c∧b'=dN id (fH id2 c)):=by
 by_cases e:j=id
 ·subst e;rw[aN]at h;simp only[Option.some.injEq]at h;exact .inl ⟨rfl,h.symm⟩
 ·rw[aq e]at h;obtain⟨c1,h1,rfl⟩:=gw h;obtain⟨cT,c,hc,rfl⟩:=eL h1;exact .inr ⟨e,cT,c,hc,rfl⟩
theorem IW{x:Value}(h:ag P μ φ (.os id) x):ag P μ (fun _=>((φ id).toy7).up) (.os 0) x:=by
 cases h with
 |py h=>exact .py h
 |os h=>exact .os (id:=0) (φ:=fun _=>((φ id).toy7).up) h
theorem aM.up{sz:Nat}{et:TypeId}{es:List PV}(h:aM P μ φ w id sz et es):aM P μ (fun _=>((φ id).toy7).up) w 0 sz et es:=h
theorem ay.WO(hM:ay P G w0 μ φ m w){id2 i off s s2:Nat}{et Gn:TypeId}{es rs:List PV}{e q:PV}{x:Value}(cT:id2≠id)(hm:m id=some (.nest s et es))(cO:m id2=some (.arr s2 Gn rs))(he:es[i]?=some e)(vu:e.cells[off]?=some .bad)(hx:∀g c,(φ id).g=some g→w.heap[g]?=some (.cells c et (0,0))→c[i*s+off]?=some x)(hv:ag P μ φ (.os id2) x)(hq:q.cells=e.cells.set off (.fO s2 rs)):ay P G w0 μ (fun j=>if j=id then jf (φ id) i off (φ id2).toy7 else φ j) (ao (eS id (bg (bB id2 m) id2)) id (.nest s et (es.set i q))) w:=by
 have qX:=(hM.forget id2).rZ id;have hN:aV P μ φ w id s et es:=hM.dH id _ hm;have WN:aM P μ φ w id2 s2 Gn rs:=hM.dH id2 _ cO;have PG:i<es.length:=(List.getElem?_eq_some_iff.1 he).1;have YK:off<e.cells.length:=(List.getElem?_eq_some_iff.1 vu).1;have iL:∀a b,(bK.nest s et (es.set i q)).rowAt a b=true→(a=i∧b=off)∨((bK.nest s et es).rowAt a b=true∧¬(a=i∧b=off)):=by
  intro a b hr;by_cases qN:a=i∧b=off
  ·exact .inl qN
  ·refine .inr ⟨?_,qN⟩;rcases iO hr with⟨_,_,_,e',s',Zw,fP,h',pN⟩|⟨_,_,_,_,_,_,fP,_⟩
   ·simp only[bK.nest.injEq]at fP;obtain⟨rfl,rfl,rfl⟩:=fP;rcases eh h' with⟨rfl,rfl⟩|⟨Qn,h'⟩
    ·rw[hq]at pN;rcases eh pN with⟨rfl,_⟩|⟨hnj,pN⟩
     ·exact absurd ⟨rfl,rfl⟩ qN
     ·rw[dy he pN];rfl
    ·rw[dy h' pN];rfl
   ·cases fP
 refine hM.Mn (fun _ k=>if k=id2 then id else k) (fun j b' hj=>?_) (fun j b' g hj ho=>?_) (fun j b' hj=>?_) (fun j cs k hj hk=>?_) (fun j st hj=>?_)
 ·rcases e8 hj with⟨rfl,rfl⟩|⟨h1,h2,c,hc,rfl⟩
  ·show aV P μ (fun k=>if k=j then jf (φ j) i off (φ id2).toy7 else φ k) w j s et (es.set i q);refine aV.change (μ':=μ) (w':=w) (es':=es.set i q) hN (by simp) (fun i' e' h'=>?_) (by simp[jf]) (fun _ _=>rfl) (fun i' e' j' p' g c x' h' pN hg hc IG hold=>?_)
   ·rcases eh h' with⟨_,rfl⟩|⟨_,h'⟩
    ·rw[hq,List.length_set];exact hN.2.2.2.2.1 i e he
    ·exact hN.2.2.2.2.1 i' e' h'
   ·simp only[if_true];by_cases qN:i'=i∧j'=off
    ·obtain⟨rfl,rfl⟩:=qN;rw[fK];have e1:e'=q:=by
      rcases eh h' with⟨_,h⟩|⟨h,_⟩
      ·exact h
      ·exact absurd rfl h
     subst e1;rw[hq]at pN;have e2:p'=.fO s2 rs:=by
      rcases eh pN with⟨_,h⟩|⟨h,_⟩
      ·exact h
      ·exact absurd rfl h
     subst e2;have e3:x'=x:=by have:=hx g c hg hc;rw[IG]at this;simpa using this
     subst e3;exact⟨⟨Gn,WN.up⟩,IW hv⟩
    ·rw[fR _ _ qN];rcases eh h' with⟨rfl,rfl⟩|⟨Qn,h'⟩
     ·rw[hq]at pN;rcases eh pN with⟨rfl,_⟩|⟨hnj,pN⟩
      ·exact absurd ⟨rfl,rfl⟩ qN
      ·exact hold e p' he pN
     ·exact hold e' p' h' pN
  ·have hb:fQ P μ φ w j (dN id (fH id2 c)):=(hM.dH j c hc).kill.vn;exact hb.Mo h1 (by simp[jf]) fun k hk=>by simp[hk]
 ·rcases e8 hj with⟨rfl,rfl⟩|⟨h1,h2,c,hc,rfl⟩
  ·simp only[if_true]at ho;rcases ho with ho|⟨a,b,hr,ho⟩
   ·exact⟨j,_,hm,.inl ho,fun _=>rfl,by simp[cT.symm]⟩
   ·rcases iL a b hr with⟨rfl,rfl⟩|⟨qM,qN⟩
    ·rw[fK]at ho;exact⟨id2,_,cO,.inl ho,fun _=>rfl,by simp⟩
    ·rw[fR _ _ qN]at ho;exact⟨j,_,hm,.inr ⟨a,b,qM,ho⟩,fun _=>rfl,by simp[cT.symm]⟩
  ·simp only[h1,if_false]at ho;exact⟨j,c,hc,fD.1 (oD.1 ho),fun h=>by rw[vQ,uJ]at h;exact h,by simp[h2]⟩
 ·rcases e8 hj with⟨rfl,rfl⟩|⟨h1,h2,c,hc,rfl⟩
  ·simp only[if_true];have Bb:=hM.apart j _ hm;have new:∀g,(φ id2).g=some g→¬(bK.nest s et es).ee (φ j) g:=fun g hg ho=>cT (hM.inj id2 j _ _ g cO hm (.inl hg) ho);intro a b g hr hg;rcases iL a b hr with⟨rfl,rfl⟩|⟨qM,qN⟩
   ·rw[fK]at hg;refine⟨fun h=>new g hg (.inl h),fun a' b' Qw IX=>?_⟩;rcases iL a' b' Qw with h|⟨TV,IY⟩
    ·exact h
    ·rw[fR _ _ IY]at IX;exact absurd (.inr ⟨a',b',TV,IX⟩) (new g hg)
   ·rw[fR _ _ qN]at hg;obtain⟨h3,h4⟩:=Bb a b g qM hg;refine⟨h3,fun a' b' Qw IX=>?_⟩;rcases iL a' b' Qw with⟨rfl,rfl⟩|⟨TV,IY⟩
    ·rw[fK]at IX;exact absurd (.inr ⟨a,b,qM,hg⟩) (new g IX)
    ·rw[fR _ _ IY]at IX;exact h4 a' b' TV IX
  ·simp only[h1,if_false];exact tq.2 (rX.2 (hM.apart j c hc))
 ·rcases e8 hj with⟨rfl,hb⟩|⟨h1,h2,c,hc,hb⟩
  ·cases hb
  ·have FN:eS id (bg (bB id2 m) id2) j=some (.box cs):=by rw[aq h1]at hj;exact hj
   have:=qX.fk j cs k FN hk;by_cases e:k=id
   ·subst e;simp
   ·rw[aq e];exact this
 ·rcases e8 hj with⟨rfl,hb⟩|⟨h1,h2,c,hc,hb⟩
  ·cases hb
  ·cases c<;>first|(simp[dN,fH]at hb;done)|skip
   simp only[dN,fH,bK.loop.injEq]at hb;subst hb;exact⟨hc,by simp[h1]⟩
end
end Go.Ab
set_option linter.unusedVariables false
namespace Go.Ab
def j3(k:PV):List (PV×PV)→Option Nat
 |[]=>none
 |(a,_)::r=>if cB k.cells a.cells then some 0 else(j3 k r).map (·+1)
def iu(es:List (PV×PV)):List (PV×PV):=es.map fun x=>(x.1,.bad)
theorem Bn(k:PV):∀es,j3 k (iu es)=j3 k es
 |[]=>rfl
 |(a,u)::r=>by simp only[iu,List.map_cons,j3];rw[←Bn k r];rfl
theorem Ap{k:PV}:∀{es:List (PV×PV)}{j:Nat},j3 k es=some j→∃a u,es[j]?=some (a,u)∧cB k.cells a.cells=true
 |(a,u)::r,j,h=>by
  simp only[j3]at h;split at h
  ·rename_i hp;simp only[Option.some.injEq]at h;subst h;exact⟨a,u,rfl,hp⟩
  ·obtain⟨i,hi,rfl⟩:=Option.map_eq_some_iff.1 h;simpa using Ap hi
theorem kW(k v:PV):∀es,eO k v es=match j3 k es with|some j=>es.set j (k,v)|none=>es++[(k,v)]
 |[]=>rfl
 |(a,u)::r=>by
  simp only[eO,j3];split
  ·rfl
  ·rw[kW k v r];cases j3 k r<;>rfl
theorem q6(k:PV):∀es,pH k es=match j3 k es with|some j=>es.modify j fun x=>(x.1,.bad)|none=>es
 |[]=>rfl
 |(a,u)::r=>by
  simp only[pH,j3];split
  ·rfl
  ·rw[q6 k r];cases j3 k r<;>simp
theorem Gp(sz:Nat)(k:PV):∀es,FT sz k es=match j3 k es with|some j=>(es[j]?).bind fun x=>aY sz x.2|none=>some []
 |[]=>rfl
 |(a,u)::r=>by
  simp only[FT,j3];split
  ·simp
  ·rw[Gp sz k r];cases j3 k r<;>simp
theorem Dq{k z:PV}{l:List (PV×PV)}{es:List MapEntry}{i:Nat}{r:Option (Nat×Value)}(h:Found k .nA z (iu l) es i r):(r=none∧j3 k l=none)∨∃j e,r=some (i+j,e.val)∧es[j]?=some e∧j3 k l=some j:=by
 cases h with
 |none h1 h2 h3=>
  refine .inl ⟨rfl,?_⟩;rw[kW]at h3;rw[←Bn];cases hp:j3 k (iu l)with
  |none=>rfl
  |some j=>rw[hp]at h3;have:=congrArg List.length h3;simp at this
 | @some j a u e h1 h2 h3 h4 h5 h6=>
  refine .inr ⟨j,e,rfl,h2,?_⟩;rw[kW]at h6;rw[←Bn];have bq:j<(iu l).length:=(List.getElem?_eq_some_iff.1 h1).1;cases hp:j3 k (iu l)with
  |none=>rw[hp]at h6;have:=congrArg List.length h6;simp at this
  |some j'=>
   rw[hp]at h6;simp only at h6;obtain⟨a',u',FN,_⟩:=Ap hp;have adW:j'<(iu l).length:=(List.getElem?_eq_some_iff.1 FN).1;have e1:((iu l).set j (k,.nA))[j']?=some (k,.nA):=by rw[←h6];simp[adW]
   rw[List.getElem?_set]at e1;split at e1
   ·rename_i h;rw[h]
   ·exfalso;simp only[iu,List.getElem?_map,Option.map_eq_some_iff]at e1;obtain⟨x,_,hx⟩:=e1;simp at hx
section
variable {P:Program} {G:Nat→Option (List PV)} {w0:bt} {μ μ':Ro} {φ φ':Nat→aG} {m m':Mem} {w w':World}
def Bo(P:Program)(μ:Ro)(R:y7)(w:World)(e0:TypeId)(v:PV)(x:Value):Prop:=match v with
 |.fO s rs=>aM P μ (fun _=>R.up) w 0 s e0 rs∧ag P μ (fun _=>R.up) (.os 0) x
 |v=>ak P μ v x
variable{e0:TypeId}
theorem Bo.pure{R:y7}{v:PV}{x:Value}(h:ak P μ v x):Bo P μ R w e0 v x:=by
 unfold Bo;split
 ·cases h
 ·exact h
structure IZ(P:Program)(μ:Ro)(p:aG)(w:World)(kt e0:TypeId)(es:List (PV×PV))(g:Nat)(en:Array MapEntry)(clock:Nat)(kk:List Kd):Prop where
 pl:p.g=some g
 heap:w.heap[g]?=some (.map en clock)
 size:en.size=es.length
 xJ:pI P kt=some kk
 key:∀(i:Nat)k v,es[i]?=some (k,v)→sB P kt kk k=true
 born:jX en clock
 rep:∀(i:Nat)k v e,es[i]?=some (k,v)→en[i]?=some e→ak P μ k e.key∧Bo P μ (p.row i 0) w e0 v e.val
variable{kt:TypeId}{es:List (PV×PV)}
theorem q7{id:Nat}:fQ P μ φ w id (.eV kt e0 es)↔∃g en clock kk,IZ P μ (φ id) w kt e0 es g en clock kk:=by
 constructor
 ·rintro⟨g,en,clock,kk,h1,h2,h3,h4,h5,h6,h7⟩;exact⟨g,en,clock,kk,h1,h2,h3,h4,h5,h6,fun i k v e a b=>h7 i k v e a b⟩
 ·rintro⟨g,en,clock,kk,h1,h2,h3,h4,h5,h6,h7⟩;exact⟨g,en,clock,kk,h1,h2,h3,h4,h5,h6,fun i k v e a b=>h7 i k v e a b⟩
variable{en:Array MapEntry}
theorem IZ.ent{p:aG}{g:Nat}{clock:Nat}{kk:List Kd}(h:IZ P μ p w kt e0 es g en clock kk):tn P μ kt kk (iu es) en.toList:=by
 refine⟨by simp[iu,h.size],fun i k v hi=>?_,fun i k v e hi he=>?_⟩
 ·simp only[iu,List.getElem?_map,Option.map_eq_some_iff]at hi;obtain⟨⟨a,u⟩,hq,hx⟩:=hi;simp only[Prod.mk.injEq]at hx;obtain⟨rfl,rfl⟩:=hx;exact h.key i a u hq
 ·simp only[iu,List.getElem?_map,Option.map_eq_some_iff]at hi;obtain⟨⟨a,u⟩,hq,hx⟩:=hi;simp only[Prod.mk.injEq]at hx;obtain⟨rfl,rfl⟩:=hx;exact⟨(h.rep i a u e hq (by simpa using he)).1,.bad⟩
theorem Bp{t et:TypeId}{ks:List Kd}{key:PV}{zv yi:Value}{g clock:Nat}{l:List (PV×PV)}(hu:P.underlying t=some (.map kt et))(hk:pI P kt=some ks)(qo:sB P kt ks key=true)(hyi:ak P μ key yi)(hg:w.heap[g]?=some (.map en clock))(hE:tn P μ kt ks (iu l) en.toList)(hz:(zeroValue et).run P w=.ok zv w):(j3 key l=none∧(Instr.lookup t (.map (some g)) yi false).run P w=.ok zv w)∨∃j e,j3 key l=some j∧en[j]?=some e∧(Instr.lookup t (.map (some g)) yi false).run P w=.ok e.val w:=by
 have NT:=uN hk;obtain⟨hc,hv⟩:=kC qo hyi;obtain⟨r,r1,r2⟩:=jQ (v:=.nA) (z:=.bad) NT hc w hE;have h1:=gk 8 kt ks NT 9992 w en.isEmpty key.cells hc;have zV:=Go.MapKept.run_getObj_map (P:=P) hg;have Mk:(Instr.checkKey en.isEmpty 10000 kt (eK P kt key.cells)).run P w=.ok () w:=h1;rw[hv];unfold Instr.lookup;simp only[Sem.run_bind,run_underlying hu,Result.andThen_ok,Sem.run_pure,zV];rcases Dq r2 with⟨rfl,h⟩|⟨j,e,rfl,he,h⟩
 ·exact .inl ⟨h,by simp[Mk,r1,hz]⟩
 ·exact .inr ⟨j,e,h,by simpa using he,by simp[Mk,r1]⟩
end
section
variable {R:Type} {E:Env}
theorem I0{t:TypeId}(h:zeroV E.P t=some .bh)(w:World):(zeroValue t).run E.P w=.ok (.slice none 0 0) w:=by unfold zeroV at h;obtain⟨c,hc,h⟩:=Option.map_eq_some_iff.1 h;obtain⟨i,hi,hz⟩:=Option.bind_eq_some_iff.1 hc;have:=qT (P:=E.P) (μ:=fun _=>none) (φ:=fun _=>default) c;rw[h]at this;cases this;exact mn hi hz
theorem Qx{site:Nat}{t:TypeId}{x ix:V}{m:Mem}{k:V→Mem→bn→Option R}{r:R}(h:FX E site t x ix m k=some r):∃id b1 b2 m',m'=qL [(id,b1),(site,b2)] m∧k (.os site) m' [(true,id),(true,site)]=some r∧m site=none∧b2.names=(fun _=>false)∧b1.names=(fun _=>false)∧(m id).isSome=true∧(∀m2:Mem,m2 id=m id→m2 site=none→∀(R':Type)(k':V→Mem→bn→Option R'),FX E site t x ix m2 k'=k' (.os site) (qL [(id,b1),(site,b2)] m2) [(true,id),(true,site)])∧∀(G:Nat→Option (List PV))(w0:bt)(μ:Ro)(φ:Nat→aG)(w:World)(f:Fr)(ρ:Nat→Value)(y yi:Value),ay E.P G w0 μ φ m w→cm E.P μ φ m f ρ→ag E.P μ φ x y→ag E.P μ φ ix yi→∃u φ',(Instr.lookup t y yi false).run E.P w=.ok u w∧ay E.P G w0 μ φ' m' w∧cm E.P μ φ' m' f ρ∧ag E.P μ φ' (.os site) u:=by
 unfold FX at h;split at h
 ·rename_i kt et hu;split at h
  ·rename_i e hue;split at h
   ·rename_i id hz;split at h
    ·rename_i sQ e' es hm hs;split at h
     ·rename_i hc;obtain⟨rfl,rfl,eo⟩:=hc;obtain⟨key,qo,h⟩:=Option.bind_eq_some_iff.1 h;obtain⟨rs,WQ,h⟩:=Option.bind_eq_some_iff.1 h;obtain⟨ks,k1,k2,k3⟩:=qZ qo;have cT:site≠id:=fun e=>by subst e;rw[hs]at hm;cases hm
      refine⟨id,.eV sQ e' (pH key es),.arr (aT E.P e') e' rs,_,rfl,h,hs,rfl,rfl,by rw[hm];rfl,fun m2 h1 h2 R' k'=>?_,fun G w0 μ φ w f ρ y yi hM hF hx hi=>?_⟩
      ·simp only[FX,hu,hue,hz,h1,h2,hm,qo,WQ,Option.bind_some,eo,and_self,if_true];rfl
      ·obtain⟨g,en,clock,kk,hN⟩:=q7.1 (hM.dH id _ hm);have yf:=hN.xJ;rw[k1]at yf;simp only[Option.some.injEq]at yf;subst yf;cases hx with
       |om bW=>
        rw[hN.pl]at bW;simp only[Option.some.injEq]at bW;subst bW;have Qy:=Bp hu k1 k2 (k3 μ φ yi hi) hN.heap hN.ent (I0 hz w);have N2:∀i off,(bK.eV sQ e' (pH key es)).rowAt i off=true→(bK.eV sQ e' es).rowAt i off=true∧j3 key es≠some i:=by
         intro i off hr;rcases iO hr with⟨_,_,_,_,_,_,hb,_⟩|⟨_,_,_,k0,s0,rs0,hb,rfl,he⟩
         ·cases hb
         ·simp only[bK.eV.injEq]at hb;obtain⟨rfl,rfl,rfl⟩:=hb;rw[q6]at he;cases hp:j3 key es with
          |none=>rw[hp]at he;simp only at he;exact⟨by rw[iN he];rfl,by simp⟩
          |some j=>
           rw[hp]at he;simp only[List.getElem?_modify]at he;split at he
           ·rename_i I1;exfalso;obtain⟨x0,_,IH⟩:=Option.map_eq_some_iff.1 he;simp at IH
           ·rename_i I1;have he:es[i]?=some (k0,PV.fO s0 rs0):=by simpa using he
            exact⟨by rw[iN he];rfl,fun h=>I1 (by simpa using h)⟩
        have qX:ay E.P G w0 μ φ (ao m id (.eV sQ e' (pH key es))) w:=by
         refine hM.write hm rfl hN.pl (jy.refl _ _) rfl (fun _ _=>rfl) (q7.2 ⟨g,en,clock,ks,hN.pl,hN.heap,?_,k1,fun i k0 v0 h0=>?_,hN.born,fun i k0 v0 e0 h0 FM=>?_⟩) rfl (by simp[bK.names]) (fun st h=>by cases h) (fun i off hr=>(N2 i off hr).1)
         ·rw[hN.size,q6];cases j3 key es<;>simp
         ·rw[q6]at h0;cases hp:j3 key es with
          |none=>rw[hp]at h0;exact hN.key i k0 v0 h0
          |some j=>
           rw[hp]at h0;simp only[List.getElem?_modify]at h0;obtain⟨x0,IH,hq⟩:=Option.map_eq_some_iff.1 h0;obtain⟨xa,xu⟩:=x0;split at hq
           ·simp only[Prod.mk.injEq]at hq;rw[←hq.1];exact hN.key i xa xu IH
           ·simp only[id_eq,Prod.mk.injEq]at hq;rw[←hq.1];exact hN.key i xa xu IH
         ·rw[q6]at h0;cases hp:j3 key es with
          |none=>rw[hp]at h0;exact hN.rep i k0 v0 e0 h0 FM
          |some j=>
           rw[hp]at h0;simp only[List.getElem?_modify]at h0;obtain⟨x0,IH,hq⟩:=Option.map_eq_some_iff.1 h0;obtain⟨xa,xu⟩:=x0;obtain⟨q1,q2⟩:=hN.rep i xa xu e0 IH FM;split at hq
           ·simp only[Prod.mk.injEq]at hq;obtain⟨rfl,rfl⟩:=hq;exact⟨q1,.pure .bad⟩
           ·simp only[id_eq,Prod.mk.injEq]at hq;obtain⟨rfl,rfl⟩:=hq;exact⟨q1,q2⟩
        have ZM:∀(ph:aG)(u:Value),aM E.P μ (fun _=>ph) w 0 (aT E.P e') e' rs→ag E.P μ (fun _=>ph) (.os 0) u→(∀g',ph.g=some g'→∃j,j3 key es=some j∧(bK.eV sQ e' es).rowAt j 0=true∧((φ id).row j 0).g=some g')→∃φ',ay E.P G w0 μ φ' (qL [(id,.eV sQ e' (pH key es)),(site,.arr (aT E.P e') e' rs)] m) w∧cm E.P μ φ' (qL [(id,.eV sQ e' (pH key es)),(site,.arr (aT E.P e') e' rs)] m) f ρ∧ag E.P μ φ' (.os site) u:=by
         intro ph u hA hV zV;have IE:∀j,(m j).isSome=true→j≠site:=fun j hj e=>by subst e;rw[hs]at hj;cases hj
         refine⟨fun i=>if i=site then ph else φ i,?_,?_,?_⟩
         ·refine qX.put (by rw[aq cT];exact hs) (jy.refl _ _) hM.ro (fun _ _ _ _ _=>rfl) (fun g' bW=>?_) (ov nN) ?_ (by simp[bK.names]) (fun st h=>by cases h)
          ·have bW:=ml nN bW;obtain⟨j,hj,hr,hjg⟩:=zV g' bW;obtain⟨o1,o2⟩:=hM.own id _ g' hm (.inr ⟨j,0,hr,hjg⟩);refine⟨o1,o2 rfl,fun i b' hi ho=>?_⟩;by_cases Dh:i=id
           ·subst Dh;rw[aN]at hi;simp only[Option.some.injEq]at hi;subst hi;obtain⟨a1,a2⟩:=hM.apart i _ hm j 0 g' hr hjg;rcases ho with ho|⟨i',qf,qM,ho⟩
            ·exact a1 ho
            ·obtain⟨h3,h4⟩:=N2 i' qf qM;exact h4 (by rw[hj,(a2 i' qf h3 ho).1])
           ·rw[aq Dh]at hi;exact Dh (hM.inj i id _ _ g' hi hm ho (.inr ⟨j,0,hr,hjg⟩))
          ·exact aM.move (φ':=fun i=>if i=site then ph else φ i) (j:=site) hA (by simp) (fun _ _ h=>h)
         ·refine hF.mono (fun _ _ h=>h) fun j hj=>⟨by simp[IE j hj],?_⟩;show(ao (ao m id _) site _ j).isSome=true;rw[aq (IE j hj)];by_cases I1:j=id
          ·subst I1;simp
          ·rw[aq I1];exact hj
         ·cases hV with
          |py h=>exact .py (by simpa using h)
          | @os _ g0 h=>have:=ag.os (P:=E.P) (μ:=μ) (φ:=fun i=>if i=site then ph else φ i) (id:=site) (g:=g0) (by simpa using h);simpa using this
        rw[Gp]at WQ;rcases Qy with⟨hp,l0⟩|⟨j,en0,hp,hen,l0⟩
        ·rw[hp]at WQ;simp only[Option.some.injEq]at WQ;subst WQ;obtain⟨φ',a1,a2,a3⟩:=ZM (Cz none 0 0 (aT E.P e')) (.slice none 0 0) ⟨rfl,rfl,rfl,eo,by simp,by simp[maxLen],⟨rfl,rfl⟩⟩ (.py rfl) (fun g' bW=>by cases bW);exact⟨_,φ',l0,a1,a2,a3⟩
        ·rw[hp]at WQ;obtain⟨x0,IH,iL⟩:=Option.bind_eq_some_iff.1 WQ;obtain⟨xa,xu⟩:=x0;have hxu:=F9 iL;simp only at hxu;subst hxu;obtain⟨_,q2⟩:=hN.rep j xa _ en0 IH hen;obtain⟨φ',a1,a2,a3⟩:=ZM ((φ id).row j 0).up en0.val q2.1 q2.2 (fun g' bW=>⟨j,hp,by rw[iN IH];rfl,bW⟩);exact⟨_,φ',l0,a1,a2,a3⟩
     ·cases h
    ·cases h
   ·cases h
  ·cases h
 ·cases h
end
end Go.Ab
set_option linter.unusedVariables false
namespace Go.Ab
theorem Bq{m:Mem}:∀{cs:List V}{j0:Nat}{ps:List PV}{tk:Option (Nat×Nat)},jx m j0 cs=some (ps,tk)→ps.length=cs.length∧(tk=none→∀(i:Nat)p,ps[i]?=some p→∃v,cs[i]?=some v∧jn df 1 v=some p)∧∀j id2,tk=some (j,id2)→∃l s2 Gn rs,cs[l]?=some (.os id2)∧m id2=some (.arr s2 Gn rs)∧ps[l]?=some (.fO s2 rs)∧∀(i:Nat)p,i≠l→ps[i]?=some p→∃v,cs[i]?=some v∧jn df 1 v=some p
 |[],j0,ps,tk,h=>by simp only[jx,Option.some.injEq,Prod.mk.injEq]at h;obtain⟨rfl,rfl⟩:=h;exact⟨rfl,fun _ i p hp=>by simp at hp,fun j id2 h=>by cases h⟩
 |v::r,j0,ps,tk,h=>by
  have plain:∀{p:PV},jn df 1 v=some p→(match jx m (j0+1) r with
   |some (ps,t)=>some (p::ps,t)
   |none=>none)=some (ps,tk)→ps.length=(v::r).length∧
   (tk=none→∀(i:Nat)p,ps[i]?=some p→∃u,(v::r)[i]?=some u∧jn df 1 u=some p)∧
   ∀j id2,tk=some (j,id2)→∃l s2 Gn rs,(v::r)[l]?=some (.os id2)∧m id2=some (.arr s2 Gn rs)∧ps[l]?=some (.fO s2 rs)∧∀(i:Nat)p,i≠l→ps[i]?=some p→∃u,(v::r)[i]?=some u∧jn df 1 u=some p:=by
   intro p hp h
   split at h
   ·rename_i Zj t ht;simp only[Option.some.injEq,Prod.mk.injEq]at h;obtain⟨rfl,rfl⟩:=h;obtain⟨h1,h2,h3⟩:=Bq ht;refine⟨by simp[h1],fun hn i q hq=>?_,fun j id2 hj=>?_⟩
    ·cases i with
     |zero=>simp at hq;subst hq;exact⟨v,rfl,hp⟩
     |succ i=>simpa using h2 hn i q (by simpa using hq)
    ·obtain⟨l,s2,Gn,rs,a1,a2,a3,a4⟩:=h3 j id2 hj;refine⟨l+1,s2,Gn,rs,by simpa using a1,a2,by simpa using a3,fun i q hi hq=>?_⟩;cases i with
     |zero=>simp at hq;subst hq;exact⟨v,rfl,hp⟩
     |succ i=>simpa using a4 i q (by omega) (by simpa using hq)
   ·cases h
  unfold jx at h;split at h
  ·rename_i heq;cases heq
  ·rename_i j id r' heq;simp only[List.cons.injEq]at heq;obtain⟨rfl,rfl⟩:=heq;split at h
   ·rename_i s et es hm;split at h
    ·rename_i Zj ht;simp only[Option.some.injEq,Prod.mk.injEq]at h;obtain⟨rfl,rfl⟩:=h;obtain⟨h1,h2,_⟩:=Bq ht;refine⟨by simp[h1],fun hn=>(nomatch hn),fun j id2 hj=>?_⟩;simp only[Option.some.injEq,Prod.mk.injEq]at hj;obtain⟨rfl,rfl⟩:=hj;refine⟨0,s,et,es,rfl,hm,rfl,fun i q hi hq=>?_⟩;cases i with
     |zero=>exact absurd rfl hi
     |succ i=>simpa using h2 rfl i q (by simpa using hq)
    ·cases h
   ·cases h
  ·rename_i j v' r' _ heq;simp only[List.cons.injEq]at heq;obtain⟨rfl,rfl⟩:=heq;split at h
   ·rename_i p hp;exact plain hp h
   ·cases h
section
variable {P:Program} {G:Nat→Option (List PV)} {w0:bt} {μ μ':Ro} {φ φ':Nat→aG} {m m':Mem} {w w':World}
theorem Br{v:V}{n j id2:Nat}{cs:List V}{ps:List PV}(hc:toCells n v=some cs)(h:jx m 0 cs=some (ps,some (j,id2))):∃l s2 Gn rs,m id2=some (.arr s2 Gn rs)∧ps[l]?=some (.fO s2 rs)∧ps.length=n∧v.has id2=true∧∀(P:Program)(μ:Ro)(φ:Nat→aG)(x:Value),ag P μ φ v x→x.cells.size=n∧(∀(i:Nat)(y:Value),x.cells[i]?=some y→y.oneCell'=true)∧(∀(i:Nat)p y,i≠l→ps[i]?=some p→x.cells[i]?=some y→ak P μ p y)∧∃y,x.cells[l]?=some y∧ag P μ φ (.os id2) y:=by
 obtain⟨t1,_,t3⟩:=Bq h;obtain⟨l,s2,Gn,rs,a1,a2,a3,a4⟩:=t3 j id2 rfl;obtain⟨n1,n2,n3⟩:=toCells_ok hc;refine⟨l,s2,Gn,rs,a2,a3,by rw[t1,n1],n2 id2 (bM (List.mem_of_getElem? a1) (by simp[V.has])),fun P μ φ x hx=>?_⟩;obtain⟨x1,x2,x3⟩:=n3 P μ φ x hx;refine⟨x1,x3,fun i p y hi hp hy=>?_,?_⟩
 ·obtain⟨u,hu,hf⟩:=a4 i p hi hp;exact qV 1 hf (x2 i u y hu hy)
 ·have hl:l<x.cells.size:=by rw[x1,←n1];exact(List.getElem?_eq_some_iff.1 a1).1
  exact⟨x.cells[l],Array.getElem?_eq_getElem hl,x2 l _ _ a1 (Array.getElem?_eq_getElem hl)⟩
theorem zj{s off n:Nat}{e:PV}{ps:List PV}(hn:ps.length=n)(hb:off+n≤s)(h0:0<n)(ha:s=1→∀p,ps.head? =some p→∀cs,p≠.agg cs):(if s=1 then ps.headD .bad else PV.agg (bR (aL s e) off ps)).cells=bR (aL s e) off ps:=by
 split
 ·rename_i h1;subst h1;have e1:off=0:=by omega
  have e2:n=1:=by omega
  subst e1;subst e2;match ps,hn with
  |[p],_=>
   have:=ha rfl p rfl;have hp:p.cells=[p]:=by cases p<;>first|rfl|exact absurd rfl (this _)
   simp only[List.headD_cons,hp,dB,List.take_zero,List.nil_append,List.length_cons,List.length_nil];rw[List.drop_of_length_le (by rw[bk];exact Nat.le_refl _)];rfl
 ·rfl
theorem Bs{T:Type}{cs ps:List T}{off l:Nat}{x:T}(hl:l<ps.length)(hb:off+ps.length≤cs.length):bR cs off (ps.set l x)=(bR cs off ps).set (off+l) x:=by
 have hto:(cs.take off).length=off:=by simp;omega
 rw[dB,dB,List.length_set,List.append_assoc,List.append_assoc,List.set_append,if_neg (by omega),List.set_append,if_pos (by omega)];rw[show off+l-(cs.take off).length=l by omega]
theorem Bt{id id2:Nat}{B X:bK}(cT:id2≠id):ao (eS id (bg (bB id2 (ao m id B)) id2)) id X=ao (eS id (bg (bB id2 m) id2)) id X:=by
 funext t;by_cases h:t=id
 ·subst h;simp
 ·rw[aq h,aq h];unfold eS;by_cases h2:t=id2
  ·subst h2;simp
  ·rw[eQ h2,eQ h2];unfold bB;rw[aq h]
end
section
variable {R:Type} {E:Env}
theorem Qz{t:TypeId}{v:V}{id i off s id2 j:Nat}{et:TypeId}{es ps:List PV}{cs:List V}{e:PV}{m:Mem}(hm:m id=some (.nest s et es))(hc:toCells (aT E.P t) v=some cs)(ht:jx m 0 cs=some (ps,some (j,id2)))(hb:off+aT E.P t≤s)(h0:0<aT E.P t)(cT:id2≠id)(he:es[i]?=some e){G:Nat→Option (List PV)}{w0:bt}{μ:Ro}{φ:Nat→aG}{w:World}{f:Fr}{ρ:Nat→Value}{ya yx:Value}(hM:ay E.P G w0 μ φ m w)(hF:cm E.P μ φ m f ρ)(ha:ag E.P μ φ (.oe id i off) ya)(hx:ag E.P μ φ v yx):∃w' φ',(Instr.storeAt t ya yx).run E.P w=.ok () w'∧ay E.P G w0 μ φ' (qL [(id,.nest s et (es.set i (if s=1 then ps.headD .bad else .agg (bR (aL s e) off ps))))] (km [(true,id2),(false,id)] m)) w'∧cm E.P μ φ' (qL [(id,.nest s et (es.set i (if s=1 then ps.headD .bad else .agg (bR (aL s e) off ps))))] (km [(true,id2),(false,id)] m)) (kf [(true,id2),(false,id)] f) ρ:=by
 obtain⟨l,s2,Gn,rs,cO,iL,Aq,adX,jb⟩:=Br hc ht;obtain⟨x1,x2,x3,y,hy,TO⟩:=jb E.P μ φ yx hx;have Gh:l<ps.length:=(List.getElem?_eq_some_iff.1 iL).1;have hN:aV E.P μ φ w id s et es:=hM.dH id _ hm;have yb:=hN.2.2.2.2.1 i e he;have A5:(aL s e).length=s:=bk _ _;have l5:ps=(ps.set l .bad).set l (.fO s2 rs):=by
  rw[List.set_set];apply List.ext_getElem?;intro a;rw[List.getElem?_set];split
  ·rename_i e1;subst e1;first|exact iL|(rw[if_pos Gh];exact iL)
  ·rfl
 have qY:∀(a:Nat)p,(ps.set l .bad)[a]?=some p→(a=l∧p=.bad)∨(a≠l∧ps[a]?=some p):=fun a p h=>eh h;have hE:qm E.P μ (aT E.P t) (.agg (ps.set l .bad)) yx:=by
  refine⟨by simp[PV.cells,Aq],x1,fun a p z hp hz=>?_,x2⟩;rcases qY a p (by simpa[PV.cells]using hp)with⟨_,rfl⟩|⟨h1,h2⟩
  ·exact .bad
  ·exact x3 a p z h1 h2 hz
 have one:s=1→ps.length=1:=fun h=>by omega
 have hq:(if s=1 then ps.headD .bad else PV.agg (bR (aL s e) off ps)).cells=bR (aL s e) off ps:=zj Aq hb h0 fun h1 p hp Dc=>by
  have Ik:l=0:=by have:=one h1;omega
  subst Ik;rw[List.head?_eq_getElem?,iL]at hp;simp only[Option.some.injEq]at hp;subst hp;simp
 have NO:(if s=1 then(ps.set l .bad).headD .bad else PV.agg (bR (aL s e) off (ps.set l .bad))).cells=bR (aL s e) off (ps.set l .bad):=zj (by simpa using Aq) hb h0 fun h1 p hp Dc=>by
  have Ik:l=0:=by have:=one h1;omega
  subst Ik;rw[List.head?_eq_getElem?,List.getElem?_set,if_pos rfl,if_pos Gh]at hp;simp only[Option.some.injEq]at hp;subst hp;simp
 generalize (if s=1 then ps.headD .bad else PV.agg (bR (aL s e) off ps))=q at hq⊢;generalize (if s=1 then(ps.set l .bad).headD .bad else PV.agg (bR (aL s e) off (ps.set l .bad)))=q' at NO;cases ha with
 | @oe _ _ _ g hg=>
  obtain⟨c,T,hh,nE,sT,Zu⟩:=aV.set (q:=q') hN (hM.apart id _ hm) hg he hE hb (by rw[NO];rfl);have kP:(φ id).sz=s:=hN.2.1;have hi:=kU (P:=E.P) (t:=t) (by omega);have qX:ay E.P G w0 μ φ (ao m id (.nest s et (es.set i q'))) (w.setRow g (bR c.toList (i*s+off) yx.cells.toList).toArray):=hM.write hm rfl hg (jy.setRow (Nat.le_refl _)) setRow_size (fun k hk=>cK hk) sT rfl (fun j hj=>by simp[bK.names]at hj) (fun st h=>by cases h) Zu;have PG:i<es.length:=(List.getElem?_eq_some_iff.1 he).1;have ZN:q.cells=q'.cells.set (off+l) (.fO s2 rs):=by rw[hq,NO,←Bs (by simpa using Gh) (by simp[A5,Aq];omega),←l5]
  have vu:q'.cells[off+l]?=some .bad:=by rw[NO,Bs Gh (by rw[A5,Aq];exact hb),List.getElem?_set,if_pos rfl,if_pos];rw[cP (by rw[A5,Aq];exact hb),A5];omega
  have qN:=ay.WO qX (id:=id) (id2:=id2) (i:=i) (off:=off+l) (e:=q') (q:=q) (x:=y) cT (aN _ _ _) (by rw[aq cT];exact cO) (by simp[PG]) vu (fun g0 c0 Ij hc0=>by
   rw[hg]at Ij;simp only[Option.some.injEq]at Ij;subst Ij;rw[setRow_heap w g c _ T (0,0) hh]at hc0;simp only[Option.some.injEq,Obj.cells.injEq]at hc0;obtain⟨rfl,_⟩:=hc0;rw[List.getElem?_toArray,dB];have bq:(c.toList.take (i*s+off)).length=i*s+off:=by simp;omega
   have Dg:l<yx.cells.toList.length:=by simp only[Array.length_toList];rw[x1];omega
   rw[List.append_assoc,List.getElem?_append_right (by omega),bq,show i*s+(off+l)-(i*s+off)=l by omega,List.getElem?_append_left Dg];simpa using hy) TO ZN
  rw[List.set_set,Bt cT]at qN;refine⟨_,_,by rw[kP];exact gQ hE.size hi hh nE hE.one,qN,?_⟩;have zW:cm E.P μ φ (ao m id (.nest s et (es.set i q'))) f ρ:=hF.kV (fun _ _ h=>h) .set;have TR:=(zW.forget id2).rZ id;refine TR.Vp (by simp[jf]) (fun k hk=>by simp[hk]) fun k hk=>?_;show(ao (eS id (bg (bB id2 m) id2)) id _ k).isSome=true;by_cases e1:k=id
  ·subst e1;simp
  ·rw[aq e1];rw[mo]at hk⊢;by_cases e2:k=id2
   ·subst e2;simp at hk
   ·rw[eQ e2]at hk⊢;simp only[bB,aq e1]at hk⊢;exact hk
end
end Go.Ab
set_option linter.unusedVariables false
namespace Go.Ab
section
variable {R:Type} {E:Env}
variable{e:TypeId}{id2:Nat}{G:Nat→Option (List PV)}{w0:bt}{φ:Nat→aG}{w:World}{ρ:Nat→Value}
theorem N3{t:TypeId}{v:V}{j site:Nat}{cs:List V}{ps:List PV}{p:PV}{m:Mem}(hu:E.P.underlying t=some (.slice e))(hc:toCells (aT E.P e) v=some cs)(ht:jx m 0 cs=some (ps,some (j,id2)))(hs:m site=none)(hp:elemOf (aF E.P e) ps=some p)(eo:0<aT E.P e)(yg:aT E.P e≤16777216)(hz:(dm E e).isSome=true){μ:Ro}{f:Fr}{yx:Value}(hM:ay E.P G w0 μ φ m w)(hF:cm E.P μ φ m f ρ)(hx:ag E.P μ φ v yx):∃y w' φ',(Instr.buildSlice t 1 #[(0,yx)]).run E.P w=.ok y w'∧ay E.P G w0 μ φ' (qL [(site,.nest (aT E.P e) e [p])] (km [(true,id2)] m)) w'∧cm E.P μ φ' (qL [(site,.nest (aT E.P e) e [p])] (km [(true,id2)] m)) (kf [(true,id2)] f) ρ∧ag E.P μ φ' (.os site) y:=by
 obtain⟨l,s2,Gn,rs,cO,iL,Aq,adX,jb⟩:=Br hc ht;obtain⟨x1,x2,x3,z,TP,hvz⟩:=jb E.P μ φ yx hx;obtain⟨zc,PE⟩:=Option.isSome_iff_exists.1 hz;obtain⟨iz,zv,i1,i2,i3,_⟩:=eD PE;have cT:id2≠site:=fun e=>by subst e;rw[hs]at cO;cases cO
 have N4:p.cells=ps:=by
  unfold elemOf at hp;split at hp
  ·simp only[Option.some.injEq]at hp;subst hp;rfl
  ·split at hp
   ·rename_i q;simp only[Option.some.injEq]at hp;subst hp;have Ik:l=0:=by have:=(List.getElem?_eq_some_iff.1 iL).1;simp at this;exact this
    subst Ik;simp only[List.getElem?_cons_zero,Option.some.injEq]at iL;subst iL;rfl
   ·cases hp
 have WN:aM E.P μ φ w id2 s2 Gn rs:=hM.dH id2 _ cO;have ZO:Instr.fill (fun i=>some (i*aT E.P e,aT E.P e)) ((Array.range (1*aT E.P e)).map (zv.cells[·%zv.cells.size]!)) [(0,yx)]=some yx.cells:=by
  have Io:((Array.range (1*aT E.P e)).map (zv.cells[·%zv.cells.size]!)).size=aT E.P e:=by simp
  rw[uM (off:=0) (size:=aT E.P e) (by simp) x1 (by rw[Io];omega)];simp only[Instr.fill,Option.some.injEq];apply Array.ext';simp only[dB,List.take_zero,List.nil_append,Nat.zero_add];rw[List.drop_of_length_le (by simp only[Array.length_toList];rw[Io,x1];exact Nat.le_refl _),List.append_nil]
 have l0:=run_buildSlice (P:=E.P) w t e 1 #[(0,yx)] yx.cells iz zv hu i1 i2 (by rw[i3];omega) (by rw[i3];omega) (by rw[i3];exact ZO);let q:aG:={g:=some w.heap.size,cap:=1,len:=1,sz:=aT E.P e,row:=fun a b=>if a=0∧b=l then(φ id2).toy7 else default};have IE:∀k,(bg (bB id2 m) id2 k).isSome=true→k≠site:=fun k hk e=>by subst e;rw[eQ (Ne.symm cT)]at hk;simp[bB,hs]at hk
 have QA:∀a b,(bK.nest (aT E.P e) e [p]).rowAt a b=true→a=0∧b=l:=by
  intro a b hr;rcases iO hr with⟨_,_,_,e',s',Zw,fP,h',pN⟩|⟨_,_,_,_,_,_,fP,_⟩
  ·simp only[bK.nest.injEq]at fP;obtain⟨rfl,rfl,rfl⟩:=fP;cases a with
   |succ a=>simp at h'
   |zero=>
    simp only[List.getElem?_cons_zero,Option.some.injEq]at h';subst h';rw[N4]at pN;refine⟨rfl,?_⟩;by_cases ZP:b=l
    ·exact ZP
    ·exfalso;have bq:b<yx.cells.size:=by rw[x1,←Aq];exact(List.getElem?_eq_some_iff.1 pN).1
     exact absurd (x3 b _ _ ZP pN (Array.getElem?_eq_getElem bq)).An (by simp[PV.isRow])
  ·cases fP
 have qX:=hM.forget id2;have qq:ay E.P G w0 μ (fun i=>if i=site then q else φ i) (ao (bg (bB id2 m) id2) site (.nest (aT E.P e) e [p])) (w.alloc (.cells yx.cells e)):=by
  have hold:∀k,k<w.heap.size→(w.alloc (.cells yx.cells e)).heap[k]?=w.heap[k]?:=fun k hk=>jy.heap_alloc w _ k hk;refine qX.put (by rw[eQ (Ne.symm cT)];simp[bB,hs]) ((jy.refl _ w).alloc hM.below.size _) (fun k o hk=>?_) (fun id b' g hid hg=>hold g ((qX.dH id b' hid).A8 hg)) (fun g hg=>?_) ?_ ?_ (by simp[bK.names]) (fun st h=>by cases h)
  ·have:=hM.ro k o hk;rw[hold k (Array.getElem?_eq_some_iff.1 this).1];exact this
  ·rcases hg with hg|⟨a,b,hr,hg⟩
   ·simp only[q,Option.some.injEq]at hg;subst hg;refine⟨hM.below.size,?_,fun id b' hid ho=>?_⟩
    ·cases hq:μ w.heap.size with
     |none=>rfl
     |some o'=>have:=hM.ro _ _ hq;simp at this
    ·have:=(qX.dH id b' hid).A8 ho;omega
   ·have qN:=QA a b hr;have hg:(φ id2).g=some g:=by simpa[q,qN]using hg
    obtain⟨o1,o2⟩:=hM.own id2 _ g cO (.inl hg);refine⟨o1,o2 rfl,fun id b' hid ho=>?_⟩;obtain⟨h1,b2,pz,rfl⟩:=eL hid;exact h1 (hM.inj id id2 _ _ g pz cO (fD.1 ho) (.inl hg))
  ·intro a b g hr hg;have qN:=QA a b hr;have hg:(φ id2).g=some g:=by simpa[q,qN]using hg
   refine⟨fun h=>?_,fun a' b' qM _=>by have:=QA a' b' qM;omega⟩;simp only[q,Option.some.injEq]at h;have:=(hM.dH id2 _ cO).A8 (.inl hg);omega
  ·show aV E.P μ (fun i=>if i=site then q else φ i) (w.alloc (.cells yx.cells e)) site (aT E.P e) e [p];unfold aV;simp only[if_true];refine⟨rfl,rfl,trivial,eo,fun i e' QB=>?_,by simp[q,maxLen],yx.cells,fE w _,by simp[q,x1],by simp[q],fun i e' b p' x' QB pN IG=>?_,fun i x' _ IG=>x2 i x' IG⟩
   ·cases i with
    |zero=>simp at QB;subst QB;rw[N4,Aq]
    |succ i=>simp at QB
   ·cases i with
    |succ i=>simp at QB
    |zero=>
     simp only[List.getElem?_cons_zero,Option.some.injEq]at QB;subst QB;rw[N4]at pN;rw[Nat.zero_mul,Nat.zero_add]at IG;by_cases ZP:b=l
     ·subst ZP;rw[iL]at pN;simp only[Option.some.injEq]at pN;subst pN;rw[TP]at IG;simp only[Option.some.injEq]at IG;subst IG;have:q.row 0 b=(φ id2).toy7:=by simp[q]
      rw[this];refine eI.cH ⟨⟨Gn,WN.up⟩,IW hvz⟩ (fun _ _ h=>h) fun g hg=>hold g ((hM.dH id2 _ cO).A8 (.inl hg))
     ·exact .pure (x3 b p' x' ZP pN IG)
 refine⟨_,_,_,l0,qq,?_,?_⟩
 ·exact(hF.forget id2).mono (fun _ _ h=>h) fun k hk=>⟨by simp[IE k hk],by show(ao (bg (bB id2 m) id2) site _ k).isSome=true;rw[aq (IE k hk)];exact hk⟩
 ·have:=ag.os (P:=E.P) (μ:=μ) (φ:=fun i=>if i=site then q else φ i) (id:=site) (g:=w.heap.size) (by simp[q]);simpa[q]using this
theorem QC{k v v':PV}:∀{es:List (PV×PV)}{j:Nat},(eO k v es)[j]?=some (k,v)→(j3 k es=some j∨(j3 k es=none∧j=es.length))→(eO k v es).set j (k,v')=eO k v' es:=by
 intro es j hj hp;rw[kW,kW];rcases hp with hp|⟨hp,rfl⟩
 ·rw[hp];simp
 ·rw[hp];simp
variable{es:List (PV×PV)}
theorem ay.TW{P:Program}{μ:Ro}{m:Mem}(hM:ay P G w0 μ φ m w){id i s2:Nat}{kt:TypeId}{k:PV}{rs:List PV}{x:Value}(cT:id2≠id)(hm:m id=some (.eV kt e es))(cO:m id2=some (.arr s2 e rs))(he:es[i]?=some (k,.bad))(hx:∀g en clock,(φ id).g=some g→w.heap[g]?=some (.map en clock)→∃e0,en[i]?=some e0∧e0.val=x)(hv:ag P μ φ (.os id2) x):ay P G w0 μ (fun j=>if j=id then jf (φ id) i 0 (φ id2).toy7 else φ j) (ao (eS id (bg (bB id2 m) id2)) id (.eV kt e (es.set i (k,.fO s2 rs)))) w:=by
 have qX:=(hM.forget id2).rZ id;obtain⟨g0,en,clock,kk,hN⟩:=q7.1 (hM.dH id _ hm);have WN:aM P μ φ w id2 s2 e rs:=hM.dH id2 _ cO;have iL:∀a b,(bK.eV kt e (es.set i (k,.fO s2 rs))).rowAt a b=true→(a=i∧b=0)∨((bK.eV kt e es).rowAt a b=true∧¬(a=i∧b=0)):=by
  intro a b hr;by_cases qN:a=i∧b=0
  ·exact .inl qN
  ·refine .inr ⟨?_,qN⟩;rcases iO hr with⟨_,_,_,_,_,_,fP,_⟩|⟨_,_,_,k',s',Zw,fP,rfl,h'⟩
   ·cases fP
   ·simp only[bK.eV.injEq]at fP;obtain⟨rfl,rfl,rfl⟩:=fP;rcases eh h' with⟨rfl,_⟩|⟨Qn,h'⟩
    ·exact absurd ⟨rfl,rfl⟩ qN
    ·rw[iN h'];rfl
 refine hM.Mn (fun _ k=>if k=id2 then id else k) (fun j b' hj=>?_) (fun j b' g hj ho=>?_) (fun j b' hj=>?_) (fun j cs k hj hk=>?_) (fun j st hj=>?_)
 ·rcases e8 hj with⟨rfl,rfl⟩|⟨h1,h2,c,hc,rfl⟩
  ·refine q7.2 ⟨g0,en,clock,kk,by simp[jf,hN.pl],hN.heap,by simp[hN.size],hN.xJ,fun a k' v' h'=>?_,hN.born,fun a k' v' e' h' QB=>?_⟩
   ·rcases eh h' with⟨rfl,hq⟩|⟨_,h'⟩
    ·simp only[Prod.mk.injEq]at hq;rw[hq.1];exact hN.key a k _ he
    ·exact hN.key a k' v' h'
   ·simp only[if_true];rcases eh h' with⟨rfl,hq⟩|⟨Qn,h'⟩
    ·simp only[Prod.mk.injEq]at hq;obtain⟨rfl,rfl⟩:=hq;refine⟨(hN.rep a _ _ e' he QB).1,?_⟩;rw[fK];obtain⟨e1,ZQ,hxe⟩:=hx g0 en clock hN.pl hN.heap;rw[QB]at ZQ;simp only[Option.some.injEq]at ZQ;subst ZQ;rw[hxe];exact⟨WN.up,IW hv⟩
    ·rw[fR _ _ (fun h=>Qn h.1)];exact hN.rep a k' v' e' h' QB
  ·have hb:fQ P μ φ w j (dN id (fH id2 c)):=(hM.dH j c hc).kill.vn;exact hb.Mo h1 (by simp[jf]) fun k hk=>by simp[hk]
 ·rcases e8 hj with⟨rfl,rfl⟩|⟨h1,h2,c,hc,rfl⟩
  ·simp only[if_true]at ho;rcases ho with ho|⟨a,b,hr,ho⟩
   ·exact⟨j,_,hm,.inl ho,fun _=>rfl,by simp[cT.symm]⟩
   ·rcases iL a b hr with⟨rfl,rfl⟩|⟨qM,qN⟩
    ·rw[fK]at ho;exact⟨id2,_,cO,.inl ho,fun _=>rfl,by simp⟩
    ·rw[fR _ _ qN]at ho;exact⟨j,_,hm,.inr ⟨a,b,qM,ho⟩,fun _=>rfl,by simp[cT.symm]⟩
  ·simp only[h1,if_false]at ho;exact⟨j,c,hc,fD.1 (oD.1 ho),fun h=>by rw[vQ,uJ]at h;exact h,by simp[h2]⟩
 ·rcases e8 hj with⟨rfl,rfl⟩|⟨h1,h2,c,hc,rfl⟩
  ·simp only[if_true];have Bb:=hM.apart j _ hm;have new:∀g,(φ id2).g=some g→¬(bK.eV kt e es).ee (φ j) g:=fun g hg ho=>cT (hM.inj id2 j _ _ g cO hm (.inl hg) ho);intro a b g hr hg;rcases iL a b hr with⟨rfl,rfl⟩|⟨qM,qN⟩
   ·rw[fK]at hg;refine⟨fun h=>new g hg (.inl h),fun a' b' Qw IX=>?_⟩;rcases iL a' b' Qw with h|⟨TV,IY⟩
    ·exact h
    ·rw[fR _ _ IY]at IX;exact absurd (.inr ⟨a',b',TV,IX⟩) (new g hg)
   ·rw[fR _ _ qN]at hg;obtain⟨h3,h4⟩:=Bb a b g qM hg;refine⟨h3,fun a' b' Qw IX=>?_⟩;rcases iL a' b' Qw with⟨rfl,rfl⟩|⟨TV,IY⟩
    ·rw[fK]at IX;exact absurd (.inr ⟨a,b,qM,hg⟩) (new g IX)
    ·rw[fR _ _ IY]at IX;exact h4 a' b' TV IX
  ·simp only[h1,if_false];exact tq.2 (rX.2 (hM.apart j c hc))
 ·rcases e8 hj with⟨rfl,hb⟩|⟨h1,h2,c,hc,hb⟩
  ·cases hb
  ·have FN:eS id (bg (bB id2 m) id2) j=some (.box cs):=by rw[aq h1]at hj;exact hj
   have:=qX.fk j cs k FN hk;by_cases e:k=id
   ·subst e;simp
   ·rw[aq e];exact this
 ·rcases e8 hj with⟨rfl,hb⟩|⟨h1,h2,c,hc,hb⟩
  ·cases hb
  ·cases c<;>first|(simp[dN,fH]at hb;done)|skip
   simp only[dN,fH,bK.loop.injEq]at hb;subst hb;exact⟨hc,by simp[h1]⟩
theorem N5{t kt et:TypeId}{xk:V}{id s:Nat}{key:PV}{rs:List PV}{m:Mem}(hu:E.P.underlying t=some (.map kt et))(hm:m id=some (.eV kt e es))(cO:m id2=some (.arr s e rs))(qo:keyOf E kt xk=some key){μ:Ro}{f:Fr}{ya yk yv:Value}(hM:ay E.P G w0 μ φ m w)(hF:cm E.P μ φ m f ρ)(ha:ag E.P μ φ (.om id) ya)(hk:ag E.P μ φ xk yk)(hv:ag E.P μ φ (.os id2) yv):∃w' φ',(Instr.mapUpdate t ya yk yv).run E.P w=.ok () w'∧ay E.P G w0 μ φ' (qL [(id,.eV kt e (eO key (.fO s rs) es))] (km [(true,id2),(false,id)] m)) w'∧cm E.P μ φ' (qL [(id,.eV kt e (eO key (.fO s rs) es))] (km [(true,id2),(false,id)] m)) (kf [(true,id2),(false,id)] f) ρ:=by
 have cT:id2≠id:=fun h=>by subst h;rw[hm]at cO;cases cO
 obtain⟨ks,k1,k2,k3⟩:=qZ qo;obtain⟨g,en,clock,kk,hN⟩:=q7.1 (hM.dH id _ hm);have yf:=hN.xJ;rw[k1]at yf;simp only[Option.some.injEq]at yf;subst yf;have NT:=uN k1;have YH:=k3 μ φ yk hk;obtain⟨hc,WI⟩:=kC k2 YH;obtain⟨res,r1,r2⟩:=jQ (v:=.nA) (z:=.bad) NT hc w hN.ent;have zV:=Go.MapKept.run_getObj_map (P:=E.P) hN.heap;have h1:(Instr.checkKey false 10000 kt yk).run E.P w=.ok () w:=by rw[WI];exact gk 8 kt ks NT 9992 w false key.cells hc
 rw[←WI]at r1;have bq:g<w.heap.size:=(Array.getElem?_eq_some_iff.1 hN.heap).1;cases ha with
 |om bW=>
  rw[hN.pl]at bW;simp only[Option.some.injEq]at bW;subst bW;have fin:∀(J:Nat)(Il:Array MapEntry)(nc:Nat),(j3 key es=some J∨(j3 key es=none∧J=es.length))→(Instr.mapUpdate t (.map (some g)) yk yv).run E.P w=.ok () {w with heap:=w.heap.setIfInBounds g (.map Il nc)}→jX Il nc→Il.size=(eO key .bad es).length→(∃e0,Il[J]?=some e0∧e0.key=yk∧e0.val=yv)→(∀i e0,i≠J→Il[i]?=some e0→en[i]?=some e0)→∃w' φ',(Instr.mapUpdate t (.map (some g)) yk yv).run E.P w=.ok () w'∧ay E.P G w0 μ φ' (qL [(id,.eV kt e (eO key (.fO s rs) es))] (km [(true,id2),(false,id)] m)) w'∧cm E.P μ φ' (qL [(id,.eV kt e (eO key (.fO s rs) es))] (km [(true,id2),(false,id)] m)) (kf [(true,id2),(false,id)] f) ρ:=by
   intro J Il nc hJ hr sE kP hJe zY;obtain⟨eJ,ZR,adY,adZ⟩:=hJe;have qq:∀i k' v',(eO key .bad es)[i]?=some (k',v')→(i=J∧k'=key∧v'=.bad)∨(i≠J∧es[i]?=some (k',v')):=by
    intro i k' v' h;rw[kW]at h;rcases hJ with hJ|⟨hJ,rfl⟩
    ·rw[hJ]at h;rcases eh h with⟨rfl,hq⟩|⟨Qn,h⟩
     ·simp only[Prod.mk.injEq]at hq;exact .inl ⟨rfl,hq.1,hq.2⟩
     ·exact .inr ⟨Qn,h⟩
    ·rw[hJ]at h;simp only at h;rw[List.getElem?_append]at h;split at h
     ·rename_i bq;exact .inr ⟨by omega,h⟩
     ·rename_i CJ;cases hd:i-es.length with
      |zero=>rw[hd]at h;simp only[List.getElem?_cons_zero,Option.some.injEq,Prod.mk.injEq]at h;exact .inl ⟨by omega,h.1.symm,h.2.symm⟩
      |succ n=>rw[hd]at h;simp at h
   have hJb:(eO key .bad es)[J]?=some (key,.bad):=by
    rw[kW];rcases hJ with hJ|⟨hJ,rfl⟩
    ·rw[hJ];obtain⟨a,u,hj,_⟩:=Ap hJ;simp[(List.getElem?_eq_some_iff.1 hj).1]
    ·rw[hJ];simp
   have qX:ay E.P G w0 μ φ (ao m id (.eV kt e (eO key .bad es))) {w with heap:=w.heap.setIfInBounds g (.map Il nc)}:=by
    refine hM.write hm rfl hN.pl ⟨⟨rfl,rfl,rfl,by simp,fun k hk=>by simp[Array.getElem?_setIfInBounds_ne (Nat.ne_of_gt hk)]⟩,fun _=>Nat.le_refl _⟩ (by simp) (fun k hk=>by simp[Array.getElem?_setIfInBounds_ne (Ne.symm hk)]) (q7.2 ⟨g,Il,nc,ks,hN.pl,by simp[bq],kP,k1,fun i k' v' h=>?_,sE,fun i k' v' e0 h FM=>?_⟩) rfl (by simp[bK.names]) (fun st h=>by cases h) fun a b hr=>?_
    ·rcases qq i k' v' h with⟨_,rfl,_⟩|⟨_,h⟩
     ·exact k2
     ·exact hN.key i k' v' h
    ·rcases qq i k' v' h with⟨rfl,rfl,rfl⟩|⟨Qn,h⟩
     ·rw[ZR]at FM;simp only[Option.some.injEq]at FM;subst FM;exact⟨by rw[adY];exact YH,.pure .bad⟩
     ·obtain⟨q1,q2⟩:=hN.rep i k' v' e0 h (zY i e0 Qn FM);refine⟨q1,?_⟩;unfold Bo at q2⊢;split at q2
      ·refine⟨q2.1.cH rfl (fun _ _ h=>h) fun g' bW=>?_,q2.2⟩;have hr:(bK.eV kt e es).rowAt i 0=true:=by rw[iN h];rfl
       have:=(hM.apart id _ hm i 0 g' hr bW).1;rw[hN.pl]at this;simp only[ne_eq,Option.some.injEq]at this;simp[Array.getElem?_setIfInBounds_ne this]
      ·exact q2
    ·rcases iO hr with⟨_,_,_,_,_,_,fP,_⟩|⟨_,_,_,k',s',Zw,fP,rfl,h'⟩
     ·cases fP
     ·simp only[bK.eV.injEq]at fP;obtain⟨rfl,rfl,rfl⟩:=fP;rcases qq a k' _ h' with⟨_,_,h⟩|⟨_,h⟩
      ·cases h
      ·rw[iN h];rfl
   have qN:=ay.TW qX (id:=id) (id2:=id2) (i:=J) (x:=yv) cT (aN _ _ _) (by rw[aq cT];exact cO) hJb (fun g0 en0 ad0 Ij hh0=>by
    rw[hN.pl]at Ij;simp only[Option.some.injEq]at Ij;subst Ij;have:(w.heap.setIfInBounds g (Obj.map Il nc))[g]?=some (.map Il nc):=by simp[bq]
    rw[this]at hh0;simp only[Option.some.injEq,Obj.map.injEq]at hh0;obtain⟨rfl,_⟩:=hh0;exact⟨eJ,ZR,adZ⟩) hv
   rw[QC hJb hJ,Bt cT]at qN;refine⟨_,_,hr,qN,?_⟩;have zW:cm E.P μ φ (ao m id (.eV kt e (eO key .bad es))) f ρ:=hF.kV (fun _ _ h=>h) .set;refine((zW.forget id2).rZ id).Vp (by simp[jf]) (fun k hk=>by simp[hk]) fun k hk=>?_;show(ao (eS id (bg (bB id2 m) id2)) id _ k).isSome=true;by_cases e1:k=id
   ·subst e1;simp
   ·rw[aq e1];rw[mo]at hk⊢;by_cases e2:k=id2
    ·subst e2;simp at hk
    ·rw[eQ e2]at hk⊢;simp only[bB,aq e1]at hk⊢;exact hk
  rcases Dq r2 with⟨rfl,hp⟩|⟨j,e0,rfl,FM,hp⟩
  ·have TQ:=Go.MapKept.run_setObj_map (P:=E.P) (.map (en.push {key:=yk,val:=yv,born:=clock}) (clock+1)) hN.heap;refine fin es.length _ _ (.inr ⟨hp,rfl⟩) (by simp only[Instr.mapUpdate,Sem.run_bind,run_underlying hu,zV,h1,r1,Result.andThen_ok];exact TQ) hN.born.push (by rw[kW,hp];simp[hN.size]) ⟨{key:=yk,val:=yv,born:=clock},?_,rfl,rfl⟩ fun i e0 hi h=>?_
   ·rw[←hN.size];simp
   ·rw[Array.getElem?_push]at h;split at h
    ·rename_i h';rw[hN.size]at h';exact absurd h' hi
    ·exact h
  ·have TX:en[j]?=some e0:=by simpa using FM
   obtain⟨a,u,haj,ZS⟩:=Ap hp;obtain⟨WJ,hva⟩:=kC (hN.key j a u haj) (hN.rep j a u e0 haj TX).1;have rY:=Ep hc WJ ZS;have WK:Instr.sameBits 10000 e0.key yk=true:=by rw[hva,WI,←rY];refine tp (n:=9999) hc (fun ha=>?_);rw[nD hc];exact(uH NT).2.1 ha
   have TQ:=Go.MapKept.run_setObj_map (P:=E.P) (.map (en.modify j fun e=>{e with key:=yk,val:=yv}) clock) hN.heap;have xK:j<en.size:=(Array.getElem?_eq_some_iff.1 TX).1;refine fin j _ _ (.inl hp) (by simp only[Instr.mapUpdate,Sem.run_bind,run_underlying hu,zV,h1,r1,Result.andThen_ok];simp only[Nat.zero_add,TX,Option.map_some,Option.getD_some,Instr.keyThatStays,WK,if_true,Sem.run_pure,Result.andThen_ok];exact TQ) (hN.born.modify (fun e=>{e with key:=yk,val:=yv}) (fun _=>rfl) _) (by rw[kW,hp];simp[hN.size]) ⟨{e0 with key:=yk,val:=yv},by rw[Array.getElem?_modify,if_pos rfl,TX];rfl,rfl,rfl⟩ fun i e1 hi h=>?_;rw[Array.getElem?_modify,if_neg (Ne.symm hi)]at h;exact h
end
end Go.Ab
set_option linter.unusedVariables false
namespace Go.Ab
section
variable {P:Program} {G:Nat→Option (List PV)} {w0:bt} {μ μ':Ro} {φ φ':Nat→aG} {m m':Mem} {w w':World}
structure jr(P:Program)(μ:Ro)(rows:Nat→Nat→y7)(w:World)(s:Nat)(es:List PV)(xs:List Value):Prop where
 len:xs.length=es.length*s
 each:∀(i:Nat)e,es[i]?=some e→e.cells.length=s
 rep:∀(i:Nat)e(j:Nat)p x,es[i]?=some e→e.cells[j]?=some p→xs[i*s+j]?=some x→eg P μ (rows i j) w p x
 one:∀(i:Nat)(x:Value),xs[i]?=some x→x.oneCell'=true
variable{rows:Nat→Nat→y7}{es:List PV}{xs:List Value}
theorem jr.append{Bu QD:Nat→Nat→y7}{s:Nat}{es':List PV}{Zx:List Value}(h:jr P μ rows w s es xs)(h':jr P μ Bu w s es' Zx)(h1:∀i j,i<es.length→QD i j=rows i j)(h2:∀i j,es.length≤i→QD i j=Bu (i-es.length) j):jr P μ QD w s (es++es') (xs++Zx):=by
 refine⟨by simp[h.len,h'.len,Nat.add_mul],fun i e he=>?_,fun i e j p x he hp hx=>?_,fun i x hx=>?_⟩
 ·rw[List.getElem?_append]at he;split at he
  ·exact h.each i e he
  ·exact h'.each _ e he
 ·rw[List.getElem?_append]at he;split at he
  ·rename_i hi;rw[h1 i j hi];have hj:j<s:=by rw[←h.each i e he];exact(List.getElem?_eq_some_iff.1 hp).1
   rw[List.getElem?_append_left (by rw[h.len];exact Bf hi hj)]at hx;exact h.rep i e j p x he hp hx
  ·rename_i hi;rw[h2 i j (by omega)];have e1:i*s+j=es.length*s+((i-es.length)*s+j):=by
    have:i=es.length+(i-es.length):=by omega
    have h3:i*s=es.length*s+(i-es.length)*s:=by rw[←Nat.add_mul,←this]
    omega
   rw[List.getElem?_append_right (by rw[h.len,e1];omega),h.len,show i*s+j-es.length*s=(i-es.length)*s+j by omega]at hx;exact h'.rep _ e j p x he hp hx
 ·rw[List.getElem?_append]at hx;split at hx
  ·exact h.one i x hx
  ·exact h'.one _ x hx
theorem Cells.Eu{s:Nat}(h:Cells P μ s es xs):jr P μ rows w s es xs:=⟨h.len,h.each,fun i e j p x he hp hx=>.pure (h.rep i e j p x he hp hx),h.one⟩
theorem jr.cH{rows:Nat→Nat→y7}{s:Nat}{es:List PV}{xs:List Value}(h:jr P μ rows w s es xs)(hw:∀i e j p g,es[i]?=some e→e.cells[j]?=some p→p.isRow=true→(rows i j).g=some g→w'.heap[g]?=w.heap[g]?):jr P μ rows w' s es xs:=⟨h.len,h.each,fun i e j p x he hp hx=>(h.rep i e j p x he hp hx).cH (fun _ _ h=>h) fun hr g hg=>hw i e j p g he hp hr hg,h.one⟩
theorem aV.Eu{id sz:Nat}{et:TypeId}(h:aV P μ φ w id sz et es){g:Nat}(hg:(φ id).g=some g):∃c:Array Value,w.heap[g]?=some (.cells c et (0,0))∧(φ id).cap*sz≤c.size∧es.length≤(φ id).cap∧jr P μ (φ id).row w sz es (c.toList.take (es.length*sz)):=by obtain⟨a1,a2,a3,a4,a5,a6,a7⟩:=h;rw[hg]at a7;obtain⟨c,c1,c2,c3,c4,c5⟩:=a7;have hle:es.length*sz≤c.size:=Nat.le_trans (Nat.mul_le_mul_right _ c3) c2;refine⟨c,c1,c2,c3,by simp;omega,a5,fun i e j p x he hp hx=>c4 i e j p x he hp (by simpa using(ek hx).2),fun i x hx=>?_⟩;have:=ek hx;exact c5 i x this.1 (by simpa using this.2)
theorem jr.nest{id g sz:Nat}{et:TypeId}{c:Array Value}(TK:(φ id).toy7=⟨some g,(φ id).cap,es.length,sz⟩)(kP:sz=aT P et)(eo:0<sz)(mZ:(φ id).cap≤maxLen)(hh:w.heap[g]?=some (.cells c et (0,0)))(hc:(φ id).cap*sz≤c.size)(hle:es.length≤(φ id).cap)(hC:jr P μ (φ id).row w sz es (c.toList.take (es.length*sz))):aV P μ φ w id sz et es:=by
 have e1:(φ id).g=some g:=by rw[TK]
 refine⟨by rw[TK],by rw[TK],kP,eo,hC.each,mZ,?_⟩;rw[e1];have xK:∀(i:Nat)e(j:Nat)p,es[i]?=some e→e.cells[j]?=some p→i*sz+j<es.length*sz:=fun i e j p hi hj=>Bf (List.getElem?_eq_some_iff.1 hi).1 (by rw[←hC.each i e hi];exact(List.getElem?_eq_some_iff.1 hj).1);refine⟨c,hh,hc,hle,fun i e j p x hi hj hx=>?_,fun i x hi hx=>?_⟩
 ·exact hC.rep i e j p x hi hj (by rw[List.getElem?_take_of_lt (xK i e j p hi hj)];simpa using hx)
 ·exact hC.one i x (by rw[List.getElem?_take_of_lt hi];simpa using hx)
end
section
variable {R:Type} {E:Env}
def Mp(src:Option Nat)(m:Mem):Mem:=match src with|some id2=>bg (bB id2 m) id2|none=>m
def kfS(src:Option Nat)(f:Fr):Fr:=match src with|some id2=>eP id2 f|none=>f
variable{src:Option Nat}
theorem QE{m:Mem}{j:Nat}{b:bK}(h:Mp src m j=some b):src≠some j∧∃b',m j=some b'∧b.rowAt=b'.rowAt:=by
 cases src with
 |none=>exact⟨by simp,b,h,rfl⟩
 |some id2=>obtain⟨h1,b',h2,rfl⟩:=eL h;exact⟨fun e=>h1 (by simpa using e.symm),b',h2,rW _ _⟩
theorem N6{t e ty:TypeId}{x:V}{id s:Nat}{es new:List PV}{rd:bn}{m:Mem}(hu:E.P.underlying t=some (.slice e))(hm:m id=some (.nest s e es))(hs:s=aT E.P e)(hz:(dm E e).isSome=true)(eo:0<aT E.P e)(Zy:0<CE E.P e)(ep:(es++new).length*CE E.P e≤aa)(vN:(∃id2,src=some id2∧id2≠id∧x=.os id2∧m id2=some (.nest s e new))∨(src=none∧eG m s x=some (new,rd))){G:Nat→Option (List PV)}{w0:bt}{μ:Ro}{φ:Nat→aG}{w:World}{f:Fr}{ρ:Nat→Value}{ys yx:Value}(hM:ay E.P G w0 μ φ m w)(hF:cm E.P μ φ m f ρ)(ha:ag E.P μ φ (.os id) ys)(hx:ag E.P μ φ x yx):∃w' y φ',(Builtin.append_ #[t,t] ty #[ys,yx]).run E.P w=.ok y w'∧ay E.P G w0 μ φ' (ao (bg (bB id (Mp src m)) id) id (.nest s e (es++new))) w'∧cm E.P μ φ' (ao (bg (bB id (Mp src m)) id) id (.nest s e (es++new))) (eP id (kfS src f)) ρ∧ag E.P μ φ' (.os id) y:=by
 obtain⟨zc,PE⟩:=Option.isSome_iff_exists.1 hz;obtain⟨i,zv,hi,YE,Vm,_,Gf,_,_,_⟩:=eD PE;have hN:aV E.P μ φ w id s e es:=hM.dH id _ hm;have Gh:(es++new).length=es.length+new.length:=by simp
 have je:0<s:=by omega
 obtain⟨Bu,qM⟩:∃Bu:Nat→Nat→y7,Bu=match src with|some id2=>(φ id2).row|none=>fun _ _=>default:=⟨_,rfl⟩
 obtain⟨os,WB,hC⟩:∃os,((ys=.slice none 0 0∧es.length=0∧os=[])∨∃(g cap:Nat)(c:Array Value),ys=.slice (some ⟨g,0,none⟩) es.length cap∧w.heap[g]?=some (.cells c e (0,0))∧cap*s≤c.size∧es.length≤cap∧cap≤maxLen∧os=c.toList.take (es.length*s))∧jr E.P μ (φ id).row w s es os:=by
  cases ha with
  |py hg=>have a7:=hN.2.2.2.2.2.2;rw[hg]at a7;rw[a7.1];exact⟨[],.inl ⟨rfl,rfl,rfl⟩,by simp,by simp,fun i e j p x he=>by simp at he,by simp⟩
  | @os _ g hg=>obtain⟨c,c1,c2,c3,c4⟩:=hN.Eu hg;exact⟨_,.inr ⟨g,(φ id).cap,c,by rw[hN.1],c1,c2,c3,hN.2.2.2.2.2.1,rfl⟩,c4⟩
 obtain⟨xs,Gg,hCx⟩:∃xs,((yx=.slice none 0 0∧new.length=0∧xs=[])∨∃(a:Addr)(cx:Nat),yx=.slice (some a) new.length cx∧xs.length=new.length*s∧(∀(j:Nat)v,xs[j]?=some v→w.cell? (a.add j)=some v)∧(∀v∈xs,v.oneCell'=true)∧new.length≤cx∧cx≤maxLen)∧jr E.P μ Bu w s new xs:=by
  rcases vN with⟨id2,rfl,cT,rfl,cO⟩|⟨rfl,yb⟩
  ·have hN2:aV E.P μ φ w id2 s e new:=hM.dH id2 _ cO;simp only at qM;subst qM;cases hx with
   |py hg=>have a7:=hN2.2.2.2.2.2.2;rw[hg]at a7;rw[a7.1];exact⟨[],.inl ⟨rfl,rfl,rfl⟩,by simp,by simp,fun i e j p x he=>by simp at he,by simp⟩
   | @os _ g hg=>
    obtain⟨c,c1,c2,c3,c4⟩:=hN2.Eu hg;refine⟨_,.inr ⟨⟨g,0,none⟩,(φ id2).cap,by rw[hN2.1],c4.len,fun j v hj=>?_,fun v hv=>?_,c3,hN2.2.2.2.2.2.1⟩,c4⟩
    ·rw[Addr.add_mid,dL c1];simpa using(ek hj).2
    ·obtain⟨j,hj⟩:=List.getElem?_of_mem hv;exact c4.one j v hj
  ·obtain⟨_,_,hsr⟩:=l6 yb;have:=hsr _ _ _ _ _ _ _ hM hx;cases this with
   |none hn=>subst hn;exact⟨[],.inl ⟨rfl,rfl,rfl⟩,by simp,by simp,fun i e j p x he=>by simp at he,by simp⟩
   | @some a cx xs hC Gg Vn Qo=>exact⟨xs,.inr ⟨a,cx,rfl,hC.len,Gg,fun u hu=>by obtain⟨j,hj⟩:=List.getElem?_of_mem hu;exact hC.one j u hj,Vn,Qo⟩,hC.Eu⟩
 obtain⟨w',y,hr,Qp⟩:=Bg (ty:=ty) hu hi YE (by rw[Gf,hs]) hs eo Zy (by rw[←Gh];exact ep) WB Gg;let kX:Nat→Nat→y7:=fun a b=>if a<es.length then(φ id).row a b else Bu (a-es.length) b;have ZA:jr E.P μ kX w s (es++new) (os++xs):=hC.append hCx (fun a b h=>by simp only[kX,h,if_true]) (fun a b h=>by simp only[kX,Nat.not_lt.2 h,if_false]);have iL:∀a b g,(bK.nest s e (es++new)).rowAt a b=true→(kX a b).g=some g→(a<es.length∧(bK.nest s e es).rowAt a b=true∧((φ id).row a b).g=some g)∨(es.length≤a∧∃id2,src=some id2∧id2≠id∧m id2=some (.nest s e new)∧(bK.nest s e new).rowAt (a-es.length) b=true∧((φ id2).row (a-es.length) b).g=some g):=by
  intro a b g zT hg;rcases iO zT with⟨_,_,_,e',s',Zw,fP,h',pN⟩|⟨_,_,_,_,_,_,fP,_⟩
  ·simp only[bK.nest.injEq]at fP;obtain⟨rfl,rfl,rfl⟩:=fP;by_cases bq:a<es.length
   ·rw[List.getElem?_append_left bq]at h';exact .inl ⟨bq,by rw[dy h' pN];rfl,by simpa[kX,bq]using hg⟩
   ·rw[List.getElem?_append_right (by omega)]at h';simp only[kX,bq,if_false]at hg;rcases vN with⟨id2,rfl,cT,rfl,cO⟩|⟨rfl,yb⟩
    ·simp only at qM;subst qM;exact .inr ⟨by omega,id2,rfl,cT,cO,by rw[dy h' pN];rfl,hg⟩
    ·exfalso;obtain⟨_,_,hsr⟩:=l6 yb;have h3:=hsr _ _ _ _ _ _ _ hM hx;cases h3 with
     |none hn=>subst hn;simp at h'
     | @some a2 cx xs2 hC2 agj Vn Qo=>
      have hj:(a-es.length)*s+b<xs2.length:=by rw[hC2.len];exact Bf (List.getElem?_eq_some_iff.1 h').1 (by rw[←hC2.each _ _ h'];exact(List.getElem?_eq_some_iff.1 pN).1)
      exact absurd (hC2.rep _ _ _ _ _ h' pN (List.getElem?_eq_getElem hj)).An (by simp[PV.isRow])
  ·cases fP
 have QF:∀j,(bg (bB id (Mp src m)) id j).isSome=true→j≠id:=fun j hj e=>by subst e;simp at hj
 have bO:∀j b',bg (bB id (Mp src m)) id j=some b'→j≠id∧src≠some j∧∃b,m j=some b∧b'.rowAt=b.rowAt:=by intro j b' hj;obtain⟨h1,b1,h2,rfl⟩:=eL hj;obtain⟨h3,b2,h4,h5⟩:=QE h2;exact⟨h1,h3,b2,h4,by rw[rW,h5]⟩
 have I2:∀{j b' b g},b'.rowAt=b.rowAt→bK.ee b' (φ j) g→bK.ee b (φ j) g:=fun h ho=>by unfold bK.ee at*;rw[←h];exact ho
 have hM0:ay E.P G w0 μ φ (Mp src m) w:=by
  cases src with
  |none=>exact hM
  |some id2=>exact hM.forget id2
 have ZT:cm E.P μ φ (Mp src m) (kfS src f) ρ:=by
  cases src with
  |none=>exact hF
  |some id2=>exact hF.forget id2
 have qX:=hM0.forget id;have zW:=ZT.forget id;have Ev:∀a b g,(bK.nest s e (es++new)).rowAt a b=true→(kX a b).g=some g→w0.heap.size≤g∧μ g=none∧g<w.heap.size∧∀j b',bg (bB id (Mp src m)) id j=some b'→¬b'.ee (φ j) g:=by
  intro a b g zT hg;rcases iL a b g zT hg with⟨_,h2,h3⟩|⟨_,id2,rfl,cT,cO,h2,h3⟩
  ·obtain⟨o1,o2⟩:=hM.own id _ g hm (.inr ⟨a,b,h2,h3⟩);refine⟨o1,o2 rfl,(hM.dH id _ hm).A8 (.inr ⟨a,b,h2,h3⟩),fun j b' hj ho=>?_⟩;obtain⟨k1,_,b2,k3,k4⟩:=bO j b' hj;exact k1 (hM.inj j id _ _ g k3 hm (I2 k4 ho) (.inr ⟨a,b,h2,h3⟩))
  ·obtain⟨o1,o2⟩:=hM.own id2 _ g cO (.inr ⟨_,b,h2,h3⟩);refine⟨o1,o2 rfl,(hM.dH id2 _ cO).A8 (.inr ⟨_,b,h2,h3⟩),fun j b' hj ho=>?_⟩;obtain⟨_,k1,b2,k3,k4⟩:=bO j b' hj;exact k1 (by rw[hM.inj j id2 _ _ g k3 cO (I2 k4 ho) (.inr ⟨_,b,h2,h3⟩)])
 have N7:∀a b a' b' g,(bK.nest s e (es++new)).rowAt a b=true→(kX a b).g=some g→(bK.nest s e (es++new)).rowAt a' b'=true→(kX a' b').g=some g→a'=a∧b'=b:=by
  intro a b a' b' g h1 h2 h3 h4;rcases iL a b g h1 h2 with⟨u1,u2,u3⟩|⟨u1,i2,u0,une,um,u2,u3⟩<;>rcases iL a' b' g h3 h4 with⟨v1,v2,v3⟩|⟨v1,i3,v0,vne,vm,v2,v3⟩
  ·exact(hM.apart id _ hm a b g u2 u3).2 a' b' v2 v3
  ·exact absurd (hM.inj i3 id _ _ g vm hm (.inr ⟨_,_,v2,v3⟩) (.inr ⟨_,_,u2,u3⟩)) vne
  ·exact absurd (hM.inj i2 id _ _ g um hm (.inr ⟨_,_,u2,u3⟩) (.inr ⟨_,_,v2,v3⟩)) une
  ·rw[u0]at v0;simp only[Option.some.injEq]at v0;subst v0;obtain⟨h5,h6⟩:=(hM.apart i2 _ um (a-es.length) b g u2 u3).2 (a'-es.length) b' v2 v3;exact⟨by omega,h6⟩
 have fin:∀(q:aG)(w1:World),q.row=kX→jy w0.heap.size w w1→(∀k o,μ k=some o→w1.heap[k]?=some o)→(∀j b' g,bg (bB id (Mp src m)) id j=some b'→b'.ee (φ j) g→w1.heap[g]?=w.heap[g]?)→(∀g,q.g=some g→w0.heap.size≤g∧μ g=none∧(∀j b',bg (bB id (Mp src m)) id j=some b'→¬b'.ee (φ j) g)∧∀a b,(bK.nest s e (es++new)).rowAt a b=true→(kX a b).g≠some g)→(aV E.P μ (fun k=>if k=id then q else φ k) w1 id s e (es++new))→ay E.P G w0 μ (fun k=>if k=id then q else φ k) (ao (bg (bB id (Mp src m)) id) id (.nest s e (es++new))) w1∧cm E.P μ (fun k=>if k=id then q else φ k) (ao (bg (bB id (Mp src m)) id) id (.nest s e (es++new))) (eP id (kfS src f)) ρ:=by
  intro q w1 hq ID mj hold rR jb;refine⟨qX.put (by simp) ID mj hold (fun g hg=>?_) (fun a b g zT hg=>?_) jb (by simp[bK.names]) (fun st h=>by cases h),zW.mono (fun _ _ h=>h) fun j hj=>⟨by simp[QF j hj],by rw[aq (QF j hj)];exact hj⟩⟩
  ·rcases hg with hg|⟨a,b,zT,hg⟩
   ·obtain⟨o1,o2,o3,_⟩:=rR g hg;exact⟨o1,o2,o3⟩
   ·rw[hq]at hg;obtain⟨o1,o2,_,o3⟩:=Ev a b g zT hg;exact⟨o1,o2,o3⟩
  ·rw[hq]at hg;refine⟨fun h=>(rR g h).2.2.2 a b zT hg,fun a' b' ad1 bW=>?_⟩;rw[hq]at bW;exact N7 a b a' b' g zT hg ad1 bW
 rcases Qp with⟨rfl,rfl,h1,h2⟩|⟨g',zU,c',rfl,b1,b2,b3,b4,b5,b6⟩
 ·have h1:es=[]:=List.eq_nil_of_length_eq_zero h1;have h2:new=[]:=List.eq_nil_of_length_eq_zero h2;obtain⟨k1,k2⟩:=fin {g:=none,cap:=0,len:=0,sz:=s,row:=kX} w' rfl (jy.refl _ _) hM.ro (fun _ _ _ _ _=>rfl) (fun g hg=>by cases hg) ⟨by simp[h1,h2],by simp,hs,je,by simp[h1,h2],by simp[maxLen],by simp[h1,h2]⟩;exact⟨w',_,_,hr,k1,k2,.py (by simp)⟩
 ·have hq:∀(w1:World),w1.heap[g']?=some (.cells c' e (0,0))→jr E.P μ kX w1 s (es++new) (os++xs)→aV E.P μ (fun k=>if k=id then({g:=some g',cap:=zU,len:=(es++new).length,sz:=s,row:=kX}:aG)else φ k) w1 id s e (es++new):=fun w1 hh hC1=>jr.nest (g:=g') (c:=c') (by simp) hs je (by simpa using b4) hh (by simpa using b2) (by simpa[Gh]using b3) (by rw[Gh,b5];simpa using hC1);have Vq:ag E.P μ (fun k=>if k=id then({g:=some g',cap:=zU,len:=(es++new).length,sz:=s,row:=kX}:aG)else φ k) (.os id) (.slice (some ⟨g',0,none⟩) (es.length+new.length) zU):=by have:=ag.os (P:=E.P) (μ:=μ) (φ:=fun k=>if k=id then({g:=some g',cap:=zU,len:=(es++new).length,sz:=s,row:=kX}:aG)else φ k) (id:=id) (g:=g') (by simp);simp only[if_true]at this;rw[←Gh];exact this
  rcases b6 with⟨TM,YF,b6,b7⟩|⟨rfl,rfl⟩
  ·have bW:(φ id).g=some g':=by
    have key:∀z,ag E.P μ φ (.os id) z→z=.slice (some ⟨g',0,none⟩) es.length TM→(φ id).g=some g':=by
     intro z hz he;cases hz with
     |py _=>cases he
     |os hg=>simp only[Value.slice.injEq,Option.some.injEq,Addr.mk.injEq]at he;rw[←he.1.1];exact hg
    exact key _ ha YF
   obtain⟨o1,o2⟩:=hM.own id _ g' hm (.inl bW);have Gd:∀a b,(bK.nest s e (es++new)).rowAt a b=true→(kX a b).g≠some g':=by
    intro a b zT hg;rcases iL a b g' zT hg with⟨u1,u2,u3⟩|⟨u1,i2,u0,une,um,u2,u3⟩
    ·exact(hM.apart id _ hm a b g' u2 u3).1 bW
    ·exact une (hM.inj i2 id _ _ g' um hm (.inr ⟨_,_,u2,u3⟩) (.inl bW))
   have zY:∀j b',bg (bB id (Mp src m)) id j=some b'→¬b'.ee (φ j) g':=fun j b' hj ho=>by obtain⟨k1,_,b2,k3,k4⟩:=bO j b' hj;exact k1 (hM.inj j id _ _ g' k3 hm (I2 k4 ho) (.inl bW))
   obtain⟨k1,k2⟩:=fin {g:=some g',cap:=zU,len:=(es++new).length,sz:=s,row:=kX} w' rfl (b6.mono o1) (fun k o hk=>by rw[b7 k (fun e=>by subst e;rw[o2 rfl]at hk;cases hk)];exact hM.ro k o hk) (fun j b' g hj ho=>b7 g fun e=>by subst e;exact zY j b' hj ho) (fun g hg=>by
     simp only[Option.some.injEq]at hg;subst hg;exact⟨o1,o2 rfl,zY,Gd⟩)
    (hq w' b1 (ZA.cH fun a e1 b p1 g he hp zT hg=>b7 g fun e=>by subst e;exact Gd a b (by rw[dy he hp];exact zT) hg))
   exact⟨w',_,_,hr,k1,k2,Vq⟩
  ·have hold:∀k,k<w.heap.size→(w.drew.alloc (.cells c' e)).heap[k]?=w.heap[k]?:=fun k hk=>jy.heap_alloc w.drew _ k hk;obtain⟨k1,k2⟩:=fin {g:=some w.heap.size,cap:=zU,len:=(es++new).length,sz:=s,row:=kX} (w.drew.alloc (.cells c' e)) rfl ((jy.refl _ w).drew.alloc hM.below.size _) (fun k o hk=>by
     have:=hM.ro k o hk;rw[hold k (Array.getElem?_eq_some_iff.1 this).1];exact this)
    (fun j b' g hj ho=>hold g ((qX.dH j b' hj).A8 ho)) (fun g hg=>by
     simp only[Option.some.injEq]at hg;subst hg;refine⟨hM.below.size,?_,fun j b' hj ho=>?_,fun a b zT hg=>?_⟩
     ·cases hq:μ w.heap.size with
      |none=>rfl
      |some o'=>have:=hM.ro _ _ hq;simp at this
     ·have:=(qX.dH j b' hj).A8 ho;omega
     ·have:=(Ev a b _ zT hg).2.2.1;omega)
    (hq _ b1 (ZA.cH fun a e1 b p1 g he hp zT hg=>hold g (Ev a b g (by rw[dy he hp];exact zT) hg).2.2.1))
   exact⟨_,_,_,hr,k1,k2,Vq⟩
theorem Bv{m:Mem}:∀{cs:List V}{j0:Nat}{ps:List PV},jx m j0 cs=some (ps,none)→∀m2:Mem,jx m2 j0 cs=some (ps,none)
 |[],j0,ps,h,m2=>h
 |v::r,j0,ps,h,m2=>by
  unfold jx at h;split at h
  ·rename_i heq;cases heq
  ·rename_i j id r' heq;split at h
   ·split at h
    ·simp at h
    ·cases h
   ·cases h
  ·rename_i j v' r' cT heq;simp only[List.cons.injEq]at heq;obtain⟨rfl,rfl⟩:=heq;unfold jx;split
   ·rename_i heq;cases heq
   ·rename_i j id r' heq;simp only[List.cons.injEq]at heq;exact absurd heq.1 (cT id)
   ·rename_i j v' r' cT heq;simp only[List.cons.injEq]at heq;obtain⟨rfl,rfl⟩:=heq;split at h
    ·rename_i p hp;split at h
     ·rename_i Zj t ht;simp only[Option.some.injEq,Prod.mk.injEq]at h;obtain⟨rfl,rfl⟩:=h;rw[Bv ht m2]
     ·cases h
    ·cases h
theorem tr{m m2:Mem}{j id2:Nat}(hm:m2 id2=m id2):∀{cs:List V}{j0:Nat}{ps:List PV},jx m j0 cs=some (ps,some (j,id2))→jx m2 j0 cs=some (ps,some (j,id2))
 |[],j0,ps,h=>by simp[jx]at h
 |v::r,j0,ps,h=>by
  unfold jx at h;split at h
  ·rename_i heq;cases heq
  ·rename_i j id r' heq;simp only[List.cons.injEq]at heq;obtain⟨rfl,rfl⟩:=heq;split at h
   ·rename_i s et es Mq;split at h
    ·rename_i Zj ht;simp only[Option.some.injEq,Prod.mk.injEq]at h;obtain⟨rfl,rfl,rfl⟩:=h;simp only[jx,hm,Mq,Bv ht m2]
    ·cases h
   ·cases h
  ·rename_i j v' r' cT heq;simp only[List.cons.injEq]at heq;obtain⟨rfl,rfl⟩:=heq;unfold jx;split
   ·rename_i heq;cases heq
   ·rename_i j id r' heq;simp only[List.cons.injEq]at heq;exact absurd heq.1 (cT id)
   ·rename_i j v' r' cT heq;simp only[List.cons.injEq]at heq;obtain⟨rfl,rfl⟩:=heq;split at h
    ·rename_i p hp;split at h
     ·rename_i Zj t ht;simp only[Option.some.injEq,Prod.mk.injEq]at h;obtain⟨rfl,rfl⟩:=h;rw[tr hm ht]
     ·cases h
    ·cases h
theorem I3{site:Nat}{o:Oper}{f f2:Fr}{m m2:Mem}{sp:Sp}(h:vI E site o f m=some sp)(hf:∀x∈o.op.operands,bA E f2 x=bA E f x)(hm:∀x∈(sp.info site).2,m2 x.2=m x.2):vI E site o f2 m2=some sp:=by
 obtain⟨dst,op,type,pos,after,guard⟩:=o;unfold vI at h⊢;cases op;case store t a x=>
  simp only at h⊢;rw[hf a (by simp[Op.operands]),hf x (by simp[Op.operands])];split at h
  ·rename_i id i off ha;split at h
   ·rename_i s et es Mq;split at h
    ·rename_i cs hc;split at h
     ·rename_i ps j id2 ht;split at h
      ·rename_i iQ;simp only[Option.some.injEq]at h;subst h;have h1:m2 id=m id:=hm (true,id) (by simp[Sp.info]);have h2:m2 id2=m id2:=hm (true,id2) (by simp[Sp.info]);simp only[ha,h1,Mq,hc,tr h2 ht,iQ,if_true]
      ·cases h
     ·cases h
    ·cases h
   ·cases h
  ·cases h
 case buildSlice t len parts=>
  simp only at h⊢;have N4:(parts.toList.map fun(x:Nat×Operand)=>(x.1,bA E f2 x.2))=parts.toList.map fun(x:Nat×Operand)=>(x.1,bA E f x.2):=List.map_congr_left fun x hx=>by rw[hf x.2 (by simp only[Op.operands,List.mem_toArray,List.mem_map];exact⟨x,hx,rfl⟩)]
  rw[N4];split at h
  ·rename_i e v hu hp;split at h
   ·rename_i cs hc;split at h
    ·rename_i ps j id2 ht hs;split at h
     ·rename_i p CL;split at h
      ·rename_i iQ;simp only[Option.some.injEq]at h;subst h;have h1:m2 site=m site:=hm (true,site) (by simp[Sp.info]);have h2:m2 id2=m id2:=hm (true,id2) (by simp[Sp.info]);simp only[hu,hp,hc,tr h2 ht,h1,hs,CL,iQ,if_true]
      ·cases h
     ·cases h
    ·cases h
   ·cases h
  ·cases h
 case call c=>
  obtain⟨callee,args,argTypes⟩:=c;simp only at h⊢;have jC:args.toList.map (bA E f2)=args.toList.map (bA E f):=List.map_congr_left fun x hx=>hf x (by simp only[Op.operands,Call.operands];cases callee<;>simp[Array.mem_toList_iff.1 hx]);rw[jC];split at h
  ·rename_i id x t t' ha WR;split at h
   ·rename_i e s et es hu Mq;split at h
    ·rename_i iQ;have plain:∀{new:List PV}{rd:bn},eG m s x=some (new,rd)→x.has id=false→sp=.app id s et es new none rd→eG m2 s x=some (new,rd):=by intro new rd yb WS je;subst je;obtain⟨e1,_,_⟩:=l6 yb;exact e1 m2 fun y hy=>hm y (by simp[Sp.info,hy])
     split at h
     ·rename_i nB;split at h
      ·rename_i s' AM new Tg;split at h
       ·rename_i CI;simp only[Option.some.injEq]at h;subst h;have h1:m2 id=m id:=hm (true,id) (by simp[Sp.info]);have h2:m2 nB=m nB:=hm (true,nB) (by simp[Sp.info]);simp only[ha,WR,hu,h1,Mq,iQ,if_true,h2,Tg,CI]
       ·cases h
      ·rename_i hnn;split at h
       ·rename_i new rd yb;split at h
        ·cases h
        ·rename_i WS;simp only[Option.some.injEq]at h;have QG:=plain yb (by simpa using WS) h.symm;subst h;have h1:m2 id=m id:=hm (true,id) (by simp[Sp.info]);simp only[ha,WR,hu,h1,Mq,iQ,if_true,QG];split
         ·rename_i s' AM agk cO;exfalso;simp only[eG,cO]at QG;cases QG
         ·rw[if_neg WS]
       ·cases h
     ·rename_i agl;split at h
      ·rename_i new rd yb;split at h
       ·cases h
       ·rename_i WS;simp only[Option.some.injEq]at h;have QG:=plain yb (by simpa using WS) h.symm;subst h;have h1:m2 id=m id:=hm (true,id) (by simp[Sp.info]);simp only[ha,WR,hu,h1,Mq,iQ,if_true,QG];try rw[if_neg WS]
      ·cases h
    ·cases h
   ·cases h
  ·cases h
 case mapUpdate t x key v=>
  simp only at h⊢;rw[hf x (by simp[Op.operands]),hf key (by simp[Op.operands]),hf v (by simp[Op.operands])];split at h
  ·rename_i kt et id id2 hu hx hv;split at h
   ·rename_i sQ e es s e' rs kp h1 h2 hk;split at h
    ·rename_i iQ;simp only[Option.some.injEq]at h;subst h;have h3:m2 id=m id:=hm (true,id) (by simp[Sp.info]);have h4:m2 id2=m id2:=hm (true,id2) (by simp[Sp.info]);simp only[hu,hx,hv,h3,h4,h1,h2,hk,iQ,if_true]
    ·cases h
   ·cases h
  ·cases h
 all_goals (cases h)
end
end Go.Ab
