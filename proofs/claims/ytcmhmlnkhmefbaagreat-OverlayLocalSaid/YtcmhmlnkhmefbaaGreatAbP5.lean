import Derived.Test.YtcmhmlnkhmefbaaGreatAbP4
import Derived.RangeFuncRecord
import Derived.Laws.IdiomRangeMap
set_option linter.unusedVariables false
namespace Go.Ab
section
variable {P:Program} {G:Nat→Option (List PV)} {w0:bA} {μ:Ro} {φ:Nat→aG} {m:Mem} {w:World}
theorem ay.Z7(hM:ay P G w0 μ φ m w){g:Nat}(hB:w0.heap.size≤g)(Z8:∀id b,m id=some b→¬b.eh (φ id) g):ay P G w0 (nB μ w (some g)) φ m w:=by
 have mono:=j3 hM (some g);refine⟨hM.below,fun b o hb=>?_,fun g' cs hg=>(hM.aI g' cs hg).mono mono,fun j c hj=>(hM.dL j c hj).cJ (fun _ _=>rfl) rfl mono (fun _ _=>rfl),fun j c g' hj bY=>?_,hM.inj,hM.apart,hM.fl,fun b o hb bt=>?_,fun b o hb=>mono b o (hM.dG b o hb),hM.zg⟩
 ·unfold nB at hb;split at hb
  ·exact hb
  ·exact hM.ro b o hb
 ·obtain⟨h1,h2⟩:=hM.own j c g' hj bY;refine⟨h1,fun Bg=>?_⟩;unfold nB;split
  ·rename_i he;simp only[Option.some.injEq]at he;subst he;exact absurd bY (Z8 j c hj)
  ·exact h2 Bg
 ·unfold nB at hb;split at hb
  ·rename_i he;simp only[Option.some.injEq]at he;omega
  ·exact hM.base b o hb bt
theorem I4(w:World)(g:Nat)(o:Obj):jB g w (w.putObj g o):=⟨⟨rfl,rfl,rfl,by simp,fun k hk=>World.putObj_heap_other (by omega)⟩,fun _=>Nat.le_refl _⟩
theorem wZ{A:Type}(f:A→Nat):∀{l:List A}{i:Nat}{e:A},l[i]?=some e→(∀(j:Nat)x,l[j]?=some x→f x=f e→j=i)→l.filter (fun x=> !(f x==f e))=l.eraseIdx i
 |[],i,e,h,_=>by simp at h
 |y::l,0,e,h,inj=>by simp only[List.getElem?_cons_zero,Option.some.injEq]at h;subst h;simp only[List.filter_cons,BEq.rfl,Bool.not_true,Bool.false_eq_true,if_false,List.eraseIdx_cons_zero];rw[List.filter_eq_self];intro x hx;obtain⟨j,hj⟩:=List.mem_iff_getElem?.1 hx;simp only[Bool.not_eq_true',beq_eq_false_iff_ne];intro e;have:=inj (j+1) x (by simpa using hj) e;omega
 |y::l,i+1,e,h,inj=>by
  have h':l[i]?=some e:=by simpa using h
  have cR:¬f y=f e:=fun e'=>by have:=inj 0 y rfl e';omega
  have hb:(f y==f e)=false:=by simpa using cR
  simp only[List.filter_cons,hb,Bool.not_false,if_true,List.eraseIdx_cons_succ];rw[wZ f h' (fun j x hj e'=>by have:=inj (j+1) x (by simpa using hj) e';omega)]
theorem Dz(en:Array MapEntry):jC en #[]=en.toList:=by unfold jC;rw[List.filter_eq_self];intro x _;simp
variable{en:Array MapEntry}{clock:Nat}{seen:Array Nat}{e:MapEntry}
theorem Bu(hb:jZ en clock){i:Nat}(hi:(jC en seen)[i]?=some e):jC en (seen.push e.born)=(jC en seen).eraseIdx i:=by
 have h1:jC en (seen.push e.born)=(jC en seen).filter (fun x=> !(x.born==e.born)):=by unfold jC;rw[List.filter_filter];congr 1;funext x;simp only[Array.contains_push,Bool.not_or];rw[Bool.and_comm]
 rw[h1];refine wZ (fun x=>x.born) hi fun j x hj e'=>?_;have Tq:(jC en seen).Pairwise fun a b=>a.born≠b.born:=by
  unfold jC;refine List.Pairwise.filter _ ?_;rw[List.pairwise_iff_getElem];intro a b ha fR qQ he;have h2:en[a]?=some en.toList[a]:=by rw[←Array.getElem?_toList];exact List.getElem?_eq_getElem ha
  have h3:en[b]?=some en.toList[b]:=by rw[←Array.getElem?_toList];exact List.getElem?_eq_getElem fR
  have:=(hb b _ h3).2 a _ h2 he;omega
 have xR:j<(jC en seen).length:=(List.getElem?_eq_some_iff.1 hj).1;have P1:i<(jC en seen).length:=(List.getElem?_eq_some_iff.1 hi).1;rw[List.getElem?_eq_getElem xR]at hj;rw[List.getElem?_eq_getElem P1]at hi;simp only[Option.some.injEq]at hj hi;rw[List.pairwise_iff_getElem]at Tq;rcases Nat.lt_trichotomy j i with h|h|h
 ·exact absurd (by rw[hj,hi];exact e') (Tq j i xR P1 h)
 ·exact h
 ·exact absurd (by rw[hj,hi];exact e'.symm) (Tq i j P1 xR h)
theorem Oc(h:e∈jC en seen):∃i:Nat,en[i]?=some e:=by unfold jC at h;have:=(List.mem_filter.1 h).1;obtain⟨i,hi⟩:=List.mem_iff_getElem?.1 this;exact⟨i,by rw[←Array.getElem?_toList];exact hi⟩
theorem Od{w:World}{g mg:Nat}(hg:w.heap[g]?=some (.mapIter (some mg) clock seen clock))(hm:w.heap[mg]?=some (.map en clock))(hb:jZ en clock)(ty:TypeId):(jC en seen=[]∧(Instr.next (.pointer (some ⟨g,0,none⟩)) false ty).run P w=.ok (.tuple #[.bool false]) w)∨∃(j:Nat)(e:MapEntry)(w1:World),(jC en seen)[j]?=some e∧(w1=w∨w1=w.drew)∧(Instr.next (.pointer (some ⟨g,0,none⟩)) false ty).run P w=.ok (.tuple #[.bool true,e.key,e.val]) (w1.putObj g (.mapIter (some mg) clock (seen.push e.born) clock)):=by
 have hold:∀x∈en.toList,x.born<clock:=fun x hx=>by obtain⟨i,hi⟩:=List.mem_iff_getElem?.1 hx;exact(hb i x (by rw[←Array.getElem?_toList];exact hi)).1
 simp only[Instr.next,getObj,Sem.run_bind,Sem.run,hg,hm,Result.andThen,next_test_false seen en clock clock hold (Nat.le_refl _),Bool.false_eq_true,if_false];have hL:(Array.filter (fun e=> !seen.contains e.born) en).toList=jC en seen:=by simp[jC]
 have bP:∀x∈(Array.filter (fun e=> !seen.contains e.born) en).toList,x.born<clock:=fun x hx=>hold x (by simp at hx⊢;exact hx.1);generalize Array.filter (fun e=> !seen.contains e.born) en=L at bP hL⊢;have e1:L.filter (fun x=>decide (x.born<clock))=L:=Array.filter_eq_self.2 (fun x hx=>by simpa using bP x (by simpa using hx));have e2:L.filter (fun x=>decide (x.born≥clock))= #[]:=by rw[Array.filter_eq_empty_iff];intro x hx;have:=bP x (by simpa using hx);simp;omega
 simp only[e1,e2,Array.append_empty];rw[←hL];by_cases h0:L.size=0
 ·left;have:L= #[]:=Array.eq_empty_of_size_eq_zero h0;subst this;refine⟨rfl,?_⟩;simp[choose,Sem.run,Question.forced]
 ·right;have cR:L.isEmpty=false:=by simp[Array.isEmpty,h0]
  simp only[cR,Bool.false_eq_true,if_false,Array.empty_append,Array.size_map];have Y7:∃(j:Nat)(w1:World),j<L.size∧(w1=w∨w1=w.drew)∧(choose (Question.mapNext L.size)).run P w=.ok j w1:=by
   by_cases hf:L.size≤1
   ·exact⟨0,w,by omega,.inl rfl,by simp[choose,Sem.run,Question.forced,hf]⟩
   ·exact⟨_,w.drew,Nat.mod_lt _ (by omega),.inr rfl,by simp only[choose,Sem.run,Question.forced,decide_eq_true_eq,hf,if_false,Question.cut];rfl⟩
  obtain⟨j,w1,hj,N4,l6⟩:=Y7;refine⟨j,L[j],w1,by rw[Array.getElem?_toList,Array.getElem?_eq_getElem hj],N4,?_⟩;have hg1:w1.heap[g]?=some (.mapIter (some mg) clock seen clock):=by rcases N4 with rfl|rfl<;>exact hg
  have q7:(setObj g (.mapIter (some mg) clock (seen.push L[j].born) clock)).run P w1=.ok () (w1.putObj g (.mapIter (some mg) clock (seen.push L[j].born) clock)):=by simp only[setObj,Sem.run,hg1];rfl
  simp only[l6,Array.getElem?_map,Array.getElem?_eq_getElem hj,Option.map_some,Sem.run_bind,q7,Result.andThen];rfl
theorem I5{w:World}{g mg:Nat}{i:Nat}(hg:w.heap[g]?=some (.mapIter (some mg) clock seen clock))(hm:w.heap[mg]?=some (.map en clock))(hb:jZ en clock)(hi:en[i]?=some e)(hs:seen.back? =some e.born):(Instr.entry (.pointer (some ⟨g,0,none⟩))).run P w=.ok (.tuple #[e.key,e.val]) w:=by
 have hf:en.find? (·.born==e.born)=some e:=by
  rw[←Array.find?_toList];refine find_born e en.toList ?_ (by rw[Array.mem_toList_iff];exact Array.mem_of_getElem? hi);rw[List.Nodup,List.pairwise_map,List.pairwise_iff_getElem];intro a b ha fR qQ he;have h2:en[a]?=some en.toList[a]:=by rw[←Array.getElem?_toList];exact List.getElem?_eq_getElem ha
  have h3:en[b]?=some en.toList[b]:=by rw[←Array.getElem?_toList];exact List.getElem?_eq_getElem fR
  have:=(hb b _ h3).2 a _ h2 he;omega
 simp only[Instr.entry,getObj,Sem.run_bind,Sem.run,hg,hm,Result.andThen,hs,bne_self_eq_false,Bool.false_eq_true,if_false,hf];rfl
end
section
variable {R:Type} {E:Env}
variable{g:Nat→Option R}{r:R}
theorem I6{n:Nat}(h:pP n g=some r)(i:Nat)(hi:i<n):g i=some r:=by
 unfold pP at h;split at h
 ·rename_i hh;simp only[Option.some.injEq]at h;subst h;exact Classical.choose_spec hh i hi
 ·cases h
theorem Bv{n:Nat}(h0:0<n)(h:∀i,i<n→g i=some r):pP n g=some r:=by unfold pP;have hh:∃r,∀i,i<n→g i=some r:=⟨r,h⟩;rw[dif_pos hh];have:=Classical.choose_spec hh 0 h0;rw[h 0 h0]at this;exact this.symm
variable{k:V→Fr→Mem→Option R}
theorem Oe{site:Nat}{t:TypeId}{x:V}{f:Fr}{m:Mem}(h:II E site t x f m k=some r):∃f' m',k (.it site) f' m'=some r∧(m' site).isSome=true∧∀(G:Nat→Option (List PV))(w0:bA)(μ:Ro)(φ:Nat→aG)(w:World)(ρ:Nat→Value)(y:Value),ay E.P G w0 μ φ m w→cm E.P μ φ m f ρ→ai E.P μ φ x y→∃w' y' μ' φ',(Instr.range t y).run E.P w=.ok y' w'∧ay E.P G w0 μ' φ' m' w'∧cm E.P μ' φ' m' f' ρ∧ai E.P μ' φ' (.it site) y':=by
 unfold II at h;split at h
 ·rename_i kt et hu;split at h
  ·rename_i id;split at h
   ·rename_i sU es hm;split at h
    ·obtain⟨f',m',hn,jE,uQ,vW,tl⟩:=cK h;refine⟨f',m',jE,by simp[uQ],fun G w0 μ φ w ρ y hM hF hx=>?_⟩;obtain⟨g,en,clock,kk,hg,hh,hs,yt,Bf,sJ,hv⟩:=hM.dL id _ hm;obtain⟨o1,o2⟩:=hM.own id _ g hm (.inl hg);cases hx with
     |om bY=>
      rw[hg]at bY;simp only[Option.some.injEq]at bY;subst bY;have q6:=hM.forget id;have Y4:=q6.Z7 o1 (fun j b hj e=>by obtain⟨cR,b',fR,rfl⟩:=eO hj;exact cR (hM.inj j id b' _ g fR hm (fF.1 e) (.inl hg)));have DA:=j3 q6 (some g);have Ah:cm E.P (nB μ w (some g)) φ (bh (bE id m) id) (eS id f) ρ:=(hF.forget id).mono DA fun j hj=>⟨rfl,hj⟩;have jd:∀φ':Nat→aG,φ' site=(CH (some w.heap.size) 0 0 0)→(∀j,(bL.iter t es none).names j=true→φ' j=φ j)→fS E.P (nB μ w (some g)) φ' (w.alloc (.mapIter (some g) clock #[] clock)) site (.iter t es none):=fun φ' hp _=>by
       refine⟨w.heap.size,g,en,clock,#[],by rw[hp],fG w _,by simp[nB,hh],sJ,(by rw[Dz,Array.length_toList,hs]),fun i k v e h1 h2=>?_,fun k v h=>by cases h⟩;have N9:en[i]?=some e:=by rw[←Array.getElem?_toList,←Dz en];exact h2
       exact⟨(hv i k v e h1 N9).1.mono DA,(hv i k v e h1 N9).2.mono DA⟩
      obtain⟨φ',a1,a2,a3⟩:=tl E.P G w0 _ φ w (w.alloc (.mapIter (some g) clock #[] clock)) ρ (CH (some w.heap.size) 0 0 0) Y4 Ah (jD.alloc (o:=.mapIter (some g) clock #[] clock) Y4 rfl jd (by simp[bL.names]));exact⟨_,_,_,φ',run_range_map w t kt et g en clock hu hh,a2,a3,.it (by rw[a1])⟩
    ·cases h
   ·cases h
  ·cases h
 ·cases h
theorem w7{A:Type}{l:List A}{i j:Nat}{x:A}(h:(l.eraseIdx i)[j]?=some x):l[if j<i then j else j+1]?=some x:=by
 rw[List.getElem?_eraseIdx]at h;split at h
 ·rename_i bt;rw[if_pos bt];exact h
 ·rename_i bt;rw[if_neg bt];exact h
theorem QP{x:V}{f:Fr}{m:Mem}(h:Qn E x f m k=some r)(G:Nat→Option (List PV))(w0:bA)(μ:Ro)(φ:Nat→aG)(w:World)(y:Value)(ty:TypeId)(hM:ay E.P G w0 μ φ m w)(hx:ai E.P μ φ x y):∃v m' y' w',k v f m'=some r∧(∀id,v.has id=false)∧iT m m'∧(Instr.next y false ty).run E.P w=.ok y' w'∧ay E.P G w0 μ φ m' w'∧ai E.P μ φ v y':=by
 unfold Qn at h;split at h
 ·rename_i id;split at h
  ·rename_i t es cur hm;split at h
   ·rename_i kt et hu;obtain⟨g,mg,en,clock,seen,hg,hh,Bg,sJ,yp,hv,_⟩:=hM.dL id _ hm;obtain⟨o1,o2⟩:=hM.own id _ g hm (.inl hg);cases hx with
    |it bY=>
     rw[hg]at bY;simp only[Option.some.injEq]at bY;subst bY;have hmg:=hM.ro _ _ Bg;rcases Od (P:=E.P) hh hmg sJ ty with⟨T8,l6⟩|⟨j,e,w1,hj,Mz,l6⟩
     ·have:es=[]:=by rw[T8]at yp;exact List.eq_nil_of_length_eq_zero yp.symm
      subst this;simp only[List.isEmpty_nil,if_true]at h;refine⟨_,m,_,w,h,by simp[V.has,cr],iT.refl m,l6,hM,.bl rfl fun i p x hp hx=>?_⟩;cases i with
      |zero=>simp at hp hx;subst hp;subst hx;exact .pv .bool
      |succ i=>simp at hp
     ·have xR:j<(jC en seen).length:=(List.getElem?_eq_some_iff.1 hj).1;have cR:¬es.isEmpty=true:=by
       have eu:0<es.length:=by omega
       intro e';rw[List.isEmpty_iff]at e';rw[e']at eu;exact absurd eu (Nat.lt_irrefl 0)
      rw[if_neg cR]at h;have h:=I6 h j (by omega);obtain⟨e0,FY,h⟩:=Option.bind_eq_some_iff.1 h;obtain⟨qa,_,ha,ra,_⟩:=jQ h;obtain⟨qb,_,hb,rb,_⟩:=jQ ha;obtain⟨rk,rv⟩:=hv j e0.1 e0.2 e FY hj;refine⟨_,_,_,_,hb,by simp[V.has,cr],.set,l6,?_,.bl rfl fun i p x hp hx=>?_⟩
      ·have q6:ay E.P G w0 μ φ m w1:=by rcases Mz with rfl|rfl;exact hM;exact hM.drew
       have bt:g<w1.heap.size:=by have:g<w.heap.size:=(Array.getElem?_eq_some_iff.1 hh).1;rcases Mz with rfl|rfl<;>exact this
       refine q6.write hm rfl hg (I4 w1 g _) World.putObj_size (fun k hk=>World.putObj_heap_other hk) ?_ rfl (by simp[bL.names]);refine⟨g,mg,en,clock,seen.push e.born,hg,World.putObj_heap_same bt,Bg,sJ,?_,fun i k v e' h1 h2=>?_,fun k v hc=>?_⟩
       ·rw[Bu sJ hj,List.length_eraseIdx,List.length_eraseIdx,yp]
       ·rw[Bu sJ hj]at h2;exact hv _ k v e' (w7 h1) (w7 h2)
       ·simp only[Option.some.injEq,Prod.mk.injEq]at hc;obtain⟨rfl,rfl⟩:=hc;obtain⟨i,hi⟩:=Oc (List.mem_of_getElem? hj);exact⟨i,e,hi,by simp,ra _ _ _ rk,rb _ _ _ rv⟩
      ·match i with
       |0=>simp at hp hx;subst hp;subst hx;exact .pv .bool
       |1=>simp at hp hx;subst hp;subst hx;exact .pv (ra _ _ _ rk)
       |2=>simp at hp hx;subst hp;subst hx;exact .pv (rb _ _ _ rv)
       |i+3=>simp at hp
   ·cases h
  ·cases h
 ·cases h
theorem Of{x:V}{m:Mem}{k:V→Mem→Option R}(h:IJ x m k=some r)(P:Program)(G:Nat→Option (List PV))(w0:bA)(μ:Ro)(φ:Nat→aG)(w:World)(y:Value)(hM:ay P G w0 μ φ m w)(hx:ai P μ φ x y):∃v m' y',k v m'=some r∧(∀id,v.has id=false)∧iT m m'∧(Instr.entry y).run P w=.ok y' w∧ay P G w0 μ φ m' w∧ai P μ φ v y':=by
 unfold IJ at h;split at h
 ·rename_i id;split at h
  ·rename_i t es a b hm;obtain⟨g,mg,en,clock,seen,hg,hh,Bg,sJ,yp,hv,ZM⟩:=hM.dL id _ hm;obtain⟨i,e,hi,hs,ra,rb⟩:=ZM a b rfl;cases hx with
   |it bY=>
    rw[hg]at bY;simp only[Option.some.injEq]at bY;subst bY;refine⟨_,_,_,h,by simp[V.has,cr],.set,I5 hh (hM.ro _ _ Bg) sJ hi hs,?_,.bl rfl fun i p x hp hx=>?_⟩
    ·exact hM.write hm rfl hg (jB.refl _ _) rfl (fun _ _=>rfl) ⟨g,mg,en,clock,seen,hg,hh,Bg,sJ,yp,hv,fun k v h=>by cases h⟩ rfl (by simp[bL.names])
    match i with
    |0=>simp at hp hx;subst hp;subst hx;exact .pv ra
    |1=>simp at hp hx;subst hp;subst hx;exact .pv rb
    |i+2=>simp at hp
  ·cases h
 ·cases h
end
end Go.Ab
set_option linter.unusedVariables false
namespace Go.Ab
section
variable {P:Program} {G:Nat→Option (List PV)} {w0:bA} {μ μ':Ro} {φ φ':Nat→aG} {m m':Mem} {w w':World}
variable{id j:Nat}{b:bL}
theorem gz(h:eV id m j=some b):∃b',m j=some b'∧b=dR id b':=by
 unfold eV at h;cases hm:m j with
 |none=>rw[hm]at h;cases h
 |some b'=>rw[hm]at h;simp only[Option.some.injEq]at h;exact⟨b',rfl,h.symm⟩
theorem mr:(eV id m j).isSome=(m j).isSome:=by unfold eV;cases m j<;>rfl
theorem zr(id:Nat)(b:bL):(dR id b).rowAt=b.rowAt:=by cases b<;>rfl
theorem oG{p:aG}{g:Nat}:(dR id b).eh p g↔b.eh p g:=by unfold bL.eh;rw[zr]
theorem tz{p:aG}:(dR id b).apart p↔b.apart p:=by unfold bL.apart;rw[zr]
theorem vY(id:Nat)(b:bL):(dR id b).iA=b.iA:=by cases b<;>rfl
theorem I7{cs:List V}(h:cr j (cs.map (l0 id))=true):cr j cs=true:=by obtain⟨v,hv,hh⟩:=cV.1 h;obtain⟨u,hu,rfl⟩:=List.mem_map.1 hv;exact bN hu (uJ hh).1
theorem fS.vw{id j:Nat}{b:bL}(h:fS P μ φ w j b):fS P μ φ w j (dR id b):=by
 cases b with
 |box cs=>obtain⟨g,c,T,hg,hh,hs,hv,h1,yp⟩:=h;refine⟨g,c,T,hg,hh,by simpa using hs,fun i v x hi hx=>?_,h1,by simpa using yp⟩;simp only[List.getElem?_map,Option.map_eq_some_iff]at hi;obtain⟨u,hu,rfl⟩:=hi;exact(hv i u x hu hx).vw id
 |_=>exact h
theorem ay.sg(hM:ay P G w0 μ φ m w)(id:Nat):ay P G w0 μ φ (eV id m) w:=by
 refine⟨hM.below,hM.ro,hM.aI,fun j b h=>?_,fun j b g h hg=>?_,fun i j b1 b2 g h1 h2 g1 g2=>?_,fun j b h=>?_,fun j cs i h hh=>?_,hM.base,hM.dG,fun j st h=>?_⟩
 ·obtain⟨b',hb,rfl⟩:=gz h;exact(hM.dL j b' hb).vw
 ·obtain⟨b',hb,rfl⟩:=gz h;rw[vY];exact hM.own j b' g hb (oG.1 hg)
 ·obtain⟨ZO,To,rfl⟩:=gz h1;obtain⟨ZP,pC,rfl⟩:=gz h2;exact hM.inj i j ZO ZP g To pC (oG.1 g1) (oG.1 g2)
 ·obtain⟨b',hb,rfl⟩:=gz h;exact tz.2 (hM.apart j b' hb)
 ·obtain⟨b',hb,e⟩:=gz h;cases b' with
  |box Dm=>simp only[dR,bL.box.injEq]at e;subst e;rw[mr];exact hM.fl j Dm i hb (I7 hh)
  |_=>simp[dR]at e
 ·obtain⟨b',hb,e⟩:=gz h;cases b' with
  |loop st'=>simp only[dR,bL.loop.injEq]at e;subst e;exact hM.zg j st hb
  |_=>simp[dR]at e
variable{ρ:Nat→Value}
theorem cm.sg{f:Fr}(h:cm P μ φ m f ρ)(id:Nat):cm P μ φ (eV id m) (gm id f) ρ:=⟨fun t=>(h.fr t).vw id,fun t j hj=>by rw[mr];exact h.live t j (uJ hj).1⟩
theorem ay.km:∀{kl:Kl}{m:Mem},ay P G w0 μ φ m w→ay P G w0 μ φ (Go.Ab.km kl m) w
 |[],_,h=>h
 |(true,id)::r,m,h=>(ay.km (kl:=r) (m:=bh (bE id m) id) (h.forget id):)
 |(false,id)::r,m,h=>(ay.km (kl:=r) (m:=eV id m) (h.sg id):)
theorem cm.km{ρ:Nat→Value}:∀{kl:Kl}{m:Mem}{f:Fr},cm P μ φ m f ρ→cm P μ φ (Go.Ab.km kl m) (kf kl f) ρ
 |[],_,_,h=>h
 |(true,id)::r,m,f,h=>(cm.km (kl:=r) (m:=bh (bE id m) id) (f:=eS id f) (h.forget id):)
 |(false,id)::r,m,f,h=>(cm.km (kl:=r) (m:=eV id m) (f:=gm id f) (h.sg id):)
theorem ay.MA(hM:ay P G w0 μ φ m w)(nw:Nat→Nat→Nat)(hblk:∀j b',m' j=some b'→fS P μ φ' w j b')(vV:∀j b' g,m' j=some b'→b'.eh (φ' j) g→∃k b,m k=some b∧b.eh (φ k) g∧(b'.iA=true→b.iA=true)∧j=nw g k)(Bk:∀j b',m' j=some b'→b'.apart (φ' j))(zf:∀j cs id,m' j=some (.box cs)→cr id cs=true→(m' id).isSome=true)(ad4:∀j st,m' j=some (.loop st)→m j=some (.loop st)∧(φ' j).g=(φ j).g):ay P G w0 μ φ' m' w:=by
 refine⟨hM.below,hM.ro,hM.aI,hblk,fun j b' g h hg=>?_,fun i j b1 b2 g h1 h2 g1 g2=>?_,Bk,zf,hM.base,hM.dG,fun j st h=>?_⟩
 ·obtain⟨k,b,hk,ho,Bg,_⟩:=vV j b' g h hg;obtain⟨o1,o2⟩:=hM.own k b g hk ho;exact⟨o1,fun h=>o2 (Bg h)⟩
 ·obtain⟨k1,c1,Og,Y8,_,e1⟩:=vV i b1 g h1 g1;obtain⟨k2,c2,T9,ho2,_,e2⟩:=vV j b2 g h2 g2;rw[e1,e2,hM.inj k1 k2 c1 c2 g Og T9 Y8 ho2]
 ·obtain⟨h1,h2⟩:=ad4 j st h;obtain⟨g,rc,r1,r2,r3⟩:=hM.zg j st h1;exact⟨g,rc,by rw[h2];exact r1,r2,r3⟩
def jh(p:aG)(i off:Nat)(r:zh):aG:={p with row:=fun a b=>if a=i∧b=off then r else p.row a b}
theorem fM(p:aG)(i off:Nat)(r:zh):(jh p i off r).row i off=r:=by simp[jh]
theorem fT(p:aG){i off a b:Nat}(r:zh)(h:¬(a=i∧b=off)):(jh p i off r).row a b=p.row a b:=by simp[jh,h]
theorem fS.MB(h:fS P μ φ w j (dR id b))(hj:j≠id)(h0:(φ' id).tozh=(φ id).tozh)(hφ:∀k,k≠id→φ' k=φ k):fS P μ φ' w j (dR id b):=by
 have e:=hφ j hj;cases b with
 |box cs=>
  obtain⟨g,c,T,hg,hh,hs,hv,h1,yp⟩:=h;refine⟨g,c,T,by rw[e];exact hg,hh,hs,fun i v x hi hx=>?_,h1,by rw[e];exact yp⟩;refine(hv i v x hi hx).Vr (fun _ _ h=>h) fun k hk=>?_;by_cases Ua:k=id
  ·subst Ua;refine⟨h0,fun h2=>?_⟩;simp only[List.getElem?_map,Option.map_eq_some_iff]at hi;obtain⟨u,hu,rfl⟩:=hi;rw[(uJ hk).2]at h2;cases h2
  ·rw[hφ k Ua];exact⟨rfl,fun _=>rfl⟩
 |arr sz et es=>exact fS.cJ h (fun k hk=>by simp[bL.names,dR]at hk) e (fun _ _ h=>h) (fun _ _=>rfl)
 |nP sz et es=>exact fS.cJ h (fun k hk=>by simp[bL.names,dR]at hk) e (fun _ _ h=>h) (fun _ _=>rfl)
 |map kt es=>exact fS.cJ h (fun k hk=>by simp[bL.names,dR]at hk) e (fun _ _ h=>h) (fun _ _=>rfl)
 |nest sz et es=>exact fS.cJ h (fun k hk=>by simp[bL.names,dR]at hk) e (fun _ _ h=>h) (fun _ _=>rfl)
 |eX kt e0 es=>exact fS.cJ h (fun k hk=>by simp[bL.names,dR]at hk) e (fun _ _ h=>h) (fun _ _=>rfl)
 |loop st=>exact fS.cJ h (fun k hk=>by simp[bL.names,dR]at hk) e (fun _ _ h=>h) (fun _ _=>rfl)
 |iter t es cur=>exact fS.cJ h (fun k hk=>by simp[bL.names,dR]at hk) e (fun _ _ h=>h) (fun _ _=>rfl)
theorem cm.VF{f:Fr}(h:cm P μ φ m (gm id f) ρ)(h0:(φ' id).tozh=(φ id).tozh)(hφ:∀k,k≠id→φ' k=φ k)(hl:∀j,(m j).isSome=true→(m' j).isSome=true):cm P μ φ' m' (gm id f) ρ:=by
 refine⟨fun t=>(h.fr t).Vr (fun _ _ h=>h) fun k hk=>?_,fun t j hj=>hl j (h.live t j hj)⟩;by_cases Ua:k=id
 ·subst Ua;refine⟨h0,fun h2=>?_⟩;have:=(uJ (show(l0 k (f t)).has k=true from hk)).2;rw[show gm k f t=l0 k (f t)from rfl,this]at h2;cases h2
 ·rw[hφ k Ua];exact⟨rfl,fun _=>rfl⟩
theorem fa{id2:Nat}{b':bL}(h:ao (eV id (bh (bE id2 m) id2)) id b j=some b'):(j=id∧b'=b)∨(j≠id∧j≠id2∧∃c,m j=some c∧b'=dR id (fJ id2 c)):=by
 by_cases e:j=id
 ·subst e;rw[aN]at h;simp only[Option.some.injEq]at h;exact .inl ⟨rfl,h.symm⟩
 ·rw[aq e]at h;obtain⟨c1,h1,rfl⟩:=gz h;obtain⟨cR,c,hc,rfl⟩:=eO h1;exact .inr ⟨e,cR,c,hc,rfl⟩
theorem I8{x:Value}(h:ai P μ φ (.os id) x):ai P μ (fun _=>((φ id).tozh).up) (.os 0) x:=by
 cases h with
 |pB h=>exact .pB h
 |os h=>exact .os (id:=0) (φ:=fun _=>((φ id).tozh).up) h
theorem aM.up{sz:Nat}{et:TypeId}{es:List PV}(h:aM P μ φ w id sz et es):aM P μ (fun _=>((φ id).tozh).up) w 0 sz et es:=h
theorem ay.W6(hM:ay P G w0 μ φ m w){id2 i off s s2:Nat}{et GB:TypeId}{es rs:List PV}{e q:PV}{x:Value}(cR:id2≠id)(hm:m id=some (.nest s et es))(cP:m id2=some (.arr s2 GB rs))(he:es[i]?=some e)(vD:e.cells[off]?=some .bad)(hx:∀g c,(φ id).g=some g→w.heap[g]?=some (.cells c et (0,0))→c[i*s+off]?=some x)(hv:ai P μ φ (.os id2) x)(hq:q.cells=e.cells.set off (.fQ s2 rs)):ay P G w0 μ (fun j=>if j=id then jh (φ id) i off (φ id2).tozh else φ j) (ao (eV id (bh (bE id2 m) id2)) id (.nest s et (es.set i q))) w:=by
 have q6:=(hM.forget id2).sg id;have hN:aV P μ φ w id s et es:=hM.dL id _ hm;have W5:aM P μ φ w id2 s2 GB rs:=hM.dL id2 _ cP;have P1:i<es.length:=(List.getElem?_eq_some_iff.1 he).1;have Y9:off<e.cells.length:=(List.getElem?_eq_some_iff.1 vD).1;have iP:∀a b,(bL.nest s et (es.set i q)).rowAt a b=true→(a=i∧b=off)∨((bL.nest s et es).rowAt a b=true∧¬(a=i∧b=off)):=by
  intro a b hr;by_cases qQ:a=i∧b=off
  ·exact .inl qQ
  ·refine .inr ⟨?_,qQ⟩;rcases iS hr with⟨_,_,_,e',s',ZT,fR,h',pR⟩|⟨_,_,_,_,_,_,fR,_⟩
   ·simp only[bL.nest.injEq]at fR;obtain⟨rfl,rfl,rfl⟩:=fR;rcases eo h' with⟨rfl,rfl⟩|⟨QH,h'⟩
    ·rw[hq]at pR;rcases eo pR with⟨rfl,_⟩|⟨hnj,pR⟩
     ·exact absurd ⟨rfl,rfl⟩ qQ
     ·rw[dA he pR];rfl
    ·rw[dA h' pR];rfl
   ·cases fR
 refine hM.MA (fun _ k=>if k=id2 then id else k) (fun j b' hj=>?_) (fun j b' g hj ho=>?_) (fun j b' hj=>?_) (fun j cs k hj hk=>?_) (fun j st hj=>?_)
 ·rcases fa hj with⟨rfl,rfl⟩|⟨h1,h2,c,hc,rfl⟩
  ·show aV P μ (fun k=>if k=j then jh (φ j) i off (φ id2).tozh else φ k) w j s et (es.set i q);refine aV.change (μ':=μ) (w':=w) (es':=es.set i q) hN (by simp) (fun i' e' h'=>?_) (by simp[jh]) (fun _ _=>rfl) (fun i' e' j' p' g c x' h' pR hg hc IX hold=>?_)
   ·rcases eo h' with⟨_,rfl⟩|⟨_,h'⟩
    ·rw[hq,List.length_set];exact hN.2.2.2.2.1 i e he
    ·exact hN.2.2.2.2.1 i' e' h'
   ·simp only[if_true];by_cases qQ:i'=i∧j'=off
    ·obtain⟨rfl,rfl⟩:=qQ;rw[fM];have e1:e'=q:=by
      rcases eo h' with⟨_,h⟩|⟨h,_⟩
      ·exact h
      ·exact absurd rfl h
     subst e1;rw[hq]at pR;have e2:p'=.fQ s2 rs:=by
      rcases eo pR with⟨_,h⟩|⟨h,_⟩
      ·exact h
      ·exact absurd rfl h
     subst e2;have e3:x'=x:=by have:=hx g c hg hc;rw[IX]at this;simpa using this
     subst e3;exact⟨⟨GB,W5.up⟩,I8 hv⟩
    ·rw[fT _ _ qQ];rcases eo h' with⟨rfl,rfl⟩|⟨QH,h'⟩
     ·rw[hq]at pR;rcases eo pR with⟨rfl,_⟩|⟨hnj,pR⟩
      ·exact absurd ⟨rfl,rfl⟩ qQ
      ·exact hold e p' he pR
     ·exact hold e' p' h' pR
  ·have hb:fS P μ φ w j (dR id (fJ id2 c)):=(hM.dL j c hc).kill.vw;exact hb.MB h1 (by simp[jh]) fun k hk=>by simp[hk]
 ·rcases fa hj with⟨rfl,rfl⟩|⟨h1,h2,c,hc,rfl⟩
  ·simp only[if_true]at ho;rcases ho with ho|⟨a,b,hr,ho⟩
   ·exact⟨j,_,hm,.inl ho,fun _=>rfl,by simp[cR.symm]⟩
   ·rcases iP a b hr with⟨rfl,rfl⟩|⟨qP,qQ⟩
    ·rw[fM]at ho;exact⟨id2,_,cP,.inl ho,fun _=>rfl,by simp⟩
    ·rw[fT _ _ qQ]at ho;exact⟨j,_,hm,.inr ⟨a,b,qP,ho⟩,fun _=>rfl,by simp[cR.symm]⟩
  ·simp only[h1,if_false]at ho;exact⟨j,c,hc,fF.1 (oG.1 ho),fun h=>by rw[vY,uP]at h;exact h,by simp[h2]⟩
 ·rcases fa hj with⟨rfl,rfl⟩|⟨h1,h2,c,hc,rfl⟩
  ·simp only[if_true];have Bk:=hM.apart j _ hm;have new:∀g,(φ id2).g=some g→¬(bL.nest s et es).eh (φ j) g:=fun g hg ho=>cR (hM.inj id2 j _ _ g cP hm (.inl hg) ho);intro a b g hr hg;rcases iP a b hr with⟨rfl,rfl⟩|⟨qP,qQ⟩
   ·rw[fM]at hg;refine⟨fun h=>new g hg (.inl h),fun a' b' QQ I9=>?_⟩;rcases iP a' b' QQ with h|⟨Ub,Ja⟩
    ·exact h
    ·rw[fT _ _ Ja]at I9;exact absurd (.inr ⟨a',b',Ub,I9⟩) (new g hg)
   ·rw[fT _ _ qQ]at hg;obtain⟨h3,h4⟩:=Bk a b g qP hg;refine⟨h3,fun a' b' QQ I9=>?_⟩;rcases iP a' b' QQ with⟨rfl,rfl⟩|⟨Ub,Ja⟩
    ·rw[fM]at I9;exact absurd (.inr ⟨a,b,qP,hg⟩) (new g I9)
    ·rw[fT _ _ Ja]at I9;exact h4 a' b' Ub I9
  ·simp only[h1,if_false];exact tz.2 (sd.2 (hM.apart j c hc))
 ·rcases fa hj with⟨rfl,hb⟩|⟨h1,h2,c,hc,hb⟩
  ·cases hb
  ·have FZ:eV id (bh (bE id2 m) id2) j=some (.box cs):=by rw[aq h1]at hj;exact hj
   have:=q6.fl j cs k FZ hk;by_cases e:k=id
   ·subst e;simp
   ·rw[aq e];exact this
 ·rcases fa hj with⟨rfl,hb⟩|⟨h1,h2,c,hc,hb⟩
  ·cases hb
  ·cases c<;>first|(simp[dR,fJ]at hb;done)|skip
   simp only[dR,fJ,bL.loop.injEq]at hb;subst hb;exact⟨hc,by simp[h1]⟩
end
end Go.Ab
set_option linter.unusedVariables false
namespace Go.Ab
def j5(k:PV):List (PV×PV)→Option Nat
 |[]=>none
 |(a,_)::r=>if cC k.cells a.cells then some 0 else(j5 k r).map (·+1)
def iB(es:List (PV×PV)):List (PV×PV):=es.map fun x=>(x.1,.bad)
theorem Bw(k:PV):∀es,j5 k (iB es)=j5 k es
 |[]=>rfl
 |(a,u)::r=>by simp only[iB,List.map_cons,j5];rw[←Bw k r];rfl
theorem Az{k:PV}:∀{es:List (PV×PV)}{j:Nat},j5 k es=some j→∃a u,es[j]?=some (a,u)∧cC k.cells a.cells=true
 |(a,u)::r,j,h=>by
  simp only[j5]at h;split at h
  ·rename_i hp;simp only[Option.some.injEq]at h;subst h;exact⟨a,u,rfl,hp⟩
  ·obtain⟨i,hi,rfl⟩:=Option.map_eq_some_iff.1 h;simpa using Az hi
theorem kY(k v:PV):∀es,eR k v es=match j5 k es with|some j=>es.set j (k,v)|none=>es++[(k,v)]
 |[]=>rfl
 |(a,u)::r=>by
  simp only[eR,j5];split
  ·rfl
  ·rw[kY k v r];cases j5 k r<;>rfl
theorem q9(k:PV):∀es,pL k es=match j5 k es with|some j=>es.modify j fun x=>(x.1,.bad)|none=>es
 |[]=>rfl
 |(a,u)::r=>by
  simp only[pL,j5];split
  ·rfl
  ·rw[q9 k r];cases j5 k r<;>simp
theorem GC(sz:Nat)(k:PV):∀es,F5 sz k es=match j5 k es with|some j=>(es[j]?).bind fun x=>aY sz x.2|none=>some []
 |[]=>rfl
 |(a,u)::r=>by
  simp only[F5,j5];split
  ·simp
  ·rw[GC sz k r];cases j5 k r<;>simp
theorem DB{k z:PV}{l:List (PV×PV)}{es:List MapEntry}{i:Nat}{r:Option (Nat×Value)}(h:Found k .nD z (iB l) es i r):(r=none∧j5 k l=none)∨∃j e,r=some (i+j,e.val)∧es[j]?=some e∧j5 k l=some j:=by
 cases h with
 |none h1 h2 h3=>
  refine .inl ⟨rfl,?_⟩;rw[kY]at h3;rw[←Bw];cases hp:j5 k (iB l)with
  |none=>rfl
  |some j=>rw[hp]at h3;have:=congrArg List.length h3;simp at this
 | @some j a u e h1 h2 h3 h4 h5 h6=>
  refine .inr ⟨j,e,rfl,h2,?_⟩;rw[kY]at h6;rw[←Bw];have bt:j<(iB l).length:=(List.getElem?_eq_some_iff.1 h1).1;cases hp:j5 k (iB l)with
  |none=>rw[hp]at h6;have:=congrArg List.length h6;simp at this
  |some j'=>
   rw[hp]at h6;simp only at h6;obtain⟨a',u',FZ,_⟩:=Az hp;have ad5:j'<(iB l).length:=(List.getElem?_eq_some_iff.1 FZ).1;have e1:((iB l).set j (k,.nD))[j']?=some (k,.nD):=by rw[←h6];simp[ad5]
   rw[List.getElem?_set]at e1;split at e1
   ·rename_i h;rw[h]
   ·exfalso;simp only[iB,List.getElem?_map,Option.map_eq_some_iff]at e1;obtain⟨x,_,hx⟩:=e1;simp at hx
section
variable {P:Program} {G:Nat→Option (List PV)} {w0:bA} {μ μ':Ro} {φ φ':Nat→aG} {m m':Mem} {w w':World}
def Bx(P:Program)(μ:Ro)(R:zh)(w:World)(e0:TypeId)(v:PV)(x:Value):Prop:=match v with
 |.fQ s rs=>aM P μ (fun _=>R.up) w 0 s e0 rs∧ai P μ (fun _=>R.up) (.os 0) x
 |v=>ak P μ v x
variable{e0:TypeId}
theorem Bx.pure{R:zh}{v:PV}{x:Value}(h:ak P μ v x):Bx P μ R w e0 v x:=by
 unfold Bx;split
 ·cases h
 ·exact h
structure Jb(P:Program)(μ:Ro)(p:aG)(w:World)(kt e0:TypeId)(es:List (PV×PV))(g:Nat)(en:Array MapEntry)(clock:Nat)(kk:List Kd):Prop where
 pl:p.g=some g
 heap:w.heap[g]?=some (.map en clock)
 size:en.size=es.length
 xQ:pM P kt=some kk
 key:∀(i:Nat)k v,es[i]?=some (k,v)→sG P kt kk k=true
 born:jZ en clock
 rep:∀(i:Nat)k v e,es[i]?=some (k,v)→en[i]?=some e→ak P μ k e.key∧Bx P μ (p.row i 0) w e0 v e.val
variable{kt:TypeId}{es:List (PV×PV)}
theorem re{id:Nat}:fS P μ φ w id (.eX kt e0 es)↔∃g en clock kk,Jb P μ (φ id) w kt e0 es g en clock kk:=by
 constructor
 ·rintro⟨g,en,clock,kk,h1,h2,h3,h4,h5,h6,h7⟩;exact⟨g,en,clock,kk,h1,h2,h3,h4,h5,h6,fun i k v e a b=>h7 i k v e a b⟩
 ·rintro⟨g,en,clock,kk,h1,h2,h3,h4,h5,h6,h7⟩;exact⟨g,en,clock,kk,h1,h2,h3,h4,h5,h6,fun i k v e a b=>h7 i k v e a b⟩
variable{en:Array MapEntry}
theorem Jb.ent{p:aG}{g:Nat}{clock:Nat}{kk:List Kd}(h:Jb P μ p w kt e0 es g en clock kk):tw P μ kt kk (iB es) en.toList:=by
 refine⟨by simp[iB,h.size],fun i k v hi=>?_,fun i k v e hi he=>?_⟩
 ·simp only[iB,List.getElem?_map,Option.map_eq_some_iff]at hi;obtain⟨⟨a,u⟩,hq,hx⟩:=hi;simp only[Prod.mk.injEq]at hx;obtain⟨rfl,rfl⟩:=hx;exact h.key i a u hq
 ·simp only[iB,List.getElem?_map,Option.map_eq_some_iff]at hi;obtain⟨⟨a,u⟩,hq,hx⟩:=hi;simp only[Prod.mk.injEq]at hx;obtain⟨rfl,rfl⟩:=hx;exact⟨(h.rep i a u e hq (by simpa using he)).1,.bad⟩
theorem Bz{t et:TypeId}{ks:List Kd}{key:PV}{zv yi:Value}{g clock:Nat}{l:List (PV×PV)}(hu:P.underlying t=some (.map kt et))(hk:pM P kt=some ks)(qu:sG P kt ks key=true)(hyi:ak P μ key yi)(hg:w.heap[g]?=some (.map en clock))(hE:tw P μ kt ks (iB l) en.toList)(hz:(zeroValue et).run P w=.ok zv w):(j5 key l=none∧(Instr.lookup t (.map (some g)) yi false).run P w=.ok zv w)∨∃j e,j5 key l=some j∧en[j]?=some e∧(Instr.lookup t (.map (some g)) yi false).run P w=.ok e.val w:=by
 have N8:=uU hk;obtain⟨hc,hv⟩:=kE qu hyi;obtain⟨r,r1,r2⟩:=jS (v:=.nD) (z:=.bad) N8 hc w hE;have h1:=gq 8 kt ks N8 9992 w en.isEmpty key.cells hc;have Ag:=Go.MapKept.run_getObj_map (P:=P) hg;have Mw:(Instr.checkKey en.isEmpty 10000 kt (eM P kt key.cells)).run P w=.ok () w:=h1;rw[hv];unfold Instr.lookup;simp only[Sem.run_bind,run_underlying hu,Result.andThen_ok,Sem.run_pure,Ag];rcases DB r2 with⟨rfl,h⟩|⟨j,e,rfl,he,h⟩
 ·exact .inl ⟨h,by simp[Mw,r1,hz]⟩
 ·exact .inr ⟨j,e,h,by simpa using he,by simp[Mw,r1]⟩
end
section
variable {R:Type} {E:Env}
theorem Jc{t:TypeId}(h:zeroV E.P t=some .bk)(w:World):(zeroValue t).run E.P w=.ok (.slice none 0 0) w:=by unfold zeroV at h;obtain⟨c,hc,h⟩:=Option.map_eq_some_iff.1 h;obtain⟨i,hi,hz⟩:=Option.bind_eq_some_iff.1 hc;have:=qW (P:=E.P) (μ:=fun _=>none) (φ:=fun _=>default) c;rw[h]at this;cases this;exact mq hi hz
theorem QR{site:Nat}{t:TypeId}{x ix:V}{m:Mem}{k:V→Mem→bp→Option R}{r:R}(h:F9 E site t x ix m k=some r):∃id b1 b2 m',m'=qO [(id,b1),(site,b2)] m∧k (.os site) m' [(true,id),(true,site)]=some r∧m site=none∧b2.names=(fun _=>false)∧b1.names=(fun _=>false)∧(m id).isSome=true∧(∀m2:Mem,m2 id=m id→m2 site=none→∀(R':Type)(k':V→Mem→bp→Option R'),F9 E site t x ix m2 k'=k' (.os site) (qO [(id,b1),(site,b2)] m2) [(true,id),(true,site)])∧∀(G:Nat→Option (List PV))(w0:bA)(μ:Ro)(φ:Nat→aG)(w:World)(f:Fr)(ρ:Nat→Value)(y yi:Value),ay E.P G w0 μ φ m w→cm E.P μ φ m f ρ→ai E.P μ φ x y→ai E.P μ φ ix yi→∃u φ',(Instr.lookup t y yi false).run E.P w=.ok u w∧ay E.P G w0 μ φ' m' w∧cm E.P μ φ' m' f ρ∧ai E.P μ φ' (.os site) u:=by
 unfold F9 at h;split at h
 ·rename_i kt et hu;split at h
  ·rename_i e hue;split at h
   ·rename_i id hz;split at h
    ·rename_i sU e' es hm hs;split at h
     ·rename_i hc;obtain⟨rfl,rfl,eu⟩:=hc;obtain⟨key,qu,h⟩:=Option.bind_eq_some_iff.1 h;obtain⟨rs,W7,h⟩:=Option.bind_eq_some_iff.1 h;obtain⟨ks,k1,k2,k3⟩:=q8 qu;have cR:site≠id:=fun e=>by subst e;rw[hs]at hm;cases hm
      refine⟨id,.eX sU e' (pL key es),.arr (aT E.P e') e' rs,_,rfl,h,hs,rfl,rfl,by rw[hm];rfl,fun m2 h1 h2 R' k'=>?_,fun G w0 μ φ w f ρ y yi hM hF hx hi=>?_⟩
      ·simp only[F9,hu,hue,hz,h1,h2,hm,qu,W7,Option.bind_some,eu,and_self,if_true];rfl
      ·obtain⟨g,en,clock,kk,hN⟩:=re.1 (hM.dL id _ hm);have yt:=hN.xQ;rw[k1]at yt;simp only[Option.some.injEq]at yt;subst yt;cases hx with
       |om bY=>
        rw[hN.pl]at bY;simp only[Option.some.injEq]at bY;subst bY;have MC:=Bz hu k1 k2 (k3 μ φ yi hi) hN.heap hN.ent (Jc hz w);have Oh:∀i off,(bL.eX sU e' (pL key es)).rowAt i off=true→(bL.eX sU e' es).rowAt i off=true∧j5 key es≠some i:=by
         intro i off hr;rcases iS hr with⟨_,_,_,_,_,_,hb,_⟩|⟨_,_,_,k0,s0,rs0,hb,rfl,he⟩
         ·cases hb
         ·simp only[bL.eX.injEq]at hb;obtain⟨rfl,rfl,rfl⟩:=hb;rw[q9]at he;cases hp:j5 key es with
          |none=>rw[hp]at he;simp only at he;exact⟨by rw[iR he];rfl,by simp⟩
          |some j=>
           rw[hp]at he;simp only[List.getElem?_modify]at he;split at he
           ·rename_i Jd;exfalso;obtain⟨x0,_,IY⟩:=Option.map_eq_some_iff.1 he;simp at IY
           ·rename_i Jd;have he:es[i]?=some (k0,PV.fQ s0 rs0):=by simpa using he
            exact⟨by rw[iR he];rfl,fun h=>Jd (by simpa using h)⟩
        have q6:ay E.P G w0 μ φ (ao m id (.eX sU e' (pL key es))) w:=by
         refine hM.write hm rfl hN.pl (jB.refl _ _) rfl (fun _ _=>rfl) (re.2 ⟨g,en,clock,ks,hN.pl,hN.heap,?_,k1,fun i k0 v0 h0=>?_,hN.born,fun i k0 v0 e0 h0 FY=>?_⟩) rfl (by simp[bL.names]) (fun st h=>by cases h) (fun i off hr=>(Oh i off hr).1)
         ·rw[hN.size,q9];cases j5 key es<;>simp
         ·rw[q9]at h0;cases hp:j5 key es with
          |none=>rw[hp]at h0;exact hN.key i k0 v0 h0
          |some j=>
           rw[hp]at h0;simp only[List.getElem?_modify]at h0;obtain⟨x0,IY,hq⟩:=Option.map_eq_some_iff.1 h0;obtain⟨xa,xu⟩:=x0;split at hq
           ·simp only[Prod.mk.injEq]at hq;rw[←hq.1];exact hN.key i xa xu IY
           ·simp only[id_eq,Prod.mk.injEq]at hq;rw[←hq.1];exact hN.key i xa xu IY
         ·rw[q9]at h0;cases hp:j5 key es with
          |none=>rw[hp]at h0;exact hN.rep i k0 v0 e0 h0 FY
          |some j=>
           rw[hp]at h0;simp only[List.getElem?_modify]at h0;obtain⟨x0,IY,hq⟩:=Option.map_eq_some_iff.1 h0;obtain⟨xa,xu⟩:=x0;obtain⟨q1,q2⟩:=hN.rep i xa xu e0 IY FY;split at hq
           ·simp only[Prod.mk.injEq]at hq;obtain⟨rfl,rfl⟩:=hq;exact⟨q1,.pure .bad⟩
           ·simp only[id_eq,Prod.mk.injEq]at hq;obtain⟨rfl,rfl⟩:=hq;exact⟨q1,q2⟩
        have Z9:∀(ph:aG)(u:Value),aM E.P μ (fun _=>ph) w 0 (aT E.P e') e' rs→ai E.P μ (fun _=>ph) (.os 0) u→(∀g',ph.g=some g'→∃j,j5 key es=some j∧(bL.eX sU e' es).rowAt j 0=true∧((φ id).row j 0).g=some g')→∃φ',ay E.P G w0 μ φ' (qO [(id,.eX sU e' (pL key es)),(site,.arr (aT E.P e') e' rs)] m) w∧cm E.P μ φ' (qO [(id,.eX sU e' (pL key es)),(site,.arr (aT E.P e') e' rs)] m) f ρ∧ai E.P μ φ' (.os site) u:=by
         intro ph u hA hV Ag;have IW:∀j,(m j).isSome=true→j≠site:=fun j hj e=>by subst e;rw[hs]at hj;cases hj
         refine⟨fun i=>if i=site then ph else φ i,?_,?_,?_⟩
         ·refine q6.put (by rw[aq cR];exact hs) (jB.refl _ _) hM.ro (fun _ _ _ _ _=>rfl) (fun g' bY=>?_) (oA nQ) ?_ (by simp[bL.names]) (fun st h=>by cases h)
          ·have bY:=mo nQ bY;obtain⟨j,hj,hr,hjg⟩:=Ag g' bY;obtain⟨o1,o2⟩:=hM.own id _ g' hm (.inr ⟨j,0,hr,hjg⟩);refine⟨o1,o2 rfl,fun i b' hi ho=>?_⟩;by_cases Dt:i=id
           ·subst Dt;rw[aN]at hi;simp only[Option.some.injEq]at hi;subst hi;obtain⟨a1,a2⟩:=hM.apart i _ hm j 0 g' hr hjg;rcases ho with ho|⟨i',qk,qP,ho⟩
            ·exact a1 ho
            ·obtain⟨h3,h4⟩:=Oh i' qk qP;exact h4 (by rw[hj,(a2 i' qk h3 ho).1])
           ·rw[aq Dt]at hi;exact Dt (hM.inj i id _ _ g' hi hm ho (.inr ⟨j,0,hr,hjg⟩))
          ·exact aM.move (φ':=fun i=>if i=site then ph else φ i) (j:=site) hA (by simp) (fun _ _ h=>h)
         ·refine hF.mono (fun _ _ h=>h) fun j hj=>⟨by simp[IW j hj],?_⟩;show(ao (ao m id _) site _ j).isSome=true;rw[aq (IW j hj)];by_cases Jd:j=id
          ·subst Jd;simp
          ·rw[aq Jd];exact hj
         ·cases hV with
          |pB h=>exact .pB (by simpa using h)
          | @os _ g0 h=>have:=ai.os (P:=E.P) (μ:=μ) (φ:=fun i=>if i=site then ph else φ i) (id:=site) (g:=g0) (by simpa using h);simpa using this
        rw[GC]at W7;rcases MC with⟨hp,l6⟩|⟨j,en0,hp,hen,l6⟩
        ·rw[hp]at W7;simp only[Option.some.injEq]at W7;subst W7;obtain⟨φ',a1,a2,a3⟩:=Z9 (CH none 0 0 (aT E.P e')) (.slice none 0 0) ⟨rfl,rfl,rfl,eu,by simp,by simp[maxLen],⟨rfl,rfl⟩⟩ (.pB rfl) (fun g' bY=>by cases bY);exact⟨_,φ',l6,a1,a2,a3⟩
        ·rw[hp]at W7;obtain⟨x0,IY,iP⟩:=Option.bind_eq_some_iff.1 W7;obtain⟨xa,xu⟩:=x0;have hxu:=Gl iP;simp only at hxu;subst hxu;obtain⟨_,q2⟩:=hN.rep j xa _ en0 IY hen;obtain⟨φ',a1,a2,a3⟩:=Z9 ((φ id).row j 0).up en0.val q2.1 q2.2 (fun g' bY=>⟨j,hp,by rw[iR IY];rfl,bY⟩);exact⟨_,φ',l6,a1,a2,a3⟩
     ·cases h
    ·cases h
   ·cases h
  ·cases h
 ·cases h
end
end Go.Ab
set_option linter.unusedVariables false
namespace Go.Ab
theorem BA{m:Mem}:∀{cs:List V}{j0:Nat}{ps:List PV}{tk:Option (Nat×Nat)},jA m j0 cs=some (ps,tk)→ps.length=cs.length∧(tk=none→∀(i:Nat)p,ps[i]?=some p→∃v,cs[i]?=some v∧jq dh 1 v=some p)∧∀j id2,tk=some (j,id2)→∃l s2 GB rs,cs[l]?=some (.os id2)∧m id2=some (.arr s2 GB rs)∧ps[l]?=some (.fQ s2 rs)∧∀(i:Nat)p,i≠l→ps[i]?=some p→∃v,cs[i]?=some v∧jq dh 1 v=some p
 |[],j0,ps,tk,h=>by simp only[jA,Option.some.injEq,Prod.mk.injEq]at h;obtain⟨rfl,rfl⟩:=h;exact⟨rfl,fun _ i p hp=>by simp at hp,fun j id2 h=>by cases h⟩
 |v::r,j0,ps,tk,h=>by
  have plain:∀{p:PV},jq dh 1 v=some p→(match jA m (j0+1) r with
   |some (ps,t)=>some (p::ps,t)
   |none=>none)=some (ps,tk)→ps.length=(v::r).length∧
   (tk=none→∀(i:Nat)p,ps[i]?=some p→∃u,(v::r)[i]?=some u∧jq dh 1 u=some p)∧
   ∀j id2,tk=some (j,id2)→∃l s2 GB rs,(v::r)[l]?=some (.os id2)∧m id2=some (.arr s2 GB rs)∧ps[l]?=some (.fQ s2 rs)∧∀(i:Nat)p,i≠l→ps[i]?=some p→∃u,(v::r)[i]?=some u∧jq dh 1 u=some p:=by
   intro p hp h
   split at h
   ·rename_i ZH t ht;simp only[Option.some.injEq,Prod.mk.injEq]at h;obtain⟨rfl,rfl⟩:=h;obtain⟨h1,h2,h3⟩:=BA ht;refine⟨by simp[h1],fun hn i q hq=>?_,fun j id2 hj=>?_⟩
    ·cases i with
     |zero=>simp at hq;subst hq;exact⟨v,rfl,hp⟩
     |succ i=>simpa using h2 hn i q (by simpa using hq)
    ·obtain⟨l,s2,GB,rs,a1,a2,a3,a4⟩:=h3 j id2 hj;refine⟨l+1,s2,GB,rs,by simpa using a1,a2,by simpa using a3,fun i q hi hq=>?_⟩;cases i with
     |zero=>simp at hq;subst hq;exact⟨v,rfl,hp⟩
     |succ i=>simpa using a4 i q (by omega) (by simpa using hq)
   ·cases h
  unfold jA at h;split at h
  ·rename_i heq;cases heq
  ·rename_i j id r' heq;simp only[List.cons.injEq]at heq;obtain⟨rfl,rfl⟩:=heq;split at h
   ·rename_i s et es hm;split at h
    ·rename_i ZH ht;simp only[Option.some.injEq,Prod.mk.injEq]at h;obtain⟨rfl,rfl⟩:=h;obtain⟨h1,h2,_⟩:=BA ht;refine⟨by simp[h1],fun hn=>(nomatch hn),fun j id2 hj=>?_⟩;simp only[Option.some.injEq,Prod.mk.injEq]at hj;obtain⟨rfl,rfl⟩:=hj;refine⟨0,s,et,es,rfl,hm,rfl,fun i q hi hq=>?_⟩;cases i with
     |zero=>exact absurd rfl hi
     |succ i=>simpa using h2 rfl i q (by simpa using hq)
    ·cases h
   ·cases h
  ·rename_i j v' r' _ heq;simp only[List.cons.injEq]at heq;obtain⟨rfl,rfl⟩:=heq;split at h
   ·rename_i p hp;exact plain hp h
   ·cases h
section
variable {P:Program} {G:Nat→Option (List PV)} {w0:bA} {μ μ':Ro} {φ φ':Nat→aG} {m m':Mem} {w w':World}
theorem BB{v:V}{n j id2:Nat}{cs:List V}{ps:List PV}(hc:toCells n v=some cs)(h:jA m 0 cs=some (ps,some (j,id2))):∃l s2 GB rs,m id2=some (.arr s2 GB rs)∧ps[l]?=some (.fQ s2 rs)∧ps.length=n∧v.has id2=true∧∀(P:Program)(μ:Ro)(φ:Nat→aG)(x:Value),ai P μ φ v x→x.cells.size=n∧(∀(i:Nat)(y:Value),x.cells[i]?=some y→y.oneCell'=true)∧(∀(i:Nat)p y,i≠l→ps[i]?=some p→x.cells[i]?=some y→ak P μ p y)∧∃y,x.cells[l]?=some y∧ai P μ φ (.os id2) y:=by
 obtain⟨t1,_,t3⟩:=BA h;obtain⟨l,s2,GB,rs,a1,a2,a3,a4⟩:=t3 j id2 rfl;obtain⟨n1,n2,n3⟩:=toCells_ok hc;refine⟨l,s2,GB,rs,a2,a3,by rw[t1,n1],n2 id2 (bN (List.mem_of_getElem? a1) (by simp[V.has])),fun P μ φ x hx=>?_⟩;obtain⟨x1,x2,x3⟩:=n3 P μ φ x hx;refine⟨x1,x3,fun i p y hi hp hy=>?_,?_⟩
 ·obtain⟨u,hu,hf⟩:=a4 i p hi hp;exact qY 1 hf (x2 i u y hu hy)
 ·have hl:l<x.cells.size:=by rw[x1,←n1];exact(List.getElem?_eq_some_iff.1 a1).1
  exact⟨x.cells[l],Array.getElem?_eq_getElem hl,x2 l _ _ a1 (Array.getElem?_eq_getElem hl)⟩
theorem zs{s off n:Nat}{e:PV}{ps:List PV}(hn:ps.length=n)(hb:off+n≤s)(h0:0<n)(ha:s=1→∀p,ps.head? =some p→∀cs,p≠.agg cs):(if s=1 then ps.headD .bad else PV.agg (bT (aL s e) off ps)).cells=bT (aL s e) off ps:=by
 split
 ·rename_i h1;subst h1;have e1:off=0:=by omega
  have e2:n=1:=by omega
  subst e1;subst e2;match ps,hn with
  |[p],_=>
   have:=ha rfl p rfl;have hp:p.cells=[p]:=by cases p<;>first|rfl|exact absurd rfl (this _)
   simp only[List.headD_cons,hp,dF,List.take_zero,List.nil_append,List.length_cons,List.length_nil];rw[List.drop_of_length_le (by rw[bm];exact Nat.le_refl _)];rfl
 ·rfl
theorem BC{T:Type}{cs ps:List T}{off l:Nat}{x:T}(hl:l<ps.length)(hb:off+ps.length≤cs.length):bT cs off (ps.set l x)=(bT cs off ps).set (off+l) x:=by
 have hto:(cs.take off).length=off:=by simp;omega
 rw[dF,dF,List.length_set,List.append_assoc,List.append_assoc,List.set_append,if_neg (by omega),List.set_append,if_pos (by omega)];rw[show off+l-(cs.take off).length=l by omega]
theorem BD{id id2:Nat}{B X:bL}(cR:id2≠id):ao (eV id (bh (bE id2 (ao m id B)) id2)) id X=ao (eV id (bh (bE id2 m) id2)) id X:=by
 funext t;by_cases h:t=id
 ·subst h;simp
 ·rw[aq h,aq h];unfold eV;by_cases h2:t=id2
  ·subst h2;simp
  ·rw[eT h2,eT h2];unfold bE;rw[aq h]
end
section
variable {R:Type} {E:Env}
theorem QS{t:TypeId}{v:V}{id i off s id2 j:Nat}{et:TypeId}{es ps:List PV}{cs:List V}{e:PV}{m:Mem}(hm:m id=some (.nest s et es))(hc:toCells (aT E.P t) v=some cs)(ht:jA m 0 cs=some (ps,some (j,id2)))(hb:off+aT E.P t≤s)(h0:0<aT E.P t)(cR:id2≠id)(he:es[i]?=some e){G:Nat→Option (List PV)}{w0:bA}{μ:Ro}{φ:Nat→aG}{w:World}{f:Fr}{ρ:Nat→Value}{ya yx:Value}(hM:ay E.P G w0 μ φ m w)(hF:cm E.P μ φ m f ρ)(ha:ai E.P μ φ (.oe id i off) ya)(hx:ai E.P μ φ v yx):∃w' φ',(Instr.storeAt t ya yx).run E.P w=.ok () w'∧ay E.P G w0 μ φ' (qO [(id,.nest s et (es.set i (if s=1 then ps.headD .bad else .agg (bT (aL s e) off ps))))] (km [(true,id2),(false,id)] m)) w'∧cm E.P μ φ' (qO [(id,.nest s et (es.set i (if s=1 then ps.headD .bad else .agg (bT (aL s e) off ps))))] (km [(true,id2),(false,id)] m)) (kf [(true,id2),(false,id)] f) ρ:=by
 obtain⟨l,s2,GB,rs,cP,iP,AA,ad6,jd⟩:=BB hc ht;obtain⟨x1,x2,x3,y,hy,T4⟩:=jd E.P μ φ yx hx;have Gv:l<ps.length:=(List.getElem?_eq_some_iff.1 iP).1;have hN:aV E.P μ φ w id s et es:=hM.dL id _ hm;have yq:=hN.2.2.2.2.1 i e he;have Be:(aL s e).length=s:=bm _ _;have l7:ps=(ps.set l .bad).set l (.fQ s2 rs):=by
  rw[List.set_set];apply List.ext_getElem?;intro a;rw[List.getElem?_set];split
  ·rename_i e1;subst e1;first|exact iP|(rw[if_pos Gv];exact iP)
  ·rfl
 have q7:∀(a:Nat)p,(ps.set l .bad)[a]?=some p→(a=l∧p=.bad)∨(a≠l∧ps[a]?=some p):=fun a p h=>eo h;have hE:qq E.P μ (aT E.P t) (.agg (ps.set l .bad)) yx:=by
  refine⟨by simp[PV.cells,AA],x1,fun a p z hp hz=>?_,x2⟩;rcases q7 a p (by simpa[PV.cells]using hp)with⟨_,rfl⟩|⟨h1,h2⟩
  ·exact .bad
  ·exact x3 a p z h1 h2 hz
 have one:s=1→ps.length=1:=fun h=>by omega
 have hq:(if s=1 then ps.headD .bad else PV.agg (bT (aL s e) off ps)).cells=bT (aL s e) off ps:=zs AA hb h0 fun h1 p hp Dm=>by
  have IA:l=0:=by have:=one h1;omega
  subst IA;rw[List.head?_eq_getElem?,iP]at hp;simp only[Option.some.injEq]at hp;subst hp;simp
 have N3:(if s=1 then(ps.set l .bad).headD .bad else PV.agg (bT (aL s e) off (ps.set l .bad))).cells=bT (aL s e) off (ps.set l .bad):=zs (by simpa using AA) hb h0 fun h1 p hp Dm=>by
  have IA:l=0:=by have:=one h1;omega
  subst IA;rw[List.head?_eq_getElem?,List.getElem?_set,if_pos rfl,if_pos Gv]at hp;simp only[Option.some.injEq]at hp;subst hp;simp
 generalize (if s=1 then ps.headD .bad else PV.agg (bT (aL s e) off ps))=q at hq⊢;generalize (if s=1 then(ps.set l .bad).headD .bad else PV.agg (bT (aL s e) off (ps.set l .bad)))=q' at N3;cases ha with
 | @oe _ _ _ g hg=>
  obtain⟨c,T,hh,nH,sY,ZR⟩:=aV.set (q:=q') hN (hM.apart id _ hm) hg he hE hb (by rw[N3];rfl);have kR:(φ id).sz=s:=hN.2.1;have hi:=kW (P:=E.P) (t:=t) (by omega);have q6:ay E.P G w0 μ φ (ao m id (.nest s et (es.set i q'))) (w.setRow g (bT c.toList (i*s+off) yx.cells.toList).toArray):=hM.write hm rfl hg (jB.setRow (Nat.le_refl _)) setRow_size (fun k hk=>cL hk) sY rfl (fun j hj=>by simp[bL.names]at hj) (fun st h=>by cases h) ZR;have P1:i<es.length:=(List.getElem?_eq_some_iff.1 he).1;have aaa:q.cells=q'.cells.set (off+l) (.fQ s2 rs):=by rw[hq,N3,←BC (by simpa using Gv) (by simp[Be,AA];omega),←l7]
  have vD:q'.cells[off+l]?=some .bad:=by rw[N3,BC Gv (by rw[Be,AA];exact hb),List.getElem?_set,if_pos rfl,if_pos];rw[cQ (by rw[Be,AA];exact hb),Be];omega
  have qQ:=ay.W6 q6 (id:=id) (id2:=id2) (i:=i) (off:=off+l) (e:=q') (q:=q) (x:=y) cR (aN _ _ _) (by rw[aq cR];exact cP) (by simp[P1]) vD (fun g0 c0 Iz hc0=>by
   rw[hg]at Iz;simp only[Option.some.injEq]at Iz;subst Iz;rw[setRow_heap w g c _ T (0,0) hh]at hc0;simp only[Option.some.injEq,Obj.cells.injEq]at hc0;obtain⟨rfl,_⟩:=hc0;rw[List.getElem?_toArray,dF];have bt:(c.toList.take (i*s+off)).length=i*s+off:=by simp;omega
   have Dr:l<yx.cells.toList.length:=by simp only[Array.length_toList];rw[x1];omega
   rw[List.append_assoc,List.getElem?_append_right (by omega),bt,show i*s+(off+l)-(i*s+off)=l by omega,List.getElem?_append_left Dr];simpa using hy) T4 aaa
  rw[List.set_set,BD cR]at qQ;refine⟨_,_,by rw[kR];exact gV hE.size hi hh nH hE.one,qQ,?_⟩;have Ah:cm E.P μ φ (ao m id (.nest s et (es.set i q'))) f ρ:=hF.kX (fun _ _ h=>h) .set;have T7:=(Ah.forget id2).sg id;refine T7.VF (by simp[jh]) (fun k hk=>by simp[hk]) fun k hk=>?_;show(ao (eV id (bh (bE id2 m) id2)) id _ k).isSome=true;by_cases e1:k=id
  ·subst e1;simp
  ·rw[aq e1];rw[mr]at hk⊢;by_cases e2:k=id2
   ·subst e2;simp at hk
   ·rw[eT e2]at hk⊢;simp only[bE,aq e1]at hk⊢;exact hk
end
end Go.Ab
set_option linter.unusedVariables false
namespace Go.Ab
section
variable {R:Type} {E:Env}
variable{e:TypeId}{id2:Nat}{G:Nat→Option (List PV)}{w0:bA}{φ:Nat→aG}{w:World}{ρ:Nat→Value}
theorem Oi{t:TypeId}{v:V}{j site:Nat}{cs:List V}{ps:List PV}{p:PV}{m:Mem}(hu:E.P.underlying t=some (.slice e))(hc:toCells (aT E.P e) v=some cs)(ht:jA m 0 cs=some (ps,some (j,id2)))(hs:m site=none)(hp:elemOf (aF E.P e) ps=some p)(eu:0<aT E.P e)(yu:aT E.P e≤16777216)(hz:(dn E e).isSome=true){μ:Ro}{f:Fr}{yx:Value}(hM:ay E.P G w0 μ φ m w)(hF:cm E.P μ φ m f ρ)(hx:ai E.P μ φ v yx):∃y w' φ',(Instr.buildSlice t 1 #[(0,yx)]).run E.P w=.ok y w'∧ay E.P G w0 μ φ' (qO [(site,.nest (aT E.P e) e [p])] (km [(true,id2)] m)) w'∧cm E.P μ φ' (qO [(site,.nest (aT E.P e) e [p])] (km [(true,id2)] m)) (kf [(true,id2)] f) ρ∧ai E.P μ φ' (.os site) y:=by
 obtain⟨l,s2,GB,rs,cP,iP,AA,ad6,jd⟩:=BB hc ht;obtain⟨x1,x2,x3,z,T5,hvz⟩:=jd E.P μ φ yx hx;obtain⟨zc,PZ⟩:=Option.isSome_iff_exists.1 hz;obtain⟨iz,zv,i1,i2,i3,_⟩:=eF PZ;have cR:id2≠site:=fun e=>by subst e;rw[hs]at cP;cases cP
 have Oj:p.cells=ps:=by
  unfold elemOf at hp;split at hp
  ·simp only[Option.some.injEq]at hp;subst hp;rfl
  ·split at hp
   ·rename_i q;simp only[Option.some.injEq]at hp;subst hp;have IA:l=0:=by have:=(List.getElem?_eq_some_iff.1 iP).1;simp at this;exact this
    subst IA;simp only[List.getElem?_cons_zero,Option.some.injEq]at iP;subst iP;rfl
   ·cases hp
 have W5:aM E.P μ φ w id2 s2 GB rs:=hM.dL id2 _ cP;have aab:Instr.fill (fun i=>some (i*aT E.P e,aT E.P e)) ((Array.range (1*aT E.P e)).map (zv.cells[·%zv.cells.size]!)) [(0,yx)]=some yx.cells:=by
  have ID:((Array.range (1*aT E.P e)).map (zv.cells[·%zv.cells.size]!)).size=aT E.P e:=by simp
  rw[uT (off:=0) (size:=aT E.P e) (by simp) x1 (by rw[ID];omega)];simp only[Instr.fill,Option.some.injEq];apply Array.ext';simp only[dF,List.take_zero,List.nil_append,Nat.zero_add];rw[List.drop_of_length_le (by simp only[Array.length_toList];rw[ID,x1];exact Nat.le_refl _),List.append_nil]
 have l6:=run_buildSlice (P:=E.P) w t e 1 #[(0,yx)] yx.cells iz zv hu i1 i2 (by rw[i3];omega) (by rw[i3];omega) (by rw[i3];exact aab);let q:aG:={g:=some w.heap.size,cap:=1,len:=1,sz:=aT E.P e,row:=fun a b=>if a=0∧b=l then(φ id2).tozh else default};have IW:∀k,(bh (bE id2 m) id2 k).isSome=true→k≠site:=fun k hk e=>by subst e;rw[eT (Ne.symm cR)]at hk;simp[bE,hs]at hk
 have QT:∀a b,(bL.nest (aT E.P e) e [p]).rowAt a b=true→a=0∧b=l:=by
  intro a b hr;rcases iS hr with⟨_,_,_,e',s',ZT,fR,h',pR⟩|⟨_,_,_,_,_,_,fR,_⟩
  ·simp only[bL.nest.injEq]at fR;obtain⟨rfl,rfl,rfl⟩:=fR;cases a with
   |succ a=>simp at h'
   |zero=>
    simp only[List.getElem?_cons_zero,Option.some.injEq]at h';subst h';rw[Oj]at pR;refine⟨rfl,?_⟩;by_cases hbl:b=l
    ·exact hbl
    ·exfalso;have bt:b<yx.cells.size:=by rw[x1,←AA];exact(List.getElem?_eq_some_iff.1 pR).1
     exact absurd (x3 b _ _ hbl pR (Array.getElem?_eq_getElem bt)).Ax (by simp[PV.isRow])
  ·cases fR
 have q6:=hM.forget id2;have qw:ay E.P G w0 μ (fun i=>if i=site then q else φ i) (ao (bh (bE id2 m) id2) site (.nest (aT E.P e) e [p])) (w.alloc (.cells yx.cells e)):=by
  have hold:∀k,k<w.heap.size→(w.alloc (.cells yx.cells e)).heap[k]?=w.heap[k]?:=fun k hk=>jB.heap_alloc w _ k hk;refine q6.put (by rw[eT (Ne.symm cR)];simp[bE,hs]) ((jB.refl _ w).alloc hM.below.size _) (fun k o hk=>?_) (fun id b' g hid hg=>hold g ((q6.dL id b' hid).Bh hg)) (fun g hg=>?_) ?_ ?_ (by simp[bL.names]) (fun st h=>by cases h)
  ·have:=hM.ro k o hk;rw[hold k (Array.getElem?_eq_some_iff.1 this).1];exact this
  ·rcases hg with hg|⟨a,b,hr,hg⟩
   ·simp only[q,Option.some.injEq]at hg;subst hg;refine⟨hM.below.size,?_,fun id b' hid ho=>?_⟩
    ·cases hq:μ w.heap.size with
     |none=>rfl
     |some o'=>have:=hM.ro _ _ hq;simp at this
    ·have:=(q6.dL id b' hid).Bh ho;omega
   ·have qQ:=QT a b hr;have hg:(φ id2).g=some g:=by simpa[q,qQ]using hg
    obtain⟨o1,o2⟩:=hM.own id2 _ g cP (.inl hg);refine⟨o1,o2 rfl,fun id b' hid ho=>?_⟩;obtain⟨h1,b2,pC,rfl⟩:=eO hid;exact h1 (hM.inj id id2 _ _ g pC cP (fF.1 ho) (.inl hg))
  ·intro a b g hr hg;have qQ:=QT a b hr;have hg:(φ id2).g=some g:=by simpa[q,qQ]using hg
   refine⟨fun h=>?_,fun a' b' qP _=>by have:=QT a' b' qP;omega⟩;simp only[q,Option.some.injEq]at h;have:=(hM.dL id2 _ cP).Bh (.inl hg);omega
  ·show aV E.P μ (fun i=>if i=site then q else φ i) (w.alloc (.cells yx.cells e)) site (aT E.P e) e [p];unfold aV;simp only[if_true];refine⟨rfl,rfl,trivial,eu,fun i e' QU=>?_,by simp[q,maxLen],yx.cells,fG w _,by simp[q,x1],by simp[q],fun i e' b p' x' QU pR IX=>?_,fun i x' _ IX=>x2 i x' IX⟩
   ·cases i with
    |zero=>simp at QU;subst QU;rw[Oj,AA]
    |succ i=>simp at QU
   ·cases i with
    |succ i=>simp at QU
    |zero=>
     simp only[List.getElem?_cons_zero,Option.some.injEq]at QU;subst QU;rw[Oj]at pR;rw[Nat.zero_mul,Nat.zero_add]at IX;by_cases hbl:b=l
     ·subst hbl;rw[iP]at pR;simp only[Option.some.injEq]at pR;subst pR;rw[T5]at IX;simp only[Option.some.injEq]at IX;subst IX;have:q.row 0 b=(φ id2).tozh:=by simp[q]
      rw[this];refine eL.cJ ⟨⟨GB,W5.up⟩,I8 hvz⟩ (fun _ _ h=>h) fun g hg=>hold g ((hM.dL id2 _ cP).Bh (.inl hg))
     ·exact .pure (x3 b p' x' hbl pR IX)
 refine⟨_,_,_,l6,qw,?_,?_⟩
 ·exact(hF.forget id2).mono (fun _ _ h=>h) fun k hk=>⟨by simp[IW k hk],by show(ao (bh (bE id2 m) id2) site _ k).isSome=true;rw[aq (IW k hk)];exact hk⟩
 ·have:=ai.os (P:=E.P) (μ:=μ) (φ:=fun i=>if i=site then q else φ i) (id:=site) (g:=w.heap.size) (by simp[q]);simpa[q]using this
theorem QV{k v v':PV}:∀{es:List (PV×PV)}{j:Nat},(eR k v es)[j]?=some (k,v)→(j5 k es=some j∨(j5 k es=none∧j=es.length))→(eR k v es).set j (k,v')=eR k v' es:=by
 intro es j hj hp;rw[kY,kY];rcases hp with hp|⟨hp,rfl⟩
 ·rw[hp];simp
 ·rw[hp];simp
variable{es:List (PV×PV)}
theorem ay.Uc{P:Program}{μ:Ro}{m:Mem}(hM:ay P G w0 μ φ m w){id i s2:Nat}{kt:TypeId}{k:PV}{rs:List PV}{x:Value}(cR:id2≠id)(hm:m id=some (.eX kt e es))(cP:m id2=some (.arr s2 e rs))(he:es[i]?=some (k,.bad))(hx:∀g en clock,(φ id).g=some g→w.heap[g]?=some (.map en clock)→∃e0,en[i]?=some e0∧e0.val=x)(hv:ai P μ φ (.os id2) x):ay P G w0 μ (fun j=>if j=id then jh (φ id) i 0 (φ id2).tozh else φ j) (ao (eV id (bh (bE id2 m) id2)) id (.eX kt e (es.set i (k,.fQ s2 rs)))) w:=by
 have q6:=(hM.forget id2).sg id;obtain⟨g0,en,clock,kk,hN⟩:=re.1 (hM.dL id _ hm);have W5:aM P μ φ w id2 s2 e rs:=hM.dL id2 _ cP;have iP:∀a b,(bL.eX kt e (es.set i (k,.fQ s2 rs))).rowAt a b=true→(a=i∧b=0)∨((bL.eX kt e es).rowAt a b=true∧¬(a=i∧b=0)):=by
  intro a b hr;by_cases qQ:a=i∧b=0
  ·exact .inl qQ
  ·refine .inr ⟨?_,qQ⟩;rcases iS hr with⟨_,_,_,_,_,_,fR,_⟩|⟨_,_,_,k',s',ZT,fR,rfl,h'⟩
   ·cases fR
   ·simp only[bL.eX.injEq]at fR;obtain⟨rfl,rfl,rfl⟩:=fR;rcases eo h' with⟨rfl,_⟩|⟨QH,h'⟩
    ·exact absurd ⟨rfl,rfl⟩ qQ
    ·rw[iR h'];rfl
 refine hM.MA (fun _ k=>if k=id2 then id else k) (fun j b' hj=>?_) (fun j b' g hj ho=>?_) (fun j b' hj=>?_) (fun j cs k hj hk=>?_) (fun j st hj=>?_)
 ·rcases fa hj with⟨rfl,rfl⟩|⟨h1,h2,c,hc,rfl⟩
  ·refine re.2 ⟨g0,en,clock,kk,by simp[jh,hN.pl],hN.heap,by simp[hN.size],hN.xQ,fun a k' v' h'=>?_,hN.born,fun a k' v' e' h' QU=>?_⟩
   ·rcases eo h' with⟨rfl,hq⟩|⟨_,h'⟩
    ·simp only[Prod.mk.injEq]at hq;rw[hq.1];exact hN.key a k _ he
    ·exact hN.key a k' v' h'
   ·simp only[if_true];rcases eo h' with⟨rfl,hq⟩|⟨QH,h'⟩
    ·simp only[Prod.mk.injEq]at hq;obtain⟨rfl,rfl⟩:=hq;refine⟨(hN.rep a _ _ e' he QU).1,?_⟩;rw[fM];obtain⟨e1,he1,hxe⟩:=hx g0 en clock hN.pl hN.heap;rw[QU]at he1;simp only[Option.some.injEq]at he1;subst he1;rw[hxe];exact⟨W5.up,I8 hv⟩
    ·rw[fT _ _ (fun h=>QH h.1)];exact hN.rep a k' v' e' h' QU
  ·have hb:fS P μ φ w j (dR id (fJ id2 c)):=(hM.dL j c hc).kill.vw;exact hb.MB h1 (by simp[jh]) fun k hk=>by simp[hk]
 ·rcases fa hj with⟨rfl,rfl⟩|⟨h1,h2,c,hc,rfl⟩
  ·simp only[if_true]at ho;rcases ho with ho|⟨a,b,hr,ho⟩
   ·exact⟨j,_,hm,.inl ho,fun _=>rfl,by simp[cR.symm]⟩
   ·rcases iP a b hr with⟨rfl,rfl⟩|⟨qP,qQ⟩
    ·rw[fM]at ho;exact⟨id2,_,cP,.inl ho,fun _=>rfl,by simp⟩
    ·rw[fT _ _ qQ]at ho;exact⟨j,_,hm,.inr ⟨a,b,qP,ho⟩,fun _=>rfl,by simp[cR.symm]⟩
  ·simp only[h1,if_false]at ho;exact⟨j,c,hc,fF.1 (oG.1 ho),fun h=>by rw[vY,uP]at h;exact h,by simp[h2]⟩
 ·rcases fa hj with⟨rfl,rfl⟩|⟨h1,h2,c,hc,rfl⟩
  ·simp only[if_true];have Bk:=hM.apart j _ hm;have new:∀g,(φ id2).g=some g→¬(bL.eX kt e es).eh (φ j) g:=fun g hg ho=>cR (hM.inj id2 j _ _ g cP hm (.inl hg) ho);intro a b g hr hg;rcases iP a b hr with⟨rfl,rfl⟩|⟨qP,qQ⟩
   ·rw[fM]at hg;refine⟨fun h=>new g hg (.inl h),fun a' b' QQ I9=>?_⟩;rcases iP a' b' QQ with h|⟨Ub,Ja⟩
    ·exact h
    ·rw[fT _ _ Ja]at I9;exact absurd (.inr ⟨a',b',Ub,I9⟩) (new g hg)
   ·rw[fT _ _ qQ]at hg;obtain⟨h3,h4⟩:=Bk a b g qP hg;refine⟨h3,fun a' b' QQ I9=>?_⟩;rcases iP a' b' QQ with⟨rfl,rfl⟩|⟨Ub,Ja⟩
    ·rw[fM]at I9;exact absurd (.inr ⟨a,b,qP,hg⟩) (new g I9)
    ·rw[fT _ _ Ja]at I9;exact h4 a' b' Ub I9
  ·simp only[h1,if_false];exact tz.2 (sd.2 (hM.apart j c hc))
 ·rcases fa hj with⟨rfl,hb⟩|⟨h1,h2,c,hc,hb⟩
  ·cases hb
  ·have FZ:eV id (bh (bE id2 m) id2) j=some (.box cs):=by rw[aq h1]at hj;exact hj
   have:=q6.fl j cs k FZ hk;by_cases e:k=id
   ·subst e;simp
   ·rw[aq e];exact this
 ·rcases fa hj with⟨rfl,hb⟩|⟨h1,h2,c,hc,hb⟩
  ·cases hb
  ·cases c<;>first|(simp[dR,fJ]at hb;done)|skip
   simp only[dR,fJ,bL.loop.injEq]at hb;subst hb;exact⟨hc,by simp[h1]⟩
theorem Ol{t kt et:TypeId}{xk:V}{id s:Nat}{key:PV}{rs:List PV}{m:Mem}(hu:E.P.underlying t=some (.map kt et))(hm:m id=some (.eX kt e es))(cP:m id2=some (.arr s e rs))(qu:keyOf E kt xk=some key){μ:Ro}{f:Fr}{ya yk yv:Value}(hM:ay E.P G w0 μ φ m w)(hF:cm E.P μ φ m f ρ)(ha:ai E.P μ φ (.om id) ya)(hk:ai E.P μ φ xk yk)(hv:ai E.P μ φ (.os id2) yv):∃w' φ',(Instr.mapUpdate t ya yk yv).run E.P w=.ok () w'∧ay E.P G w0 μ φ' (qO [(id,.eX kt e (eR key (.fQ s rs) es))] (km [(true,id2),(false,id)] m)) w'∧cm E.P μ φ' (qO [(id,.eX kt e (eR key (.fQ s rs) es))] (km [(true,id2),(false,id)] m)) (kf [(true,id2),(false,id)] f) ρ:=by
 have cR:id2≠id:=fun h=>by subst h;rw[hm]at cP;cases cP
 obtain⟨ks,k1,k2,k3⟩:=q8 qu;obtain⟨g,en,clock,kk,hN⟩:=re.1 (hM.dL id _ hm);have yt:=hN.xQ;rw[k1]at yt;simp only[Option.some.injEq]at yt;subst yt;have N8:=uU k1;have Y5:=k3 μ φ yk hk;obtain⟨hc,WZ⟩:=kE k2 Y5;obtain⟨res,r1,r2⟩:=jS (v:=.nD) (z:=.bad) N8 hc w hN.ent;have Ag:=Go.MapKept.run_getObj_map (P:=E.P) hN.heap;have h1:(Instr.checkKey false 10000 kt yk).run E.P w=.ok () w:=by rw[WZ];exact gq 8 kt ks N8 9992 w false key.cells hc
 rw[←WZ]at r1;have bt:g<w.heap.size:=(Array.getElem?_eq_some_iff.1 hN.heap).1;cases ha with
 |om bY=>
  rw[hN.pl]at bY;simp only[Option.some.injEq]at bY;subst bY;have fin:∀(J:Nat)(IB:Array MapEntry)(nj:Nat),(j5 key es=some J∨(j5 key es=none∧J=es.length))→(Instr.mapUpdate t (.map (some g)) yk yv).run E.P w=.ok () {w with heap:=w.heap.setIfInBounds g (.map IB nj)}→jZ IB nj→IB.size=(eR key .bad es).length→(∃e0,IB[J]?=some e0∧e0.key=yk∧e0.val=yv)→(∀i e0,i≠J→IB[i]?=some e0→en[i]?=some e0)→∃w' φ',(Instr.mapUpdate t (.map (some g)) yk yv).run E.P w=.ok () w'∧ay E.P G w0 μ φ' (qO [(id,.eX kt e (eR key (.fQ s rs) es))] (km [(true,id2),(false,id)] m)) w'∧cm E.P μ φ' (qO [(id,.eX kt e (eR key (.fQ s rs) es))] (km [(true,id2),(false,id)] m)) (kf [(true,id2),(false,id)] f) ρ:=by
   intro J IB nj hJ hr sJ kR hJe Aj;obtain⟨eJ,aac,ad7,ad8⟩:=hJe;have qw:∀i k' v',(eR key .bad es)[i]?=some (k',v')→(i=J∧k'=key∧v'=.bad)∨(i≠J∧es[i]?=some (k',v')):=by
    intro i k' v' h;rw[kY]at h;rcases hJ with hJ|⟨hJ,rfl⟩
    ·rw[hJ]at h;rcases eo h with⟨rfl,hq⟩|⟨QH,h⟩
     ·simp only[Prod.mk.injEq]at hq;exact .inl ⟨rfl,hq.1,hq.2⟩
     ·exact .inr ⟨QH,h⟩
    ·rw[hJ]at h;simp only at h;rw[List.getElem?_append]at h;split at h
     ·rename_i bt;exact .inr ⟨by omega,h⟩
     ·rename_i CR;cases hd:i-es.length with
      |zero=>rw[hd]at h;simp only[List.getElem?_cons_zero,Option.some.injEq,Prod.mk.injEq]at h;exact .inl ⟨by omega,h.1.symm,h.2.symm⟩
      |succ n=>rw[hd]at h;simp at h
   have hJb:(eR key .bad es)[J]?=some (key,.bad):=by
    rw[kY];rcases hJ with hJ|⟨hJ,rfl⟩
    ·rw[hJ];obtain⟨a,u,hj,_⟩:=Az hJ;simp[(List.getElem?_eq_some_iff.1 hj).1]
    ·rw[hJ];simp
   have q6:ay E.P G w0 μ φ (ao m id (.eX kt e (eR key .bad es))) {w with heap:=w.heap.setIfInBounds g (.map IB nj)}:=by
    refine hM.write hm rfl hN.pl ⟨⟨rfl,rfl,rfl,by simp,fun k hk=>by simp[Array.getElem?_setIfInBounds_ne (Nat.ne_of_gt hk)]⟩,fun _=>Nat.le_refl _⟩ (by simp) (fun k hk=>by simp[Array.getElem?_setIfInBounds_ne (Ne.symm hk)]) (re.2 ⟨g,IB,nj,ks,hN.pl,by simp[bt],kR,k1,fun i k' v' h=>?_,sJ,fun i k' v' e0 h FY=>?_⟩) rfl (by simp[bL.names]) (fun st h=>by cases h) fun a b hr=>?_
    ·rcases qw i k' v' h with⟨_,rfl,_⟩|⟨_,h⟩
     ·exact k2
     ·exact hN.key i k' v' h
    ·rcases qw i k' v' h with⟨rfl,rfl,rfl⟩|⟨QH,h⟩
     ·rw[aac]at FY;simp only[Option.some.injEq]at FY;subst FY;exact⟨by rw[ad7];exact Y5,.pure .bad⟩
     ·obtain⟨q1,q2⟩:=hN.rep i k' v' e0 h (Aj i e0 QH FY);refine⟨q1,?_⟩;unfold Bx at q2⊢;split at q2
      ·refine⟨q2.1.cJ rfl (fun _ _ h=>h) fun g' bY=>?_,q2.2⟩;have hr:(bL.eX kt e es).rowAt i 0=true:=by rw[iR h];rfl
       have:=(hM.apart id _ hm i 0 g' hr bY).1;rw[hN.pl]at this;simp only[ne_eq,Option.some.injEq]at this;simp[Array.getElem?_setIfInBounds_ne this]
      ·exact q2
    ·rcases iS hr with⟨_,_,_,_,_,_,fR,_⟩|⟨_,_,_,k',s',ZT,fR,rfl,h'⟩
     ·cases fR
     ·simp only[bL.eX.injEq]at fR;obtain⟨rfl,rfl,rfl⟩:=fR;rcases qw a k' _ h' with⟨_,_,h⟩|⟨_,h⟩
      ·cases h
      ·rw[iR h];rfl
   have qQ:=ay.Uc q6 (id:=id) (id2:=id2) (i:=J) (x:=yv) cR (aN _ _ _) (by rw[aq cR];exact cP) hJb (fun g0 en0 ad9 Iz hh0=>by
    rw[hN.pl]at Iz;simp only[Option.some.injEq]at Iz;subst Iz;have:(w.heap.setIfInBounds g (Obj.map IB nj))[g]?=some (.map IB nj):=by simp[bt]
    rw[this]at hh0;simp only[Option.some.injEq,Obj.map.injEq]at hh0;obtain⟨rfl,_⟩:=hh0;exact⟨eJ,aac,ad8⟩) hv
   rw[QV hJb hJ,BD cR]at qQ;refine⟨_,_,hr,qQ,?_⟩;have Ah:cm E.P μ φ (ao m id (.eX kt e (eR key .bad es))) f ρ:=hF.kX (fun _ _ h=>h) .set;refine((Ah.forget id2).sg id).VF (by simp[jh]) (fun k hk=>by simp[hk]) fun k hk=>?_;show(ao (eV id (bh (bE id2 m) id2)) id _ k).isSome=true;by_cases e1:k=id
   ·subst e1;simp
   ·rw[aq e1];rw[mr]at hk⊢;by_cases e2:k=id2
    ·subst e2;simp at hk
    ·rw[eT e2]at hk⊢;simp only[bE,aq e1]at hk⊢;exact hk
  rcases DB r2 with⟨rfl,hp⟩|⟨j,e0,rfl,FY,hp⟩
  ·have T6:=Go.MapKept.run_setObj_map (P:=E.P) (.map (en.push {key:=yk,val:=yv,born:=clock}) (clock+1)) hN.heap;refine fin es.length _ _ (.inr ⟨hp,rfl⟩) (by simp only[Instr.mapUpdate,Sem.run_bind,run_underlying hu,Ag,h1,r1,Result.andThen_ok];exact T6) hN.born.push (by rw[kY,hp];simp[hN.size]) ⟨{key:=yk,val:=yv,born:=clock},?_,rfl,rfl⟩ fun i e0 hi h=>?_
   ·rw[←hN.size];simp
   ·rw[Array.getElem?_push]at h;split at h
    ·rename_i h';rw[hN.size]at h';exact absurd h' hi
    ·exact h
  ·have Ud:en[j]?=some e0:=by simpa using FY
   obtain⟨a,u,haj,hpq⟩:=Az hp;obtain⟨W0,hva⟩:=kE (hN.key j a u haj) (hN.rep j a u e0 haj Ud).1;have sf:=EC hc W0 hpq;have W2:Instr.sameBits 10000 e0.key yk=true:=by rw[hva,WZ,←sf];refine tx (n:=9999) hc (fun ha=>?_);rw[nG hc];exact(uN N8).2.1 ha
   have T6:=Go.MapKept.run_setObj_map (P:=E.P) (.map (en.modify j fun e=>{e with key:=yk,val:=yv}) clock) hN.heap;have xR:j<en.size:=(Array.getElem?_eq_some_iff.1 Ud).1;refine fin j _ _ (.inl hp) (by simp only[Instr.mapUpdate,Sem.run_bind,run_underlying hu,Ag,h1,r1,Result.andThen_ok];simp only[Nat.zero_add,Ud,Option.map_some,Option.getD_some,Instr.keyThatStays,W2,if_true,Sem.run_pure,Result.andThen_ok];exact T6) (hN.born.modify (fun e=>{e with key:=yk,val:=yv}) (fun _=>rfl) _) (by rw[kY,hp];simp[hN.size]) ⟨{e0 with key:=yk,val:=yv},by rw[Array.getElem?_modify,if_pos rfl,Ud];rfl,rfl,rfl⟩ fun i e1 hi h=>?_;rw[Array.getElem?_modify,if_neg (Ne.symm hi)]at h;exact h
end
end Go.Ab
set_option linter.unusedVariables false
namespace Go.Ab
section
variable {P:Program} {G:Nat→Option (List PV)} {w0:bA} {μ μ':Ro} {φ φ':Nat→aG} {m m':Mem} {w w':World}
structure jt(P:Program)(μ:Ro)(rows:Nat→Nat→zh)(w:World)(s:Nat)(es:List PV)(xs:List Value):Prop where
 len:xs.length=es.length*s
 each:∀(i:Nat)e,es[i]?=some e→e.cells.length=s
 rep:∀(i:Nat)e(j:Nat)p x,es[i]?=some e→e.cells[j]?=some p→xs[i*s+j]?=some x→ek P μ (rows i j) w p x
 one:∀(i:Nat)(x:Value),xs[i]?=some x→x.oneCell'=true
variable{rows:Nat→Nat→zh}{es:List PV}{xs:List Value}
theorem jt.append{BE QW:Nat→Nat→zh}{s:Nat}{es':List PV}{ZU:List Value}(h:jt P μ rows w s es xs)(h':jt P μ BE w s es' ZU)(h1:∀i j,i<es.length→QW i j=rows i j)(h2:∀i j,es.length≤i→QW i j=BE (i-es.length) j):jt P μ QW w s (es++es') (xs++ZU):=by
 refine⟨by simp[h.len,h'.len,Nat.add_mul],fun i e he=>?_,fun i e j p x he hp hx=>?_,fun i x hx=>?_⟩
 ·rw[List.getElem?_append]at he;split at he
  ·exact h.each i e he
  ·exact h'.each _ e he
 ·rw[List.getElem?_append]at he;split at he
  ·rename_i hi;rw[h1 i j hi];have hj:j<s:=by rw[←h.each i e he];exact(List.getElem?_eq_some_iff.1 hp).1
   rw[List.getElem?_append_left (by rw[h.len];exact Bo hi hj)]at hx;exact h.rep i e j p x he hp hx
  ·rename_i hi;rw[h2 i j (by omega)];have e1:i*s+j=es.length*s+((i-es.length)*s+j):=by
    have:i=es.length+(i-es.length):=by omega
    have h3:i*s=es.length*s+(i-es.length)*s:=by rw[←Nat.add_mul,←this]
    omega
   rw[List.getElem?_append_right (by rw[h.len,e1];omega),h.len,show i*s+j-es.length*s=(i-es.length)*s+j by omega]at hx;exact h'.rep _ e j p x he hp hx
 ·rw[List.getElem?_append]at hx;split at hx
  ·exact h.one i x hx
  ·exact h'.one _ x hx
theorem Cells.EG{s:Nat}(h:Cells P μ s es xs):jt P μ rows w s es xs:=⟨h.len,h.each,fun i e j p x he hp hx=>.pure (h.rep i e j p x he hp hx),h.one⟩
theorem jt.cJ{rows:Nat→Nat→zh}{s:Nat}{es:List PV}{xs:List Value}(h:jt P μ rows w s es xs)(hw:∀i e j p g,es[i]?=some e→e.cells[j]?=some p→p.isRow=true→(rows i j).g=some g→w'.heap[g]?=w.heap[g]?):jt P μ rows w' s es xs:=⟨h.len,h.each,fun i e j p x he hp hx=>(h.rep i e j p x he hp hx).cJ (fun _ _ h=>h) fun hr g hg=>hw i e j p g he hp hr hg,h.one⟩
theorem aV.EG{id sz:Nat}{et:TypeId}(h:aV P μ φ w id sz et es){g:Nat}(hg:(φ id).g=some g):∃c:Array Value,w.heap[g]?=some (.cells c et (0,0))∧(φ id).cap*sz≤c.size∧es.length≤(φ id).cap∧jt P μ (φ id).row w sz es (c.toList.take (es.length*sz)):=by obtain⟨a1,a2,a3,a4,a5,a6,a7⟩:=h;rw[hg]at a7;obtain⟨c,c1,c2,c3,c4,c5⟩:=a7;have hle:es.length*sz≤c.size:=Nat.le_trans (Nat.mul_le_mul_right _ c3) c2;refine⟨c,c1,c2,c3,by simp;omega,a5,fun i e j p x he hp hx=>c4 i e j p x he hp (by simpa using(ep hx).2),fun i x hx=>?_⟩;have:=ep hx;exact c5 i x this.1 (by simpa using this.2)
theorem jt.nest{id g sz:Nat}{et:TypeId}{c:Array Value}(TY:(φ id).tozh=⟨some g,(φ id).cap,es.length,sz⟩)(kR:sz=aT P et)(eu:0<sz)(ng:(φ id).cap≤maxLen)(hh:w.heap[g]?=some (.cells c et (0,0)))(hc:(φ id).cap*sz≤c.size)(hle:es.length≤(φ id).cap)(hC:jt P μ (φ id).row w sz es (c.toList.take (es.length*sz))):aV P μ φ w id sz et es:=by
 have e1:(φ id).g=some g:=by rw[TY]
 refine⟨by rw[TY],by rw[TY],kR,eu,hC.each,ng,?_⟩;rw[e1];have xR:∀(i:Nat)e(j:Nat)p,es[i]?=some e→e.cells[j]?=some p→i*sz+j<es.length*sz:=fun i e j p hi hj=>Bo (List.getElem?_eq_some_iff.1 hi).1 (by rw[←hC.each i e hi];exact(List.getElem?_eq_some_iff.1 hj).1);refine⟨c,hh,hc,hle,fun i e j p x hi hj hx=>?_,fun i x hi hx=>?_⟩
 ·exact hC.rep i e j p x hi hj (by rw[List.getElem?_take_of_lt (xR i e j p hi hj)];simpa using hx)
 ·exact hC.one i x (by rw[List.getElem?_take_of_lt hi];simpa using hx)
end
section
variable {R:Type} {E:Env}
def MD(src:Option Nat)(m:Mem):Mem:=match src with|some id2=>bh (bE id2 m) id2|none=>m
def kfS(src:Option Nat)(f:Fr):Fr:=match src with|some id2=>eS id2 f|none=>f
variable{src:Option Nat}
theorem QX{m:Mem}{j:Nat}{b:bL}(h:MD src m j=some b):src≠some j∧∃b',m j=some b'∧b.rowAt=b'.rowAt:=by
 cases src with
 |none=>exact⟨by simp,b,h,rfl⟩
 |some id2=>obtain⟨h1,b',h2,rfl⟩:=eO h;exact⟨fun e=>h1 (by simpa using e.symm),b',h2,sc _ _⟩
theorem Om{t e ty:TypeId}{x:V}{id s:Nat}{es new:List PV}{rd:bp}{m:Mem}(hu:E.P.underlying t=some (.slice e))(hm:m id=some (.nest s e es))(hs:s=aT E.P e)(hz:(dn E e).isSome=true)(eu:0<aT E.P e)(ZV:0<CM E.P e)(ev:(es++new).length*CM E.P e≤aa)(vV:(∃id2,src=some id2∧id2≠id∧x=.os id2∧m id2=some (.nest s e new))∨(src=none∧eI m s x=some (new,rd))){G:Nat→Option (List PV)}{w0:bA}{μ:Ro}{φ:Nat→aG}{w:World}{f:Fr}{ρ:Nat→Value}{ys yx:Value}(hM:ay E.P G w0 μ φ m w)(hF:cm E.P μ φ m f ρ)(ha:ai E.P μ φ (.os id) ys)(hx:ai E.P μ φ x yx):∃w' y φ',(Builtin.append_ #[t,t] ty #[ys,yx]).run E.P w=.ok y w'∧ay E.P G w0 μ φ' (ao (bh (bE id (MD src m)) id) id (.nest s e (es++new))) w'∧cm E.P μ φ' (ao (bh (bE id (MD src m)) id) id (.nest s e (es++new))) (eS id (kfS src f)) ρ∧ai E.P μ φ' (.os id) y:=by
 obtain⟨zc,PZ⟩:=Option.isSome_iff_exists.1 hz;obtain⟨i,zv,hi,Y2,VC,_,Gt,_,_,_⟩:=eF PZ;have hN:aV E.P μ φ w id s e es:=hM.dL id _ hm;have Gv:(es++new).length=es.length+new.length:=by simp
 have jg:0<s:=by omega
 obtain⟨BE,qP⟩:∃BE:Nat→Nat→zh,BE=match src with|some id2=>(φ id2).row|none=>fun _ _=>default:=⟨_,rfl⟩
 obtain⟨os,WT,hC⟩:∃os,((ys=.slice none 0 0∧es.length=0∧os=[])∨∃(g cap:Nat)(c:Array Value),ys=.slice (some ⟨g,0,none⟩) es.length cap∧w.heap[g]?=some (.cells c e (0,0))∧cap*s≤c.size∧es.length≤cap∧cap≤maxLen∧os=c.toList.take (es.length*s))∧jt E.P μ (φ id).row w s es os:=by
  cases ha with
  |pB hg=>have a7:=hN.2.2.2.2.2.2;rw[hg]at a7;rw[a7.1];exact⟨[],.inl ⟨rfl,rfl,rfl⟩,by simp,by simp,fun i e j p x he=>by simp at he,by simp⟩
  | @os _ g hg=>obtain⟨c,c1,c2,c3,c4⟩:=hN.EG hg;exact⟨_,.inr ⟨g,(φ id).cap,c,by rw[hN.1],c1,c2,c3,hN.2.2.2.2.2.1,rfl⟩,c4⟩
 obtain⟨xs,Gu,hCx⟩:∃xs,((yx=.slice none 0 0∧new.length=0∧xs=[])∨∃(a:Addr)(cx:Nat),yx=.slice (some a) new.length cx∧xs.length=new.length*s∧(∀(j:Nat)v,xs[j]?=some v→w.cell? (a.add j)=some v)∧(∀v∈xs,v.oneCell'=true)∧new.length≤cx∧cx≤maxLen)∧jt E.P μ BE w s new xs:=by
  rcases vV with⟨id2,rfl,cR,rfl,cP⟩|⟨rfl,yq⟩
  ·have hN2:aV E.P μ φ w id2 s e new:=hM.dL id2 _ cP;simp only at qP;subst qP;cases hx with
   |pB hg=>have a7:=hN2.2.2.2.2.2.2;rw[hg]at a7;rw[a7.1];exact⟨[],.inl ⟨rfl,rfl,rfl⟩,by simp,by simp,fun i e j p x he=>by simp at he,by simp⟩
   | @os _ g hg=>
    obtain⟨c,c1,c2,c3,c4⟩:=hN2.EG hg;refine⟨_,.inr ⟨⟨g,0,none⟩,(φ id2).cap,by rw[hN2.1],c4.len,fun j v hj=>?_,fun v hv=>?_,c3,hN2.2.2.2.2.2.1⟩,c4⟩
    ·rw[Addr.add_mid,dP c1];simpa using(ep hj).2
    ·obtain⟨j,hj⟩:=List.getElem?_of_mem hv;exact c4.one j v hj
  ·obtain⟨_,_,hsr⟩:=l8 yq;have:=hsr _ _ _ _ _ _ _ hM hx;cases this with
   |none hn=>subst hn;exact⟨[],.inl ⟨rfl,rfl,rfl⟩,by simp,by simp,fun i e j p x he=>by simp at he,by simp⟩
   | @some a cx xs hC Gu VD QI=>exact⟨xs,.inr ⟨a,cx,rfl,hC.len,Gu,fun u hu=>by obtain⟨j,hj⟩:=List.getElem?_of_mem hu;exact hC.one j u hj,VD,QI⟩,hC.EG⟩
 obtain⟨w',y,hr,QJ⟩:=Bp (ty:=ty) hu hi Y2 (by rw[Gt,hs]) hs eu ZV (by rw[←Gv];exact ev) WT Gu;let kZ:Nat→Nat→zh:=fun a b=>if a<es.length then(φ id).row a b else BE (a-es.length) b;have ZX:jt E.P μ kZ w s (es++new) (os++xs):=hC.append hCx (fun a b h=>by simp only[kZ,h,if_true]) (fun a b h=>by simp only[kZ,Nat.not_lt.2 h,if_false]);have iP:∀a b g,(bL.nest s e (es++new)).rowAt a b=true→(kZ a b).g=some g→(a<es.length∧(bL.nest s e es).rowAt a b=true∧((φ id).row a b).g=some g)∨(es.length≤a∧∃id2,src=some id2∧id2≠id∧m id2=some (.nest s e new)∧(bL.nest s e new).rowAt (a-es.length) b=true∧((φ id2).row (a-es.length) b).g=some g):=by
  intro a b g Ae hg;rcases iS Ae with⟨_,_,_,e',s',ZT,fR,h',pR⟩|⟨_,_,_,_,_,_,fR,_⟩
  ·simp only[bL.nest.injEq]at fR;obtain⟨rfl,rfl,rfl⟩:=fR;by_cases bt:a<es.length
   ·rw[List.getElem?_append_left bt]at h';exact .inl ⟨bt,by rw[dA h' pR];rfl,by simpa[kZ,bt]using hg⟩
   ·rw[List.getElem?_append_right (by omega)]at h';simp only[kZ,bt,if_false]at hg;rcases vV with⟨id2,rfl,cR,rfl,cP⟩|⟨rfl,yq⟩
    ·simp only at qP;subst qP;exact .inr ⟨by omega,id2,rfl,cR,cP,by rw[dA h' pR];rfl,hg⟩
    ·exfalso;obtain⟨_,_,hsr⟩:=l8 yq;have h3:=hsr _ _ _ _ _ _ _ hM hx;cases h3 with
     |none hn=>subst hn;simp at h'
     | @some a2 cx xs2 hC2 agt VD QI=>
      have hj:(a-es.length)*s+b<xs2.length:=by rw[hC2.len];exact Bo (List.getElem?_eq_some_iff.1 h').1 (by rw[←hC2.each _ _ h'];exact(List.getElem?_eq_some_iff.1 pR).1)
      exact absurd (hC2.rep _ _ _ _ _ h' pR (List.getElem?_eq_getElem hj)).Ax (by simp[PV.isRow])
  ·cases fR
 have QY:∀j,(bh (bE id (MD src m)) id j).isSome=true→j≠id:=fun j hj e=>by subst e;simp at hj
 have bP:∀j b',bh (bE id (MD src m)) id j=some b'→j≠id∧src≠some j∧∃b,m j=some b∧b'.rowAt=b.rowAt:=by intro j b' hj;obtain⟨h1,b1,h2,rfl⟩:=eO hj;obtain⟨h3,b2,h4,h5⟩:=QX h2;exact⟨h1,h3,b2,h4,by rw[sc,h5]⟩
 have Je:∀{j b' b g},b'.rowAt=b.rowAt→bL.eh b' (φ j) g→bL.eh b (φ j) g:=fun h ho=>by unfold bL.eh at*;rw[←h];exact ho
 have hM0:ay E.P G w0 μ φ (MD src m) w:=by
  cases src with
  |none=>exact hM
  |some id2=>exact hM.forget id2
 have hF0:cm E.P μ φ (MD src m) (kfS src f) ρ:=by
  cases src with
  |none=>exact hF
  |some id2=>exact hF.forget id2
 have q6:=hM0.forget id;have Ah:=hF0.forget id;have EH:∀a b g,(bL.nest s e (es++new)).rowAt a b=true→(kZ a b).g=some g→w0.heap.size≤g∧μ g=none∧g<w.heap.size∧∀j b',bh (bE id (MD src m)) id j=some b'→¬b'.eh (φ j) g:=by
  intro a b g Ae hg;rcases iP a b g Ae hg with⟨_,h2,h3⟩|⟨_,id2,rfl,cR,cP,h2,h3⟩
  ·obtain⟨o1,o2⟩:=hM.own id _ g hm (.inr ⟨a,b,h2,h3⟩);refine⟨o1,o2 rfl,(hM.dL id _ hm).Bh (.inr ⟨a,b,h2,h3⟩),fun j b' hj ho=>?_⟩;obtain⟨k1,_,b2,k3,k4⟩:=bP j b' hj;exact k1 (hM.inj j id _ _ g k3 hm (Je k4 ho) (.inr ⟨a,b,h2,h3⟩))
  ·obtain⟨o1,o2⟩:=hM.own id2 _ g cP (.inr ⟨_,b,h2,h3⟩);refine⟨o1,o2 rfl,(hM.dL id2 _ cP).Bh (.inr ⟨_,b,h2,h3⟩),fun j b' hj ho=>?_⟩;obtain⟨_,k1,b2,k3,k4⟩:=bP j b' hj;exact k1 (by rw[hM.inj j id2 _ _ g k3 cP (Je k4 ho) (.inr ⟨_,b,h2,h3⟩)])
 have On:∀a b a' b' g,(bL.nest s e (es++new)).rowAt a b=true→(kZ a b).g=some g→(bL.nest s e (es++new)).rowAt a' b'=true→(kZ a' b').g=some g→a'=a∧b'=b:=by
  intro a b a' b' g h1 h2 h3 h4;rcases iP a b g h1 h2 with⟨u1,u2,u3⟩|⟨u1,i2,u0,une,um,u2,u3⟩<;>rcases iP a' b' g h3 h4 with⟨v1,v2,v3⟩|⟨v1,i3,v0,vne,vm,v2,v3⟩
  ·exact(hM.apart id _ hm a b g u2 u3).2 a' b' v2 v3
  ·exact absurd (hM.inj i3 id _ _ g vm hm (.inr ⟨_,_,v2,v3⟩) (.inr ⟨_,_,u2,u3⟩)) vne
  ·exact absurd (hM.inj i2 id _ _ g um hm (.inr ⟨_,_,u2,u3⟩) (.inr ⟨_,_,v2,v3⟩)) une
  ·rw[u0]at v0;simp only[Option.some.injEq]at v0;subst v0;obtain⟨h5,h6⟩:=(hM.apart i2 _ um (a-es.length) b g u2 u3).2 (a'-es.length) b' v2 v3;exact⟨by omega,h6⟩
 have fin:∀(q:aG)(w1:World),q.row=kZ→jB w0.heap.size w w1→(∀k o,μ k=some o→w1.heap[k]?=some o)→(∀j b' g,bh (bE id (MD src m)) id j=some b'→b'.eh (φ j) g→w1.heap[g]?=w.heap[g]?)→(∀g,q.g=some g→w0.heap.size≤g∧μ g=none∧(∀j b',bh (bE id (MD src m)) id j=some b'→¬b'.eh (φ j) g)∧∀a b,(bL.nest s e (es++new)).rowAt a b=true→(kZ a b).g≠some g)→(aV E.P μ (fun k=>if k=id then q else φ k) w1 id s e (es++new))→ay E.P G w0 μ (fun k=>if k=id then q else φ k) (ao (bh (bE id (MD src m)) id) id (.nest s e (es++new))) w1∧cm E.P μ (fun k=>if k=id then q else φ k) (ao (bh (bE id (MD src m)) id) id (.nest s e (es++new))) (eS id (kfS src f)) ρ:=by
  intro q w1 hq IV mn hold rV jd;refine⟨q6.put (by simp) IV mn hold (fun g hg=>?_) (fun a b g Ae hg=>?_) jd (by simp[bL.names]) (fun st h=>by cases h),Ah.mono (fun _ _ h=>h) fun j hj=>⟨by simp[QY j hj],by rw[aq (QY j hj)];exact hj⟩⟩
  ·rcases hg with hg|⟨a,b,Ae,hg⟩
   ·obtain⟨o1,o2,o3,_⟩:=rV g hg;exact⟨o1,o2,o3⟩
   ·rw[hq]at hg;obtain⟨o1,o2,_,o3⟩:=EH a b g Ae hg;exact⟨o1,o2,o3⟩
  ·rw[hq]at hg;refine⟨fun h=>(rV g h).2.2.2 a b Ae hg,fun a' b' aea bY=>?_⟩;rw[hq]at bY;exact On a b a' b' g Ae hg aea bY
 rcases QJ with⟨rfl,rfl,h1,h2⟩|⟨g',Af,c',rfl,b1,b2,b3,b4,b5,b6⟩
 ·have h1:es=[]:=List.eq_nil_of_length_eq_zero h1;have h2:new=[]:=List.eq_nil_of_length_eq_zero h2;obtain⟨k1,k2⟩:=fin {g:=none,cap:=0,len:=0,sz:=s,row:=kZ} w' rfl (jB.refl _ _) hM.ro (fun _ _ _ _ _=>rfl) (fun g hg=>by cases hg) ⟨by simp[h1,h2],by simp,hs,jg,by simp[h1,h2],by simp[maxLen],by simp[h1,h2]⟩;exact⟨w',_,_,hr,k1,k2,.pB (by simp)⟩
 ·have hq:∀(w1:World),w1.heap[g']?=some (.cells c' e (0,0))→jt E.P μ kZ w1 s (es++new) (os++xs)→aV E.P μ (fun k=>if k=id then({g:=some g',cap:=Af,len:=(es++new).length,sz:=s,row:=kZ}:aG)else φ k) w1 id s e (es++new):=fun w1 hh hC1=>jt.nest (g:=g') (c:=c') (by simp) hs jg (by simpa using b4) hh (by simpa using b2) (by simpa[Gv]using b3) (by rw[Gv,b5];simpa using hC1);have VG:ai E.P μ (fun k=>if k=id then({g:=some g',cap:=Af,len:=(es++new).length,sz:=s,row:=kZ}:aG)else φ k) (.os id) (.slice (some ⟨g',0,none⟩) (es.length+new.length) Af):=by have:=ai.os (P:=E.P) (μ:=μ) (φ:=fun k=>if k=id then({g:=some g',cap:=Af,len:=(es++new).length,sz:=s,row:=kZ}:aG)else φ k) (id:=id) (g:=g') (by simp);simp only[if_true]at this;rw[←Gv];exact this
  rcases b6 with⟨T2,Y3,b6,b7⟩|⟨rfl,rfl⟩
  ·have bY:(φ id).g=some g':=by
    have key:∀z,ai E.P μ φ (.os id) z→z=.slice (some ⟨g',0,none⟩) es.length T2→(φ id).g=some g':=by
     intro z hz he;cases hz with
     |pB _=>cases he
     |os hg=>simp only[Value.slice.injEq,Option.some.injEq,Addr.mk.injEq]at he;rw[←he.1.1];exact hg
    exact key _ ha Y3
   obtain⟨o1,o2⟩:=hM.own id _ g' hm (.inl bY);have Gq:∀a b,(bL.nest s e (es++new)).rowAt a b=true→(kZ a b).g≠some g':=by
    intro a b Ae hg;rcases iP a b g' Ae hg with⟨u1,u2,u3⟩|⟨u1,i2,u0,une,um,u2,u3⟩
    ·exact(hM.apart id _ hm a b g' u2 u3).1 bY
    ·exact une (hM.inj i2 id _ _ g' um hm (.inr ⟨_,_,u2,u3⟩) (.inl bY))
   have Aj:∀j b',bh (bE id (MD src m)) id j=some b'→¬b'.eh (φ j) g':=fun j b' hj ho=>by obtain⟨k1,_,b2,k3,k4⟩:=bP j b' hj;exact k1 (hM.inj j id _ _ g' k3 hm (Je k4 ho) (.inl bY))
   obtain⟨k1,k2⟩:=fin {g:=some g',cap:=Af,len:=(es++new).length,sz:=s,row:=kZ} w' rfl (b6.mono o1) (fun k o hk=>by rw[b7 k (fun e=>by subst e;rw[o2 rfl]at hk;cases hk)];exact hM.ro k o hk) (fun j b' g hj ho=>b7 g fun e=>by subst e;exact Aj j b' hj ho) (fun g hg=>by
     simp only[Option.some.injEq]at hg;subst hg;exact⟨o1,o2 rfl,Aj,Gq⟩)
    (hq w' b1 (ZX.cJ fun a e1 b p1 g he hp Ae hg=>b7 g fun e=>by subst e;exact Gq a b (by rw[dA he hp];exact Ae) hg))
   exact⟨w',_,_,hr,k1,k2,VG⟩
  ·have hold:∀k,k<w.heap.size→(w.drew.alloc (.cells c' e)).heap[k]?=w.heap[k]?:=fun k hk=>jB.heap_alloc w.drew _ k hk;obtain⟨k1,k2⟩:=fin {g:=some w.heap.size,cap:=Af,len:=(es++new).length,sz:=s,row:=kZ} (w.drew.alloc (.cells c' e)) rfl ((jB.refl _ w).drew.alloc hM.below.size _) (fun k o hk=>by
     have:=hM.ro k o hk;rw[hold k (Array.getElem?_eq_some_iff.1 this).1];exact this)
    (fun j b' g hj ho=>hold g ((q6.dL j b' hj).Bh ho)) (fun g hg=>by
     simp only[Option.some.injEq]at hg;subst hg;refine⟨hM.below.size,?_,fun j b' hj ho=>?_,fun a b Ae hg=>?_⟩
     ·cases hq:μ w.heap.size with
      |none=>rfl
      |some o'=>have:=hM.ro _ _ hq;simp at this
     ·have:=(q6.dL j b' hj).Bh ho;omega
     ·have:=(EH a b _ Ae hg).2.2.1;omega)
    (hq _ b1 (ZX.cJ fun a e1 b p1 g he hp Ae hg=>hold g (EH a b g (by rw[dA he hp];exact Ae) hg).2.2.1))
   exact⟨_,_,_,hr,k1,k2,VG⟩
theorem BF{m:Mem}:∀{cs:List V}{j0:Nat}{ps:List PV},jA m j0 cs=some (ps,none)→∀m2:Mem,jA m2 j0 cs=some (ps,none)
 |[],j0,ps,h,m2=>h
 |v::r,j0,ps,h,m2=>by
  unfold jA at h;split at h
  ·rename_i heq;cases heq
  ·rename_i j id r' heq;split at h
   ·split at h
    ·simp at h
    ·cases h
   ·cases h
  ·rename_i j v' r' cR heq;simp only[List.cons.injEq]at heq;obtain⟨rfl,rfl⟩:=heq;unfold jA;split
   ·rename_i heq;cases heq
   ·rename_i j id r' heq;simp only[List.cons.injEq]at heq;exact absurd heq.1 (cR id)
   ·rename_i j v' r' cR heq;simp only[List.cons.injEq]at heq;obtain⟨rfl,rfl⟩:=heq;split at h
    ·rename_i p hp;split at h
     ·rename_i ZH t ht;simp only[Option.some.injEq,Prod.mk.injEq]at h;obtain⟨rfl,rfl⟩:=h;rw[BF ht m2]
     ·cases h
    ·cases h
theorem tA{m m2:Mem}{j id2:Nat}(hm:m2 id2=m id2):∀{cs:List V}{j0:Nat}{ps:List PV},jA m j0 cs=some (ps,some (j,id2))→jA m2 j0 cs=some (ps,some (j,id2))
 |[],j0,ps,h=>by simp[jA]at h
 |v::r,j0,ps,h=>by
  unfold jA at h;split at h
  ·rename_i heq;cases heq
  ·rename_i j id r' heq;simp only[List.cons.injEq]at heq;obtain⟨rfl,rfl⟩:=heq;split at h
   ·rename_i s et es ME;split at h
    ·rename_i ZH ht;simp only[Option.some.injEq,Prod.mk.injEq]at h;obtain⟨rfl,rfl,rfl⟩:=h;simp only[jA,hm,ME,BF ht m2]
    ·cases h
   ·cases h
  ·rename_i j v' r' cR heq;simp only[List.cons.injEq]at heq;obtain⟨rfl,rfl⟩:=heq;unfold jA;split
   ·rename_i heq;cases heq
   ·rename_i j id r' heq;simp only[List.cons.injEq]at heq;exact absurd heq.1 (cR id)
   ·rename_i j v' r' cR heq;simp only[List.cons.injEq]at heq;obtain⟨rfl,rfl⟩:=heq;split at h
    ·rename_i p hp;split at h
     ·rename_i ZH t ht;simp only[Option.some.injEq,Prod.mk.injEq]at h;obtain⟨rfl,rfl⟩:=h;rw[tA hm ht]
     ·cases h
    ·cases h
theorem Jf{site:Nat}{o:Oper}{f f2:Fr}{m m2:Mem}{sp:Sp}(h:vQ E site o f m=some sp)(hf:∀x∈o.op.operands,bD E f2 x=bD E f x)(hm:∀x∈(sp.info site).2,m2 x.2=m x.2):vQ E site o f2 m2=some sp:=by
 obtain⟨dst,op,type,pos,after,guard⟩:=o;unfold vQ at h⊢;cases op;case store t a x=>
  simp only at h⊢;rw[hf a (by simp[Op.operands]),hf x (by simp[Op.operands])];split at h
  ·rename_i id i off ha;split at h
   ·rename_i s et es ME;split at h
    ·rename_i cs hc;split at h
     ·rename_i ps j id2 ht;split at h
      ·rename_i iU;simp only[Option.some.injEq]at h;subst h;have h1:m2 id=m id:=hm (true,id) (by simp[Sp.info]);have h2:m2 id2=m id2:=hm (true,id2) (by simp[Sp.info]);simp only[ha,h1,ME,hc,tA h2 ht,iU,if_true]
      ·cases h
     ·cases h
    ·cases h
   ·cases h
  ·cases h
 case buildSlice t len parts=>
  simp only at h⊢;have Oj:(parts.toList.map fun(x:Nat×Operand)=>(x.1,bD E f2 x.2))=parts.toList.map fun(x:Nat×Operand)=>(x.1,bD E f x.2):=List.map_congr_left fun x hx=>by rw[hf x.2 (by simp only[Op.operands,List.mem_toArray,List.mem_map];exact⟨x,hx,rfl⟩)]
  rw[Oj];split at h
  ·rename_i e v hu hp;split at h
   ·rename_i cs hc;split at h
    ·rename_i ps j id2 ht hs;split at h
     ·rename_i p CT;split at h
      ·rename_i iU;simp only[Option.some.injEq]at h;subst h;have h1:m2 site=m site:=hm (true,site) (by simp[Sp.info]);have h2:m2 id2=m id2:=hm (true,id2) (by simp[Sp.info]);simp only[hu,hp,hc,tA h2 ht,h1,hs,CT,iU,if_true]
      ·cases h
     ·cases h
    ·cases h
   ·cases h
  ·cases h
 case call c=>
  obtain⟨callee,args,argTypes⟩:=c;simp only at h⊢;have jF:args.toList.map (bD E f2)=args.toList.map (bD E f):=List.map_congr_left fun x hx=>hf x (by simp only[Op.operands,Call.operands];cases callee<;>simp[Array.mem_toList_iff.1 hx]);rw[jF];split at h
  ·rename_i id x t t' ha W8;split at h
   ·rename_i e s et es hu ME;split at h
    ·rename_i iU;have plain:∀{new:List PV}{rd:bp},eI m s x=some (new,rd)→x.has id=false→sp=.app id s et es new none rd→eI m2 s x=some (new,rd):=by intro new rd yq W9 jg;subst jg;obtain⟨e1,_,_⟩:=l8 yq;exact e1 m2 fun y hy=>hm y (by simp[Sp.info,hy])
     split at h
     ·rename_i nE;split at h
      ·rename_i s' AW new Tr;split at h
       ·rename_i CQ;simp only[Option.some.injEq]at h;subst h;have h1:m2 id=m id:=hm (true,id) (by simp[Sp.info]);have h2:m2 nE=m nE:=hm (true,nE) (by simp[Sp.info]);simp only[ha,W8,hu,h1,ME,iU,if_true,h2,Tr,CQ]
       ·cases h
      ·rename_i hnn;split at h
       ·rename_i new rd yq;split at h
        ·cases h
        ·rename_i W9;simp only[Option.some.injEq]at h;have QZ:=plain yq (by simpa using W9) h.symm;subst h;have h1:m2 id=m id:=hm (true,id) (by simp[Sp.info]);simp only[ha,W8,hu,h1,ME,iU,if_true,QZ];split
         ·rename_i s' AW agu cP;exfalso;simp only[eI,cP]at QZ;cases QZ
         ·rw[if_neg W9]
       ·cases h
     ·rename_i agv;split at h
      ·rename_i new rd yq;split at h
       ·cases h
       ·rename_i W9;simp only[Option.some.injEq]at h;have QZ:=plain yq (by simpa using W9) h.symm;subst h;have h1:m2 id=m id:=hm (true,id) (by simp[Sp.info]);simp only[ha,W8,hu,h1,ME,iU,if_true,QZ];try rw[if_neg W9]
      ·cases h
    ·cases h
   ·cases h
  ·cases h
 case mapUpdate t x key v=>
  simp only at h⊢;rw[hf x (by simp[Op.operands]),hf key (by simp[Op.operands]),hf v (by simp[Op.operands])];split at h
  ·rename_i kt et id id2 hu hx hv;split at h
   ·rename_i sU e es s e' rs kp h1 h2 hk;split at h
    ·rename_i iU;simp only[Option.some.injEq]at h;subst h;have h3:m2 id=m id:=hm (true,id) (by simp[Sp.info]);have h4:m2 id2=m id2:=hm (true,id2) (by simp[Sp.info]);simp only[hu,hx,hv,h3,h4,h1,h2,hk,iU,if_true]
    ·cases h
   ·cases h
  ·cases h
 all_goals (cases h)
end
end Go.Ab
