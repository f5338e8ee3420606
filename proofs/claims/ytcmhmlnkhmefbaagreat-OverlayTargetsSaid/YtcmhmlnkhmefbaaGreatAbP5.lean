import Derived.Test.YtcmhmlnkhmefbaaGreatAbP4
import Derived.RangeFuncRecord
import Derived.Laws.IdiomRangeMap
set_option linter.unusedVariables false
namespace Go.Ab
section
variable {P:Program} {G:Nat→Option (List PV)} {w0:bt} {μ:Ro} {φ:Nat→aC} {m:Mem} {w:World}
theorem au.YU(hM:au P G w0 μ φ m w){g:Nat}(hB:w0.heap.size≤g)(YV:∀id b,m id=some b→¬b.ec (φ id) g):au P G w0 (mY μ w (some g)) φ m w:=by
 have mono:=jO hM (some g);refine⟨hM.below,fun b o hb=>?_,fun g' cs hg=>(hM.aD g' cs hg).mono mono,fun j c hj=>(hM.dG j c hj).cG (fun _ _=>rfl) rfl mono (fun _ _=>rfl),fun j c g' hj bU=>?_,hM.inj,hM.apart,hM.fh,fun b o hb bp=>?_,fun b o hb=>mono b o (hM.dC b o hb),hM.yC⟩
 ·unfold mY at hb;split at hb
  ·exact hb
  ·exact hM.ro b o hb
 ·obtain⟨h1,h2⟩:=hM.own j c g' hj bU;refine⟨h1,fun AB=>?_⟩;unfold mY;split
  ·rename_i he;simp only[Option.some.injEq]at he;subst he;exact absurd bU (YV j c hj)
  ·exact h2 AB
 ·unfold mY at hb;split at hb
  ·rename_i he;simp only[Option.some.injEq]at he;omega
  ·exact hM.base b o hb bp
theorem Il(w:World)(g:Nat)(o:Obj):jm g w (w.putObj g o):=⟨⟨rfl,rfl,rfl,by simp,fun k hk=>World.putObj_heap_other (by omega)⟩,fun _=>Nat.le_refl _⟩
theorem wk{A:Type}(f:A→Nat):∀{l:List A}{i:Nat}{e:A},l[i]?=some e→(∀(j:Nat)x,l[j]?=some x→f x=f e→j=i)→l.filter (fun x=> !(f x==f e))=l.eraseIdx i
 |[],i,e,h,_=>by simp at h
 |y::l,0,e,h,inj=>by simp only[List.getElem?_cons_zero,Option.some.injEq]at h;subst h;simp only[List.filter_cons,BEq.rfl,Bool.not_true,Bool.false_eq_true,if_false,List.eraseIdx_cons_zero];rw[List.filter_eq_self];intro x hx;obtain⟨j,hj⟩:=List.mem_iff_getElem?.1 hx;simp only[Bool.not_eq_true',beq_eq_false_iff_ne];intro e;have:=inj (j+1) x (by simpa using hj) e;omega
 |y::l,i+1,e,h,inj=>by
  have h':l[i]?=some e:=by simpa using h
  have cR:¬f y=f e:=fun e'=>by have:=inj 0 y rfl e';omega
  have hb:(f y==f e)=false:=by simpa using cR
  simp only[List.filter_cons,hb,Bool.not_false,if_true,List.eraseIdx_cons_succ];rw[wk f h' (fun j x hj e'=>by have:=inj (j+1) x (by simpa using hj) e';omega)]
theorem CU(en:Array MapEntry):jn en #[]=en.toList:=by unfold jn;rw[List.filter_eq_self];intro x _;simp
variable{en:Array MapEntry}{clock:Nat}{seen:Array Nat}{e:MapEntry}
theorem AR(hb:jN en clock){i:Nat}(hi:(jn en seen)[i]?=some e):jn en (seen.push e.born)=(jn en seen).eraseIdx i:=by
 have h1:jn en (seen.push e.born)=(jn en seen).filter (fun x=> !(x.born==e.born)):=by unfold jn;rw[List.filter_filter];congr 1;funext x;simp only[Array.contains_push,Bool.not_or];rw[Bool.and_comm]
 rw[h1];refine wk (fun x=>x.born) hi fun j x hj e'=>?_;have Ss:(jn en seen).Pairwise fun a b=>a.born≠b.born:=by
  unfold jn;refine List.Pairwise.filter _ ?_;rw[List.pairwise_iff_getElem];intro a b ha fL qo he;have h2:en[a]?=some en.toList[a]:=by rw[←Array.getElem?_toList];exact List.getElem?_eq_getElem ha
  have h3:en[b]?=some en.toList[b]:=by rw[←Array.getElem?_toList];exact List.getElem?_eq_getElem fL
  have:=(hb b _ h3).2 a _ h2 he;omega
 have xf:j<(jn en seen).length:=(List.getElem?_eq_some_iff.1 hj).1;have OY:i<(jn en seen).length:=(List.getElem?_eq_some_iff.1 hi).1;rw[List.getElem?_eq_getElem xf]at hj;rw[List.getElem?_eq_getElem OY]at hi;simp only[Option.some.injEq]at hj hi;rw[List.pairwise_iff_getElem]at Ss;rcases Nat.lt_trichotomy j i with h|h|h
 ·exact absurd (by rw[hj,hi];exact e') (Ss j i xf OY h)
 ·exact h
 ·exact absurd (by rw[hj,hi];exact e'.symm) (Ss i j OY xf h)
theorem Ng(h:e∈jn en seen):∃i:Nat,en[i]?=some e:=by unfold jn at h;have:=(List.mem_filter.1 h).1;obtain⟨i,hi⟩:=List.mem_iff_getElem?.1 this;exact⟨i,by rw[←Array.getElem?_toList];exact hi⟩
theorem Nh{w:World}{g mg:Nat}(hg:w.heap[g]?=some (.mapIter (some mg) clock seen clock))(hm:w.heap[mg]?=some (.map en clock))(hb:jN en clock)(ty:TypeId):(jn en seen=[]∧(Instr.next (.pointer (some ⟨g,0,none⟩)) false ty).run P w=.ok (.tuple #[.bool false]) w)∨∃(j:Nat)(e:MapEntry)(w1:World),(jn en seen)[j]?=some e∧(w1=w∨w1=w.drew)∧(Instr.next (.pointer (some ⟨g,0,none⟩)) false ty).run P w=.ok (.tuple #[.bool true,e.key,e.val]) (w1.putObj g (.mapIter (some mg) clock (seen.push e.born) clock)):=by
 have hold:∀x∈en.toList,x.born<clock:=fun x hx=>by obtain⟨i,hi⟩:=List.mem_iff_getElem?.1 hx;exact(hb i x (by rw[←Array.getElem?_toList];exact hi)).1
 simp only[Instr.next,getObj,Sem.run_bind,Sem.run,hg,hm,Result.andThen,next_test_false seen en clock clock hold (Nat.le_refl _),Bool.false_eq_true,if_false];have hL:(Array.filter (fun e=> !seen.contains e.born) en).toList=jn en seen:=by simp[jn]
 have bN:∀x∈(Array.filter (fun e=> !seen.contains e.born) en).toList,x.born<clock:=fun x hx=>hold x (by simp at hx⊢;exact hx.1);generalize Array.filter (fun e=> !seen.contains e.born) en=L at bN hL⊢;have e1:L.filter (fun x=>decide (x.born<clock))=L:=Array.filter_eq_self.2 (fun x hx=>by simpa using bN x (by simpa using hx));have e2:L.filter (fun x=>decide (x.born≥clock))= #[]:=by rw[Array.filter_eq_empty_iff];intro x hx;have:=bN x (by simpa using hx);simp;omega
 simp only[e1,e2,Array.append_empty];rw[←hL];by_cases h0:L.size=0
 ·left;have:L= #[]:=Array.eq_empty_of_size_eq_zero h0;subst this;refine⟨rfl,?_⟩;simp[choose,Sem.run,Question.forced]
 ·right;have cR:L.isEmpty=false:=by simp[Array.isEmpty,h0]
  simp only[cR,Bool.false_eq_true,if_false,Array.empty_append,Array.size_map];have hch:∃(j:Nat)(w1:World),j<L.size∧(w1=w∨w1=w.drew)∧(choose (Question.mapNext L.size)).run P w=.ok j w1:=by
   by_cases hf:L.size≤1
   ·exact⟨0,w,by omega,.inl rfl,by simp[choose,Sem.run,Question.forced,hf]⟩
   ·exact⟨_,w.drew,Nat.mod_lt _ (by omega),.inr rfl,by simp only[choose,Sem.run,Question.forced,decide_eq_true_eq,hf,if_false,Question.cut];rfl⟩
  obtain⟨j,w1,hj,M6,lM⟩:=hch;refine⟨j,L[j],w1,by rw[Array.getElem?_toList,Array.getElem?_eq_getElem hj],M6,?_⟩;have hg1:w1.heap[g]?=some (.mapIter (some mg) clock seen clock):=by rcases M6 with rfl|rfl<;>exact hg
  have qB:(setObj g (.mapIter (some mg) clock (seen.push L[j].born) clock)).run P w1=.ok () (w1.putObj g (.mapIter (some mg) clock (seen.push L[j].born) clock)):=by simp only[setObj,Sem.run,hg1];rfl
  simp only[lM,Array.getElem?_map,Array.getElem?_eq_getElem hj,Option.map_some,Sem.run_bind,qB,Result.andThen];rfl
theorem Im{w:World}{g mg:Nat}{i:Nat}(hg:w.heap[g]?=some (.mapIter (some mg) clock seen clock))(hm:w.heap[mg]?=some (.map en clock))(hb:jN en clock)(hi:en[i]?=some e)(hs:seen.back? =some e.born):(Instr.entry (.pointer (some ⟨g,0,none⟩))).run P w=.ok (.tuple #[e.key,e.val]) w:=by
 have hf:en.find? (·.born==e.born)=some e:=by
  rw[←Array.find?_toList];refine find_born e en.toList ?_ (by rw[Array.mem_toList_iff];exact Array.mem_of_getElem? hi);rw[List.Nodup,List.pairwise_map,List.pairwise_iff_getElem];intro a b ha fL qo he;have h2:en[a]?=some en.toList[a]:=by rw[←Array.getElem?_toList];exact List.getElem?_eq_getElem ha
  have h3:en[b]?=some en.toList[b]:=by rw[←Array.getElem?_toList];exact List.getElem?_eq_getElem fL
  have:=(hb b _ h3).2 a _ h2 he;omega
 simp only[Instr.entry,getObj,Sem.run_bind,Sem.run,hg,hm,Result.andThen,hs,bne_self_eq_false,Bool.false_eq_true,if_false,hf];rfl
end
section
variable {R:Type} {E:Env}
variable{g:Nat→Option R}{r:R}
theorem Io{n:Nat}(h:po n g=some r)(i:Nat)(hi:i<n):g i=some r:=by
 unfold po at h;split at h
 ·rename_i hh;simp only[Option.some.injEq]at h;subst h;exact Classical.choose_spec hh i hi
 ·cases h
theorem AS{n:Nat}(h0:0<n)(h:∀i,i<n→g i=some r):po n g=some r:=by unfold po;have hh:∃r,∀i,i<n→g i=some r:=⟨r,h⟩;rw[dif_pos hh];have:=Classical.choose_spec hh 0 h0;rw[h 0 h0]at this;exact this.symm
variable{k:V→Fr→Mem→Option R}
theorem Ni{site:Nat}{t:TypeId}{x:V}{f:Fr}{m:Mem}(h:H0 E site t x f m k=some r):∃f' m',k (.it site) f' m'=some r∧(m' site).isSome=true∧∀(G:Nat→Option (List PV))(w0:bt)(μ:Ro)(φ:Nat→aC)(w:World)(ρ:Nat→Value)(y:Value),au E.P G w0 μ φ m w→cj E.P μ φ m f ρ→af E.P μ φ x y→∃w' y' μ' φ',(Instr.range t y).run E.P w=.ok y' w'∧au E.P G w0 μ' φ' m' w'∧cj E.P μ' φ' m' f' ρ∧af E.P μ' φ' (.it site) y':=by
 unfold H0 at h;split at h
 ·rename_i kt et hu;split at h
  ·rename_i id;split at h
   ·rename_i sr es hm;split at h
    ·obtain⟨f',m',hn,mM,uf,vl,sK⟩:=cH h;refine⟨f',m',mM,by simp[uf],fun G w0 μ φ w ρ y hM hF hx=>?_⟩;obtain⟨g,en,clock,kk,hg,hh,hs,xB,AA,sd,hv⟩:=hM.dG id _ hm;obtain⟨o1,o2⟩:=hM.own id _ g hm (.inl hg);cases hx with
     |om bU=>
      rw[hg]at bU;simp only[Option.some.injEq]at bU;subst bU;have qA:=hM.forget id;have XL:=qA.YU o1 (fun j b hj e=>by obtain⟨cR,b',fL,rfl⟩:=eK hj;exact cR (hM.inj j id b' _ g fL hm (fC.1 e) (.inl hg)));have CV:=jO qA (some g);have zt:cj E.P (mY μ w (some g)) φ (aX (bB id m) id) (eO id f) ρ:=(hF.forget id).mono CV fun j hj=>⟨rfl,hj⟩;have iP:∀φ':Nat→aC,φ' site=(B8 (some w.heap.size) 0 0 0)→(∀j,(bI.iter t es none).names j=true→φ' j=φ j)→fM E.P (mY μ w (some g)) φ' (w.alloc (.mapIter (some g) clock #[] clock)) site (.iter t es none):=fun φ' hp _=>by
       refine⟨w.heap.size,g,en,clock,#[],by rw[hp],fD w _,by simp[mY,hh],sd,(by rw[CU,Array.length_toList,hs]),fun i k v e h1 h2=>?_,fun k v h=>by cases h⟩;have Nb:en[i]?=some e:=by rw[←Array.getElem?_toList,←CU en];exact h2
       exact⟨(hv i k v e h1 Nb).1.mono CV,(hv i k v e h1 Nb).2.mono CV⟩
      obtain⟨φ',a1,a2,a3⟩:=sK E.P G w0 _ φ w (w.alloc (.mapIter (some g) clock #[] clock)) ρ (B8 (some w.heap.size) 0 0 0) XL zt (jo.alloc (o:=.mapIter (some g) clock #[] clock) XL rfl iP (by simp[bI.names]));exact⟨_,_,_,φ',run_range_map w t kt et g en clock hu hh,a2,a3,.it (by rw[a1])⟩
    ·cases h
   ·cases h
  ·cases h
 ·cases h
theorem wm{A:Type}{l:List A}{i j:Nat}{x:A}(h:(l.eraseIdx i)[j]?=some x):l[if j<i then j else j+1]?=some x:=by
 rw[List.getElem?_eraseIdx]at h;split at h
 ·rename_i bp;rw[if_pos bp];exact h
 ·rename_i bp;rw[if_neg bp];exact h
theorem PM{x:V}{f:Fr}{m:Mem}(h:Pk E x f m k=some r)(G:Nat→Option (List PV))(w0:bt)(μ:Ro)(φ:Nat→aC)(w:World)(y:Value)(ty:TypeId)(hM:au E.P G w0 μ φ m w)(hx:af E.P μ φ x y):∃v m' y' w',k v f m'=some r∧(∀id,v.has id=false)∧iC m m'∧(Instr.next y false ty).run E.P w=.ok y' w'∧au E.P G w0 μ φ m' w'∧af E.P μ φ v y':=by
 unfold Pk at h;split at h
 ·rename_i id;split at h
  ·rename_i t es cur hm;split at h
   ·rename_i kt et hu;obtain⟨g,mg,en,clock,seen,hg,hh,AB,sd,xy,hv,_⟩:=hM.dG id _ hm;obtain⟨o1,o2⟩:=hM.own id _ g hm (.inl hg);cases hx with
    |it bU=>
     rw[hg]at bU;simp only[Option.some.injEq]at bU;subst bU;have hmg:=hM.ro _ _ AB;rcases Nh (P:=E.P) hh hmg sd ty with⟨S2,lM⟩|⟨j,e,w1,hj,LJ,lM⟩
     ·have:es=[]:=by rw[S2]at xy;exact List.eq_nil_of_length_eq_zero xy.symm
      subst this;simp only[List.isEmpty_nil,if_true]at h;refine⟨_,m,_,w,h,by simp[V.has,cq],iC.refl m,lM,hM,.bj rfl fun i p x hp hx=>?_⟩;cases i with
      |zero=>simp at hp hx;subst hp;subst hx;exact .pv .bool
      |succ i=>simp at hp
     ·have xf:j<(jn en seen).length:=(List.getElem?_eq_some_iff.1 hj).1;have cR:¬es.isEmpty=true:=by
       have ei:0<es.length:=by omega
       intro e';rw[List.isEmpty_iff]at e';rw[e']at ei;exact absurd ei (Nat.lt_irrefl 0)
      rw[if_neg cR]at h;have h:=Io h j (by omega);obtain⟨e0,Fi,h⟩:=Option.bind_eq_some_iff.1 h;obtain⟨qa,_,ha,ra,_⟩:=jE h;obtain⟨qb,_,hb,rb,_⟩:=jE ha;obtain⟨rk,rv⟩:=hv j e0.1 e0.2 e Fi hj;refine⟨_,_,_,_,hb,by simp[V.has,cq],.set,lM,?_,.bj rfl fun i p x hp hx=>?_⟩
      ·have qA:au E.P G w0 μ φ m w1:=by rcases LJ with rfl|rfl;exact hM;exact hM.drew
       have bp:g<w1.heap.size:=by have:g<w.heap.size:=(Array.getElem?_eq_some_iff.1 hh).1;rcases LJ with rfl|rfl<;>exact this
       refine qA.write hm rfl hg (Il w1 g _) World.putObj_size (fun k hk=>World.putObj_heap_other hk) ?_ rfl (by simp[bI.names]);refine⟨g,mg,en,clock,seen.push e.born,hg,World.putObj_heap_same bp,AB,sd,?_,fun i k v e' h1 h2=>?_,fun k v hc=>?_⟩
       ·rw[AR sd hj,List.length_eraseIdx,List.length_eraseIdx,xy]
       ·rw[AR sd hj]at h2;exact hv _ k v e' (wm h1) (wm h2)
       ·simp only[Option.some.injEq,Prod.mk.injEq]at hc;obtain⟨rfl,rfl⟩:=hc;obtain⟨i,hi⟩:=Ng (List.mem_of_getElem? hj);exact⟨i,e,hi,by simp,ra _ _ _ rk,rb _ _ _ rv⟩
      ·match i with
       |0=>simp at hp hx;subst hp;subst hx;exact .pv .bool
       |1=>simp at hp hx;subst hp;subst hx;exact .pv (ra _ _ _ rk)
       |2=>simp at hp hx;subst hp;subst hx;exact .pv (rb _ _ _ rv)
       |i+3=>simp at hp
   ·cases h
  ·cases h
 ·cases h
theorem Nj{x:V}{m:Mem}{k:V→Mem→Option R}(h:H2 x m k=some r)(P:Program)(G:Nat→Option (List PV))(w0:bt)(μ:Ro)(φ:Nat→aC)(w:World)(y:Value)(hM:au P G w0 μ φ m w)(hx:af P μ φ x y):∃v m' y',k v m'=some r∧(∀id,v.has id=false)∧iC m m'∧(Instr.entry y).run P w=.ok y' w∧au P G w0 μ φ m' w∧af P μ φ v y':=by
 unfold H2 at h;split at h
 ·rename_i id;split at h
  ·rename_i t es a b hm;obtain⟨g,mg,en,clock,seen,hg,hh,AB,sd,xy,hv,Yy⟩:=hM.dG id _ hm;obtain⟨i,e,hi,hs,ra,rb⟩:=Yy a b rfl;cases hx with
   |it bU=>
    rw[hg]at bU;simp only[Option.some.injEq]at bU;subst bU;refine⟨_,_,_,h,by simp[V.has,cq],.set,Im hh (hM.ro _ _ AB) sd hi hs,?_,.bj rfl fun i p x hp hx=>?_⟩
    ·exact hM.write hm rfl hg (jm.refl _ _) rfl (fun _ _=>rfl) ⟨g,mg,en,clock,seen,hg,hh,AB,sd,xy,hv,fun k v h=>by cases h⟩ rfl (by simp[bI.names])
    match i with
    |0=>simp at hp hx;subst hp;subst hx;exact .pv ra
    |1=>simp at hp hx;subst hp;subst hx;exact .pv rb
    |i+2=>simp at hp
  ·cases h
 ·cases h
end
end Go.Ab
set_option linter.unusedVariables false
namespace Go.Ab
section
variable {P:Program} {G:Nat→Option (List PV)} {w0:bt} {μ μ':Ro} {φ φ':Nat→aC} {m m':Mem} {w w':World}
variable{id j:Nat}{b:bI}
theorem gj(h:eS id m j=some b):∃b',m j=some b'∧b=dL id b':=by
 unfold eS at h;cases hm:m j with
 |none=>rw[hm]at h;cases h
 |some b'=>rw[hm]at h;simp only[Option.some.injEq]at h;exact⟨b',rfl,h.symm⟩
theorem l7:(eS id m j).isSome=(m j).isSome:=by unfold eS;cases m j<;>rfl
theorem yN(id:Nat)(b:bI):(dL id b).rowAt=b.rowAt:=by cases b<;>rfl
theorem ob{p:aC}{g:Nat}:(dL id b).ec p g↔b.ec p g:=by unfold bI.ec;rw[yN]
theorem sT{p:aC}:(dL id b).apart p↔b.apart p:=by unfold bI.apart;rw[yN]
theorem vo(id:Nat)(b:bI):(dL id b).gX=b.gX:=by cases b<;>rfl
theorem Ip{cs:List V}(h:cq j (cs.map (lK id))=true):cq j cs=true:=by obtain⟨v,hv,hh⟩:=cS.1 h;obtain⟨u,hu,rfl⟩:=List.mem_map.1 hv;exact bK hu (tZ hh).1
theorem fM.uN{id j:Nat}{b:bI}(h:fM P μ φ w j b):fM P μ φ w j (dL id b):=by
 cases b with
 |box cs=>obtain⟨g,c,T,hg,hh,hs,hv,h1,xy⟩:=h;refine⟨g,c,T,hg,hh,by simpa using hs,fun i v x hi hx=>?_,h1,by simpa using xy⟩;simp only[List.getElem?_map,Option.map_eq_some_iff]at hi;obtain⟨u,hu,rfl⟩:=hi;exact(hv i u x hu hx).uN id
 |_=>exact h
theorem au.rn(hM:au P G w0 μ φ m w)(id:Nat):au P G w0 μ φ (eS id m) w:=by
 refine⟨hM.below,hM.ro,hM.aD,fun j b h=>?_,fun j b g h hg=>?_,fun i j b1 b2 g h1 h2 g1 g2=>?_,fun j b h=>?_,fun j cs i h hh=>?_,hM.base,hM.dC,fun j st h=>?_⟩
 ·obtain⟨b',hb,rfl⟩:=gj h;exact(hM.dG j b' hb).uN
 ·obtain⟨b',hb,rfl⟩:=gj h;rw[vo];exact hM.own j b' g hb (ob.1 hg)
 ·obtain⟨YA,Sq,rfl⟩:=gj h1;obtain⟨YB,oY,rfl⟩:=gj h2;exact hM.inj i j YA YB g Sq oY (ob.1 g1) (ob.1 g2)
 ·obtain⟨b',hb,rfl⟩:=gj h;exact sT.2 (hM.apart j b' hb)
 ·obtain⟨b',hb,e⟩:=gj h;cases b' with
  |box CJ=>simp only[dL,bI.box.injEq]at e;subst e;rw[l7];exact hM.fh j CJ i hb (Ip hh)
  |_=>simp[dL]at e
 ·obtain⟨b',hb,e⟩:=gj h;cases b' with
  |loop st'=>simp only[dL,bI.loop.injEq]at e;subst e;exact hM.yC j st hb
  |_=>simp[dL]at e
variable{ρ:Nat→Value}
theorem cj.rn{f:Fr}(h:cj P μ φ m f ρ)(id:Nat):cj P μ φ (eS id m) (gb id f) ρ:=⟨fun t=>(h.fr t).uN id,fun t j hj=>by rw[l7];exact h.live t j (tZ hj).1⟩
theorem au.km:∀{kl:Kl}{m:Mem},au P G w0 μ φ m w→au P G w0 μ φ (Go.Ab.km kl m) w
 |[],_,h=>h
 |(true,id)::r,m,h=>(au.km (kl:=r) (m:=aX (bB id m) id) (h.forget id):)
 |(false,id)::r,m,h=>(au.km (kl:=r) (m:=eS id m) (h.rn id):)
theorem cj.km{ρ:Nat→Value}:∀{kl:Kl}{m:Mem}{f:Fr},cj P μ φ m f ρ→cj P μ φ (Go.Ab.km kl m) (kf kl f) ρ
 |[],_,_,h=>h
 |(true,id)::r,m,f,h=>(cj.km (kl:=r) (m:=aX (bB id m) id) (f:=eO id f) (h.forget id):)
 |(false,id)::r,m,f,h=>(cj.km (kl:=r) (m:=eS id m) (f:=gb id f) (h.rn id):)
theorem au.LK(hM:au P G w0 μ φ m w)(nw:Nat→Nat→Nat)(hblk:∀j b',m' j=some b'→fM P μ φ' w j b')(vk:∀j b' g,m' j=some b'→b'.ec (φ' j) g→∃k b,m k=some b∧b.ec (φ k) g∧(b'.gX=true→b.gX=true)∧j=nw g k)(AG:∀j b',m' j=some b'→b'.apart (φ' j))(yB:∀j cs id,m' j=some (.box cs)→cq id cs=true→(m' id).isSome=true)(adh:∀j st,m' j=some (.loop st)→m j=some (.loop st)∧(φ' j).g=(φ j).g):au P G w0 μ φ' m' w:=by
 refine⟨hM.below,hM.ro,hM.aD,hblk,fun j b' g h hg=>?_,fun i j b1 b2 g h1 h2 g1 g2=>?_,AG,yB,hM.base,hM.dC,fun j st h=>?_⟩
 ·obtain⟨k,b,hk,ho,AB,_⟩:=vk j b' g h hg;obtain⟨o1,o2⟩:=hM.own k b g hk ho;exact⟨o1,fun h=>o2 (AB h)⟩
 ·obtain⟨k1,c1,Nk,XO,_,e1⟩:=vk i b1 g h1 g1;obtain⟨k2,c2,S3,ho2,_,e2⟩:=vk j b2 g h2 g2;rw[e1,e2,hM.inj k1 k2 c1 c2 g Nk S3 XO ho2]
 ·obtain⟨h1,h2⟩:=adh j st h;obtain⟨g,rc,r1,r2,r3⟩:=hM.yC j st h1;exact⟨g,rc,by rw[h2];exact r1,r2,r3⟩
def iT(p:aC)(i off:Nat)(r:yD):aC:={p with row:=fun a b=>if a=i∧b=off then r else p.row a b}
theorem fI(p:aC)(i off:Nat)(r:yD):(iT p i off r).row i off=r:=by simp[iT]
theorem fN(p:aC){i off a b:Nat}(r:yD)(h:¬(a=i∧b=off)):(iT p i off r).row a b=p.row a b:=by simp[iT,h]
theorem fM.LL(h:fM P μ φ w j (dL id b))(hj:j≠id)(h0:(φ' id).toyD=(φ id).toyD)(hφ:∀k,k≠id→φ' k=φ k):fM P μ φ' w j (dL id b):=by
 have e:=hφ j hj;cases b with
 |box cs=>
  obtain⟨g,c,T,hg,hh,hs,hv,h1,xy⟩:=h;refine⟨g,c,T,by rw[e];exact hg,hh,hs,fun i v x hi hx=>?_,h1,by rw[e];exact xy⟩;refine(hv i v x hi hx).Ug (fun _ _ h=>h) fun k hk=>?_;by_cases S4:k=id
  ·subst S4;refine⟨h0,fun h2=>?_⟩;simp only[List.getElem?_map,Option.map_eq_some_iff]at hi;obtain⟨u,hu,rfl⟩:=hi;rw[(tZ hk).2]at h2;cases h2
  ·rw[hφ k S4];exact⟨rfl,fun _=>rfl⟩
 |arr sz et es=>exact fM.cG h (fun k hk=>by simp[bI.names,dL]at hk) e (fun _ _ h=>h) (fun _ _=>rfl)
 |nr sz et es=>exact fM.cG h (fun k hk=>by simp[bI.names,dL]at hk) e (fun _ _ h=>h) (fun _ _=>rfl)
 |map kt es=>exact fM.cG h (fun k hk=>by simp[bI.names,dL]at hk) e (fun _ _ h=>h) (fun _ _=>rfl)
 |nest sz et es=>exact fM.cG h (fun k hk=>by simp[bI.names,dL]at hk) e (fun _ _ h=>h) (fun _ _=>rfl)
 |eU kt e0 es=>exact fM.cG h (fun k hk=>by simp[bI.names,dL]at hk) e (fun _ _ h=>h) (fun _ _=>rfl)
 |loop st=>exact fM.cG h (fun k hk=>by simp[bI.names,dL]at hk) e (fun _ _ h=>h) (fun _ _=>rfl)
 |iter t es cur=>exact fM.cG h (fun k hk=>by simp[bI.names,dL]at hk) e (fun _ _ h=>h) (fun _ _=>rfl)
theorem cj.Ut{f:Fr}(h:cj P μ φ m (gb id f) ρ)(h0:(φ' id).toyD=(φ id).toyD)(hφ:∀k,k≠id→φ' k=φ k)(hl:∀j,(m j).isSome=true→(m' j).isSome=true):cj P μ φ' m' (gb id f) ρ:=by
 refine⟨fun t=>(h.fr t).Ug (fun _ _ h=>h) fun k hk=>?_,fun t j hj=>hl j (h.live t j hj)⟩;by_cases S4:k=id
 ·subst S4;refine⟨h0,fun h2=>?_⟩;have:=(tZ (show(lK k (f t)).has k=true from hk)).2;rw[show gb k f t=lK k (f t)from rfl,this]at h2;cases h2
 ·rw[hφ k S4];exact⟨rfl,fun _=>rfl⟩
theorem eZ{id2:Nat}{b':bI}(h:al (eS id (aX (bB id2 m) id2)) id b j=some b'):(j=id∧b'=b)∨(j≠id∧j≠id2∧∃c,m j=some c∧b'=dL id (fF id2 c)):=by
 by_cases e:j=id
 ·subst e;rw[aL]at h;simp only[Option.some.injEq]at h;exact .inl ⟨rfl,h.symm⟩
 ·rw[an e]at h;obtain⟨c1,h1,rfl⟩:=gj h;obtain⟨cR,c,hc,rfl⟩:=eK h1;exact .inr ⟨e,cR,c,hc,rfl⟩
theorem Iq{x:Value}(h:af P μ φ (.os id) x):af P μ (fun _=>((φ id).toyD).up) (.os 0) x:=by
 cases h with
 |oX h=>exact .oX h
 |os h=>exact .os (id:=0) (φ:=fun _=>((φ id).toyD).up) h
theorem aJ.up{sz:Nat}{et:TypeId}{es:List PV}(h:aJ P μ φ w id sz et es):aJ P μ (fun _=>((φ id).toyD).up) w 0 sz et es:=h
theorem au.VT(hM:au P G w0 μ φ m w){id2 i off s s2:Nat}{et FX:TypeId}{es rs:List PV}{e q:PV}{x:Value}(cR:id2≠id)(hm:m id=some (.nest s et es))(cN:m id2=some (.arr s2 FX rs))(he:es[i]?=some e)(uU:e.cells[off]?=some .bad)(hx:∀g c,(φ id).g=some g→w.heap[g]?=some (.cells c et (0,0))→c[i*s+off]?=some x)(hv:af P μ φ (.os id2) x)(hq:q.cells=e.cells.set off (.fK s2 rs)):au P G w0 μ (fun j=>if j=id then iT (φ id) i off (φ id2).toyD else φ j) (al (eS id (aX (bB id2 m) id2)) id (.nest s et (es.set i q))) w:=by
 have qA:=(hM.forget id2).rn id;have hN:aS P μ φ w id s et es:=hM.dG id _ hm;have VS:aJ P μ φ w id2 s2 FX rs:=hM.dG id2 _ cN;have OY:i<es.length:=(List.getElem?_eq_some_iff.1 he).1;have XP:off<e.cells.length:=(List.getElem?_eq_some_iff.1 uU).1;have iw:∀a b,(bI.nest s et (es.set i q)).rowAt a b=true→(a=i∧b=off)∨((bI.nest s et es).rowAt a b=true∧¬(a=i∧b=off)):=by
  intro a b hr;by_cases qo:a=i∧b=off
  ·exact .inl qo
  ·refine .inr ⟨?_,qo⟩;rcases iB hr with⟨_,_,_,e',s',YF,fL,h',pt⟩|⟨_,_,_,_,_,_,fL,_⟩
   ·simp only[bI.nest.injEq]at fL;obtain⟨rfl,rfl,rfl⟩:=fL;rcases eg h' with⟨rfl,rfl⟩|⟨PE,h'⟩
    ·rw[hq]at pt;rcases eg pt with⟨rfl,_⟩|⟨hnj,pt⟩
     ·exact absurd ⟨rfl,rfl⟩ qo
     ·rw[dy he pt];rfl
    ·rw[dy h' pt];rfl
   ·cases fL
 refine hM.LK (fun _ k=>if k=id2 then id else k) (fun j b' hj=>?_) (fun j b' g hj ho=>?_) (fun j b' hj=>?_) (fun j cs k hj hk=>?_) (fun j st hj=>?_)
 ·rcases eZ hj with⟨rfl,rfl⟩|⟨h1,h2,c,hc,rfl⟩
  ·show aS P μ (fun k=>if k=j then iT (φ j) i off (φ id2).toyD else φ k) w j s et (es.set i q);refine aS.change (μ':=μ) (w':=w) (es':=es.set i q) hN (by simp) (fun i' e' h'=>?_) (by simp[iT]) (fun _ _=>rfl) (fun i' e' j' p' g c x' h' pt hg hc Ic hold=>?_)
   ·rcases eg h' with⟨_,rfl⟩|⟨_,h'⟩
    ·rw[hq,List.length_set];exact hN.2.2.2.2.1 i e he
    ·exact hN.2.2.2.2.1 i' e' h'
   ·simp only[if_true];by_cases qo:i'=i∧j'=off
    ·obtain⟨rfl,rfl⟩:=qo;rw[fI];have e1:e'=q:=by
      rcases eg h' with⟨_,h⟩|⟨h,_⟩
      ·exact h
      ·exact absurd rfl h
     subst e1;rw[hq]at pt;have e2:p'=.fK s2 rs:=by
      rcases eg pt with⟨_,h⟩|⟨h,_⟩
      ·exact h
      ·exact absurd rfl h
     subst e2;have e3:x'=x:=by have:=hx g c hg hc;rw[Ic]at this;simpa using this
     subst e3;exact⟨⟨FX,VS.up⟩,Iq hv⟩
    ·rw[fN _ _ qo];rcases eg h' with⟨rfl,rfl⟩|⟨PE,h'⟩
     ·rw[hq]at pt;rcases eg pt with⟨rfl,_⟩|⟨hnj,pt⟩
      ·exact absurd ⟨rfl,rfl⟩ qo
      ·exact hold e p' he pt
     ·exact hold e' p' h' pt
  ·have hb:fM P μ φ w j (dL id (fF id2 c)):=(hM.dG j c hc).kill.uN;exact hb.LL h1 (by simp[iT]) fun k hk=>by simp[hk]
 ·rcases eZ hj with⟨rfl,rfl⟩|⟨h1,h2,c,hc,rfl⟩
  ·simp only[if_true]at ho;rcases ho with ho|⟨a,b,hr,ho⟩
   ·exact⟨j,_,hm,.inl ho,fun _=>rfl,by simp[cR.symm]⟩
   ·rcases iw a b hr with⟨rfl,rfl⟩|⟨qn,qo⟩
    ·rw[fI]at ho;exact⟨id2,_,cN,.inl ho,fun _=>rfl,by simp⟩
    ·rw[fN _ _ qo]at ho;exact⟨j,_,hm,.inr ⟨a,b,qn,ho⟩,fun _=>rfl,by simp[cR.symm]⟩
  ·simp only[h1,if_false]at ho;exact⟨j,c,hc,fC.1 (ob.1 ho),fun h=>by rw[vo,ue]at h;exact h,by simp[h2]⟩
 ·rcases eZ hj with⟨rfl,rfl⟩|⟨h1,h2,c,hc,rfl⟩
  ·simp only[if_true];have AG:=hM.apart j _ hm;have new:∀g,(φ id2).g=some g→¬(bI.nest s et es).ec (φ j) g:=fun g hg ho=>cR (hM.inj id2 j _ _ g cN hm (.inl hg) ho);intro a b g hr hg;rcases iw a b hr with⟨rfl,rfl⟩|⟨qn,qo⟩
   ·rw[fI]at hg;refine⟨fun h=>new g hg (.inl h),fun a' b' PN Ir=>?_⟩;rcases iw a' b' PN with h|⟨S5,Is⟩
    ·exact h
    ·rw[fN _ _ Is]at Ir;exact absurd (.inr ⟨a',b',S5,Ir⟩) (new g hg)
   ·rw[fN _ _ qo]at hg;obtain⟨h3,h4⟩:=AG a b g qn hg;refine⟨h3,fun a' b' PN Ir=>?_⟩;rcases iw a' b' PN with⟨rfl,rfl⟩|⟨S5,Is⟩
    ·rw[fI]at Ir;exact absurd (.inr ⟨a,b,qn,hg⟩) (new g Ir)
    ·rw[fN _ _ Is]at Ir;exact h4 a' b' S5 Ir
  ·simp only[h1,if_false];exact sT.2 (ri.2 (hM.apart j c hc))
 ·rcases eZ hj with⟨rfl,hb⟩|⟨h1,h2,c,hc,hb⟩
  ·cases hb
  ·have Fj:eS id (aX (bB id2 m) id2) j=some (.box cs):=by rw[an h1]at hj;exact hj
   have:=qA.fh j cs k Fj hk;by_cases e:k=id
   ·subst e;simp
   ·rw[an e];exact this
 ·rcases eZ hj with⟨rfl,hb⟩|⟨h1,h2,c,hc,hb⟩
  ·cases hb
  ·cases c<;>first|(simp[dL,fF]at hb;done)|skip
   simp only[dL,fF,bI.loop.injEq]at hb;subst hb;exact⟨hc,by simp[h1]⟩
end
end Go.Ab
set_option linter.unusedVariables false
namespace Go.Ab
def jQ(k:PV):List (PV×PV)→Option Nat
 |[]=>none
 |(a,_)::r=>if cV k.cells a.cells then some 0 else(jQ k r).map (·+1)
def gY(es:List (PV×PV)):List (PV×PV):=es.map fun x=>(x.1,.bad)
theorem AU(k:PV):∀es,jQ k (gY es)=jQ k es
 |[]=>rfl
 |(a,u)::r=>by simp only[gY,List.map_cons,jQ];rw[←AU k r];rfl
theorem zM{k:PV}:∀{es:List (PV×PV)}{j:Nat},jQ k es=some j→∃a u,es[j]?=some (a,u)∧cV k.cells a.cells=true
 |(a,u)::r,j,h=>by
  simp only[jQ]at h;split at h
  ·rename_i hp;simp only[Option.some.injEq]at h;subst h;exact⟨a,u,rfl,hp⟩
  ·obtain⟨i,hi,rfl⟩:=Option.map_eq_some_iff.1 h;simpa using zM hi
theorem kL(k v:PV):∀es,eN k v es=match jQ k es with|some j=>es.set j (k,v)|none=>es++[(k,v)]
 |[]=>rfl
 |(a,u)::r=>by
  simp only[eN,jQ];split
  ·rfl
  ·rw[kL k v r];cases jQ k r<;>rfl
theorem qD(k:PV):∀es,pg k es=match jQ k es with|some j=>es.modify j fun x=>(x.1,.bad)|none=>es
 |[]=>rfl
 |(a,u)::r=>by
  simp only[pg,jQ];split
  ·rfl
  ·rw[qD k r];cases jQ k r<;>simp
theorem FY(sz:Nat)(k:PV):∀es,Fm sz k es=match jQ k es with|some j=>(es[j]?).bind fun x=>aT sz x.2|none=>some []
 |[]=>rfl
 |(a,u)::r=>by
  simp only[Fm,jQ];split
  ·simp
  ·rw[FY sz k r];cases jQ k r<;>simp
theorem CW{k z:PV}{l:List (PV×PV)}{es:List MapEntry}{i:Nat}{r:Option (Nat×Value)}(h:Found k .na z (gY l) es i r):(r=none∧jQ k l=none)∨∃j e,r=some (i+j,e.val)∧es[j]?=some e∧jQ k l=some j:=by
 cases h with
 |none h1 h2 h3=>
  refine .inl ⟨rfl,?_⟩;rw[kL]at h3;rw[←AU];cases hp:jQ k (gY l)with
  |none=>rfl
  |some j=>rw[hp]at h3;have:=congrArg List.length h3;simp at this
 | @some j a u e h1 h2 h3 h4 h5 h6=>
  refine .inr ⟨j,e,rfl,h2,?_⟩;rw[kL]at h6;rw[←AU];have bp:j<(gY l).length:=(List.getElem?_eq_some_iff.1 h1).1;cases hp:jQ k (gY l)with
  |none=>rw[hp]at h6;have:=congrArg List.length h6;simp at this
  |some j'=>
   rw[hp]at h6;simp only at h6;obtain⟨a',u',Fj,_⟩:=zM hp;have adi:j'<(gY l).length:=(List.getElem?_eq_some_iff.1 Fj).1;have e1:((gY l).set j (k,.na))[j']?=some (k,.na):=by rw[←h6];simp[adi]
   rw[List.getElem?_set]at e1;split at e1
   ·rename_i h;rw[h]
   ·exfalso;simp only[gY,List.getElem?_map,Option.map_eq_some_iff]at e1;obtain⟨x,_,hx⟩:=e1;simp at hx
section
variable {P:Program} {G:Nat→Option (List PV)} {w0:bt} {μ μ':Ro} {φ φ':Nat→aC} {m m':Mem} {w w':World}
def AV(P:Program)(μ:Ro)(R:yD)(w:World)(e0:TypeId)(v:PV)(x:Value):Prop:=match v with
 |.fK s rs=>aJ P μ (fun _=>R.up) w 0 s e0 rs∧af P μ (fun _=>R.up) (.os 0) x
 |v=>ah P μ v x
variable{e0:TypeId}
theorem AV.pure{R:yD}{v:PV}{x:Value}(h:ah P μ v x):AV P μ R w e0 v x:=by
 unfold AV;split
 ·cases h
 ·exact h
structure It(P:Program)(μ:Ro)(p:aC)(w:World)(kt e0:TypeId)(es:List (PV×PV))(g:Nat)(en:Array MapEntry)(clock:Nat)(kk:List Kd):Prop where
 pl:p.g=some g
 heap:w.heap[g]?=some (.map en clock)
 size:en.size=es.length
 xe:pj P kt=some kk
 key:∀(i:Nat)k v,es[i]?=some (k,v)→rY P kt kk k=true
 born:jN en clock
 rep:∀(i:Nat)k v e,es[i]?=some (k,v)→en[i]?=some e→ah P μ k e.key∧AV P μ (p.row i 0) w e0 v e.val
variable{kt:TypeId}{es:List (PV×PV)}
theorem qE{id:Nat}:fM P μ φ w id (.eU kt e0 es)↔∃g en clock kk,It P μ (φ id) w kt e0 es g en clock kk:=by
 constructor
 ·rintro⟨g,en,clock,kk,h1,h2,h3,h4,h5,h6,h7⟩;exact⟨g,en,clock,kk,h1,h2,h3,h4,h5,h6,fun i k v e a b=>h7 i k v e a b⟩
 ·rintro⟨g,en,clock,kk,h1,h2,h3,h4,h5,h6,h7⟩;exact⟨g,en,clock,kk,h1,h2,h3,h4,h5,h6,fun i k v e a b=>h7 i k v e a b⟩
variable{en:Array MapEntry}
theorem It.ent{p:aC}{g:Nat}{clock:Nat}{kk:List Kd}(h:It P μ p w kt e0 es g en clock kk):sR P μ kt kk (gY es) en.toList:=by
 refine⟨by simp[gY,h.size],fun i k v hi=>?_,fun i k v e hi he=>?_⟩
 ·simp only[gY,List.getElem?_map,Option.map_eq_some_iff]at hi;obtain⟨⟨a,u⟩,hq,hx⟩:=hi;simp only[Prod.mk.injEq]at hx;obtain⟨rfl,rfl⟩:=hx;exact h.key i a u hq
 ·simp only[gY,List.getElem?_map,Option.map_eq_some_iff]at hi;obtain⟨⟨a,u⟩,hq,hx⟩:=hi;simp only[Prod.mk.injEq]at hx;obtain⟨rfl,rfl⟩:=hx;exact⟨(h.rep i a u e hq (by simpa using he)).1,.bad⟩
theorem AW{t et:TypeId}{ks:List Kd}{key:PV}{zv yi:Value}{g clock:Nat}{l:List (PV×PV)}(hu:P.underlying t=some (.map kt et))(hk:pj P kt=some ks)(pP:rY P kt ks key=true)(hyi:ah P μ key yi)(hg:w.heap[g]?=some (.map en clock))(hE:sR P μ kt ks (gY l) en.toList)(hz:(zeroValue et).run P w=.ok zv w):(jQ key l=none∧(Instr.lookup t (.map (some g)) yi false).run P w=.ok zv w)∨∃j e,jQ key l=some j∧en[j]?=some e∧(Instr.lookup t (.map (some g)) yi false).run P w=.ok e.val w:=by
 have Na:=uh hk;obtain⟨hc,hv⟩:=kn pP hyi;obtain⟨r,r1,r2⟩:=jG (v:=.na) (z:=.bad) Na hc w hE;have h1:=gg 8 kt ks Na 9992 w en.isEmpty key.cells hc;have zs:=Go.MapKept.run_getObj_map (P:=P) hg;have LH:(Instr.checkKey en.isEmpty 10000 kt (eI P kt key.cells)).run P w=.ok () w:=h1;rw[hv];unfold Instr.lookup;simp only[Sem.run_bind,run_underlying hu,Result.andThen_ok,Sem.run_pure,zs];rcases CW r2 with⟨rfl,h⟩|⟨j,e,rfl,he,h⟩
 ·exact .inl ⟨h,by simp[LH,r1,hz]⟩
 ·exact .inr ⟨j,e,h,by simpa using he,by simp[LH,r1]⟩
end
section
variable {R:Type} {E:Env}
theorem Iu{t:TypeId}(h:zeroV E.P t=some .ba)(w:World):(zeroValue t).run E.P w=.ok (.slice none 0 0) w:=by unfold zeroV at h;obtain⟨c,hc,h⟩:=Option.map_eq_some_iff.1 h;obtain⟨i,hi,hz⟩:=Option.bind_eq_some_iff.1 hc;have:=qw (P:=E.P) (μ:=fun _=>none) (φ:=fun _=>default) c;rw[h]at this;cases this;exact l6 hi hz
theorem PO{site:Nat}{t:TypeId}{x ix:V}{m:Mem}{k:V→Mem→bl→Option R}{r:R}(h:Ft E site t x ix m k=some r):∃id b1 b2 m',m'=qm [(id,b1),(site,b2)] m∧k (.os site) m' [(true,id),(true,site)]=some r∧m site=none∧b2.names=(fun _=>false)∧b1.names=(fun _=>false)∧(m id).isSome=true∧(∀m2:Mem,m2 id=m id→m2 site=none→∀(R':Type)(k':V→Mem→bl→Option R'),Ft E site t x ix m2 k'=k' (.os site) (qm [(id,b1),(site,b2)] m2) [(true,id),(true,site)])∧∀(G:Nat→Option (List PV))(w0:bt)(μ:Ro)(φ:Nat→aC)(w:World)(f:Fr)(ρ:Nat→Value)(y yi:Value),au E.P G w0 μ φ m w→cj E.P μ φ m f ρ→af E.P μ φ x y→af E.P μ φ ix yi→∃u φ',(Instr.lookup t y yi false).run E.P w=.ok u w∧au E.P G w0 μ φ' m' w∧cj E.P μ φ' m' f ρ∧af E.P μ φ' (.os site) u:=by
 unfold Ft at h;split at h
 ·rename_i kt et hu;split at h
  ·rename_i e hue;split at h
   ·rename_i id hz;split at h
    ·rename_i sr e' es hm hs;split at h
     ·rename_i hc;obtain⟨rfl,rfl,ei⟩:=hc;obtain⟨key,pP,h⟩:=Option.bind_eq_some_iff.1 h;obtain⟨rs,VU,h⟩:=Option.bind_eq_some_iff.1 h;obtain⟨ks,k1,k2,k3⟩:=qC pP;have cR:site≠id:=fun e=>by subst e;rw[hs]at hm;cases hm
      refine⟨id,.eU sr e' (pg key es),.arr (aO E.P e') e' rs,_,rfl,h,hs,rfl,rfl,by rw[hm];rfl,fun m2 h1 h2 R' k'=>?_,fun G w0 μ φ w f ρ y yi hM hF hx hi=>?_⟩
      ·simp only[Ft,hu,hue,hz,h1,h2,hm,pP,VU,Option.bind_some,ei,and_self,if_true];rfl
      ·obtain⟨g,en,clock,kk,hN⟩:=qE.1 (hM.dG id _ hm);have xB:=hN.xe;rw[k1]at xB;simp only[Option.some.injEq]at xB;subst xB;cases hx with
       |om bU=>
        rw[hN.pl]at bU;simp only[Option.some.injEq]at bU;subst bU;have PQ:=AW hu k1 k2 (k3 μ φ yi hi) hN.heap hN.ent (Iu hz w);have Nl:∀i off,(bI.eU sr e' (pg key es)).rowAt i off=true→(bI.eU sr e' es).rowAt i off=true∧jQ key es≠some i:=by
         intro i off hr;rcases iB hr with⟨_,_,_,_,_,_,hb,_⟩|⟨_,_,_,k0,s0,rs0,hb,rfl,he⟩
         ·cases hb
         ·simp only[bI.eU.injEq]at hb;obtain⟨rfl,rfl,rfl⟩:=hb;rw[qD]at he;cases hp:jQ key es with
          |none=>rw[hp]at he;simp only at he;exact⟨by rw[iA he];rfl,by simp⟩
          |some j=>
           rw[hp]at he;simp only[List.getElem?_modify]at he;split at he
           ·rename_i Iv;exfalso;obtain⟨x0,_,Ie⟩:=Option.map_eq_some_iff.1 he;simp at Ie
           ·rename_i Iv;have he:es[i]?=some (k0,PV.fK s0 rs0):=by simpa using he
            exact⟨by rw[iA he];rfl,fun h=>Iv (by simpa using h)⟩
        have qA:au E.P G w0 μ φ (al m id (.eU sr e' (pg key es))) w:=by
         refine hM.write hm rfl hN.pl (jm.refl _ _) rfl (fun _ _=>rfl) (qE.2 ⟨g,en,clock,ks,hN.pl,hN.heap,?_,k1,fun i k0 v0 h0=>?_,hN.born,fun i k0 v0 e0 h0 Fi=>?_⟩) rfl (by simp[bI.names]) (fun st h=>by cases h) (fun i off hr=>(Nl i off hr).1)
         ·rw[hN.size,qD];cases jQ key es<;>simp
         ·rw[qD]at h0;cases hp:jQ key es with
          |none=>rw[hp]at h0;exact hN.key i k0 v0 h0
          |some j=>
           rw[hp]at h0;simp only[List.getElem?_modify]at h0;obtain⟨x0,Ie,hq⟩:=Option.map_eq_some_iff.1 h0;obtain⟨xa,xu⟩:=x0;split at hq
           ·simp only[Prod.mk.injEq]at hq;rw[←hq.1];exact hN.key i xa xu Ie
           ·simp only[id_eq,Prod.mk.injEq]at hq;rw[←hq.1];exact hN.key i xa xu Ie
         ·rw[qD]at h0;cases hp:jQ key es with
          |none=>rw[hp]at h0;exact hN.rep i k0 v0 e0 h0 Fi
          |some j=>
           rw[hp]at h0;simp only[List.getElem?_modify]at h0;obtain⟨x0,Ie,hq⟩:=Option.map_eq_some_iff.1 h0;obtain⟨xa,xu⟩:=x0;obtain⟨q1,q2⟩:=hN.rep i xa xu e0 Ie Fi;split at hq
           ·simp only[Prod.mk.injEq]at hq;obtain⟨rfl,rfl⟩:=hq;exact⟨q1,.pure .bad⟩
           ·simp only[id_eq,Prod.mk.injEq]at hq;obtain⟨rfl,rfl⟩:=hq;exact⟨q1,q2⟩
        have YW:∀(ph:aC)(u:Value),aJ E.P μ (fun _=>ph) w 0 (aO E.P e') e' rs→af E.P μ (fun _=>ph) (.os 0) u→(∀g',ph.g=some g'→∃j,jQ key es=some j∧(bI.eU sr e' es).rowAt j 0=true∧((φ id).row j 0).g=some g')→∃φ',au E.P G w0 μ φ' (qm [(id,.eU sr e' (pg key es)),(site,.arr (aO E.P e') e' rs)] m) w∧cj E.P μ φ' (qm [(id,.eU sr e' (pg key es)),(site,.arr (aO E.P e') e' rs)] m) f ρ∧af E.P μ φ' (.os site) u:=by
         intro ph u hA hV zs;have Ia:∀j,(m j).isSome=true→j≠site:=fun j hj e=>by subst e;rw[hs]at hj;cases hj
         refine⟨fun i=>if i=site then ph else φ i,?_,?_,?_⟩
         ·refine qA.put (by rw[an cR];exact hs) (jm.refl _ _) hM.ro (fun _ _ _ _ _=>rfl) (fun g' bU=>?_) (nV nu) ?_ (by simp[bI.names]) (fun st h=>by cases h)
          ·have bU:=l5 nu bU;obtain⟨j,hj,hr,hjg⟩:=zs g' bU;obtain⟨o1,o2⟩:=hM.own id _ g' hm (.inr ⟨j,0,hr,hjg⟩);refine⟨o1,o2 rfl,fun i b' hi ho=>?_⟩;by_cases CO:i=id
           ·subst CO;rw[aL]at hi;simp only[Option.some.injEq]at hi;subst hi;obtain⟨a1,a2⟩:=hM.apart i _ hm j 0 g' hr hjg;rcases ho with ho|⟨i',pI,qn,ho⟩
            ·exact a1 ho
            ·obtain⟨h3,h4⟩:=Nl i' pI qn;exact h4 (by rw[hj,(a2 i' pI h3 ho).1])
           ·rw[an CO]at hi;exact CO (hM.inj i id _ _ g' hi hm ho (.inr ⟨j,0,hr,hjg⟩))
          ·exact aJ.move (φ':=fun i=>if i=site then ph else φ i) (j:=site) hA (by simp) (fun _ _ h=>h)
         ·refine hF.mono (fun _ _ h=>h) fun j hj=>⟨by simp[Ia j hj],?_⟩;show(al (al m id _) site _ j).isSome=true;rw[an (Ia j hj)];by_cases Iv:j=id
          ·subst Iv;simp
          ·rw[an Iv];exact hj
         ·cases hV with
          |oX h=>exact .oX (by simpa using h)
          | @os _ g0 h=>have:=af.os (P:=E.P) (μ:=μ) (φ:=fun i=>if i=site then ph else φ i) (id:=site) (g:=g0) (by simpa using h);simpa using this
        rw[FY]at VU;rcases PQ with⟨hp,lM⟩|⟨j,en0,hp,hen,lM⟩
        ·rw[hp]at VU;simp only[Option.some.injEq]at VU;subst VU;obtain⟨φ',a1,a2,a3⟩:=YW (B8 none 0 0 (aO E.P e')) (.slice none 0 0) ⟨rfl,rfl,rfl,ei,by simp,by simp[maxLen],⟨rfl,rfl⟩⟩ (.oX rfl) (fun g' bU=>by cases bU);exact⟨_,φ',lM,a1,a2,a3⟩
        ·rw[hp]at VU;obtain⟨x0,Ie,iw⟩:=Option.bind_eq_some_iff.1 VU;obtain⟨xa,xu⟩:=x0;have hxu:=FG iw;simp only at hxu;subst hxu;obtain⟨_,q2⟩:=hN.rep j xa _ en0 Ie hen;obtain⟨φ',a1,a2,a3⟩:=YW ((φ id).row j 0).up en0.val q2.1 q2.2 (fun g' bU=>⟨j,hp,by rw[iA Ie];rfl,bU⟩);exact⟨_,φ',lM,a1,a2,a3⟩
     ·cases h
    ·cases h
   ·cases h
  ·cases h
 ·cases h
end
end Go.Ab
set_option linter.unusedVariables false
namespace Go.Ab
theorem AX{m:Mem}:∀{cs:List V}{j0:Nat}{ps:List PV}{tk:Option (Nat×Nat)},jl m j0 cs=some (ps,tk)→ps.length=cs.length∧(tk=none→∀(i:Nat)p,ps[i]?=some p→∃v,cs[i]?=some v∧iZ df 1 v=some p)∧∀j id2,tk=some (j,id2)→∃l s2 FX rs,cs[l]?=some (.os id2)∧m id2=some (.arr s2 FX rs)∧ps[l]?=some (.fK s2 rs)∧∀(i:Nat)p,i≠l→ps[i]?=some p→∃v,cs[i]?=some v∧iZ df 1 v=some p
 |[],j0,ps,tk,h=>by simp only[jl,Option.some.injEq,Prod.mk.injEq]at h;obtain⟨rfl,rfl⟩:=h;exact⟨rfl,fun _ i p hp=>by simp at hp,fun j id2 h=>by cases h⟩
 |v::r,j0,ps,tk,h=>by
  have plain:∀{p:PV},iZ df 1 v=some p→(match jl m (j0+1) r with
   |some (ps,t)=>some (p::ps,t)
   |none=>none)=some (ps,tk)→ps.length=(v::r).length∧
   (tk=none→∀(i:Nat)p,ps[i]?=some p→∃u,(v::r)[i]?=some u∧iZ df 1 u=some p)∧
   ∀j id2,tk=some (j,id2)→∃l s2 FX rs,(v::r)[l]?=some (.os id2)∧m id2=some (.arr s2 FX rs)∧ps[l]?=some (.fK s2 rs)∧∀(i:Nat)p,i≠l→ps[i]?=some p→∃u,(v::r)[i]?=some u∧iZ df 1 u=some p:=by
   intro p hp h
   split at h
   ·rename_i Ys t ht;simp only[Option.some.injEq,Prod.mk.injEq]at h;obtain⟨rfl,rfl⟩:=h;obtain⟨h1,h2,h3⟩:=AX ht;refine⟨by simp[h1],fun hn i q hq=>?_,fun j id2 hj=>?_⟩
    ·cases i with
     |zero=>simp at hq;subst hq;exact⟨v,rfl,hp⟩
     |succ i=>simpa using h2 hn i q (by simpa using hq)
    ·obtain⟨l,s2,FX,rs,a1,a2,a3,a4⟩:=h3 j id2 hj;refine⟨l+1,s2,FX,rs,by simpa using a1,a2,by simpa using a3,fun i q hi hq=>?_⟩;cases i with
     |zero=>simp at hq;subst hq;exact⟨v,rfl,hp⟩
     |succ i=>simpa using a4 i q (by omega) (by simpa using hq)
   ·cases h
  unfold jl at h;split at h
  ·rename_i heq;cases heq
  ·rename_i j id r' heq;simp only[List.cons.injEq]at heq;obtain⟨rfl,rfl⟩:=heq;split at h
   ·rename_i s et es hm;split at h
    ·rename_i Ys ht;simp only[Option.some.injEq,Prod.mk.injEq]at h;obtain⟨rfl,rfl⟩:=h;obtain⟨h1,h2,_⟩:=AX ht;refine⟨by simp[h1],fun hn=>(nomatch hn),fun j id2 hj=>?_⟩;simp only[Option.some.injEq,Prod.mk.injEq]at hj;obtain⟨rfl,rfl⟩:=hj;refine⟨0,s,et,es,rfl,hm,rfl,fun i q hi hq=>?_⟩;cases i with
     |zero=>exact absurd rfl hi
     |succ i=>simpa using h2 rfl i q (by simpa using hq)
    ·cases h
   ·cases h
  ·rename_i j v' r' _ heq;simp only[List.cons.injEq]at heq;obtain⟨rfl,rfl⟩:=heq;split at h
   ·rename_i p hp;exact plain hp h
   ·cases h
section
variable {P:Program} {G:Nat→Option (List PV)} {w0:bt} {μ μ':Ro} {φ φ':Nat→aC} {m m':Mem} {w w':World}
theorem AY{v:V}{n j id2:Nat}{cs:List V}{ps:List PV}(hc:toCells n v=some cs)(h:jl m 0 cs=some (ps,some (j,id2))):∃l s2 FX rs,m id2=some (.arr s2 FX rs)∧ps[l]?=some (.fK s2 rs)∧ps.length=n∧v.has id2=true∧∀(P:Program)(μ:Ro)(φ:Nat→aC)(x:Value),af P μ φ v x→x.cells.size=n∧(∀(i:Nat)(y:Value),x.cells[i]?=some y→y.oneCell'=true)∧(∀(i:Nat)p y,i≠l→ps[i]?=some p→x.cells[i]?=some y→ah P μ p y)∧∃y,x.cells[l]?=some y∧af P μ φ (.os id2) y:=by
 obtain⟨t1,_,t3⟩:=AX h;obtain⟨l,s2,FX,rs,a1,a2,a3,a4⟩:=t3 j id2 rfl;obtain⟨n1,n2,n3⟩:=toCells_ok hc;refine⟨l,s2,FX,rs,a2,a3,by rw[t1,n1],n2 id2 (bK (List.mem_of_getElem? a1) (by simp[V.has])),fun P μ φ x hx=>?_⟩;obtain⟨x1,x2,x3⟩:=n3 P μ φ x hx;refine⟨x1,x3,fun i p y hi hp hy=>?_,?_⟩
 ·obtain⟨u,hu,hf⟩:=a4 i p hi hp;exact qy 1 hf (x2 i u y hu hy)
 ·have hl:l<x.cells.size:=by rw[x1,←n1];exact(List.getElem?_eq_some_iff.1 a1).1
  exact⟨x.cells[l],Array.getElem?_eq_getElem hl,x2 l _ _ a1 (Array.getElem?_eq_getElem hl)⟩
theorem yO{s off n:Nat}{e:PV}{ps:List PV}(hn:ps.length=n)(hb:off+n≤s)(h0:0<n)(ha:s=1→∀p,ps.head? =some p→∀cs,p≠.agg cs):(if s=1 then ps.headD .bad else PV.agg (bQ (aI s e) off ps)).cells=bQ (aI s e) off ps:=by
 split
 ·rename_i h1;subst h1;have e1:off=0:=by omega
  have e2:n=1:=by omega
  subst e1;subst e2;match ps,hn with
  |[p],_=>
   have:=ha rfl p rfl;have hp:p.cells=[p]:=by cases p<;>first|rfl|exact absurd rfl (this _)
   simp only[List.headD_cons,hp,dB,List.take_zero,List.nil_append,List.length_cons,List.length_nil];rw[List.drop_of_length_le (by rw[bf];exact Nat.le_refl _)];rfl
 ·rfl
theorem AZ{T:Type}{cs ps:List T}{off l:Nat}{x:T}(hl:l<ps.length)(hb:off+ps.length≤cs.length):bQ cs off (ps.set l x)=(bQ cs off ps).set (off+l) x:=by
 have hto:(cs.take off).length=off:=by simp;omega
 rw[dB,dB,List.length_set,List.append_assoc,List.append_assoc,List.set_append,if_neg (by omega),List.set_append,if_pos (by omega)];rw[show off+l-(cs.take off).length=l by omega]
theorem A0{id id2:Nat}{B X:bI}(cR:id2≠id):al (eS id (aX (bB id2 (al m id B)) id2)) id X=al (eS id (aX (bB id2 m) id2)) id X:=by
 funext t;by_cases h:t=id
 ·subst h;simp
 ·rw[an h,an h];unfold eS;by_cases h2:t=id2
  ·subst h2;simp
  ·rw[eP h2,eP h2];unfold bB;rw[an h]
end
section
variable {R:Type} {E:Env}
theorem PR{t:TypeId}{v:V}{id i off s id2 j:Nat}{et:TypeId}{es ps:List PV}{cs:List V}{e:PV}{m:Mem}(hm:m id=some (.nest s et es))(hc:toCells (aO E.P t) v=some cs)(ht:jl m 0 cs=some (ps,some (j,id2)))(hb:off+aO E.P t≤s)(h0:0<aO E.P t)(cR:id2≠id)(he:es[i]?=some e){G:Nat→Option (List PV)}{w0:bt}{μ:Ro}{φ:Nat→aC}{w:World}{f:Fr}{ρ:Nat→Value}{ya yx:Value}(hM:au E.P G w0 μ φ m w)(hF:cj E.P μ φ m f ρ)(ha:af E.P μ φ (.oe id i off) ya)(hx:af E.P μ φ v yx):∃w' φ',(Instr.storeAt t ya yx).run E.P w=.ok () w'∧au E.P G w0 μ φ' (qm [(id,.nest s et (es.set i (if s=1 then ps.headD .bad else .agg (bQ (aI s e) off ps))))] (km [(true,id2),(false,id)] m)) w'∧cj E.P μ φ' (qm [(id,.nest s et (es.set i (if s=1 then ps.headD .bad else .agg (bQ (aI s e) off ps))))] (km [(true,id2),(false,id)] m)) (kf [(true,id2),(false,id)] f) ρ:=by
 obtain⟨l,s2,FX,rs,cN,iw,zN,adj,iP⟩:=AY hc ht;obtain⟨x1,x2,x3,y,hy,SX⟩:=iP E.P μ φ yx hx;have FP:l<ps.length:=(List.getElem?_eq_some_iff.1 iw).1;have hN:aS E.P μ φ w id s et es:=hM.dG id _ hm;have xz:=hN.2.2.2.2.1 i e he;have Az:(aI s e).length=s:=bf _ _;have lN:ps=(ps.set l .bad).set l (.fK s2 rs):=by
  rw[List.set_set];apply List.ext_getElem?;intro a;rw[List.getElem?_set];split
  ·rename_i e1;subst e1;first|exact iw|(rw[if_pos FP];exact iw)
  ·rfl
 have qB:∀(a:Nat)p,(ps.set l .bad)[a]?=some p→(a=l∧p=.bad)∨(a≠l∧ps[a]?=some p):=fun a p h=>eg h;have hE:pN E.P μ (aO E.P t) (.agg (ps.set l .bad)) yx:=by
  refine⟨by simp[PV.cells,zN],x1,fun a p z hp hz=>?_,x2⟩;rcases qB a p (by simpa[PV.cells]using hp)with⟨_,rfl⟩|⟨h1,h2⟩
  ·exact .bad
  ·exact x3 a p z h1 h2 hz
 have one:s=1→ps.length=1:=fun h=>by omega
 have hq:(if s=1 then ps.headD .bad else PV.agg (bQ (aI s e) off ps)).cells=bQ (aI s e) off ps:=yO zN hb h0 fun h1 p hp CJ=>by
  have HO:l=0:=by have:=one h1;omega
  subst HO;rw[List.head?_eq_getElem?,iw]at hp;simp only[Option.some.injEq]at hp;subst hp;simp
 have M5:(if s=1 then(ps.set l .bad).headD .bad else PV.agg (bQ (aI s e) off (ps.set l .bad))).cells=bQ (aI s e) off (ps.set l .bad):=yO (by simpa using zN) hb h0 fun h1 p hp CJ=>by
  have HO:l=0:=by have:=one h1;omega
  subst HO;rw[List.head?_eq_getElem?,List.getElem?_set,if_pos rfl,if_pos FP]at hp;simp only[Option.some.injEq]at hp;subst hp;simp
 generalize (if s=1 then ps.headD .bad else PV.agg (bQ (aI s e) off ps))=q at hq⊢;generalize (if s=1 then(ps.set l .bad).headD .bad else PV.agg (bQ (aI s e) off (ps.set l .bad)))=q' at M5;cases ha with
 | @oe _ _ _ g hg=>
  obtain⟨c,T,hh,nf,sx,YD⟩:=aS.set (q:=q') hN (hM.apart id _ hm) hg he hE hb (by rw[M5];rfl);have kD:(φ id).sz=s:=hN.2.1;have hi:=kJ (P:=E.P) (t:=t) (by omega);have qA:au E.P G w0 μ φ (al m id (.nest s et (es.set i q'))) (w.setRow g (bQ c.toList (i*s+off) yx.cells.toList).toArray):=hM.write hm rfl hg (jm.setRow (Nat.le_refl _)) setRow_size (fun k hk=>cJ hk) sx rfl (fun j hj=>by simp[bI.names]at hj) (fun st h=>by cases h) YD;have OY:i<es.length:=(List.getElem?_eq_some_iff.1 he).1;have YX:q.cells=q'.cells.set (off+l) (.fK s2 rs):=by rw[hq,M5,←AZ (by simpa using FP) (by simp[Az,zN];omega),←lN]
  have uU:q'.cells[off+l]?=some .bad:=by rw[M5,AZ FP (by rw[Az,zN];exact hb),List.getElem?_set,if_pos rfl,if_pos];rw[cO (by rw[Az,zN];exact hb),Az];omega
  have qo:=au.VT qA (id:=id) (id2:=id2) (i:=i) (off:=off+l) (e:=q') (q:=q) (x:=y) cR (aL _ _ _) (by rw[an cR];exact cN) (by simp[OY]) uU (fun g0 c0 HN hc0=>by
   rw[hg]at HN;simp only[Option.some.injEq]at HN;subst HN;rw[setRow_heap w g c _ T (0,0) hh]at hc0;simp only[Option.some.injEq,Obj.cells.injEq]at hc0;obtain⟨rfl,_⟩:=hc0;rw[List.getElem?_toArray,dB];have bp:(c.toList.take (i*s+off)).length=i*s+off:=by simp;omega
   have CN:l<yx.cells.toList.length:=by simp only[Array.length_toList];rw[x1];omega
   rw[List.append_assoc,List.getElem?_append_right (by omega),bp,show i*s+(off+l)-(i*s+off)=l by omega,List.getElem?_append_left CN];simpa using hy) SX YX
  rw[List.set_set,A0 cR]at qo;refine⟨_,_,by rw[kD];exact gG hE.size hi hh nf hE.one,qo,?_⟩;have zt:cj E.P μ φ (al m id (.nest s et (es.set i q'))) f ρ:=hF.kK (fun _ _ h=>h) .set;have S1:=(zt.forget id2).rn id;refine S1.Ut (by simp[iT]) (fun k hk=>by simp[hk]) fun k hk=>?_;show(al (eS id (aX (bB id2 m) id2)) id _ k).isSome=true;by_cases e1:k=id
  ·subst e1;simp
  ·rw[an e1];rw[l7]at hk⊢;by_cases e2:k=id2
   ·subst e2;simp at hk
   ·rw[eP e2]at hk⊢;simp only[bB,an e1]at hk⊢;exact hk
end
end Go.Ab
set_option linter.unusedVariables false
namespace Go.Ab
section
variable {R:Type} {E:Env}
variable{e:TypeId}{id2:Nat}{G:Nat→Option (List PV)}{w0:bt}{φ:Nat→aC}{w:World}{ρ:Nat→Value}
theorem Nn{t:TypeId}{v:V}{j site:Nat}{cs:List V}{ps:List PV}{p:PV}{m:Mem}(hu:E.P.underlying t=some (.slice e))(hc:toCells (aO E.P e) v=some cs)(ht:jl m 0 cs=some (ps,some (j,id2)))(hs:m site=none)(hp:elemOf (aA E.P e) ps=some p)(ei:0<aO E.P e)(xC:aO E.P e≤16777216)(hz:(dm E e).isSome=true){μ:Ro}{f:Fr}{yx:Value}(hM:au E.P G w0 μ φ m w)(hF:cj E.P μ φ m f ρ)(hx:af E.P μ φ v yx):∃y w' φ',(Instr.buildSlice t 1 #[(0,yx)]).run E.P w=.ok y w'∧au E.P G w0 μ φ' (qm [(site,.nest (aO E.P e) e [p])] (km [(true,id2)] m)) w'∧cj E.P μ φ' (qm [(site,.nest (aO E.P e) e [p])] (km [(true,id2)] m)) (kf [(true,id2)] f) ρ∧af E.P μ φ' (.os site) y:=by
 obtain⟨l,s2,FX,rs,cN,iw,zN,adj,iP⟩:=AY hc ht;obtain⟨x1,x2,x3,z,SY,hvz⟩:=iP E.P μ φ yx hx;obtain⟨zc,OW⟩:=Option.isSome_iff_exists.1 hz;obtain⟨iz,zv,i1,i2,i3,_⟩:=eC OW;have cR:id2≠site:=fun e=>by subst e;rw[hs]at cN;cases cN
 have Np:p.cells=ps:=by
  unfold elemOf at hp;split at hp
  ·simp only[Option.some.injEq]at hp;subst hp;rfl
  ·split at hp
   ·rename_i q;simp only[Option.some.injEq]at hp;subst hp;have HO:l=0:=by have:=(List.getElem?_eq_some_iff.1 iw).1;simp at this;exact this
    subst HO;simp only[List.getElem?_cons_zero,Option.some.injEq]at iw;subst iw;rfl
   ·cases hp
 have VS:aJ E.P μ φ w id2 s2 FX rs:=hM.dG id2 _ cN;have YY:Instr.fill (fun i=>some (i*aO E.P e,aO E.P e)) ((Array.range (1*aO E.P e)).map (zv.cells[·%zv.cells.size]!)) [(0,yx)]=some yx.cells:=by
  have HR:((Array.range (1*aO E.P e)).map (zv.cells[·%zv.cells.size]!)).size=aO E.P e:=by simp
  rw[ug (off:=0) (size:=aO E.P e) (by simp) x1 (by rw[HR];omega)];simp only[Instr.fill,Option.some.injEq];apply Array.ext';simp only[dB,List.take_zero,List.nil_append,Nat.zero_add];rw[List.drop_of_length_le (by simp only[Array.length_toList];rw[HR,x1];exact Nat.le_refl _),List.append_nil]
 have lM:=run_buildSlice (P:=E.P) w t e 1 #[(0,yx)] yx.cells iz zv hu i1 i2 (by rw[i3];omega) (by rw[i3];omega) (by rw[i3];exact YY);let q:aC:={g:=some w.heap.size,cap:=1,len:=1,sz:=aO E.P e,row:=fun a b=>if a=0∧b=l then(φ id2).toyD else default};have Ia:∀k,(aX (bB id2 m) id2 k).isSome=true→k≠site:=fun k hk e=>by subst e;rw[eP (Ne.symm cR)]at hk;simp[bB,hs]at hk
 have PS:∀a b,(bI.nest (aO E.P e) e [p]).rowAt a b=true→a=0∧b=l:=by
  intro a b hr;rcases iB hr with⟨_,_,_,e',s',YF,fL,h',pt⟩|⟨_,_,_,_,_,_,fL,_⟩
  ·simp only[bI.nest.injEq]at fL;obtain⟨rfl,rfl,rfl⟩:=fL;cases a with
   |succ a=>simp at h'
   |zero=>
    simp only[List.getElem?_cons_zero,Option.some.injEq]at h';subst h';rw[Np]at pt;refine⟨rfl,?_⟩;by_cases YZ:b=l
    ·exact YZ
    ·exfalso;have bp:b<yx.cells.size:=by rw[x1,←zN];exact(List.getElem?_eq_some_iff.1 pt).1
     exact absurd (x3 b _ _ YZ pt (Array.getElem?_eq_getElem bp)).zK (by simp[PV.isRow])
  ·cases fL
 have qA:=hM.forget id2;have pR:au E.P G w0 μ (fun i=>if i=site then q else φ i) (al (aX (bB id2 m) id2) site (.nest (aO E.P e) e [p])) (w.alloc (.cells yx.cells e)):=by
  have hold:∀k,k<w.heap.size→(w.alloc (.cells yx.cells e)).heap[k]?=w.heap[k]?:=fun k hk=>jm.heap_alloc w _ k hk;refine qA.put (by rw[eP (Ne.symm cR)];simp[bB,hs]) ((jm.refl _ w).alloc hM.below.size _) (fun k o hk=>?_) (fun id b' g hid hg=>hold g ((qA.dG id b' hid).AD hg)) (fun g hg=>?_) ?_ ?_ (by simp[bI.names]) (fun st h=>by cases h)
  ·have:=hM.ro k o hk;rw[hold k (Array.getElem?_eq_some_iff.1 this).1];exact this
  ·rcases hg with hg|⟨a,b,hr,hg⟩
   ·simp only[q,Option.some.injEq]at hg;subst hg;refine⟨hM.below.size,?_,fun id b' hid ho=>?_⟩
    ·cases hq:μ w.heap.size with
     |none=>rfl
     |some o'=>have:=hM.ro _ _ hq;simp at this
    ·have:=(qA.dG id b' hid).AD ho;omega
   ·have qo:=PS a b hr;have hg:(φ id2).g=some g:=by simpa[q,qo]using hg
    obtain⟨o1,o2⟩:=hM.own id2 _ g cN (.inl hg);refine⟨o1,o2 rfl,fun id b' hid ho=>?_⟩;obtain⟨h1,b2,oY,rfl⟩:=eK hid;exact h1 (hM.inj id id2 _ _ g oY cN (fC.1 ho) (.inl hg))
  ·intro a b g hr hg;have qo:=PS a b hr;have hg:(φ id2).g=some g:=by simpa[q,qo]using hg
   refine⟨fun h=>?_,fun a' b' qn _=>by have:=PS a' b' qn;omega⟩;simp only[q,Option.some.injEq]at h;have:=(hM.dG id2 _ cN).AD (.inl hg);omega
  ·show aS E.P μ (fun i=>if i=site then q else φ i) (w.alloc (.cells yx.cells e)) site (aO E.P e) e [p];unfold aS;simp only[if_true];refine⟨rfl,rfl,trivial,ei,fun i e' PT=>?_,by simp[q,maxLen],yx.cells,fD w _,by simp[q,x1],by simp[q],fun i e' b p' x' PT pt Ic=>?_,fun i x' _ Ic=>x2 i x' Ic⟩
   ·cases i with
    |zero=>simp at PT;subst PT;rw[Np,zN]
    |succ i=>simp at PT
   ·cases i with
    |succ i=>simp at PT
    |zero=>
     simp only[List.getElem?_cons_zero,Option.some.injEq]at PT;subst PT;rw[Np]at pt;rw[Nat.zero_mul,Nat.zero_add]at Ic;by_cases YZ:b=l
     ·subst YZ;rw[iw]at pt;simp only[Option.some.injEq]at pt;subst pt;rw[SY]at Ic;simp only[Option.some.injEq]at Ic;subst Ic;have:q.row 0 b=(φ id2).toyD:=by simp[q]
      rw[this];refine eH.cG ⟨⟨FX,VS.up⟩,Iq hvz⟩ (fun _ _ h=>h) fun g hg=>hold g ((hM.dG id2 _ cN).AD (.inl hg))
     ·exact .pure (x3 b p' x' YZ pt Ic)
 refine⟨_,_,_,lM,pR,?_,?_⟩
 ·exact(hF.forget id2).mono (fun _ _ h=>h) fun k hk=>⟨by simp[Ia k hk],by show(al (aX (bB id2 m) id2) site _ k).isSome=true;rw[an (Ia k hk)];exact hk⟩
 ·have:=af.os (P:=E.P) (μ:=μ) (φ:=fun i=>if i=site then q else φ i) (id:=site) (g:=w.heap.size) (by simp[q]);simpa[q]using this
theorem PU{k v v':PV}:∀{es:List (PV×PV)}{j:Nat},(eN k v es)[j]?=some (k,v)→(jQ k es=some j∨(jQ k es=none∧j=es.length))→(eN k v es).set j (k,v')=eN k v' es:=by
 intro es j hj hp;rw[kL,kL];rcases hp with hp|⟨hp,rfl⟩
 ·rw[hp];simp
 ·rw[hp];simp
variable{es:List (PV×PV)}
theorem au.S6{P:Program}{μ:Ro}{m:Mem}(hM:au P G w0 μ φ m w){id i s2:Nat}{kt:TypeId}{k:PV}{rs:List PV}{x:Value}(cR:id2≠id)(hm:m id=some (.eU kt e es))(cN:m id2=some (.arr s2 e rs))(he:es[i]?=some (k,.bad))(hx:∀g en clock,(φ id).g=some g→w.heap[g]?=some (.map en clock)→∃e0,en[i]?=some e0∧e0.val=x)(hv:af P μ φ (.os id2) x):au P G w0 μ (fun j=>if j=id then iT (φ id) i 0 (φ id2).toyD else φ j) (al (eS id (aX (bB id2 m) id2)) id (.eU kt e (es.set i (k,.fK s2 rs)))) w:=by
 have qA:=(hM.forget id2).rn id;obtain⟨g0,en,clock,kk,hN⟩:=qE.1 (hM.dG id _ hm);have VS:aJ P μ φ w id2 s2 e rs:=hM.dG id2 _ cN;have iw:∀a b,(bI.eU kt e (es.set i (k,.fK s2 rs))).rowAt a b=true→(a=i∧b=0)∨((bI.eU kt e es).rowAt a b=true∧¬(a=i∧b=0)):=by
  intro a b hr;by_cases qo:a=i∧b=0
  ·exact .inl qo
  ·refine .inr ⟨?_,qo⟩;rcases iB hr with⟨_,_,_,_,_,_,fL,_⟩|⟨_,_,_,k',s',YF,fL,rfl,h'⟩
   ·cases fL
   ·simp only[bI.eU.injEq]at fL;obtain⟨rfl,rfl,rfl⟩:=fL;rcases eg h' with⟨rfl,_⟩|⟨PE,h'⟩
    ·exact absurd ⟨rfl,rfl⟩ qo
    ·rw[iA h'];rfl
 refine hM.LK (fun _ k=>if k=id2 then id else k) (fun j b' hj=>?_) (fun j b' g hj ho=>?_) (fun j b' hj=>?_) (fun j cs k hj hk=>?_) (fun j st hj=>?_)
 ·rcases eZ hj with⟨rfl,rfl⟩|⟨h1,h2,c,hc,rfl⟩
  ·refine qE.2 ⟨g0,en,clock,kk,by simp[iT,hN.pl],hN.heap,by simp[hN.size],hN.xe,fun a k' v' h'=>?_,hN.born,fun a k' v' e' h' PT=>?_⟩
   ·rcases eg h' with⟨rfl,hq⟩|⟨_,h'⟩
    ·simp only[Prod.mk.injEq]at hq;rw[hq.1];exact hN.key a k _ he
    ·exact hN.key a k' v' h'
   ·simp only[if_true];rcases eg h' with⟨rfl,hq⟩|⟨PE,h'⟩
    ·simp only[Prod.mk.injEq]at hq;obtain⟨rfl,rfl⟩:=hq;refine⟨(hN.rep a _ _ e' he PT).1,?_⟩;rw[fI];obtain⟨e1,Y0,hxe⟩:=hx g0 en clock hN.pl hN.heap;rw[PT]at Y0;simp only[Option.some.injEq]at Y0;subst Y0;rw[hxe];exact⟨VS.up,Iq hv⟩
    ·rw[fN _ _ (fun h=>PE h.1)];exact hN.rep a k' v' e' h' PT
  ·have hb:fM P μ φ w j (dL id (fF id2 c)):=(hM.dG j c hc).kill.uN;exact hb.LL h1 (by simp[iT]) fun k hk=>by simp[hk]
 ·rcases eZ hj with⟨rfl,rfl⟩|⟨h1,h2,c,hc,rfl⟩
  ·simp only[if_true]at ho;rcases ho with ho|⟨a,b,hr,ho⟩
   ·exact⟨j,_,hm,.inl ho,fun _=>rfl,by simp[cR.symm]⟩
   ·rcases iw a b hr with⟨rfl,rfl⟩|⟨qn,qo⟩
    ·rw[fI]at ho;exact⟨id2,_,cN,.inl ho,fun _=>rfl,by simp⟩
    ·rw[fN _ _ qo]at ho;exact⟨j,_,hm,.inr ⟨a,b,qn,ho⟩,fun _=>rfl,by simp[cR.symm]⟩
  ·simp only[h1,if_false]at ho;exact⟨j,c,hc,fC.1 (ob.1 ho),fun h=>by rw[vo,ue]at h;exact h,by simp[h2]⟩
 ·rcases eZ hj with⟨rfl,rfl⟩|⟨h1,h2,c,hc,rfl⟩
  ·simp only[if_true];have AG:=hM.apart j _ hm;have new:∀g,(φ id2).g=some g→¬(bI.eU kt e es).ec (φ j) g:=fun g hg ho=>cR (hM.inj id2 j _ _ g cN hm (.inl hg) ho);intro a b g hr hg;rcases iw a b hr with⟨rfl,rfl⟩|⟨qn,qo⟩
   ·rw[fI]at hg;refine⟨fun h=>new g hg (.inl h),fun a' b' PN Ir=>?_⟩;rcases iw a' b' PN with h|⟨S5,Is⟩
    ·exact h
    ·rw[fN _ _ Is]at Ir;exact absurd (.inr ⟨a',b',S5,Ir⟩) (new g hg)
   ·rw[fN _ _ qo]at hg;obtain⟨h3,h4⟩:=AG a b g qn hg;refine⟨h3,fun a' b' PN Ir=>?_⟩;rcases iw a' b' PN with⟨rfl,rfl⟩|⟨S5,Is⟩
    ·rw[fI]at Ir;exact absurd (.inr ⟨a,b,qn,hg⟩) (new g Ir)
    ·rw[fN _ _ Is]at Ir;exact h4 a' b' S5 Ir
  ·simp only[h1,if_false];exact sT.2 (ri.2 (hM.apart j c hc))
 ·rcases eZ hj with⟨rfl,hb⟩|⟨h1,h2,c,hc,hb⟩
  ·cases hb
  ·have Fj:eS id (aX (bB id2 m) id2) j=some (.box cs):=by rw[an h1]at hj;exact hj
   have:=qA.fh j cs k Fj hk;by_cases e:k=id
   ·subst e;simp
   ·rw[an e];exact this
 ·rcases eZ hj with⟨rfl,hb⟩|⟨h1,h2,c,hc,hb⟩
  ·cases hb
  ·cases c<;>first|(simp[dL,fF]at hb;done)|skip
   simp only[dL,fF,bI.loop.injEq]at hb;subst hb;exact⟨hc,by simp[h1]⟩
theorem Nq{t kt et:TypeId}{xk:V}{id s:Nat}{key:PV}{rs:List PV}{m:Mem}(hu:E.P.underlying t=some (.map kt et))(hm:m id=some (.eU kt e es))(cN:m id2=some (.arr s e rs))(pP:keyOf E kt xk=some key){μ:Ro}{f:Fr}{ya yk yv:Value}(hM:au E.P G w0 μ φ m w)(hF:cj E.P μ φ m f ρ)(ha:af E.P μ φ (.om id) ya)(hk:af E.P μ φ xk yk)(hv:af E.P μ φ (.os id2) yv):∃w' φ',(Instr.mapUpdate t ya yk yv).run E.P w=.ok () w'∧au E.P G w0 μ φ' (qm [(id,.eU kt e (eN key (.fK s rs) es))] (km [(true,id2),(false,id)] m)) w'∧cj E.P μ φ' (qm [(id,.eU kt e (eN key (.fK s rs) es))] (km [(true,id2),(false,id)] m)) (kf [(true,id2),(false,id)] f) ρ:=by
 have cR:id2≠id:=fun h=>by subst h;rw[hm]at cN;cases cN
 obtain⟨ks,k1,k2,k3⟩:=qC pP;obtain⟨g,en,clock,kk,hN⟩:=qE.1 (hM.dG id _ hm);have xB:=hN.xe;rw[k1]at xB;simp only[Option.some.injEq]at xB;subst xB;have Na:=uh k1;have XM:=k3 μ φ yk hk;obtain⟨hc,VN⟩:=kn k2 XM;obtain⟨res,r1,r2⟩:=jG (v:=.na) (z:=.bad) Na hc w hN.ent;have zs:=Go.MapKept.run_getObj_map (P:=E.P) hN.heap;have h1:(Instr.checkKey false 10000 kt yk).run E.P w=.ok () w:=by rw[VN];exact gg 8 kt ks Na 9992 w false key.cells hc
 rw[←VN]at r1;have bp:g<w.heap.size:=(Array.getElem?_eq_some_iff.1 hN.heap).1;cases ha with
 |om bU=>
  rw[hN.pl]at bU;simp only[Option.some.injEq]at bU;subst bU;have fin:∀(J:Nat)(HP:Array MapEntry)(mN:Nat),(jQ key es=some J∨(jQ key es=none∧J=es.length))→(Instr.mapUpdate t (.map (some g)) yk yv).run E.P w=.ok () {w with heap:=w.heap.setIfInBounds g (.map HP mN)}→jN HP mN→HP.size=(eN key .bad es).length→(∃e0,HP[J]?=some e0∧e0.key=yk∧e0.val=yv)→(∀i e0,i≠J→HP[i]?=some e0→en[i]?=some e0)→∃w' φ',(Instr.mapUpdate t (.map (some g)) yk yv).run E.P w=.ok () w'∧au E.P G w0 μ φ' (qm [(id,.eU kt e (eN key (.fK s rs) es))] (km [(true,id2),(false,id)] m)) w'∧cj E.P μ φ' (qm [(id,.eU kt e (eN key (.fK s rs) es))] (km [(true,id2),(false,id)] m)) (kf [(true,id2),(false,id)] f) ρ:=by
   intro J HP mN hJ hr sd kD hJe zw;obtain⟨eJ,Y1,adk,adl⟩:=hJe;have pR:∀i k' v',(eN key .bad es)[i]?=some (k',v')→(i=J∧k'=key∧v'=.bad)∨(i≠J∧es[i]?=some (k',v')):=by
    intro i k' v' h;rw[kL]at h;rcases hJ with hJ|⟨hJ,rfl⟩
    ·rw[hJ]at h;rcases eg h with⟨rfl,hq⟩|⟨PE,h⟩
     ·simp only[Prod.mk.injEq]at hq;exact .inl ⟨rfl,hq.1,hq.2⟩
     ·exact .inr ⟨PE,h⟩
    ·rw[hJ]at h;simp only at h;rw[List.getElem?_append]at h;split at h
     ·rename_i bp;exact .inr ⟨by omega,h⟩
     ·rename_i Ch;cases hd:i-es.length with
      |zero=>rw[hd]at h;simp only[List.getElem?_cons_zero,Option.some.injEq,Prod.mk.injEq]at h;exact .inl ⟨by omega,h.1.symm,h.2.symm⟩
      |succ n=>rw[hd]at h;simp at h
   have hJb:(eN key .bad es)[J]?=some (key,.bad):=by
    rw[kL];rcases hJ with hJ|⟨hJ,rfl⟩
    ·rw[hJ];obtain⟨a,u,hj,_⟩:=zM hJ;simp[(List.getElem?_eq_some_iff.1 hj).1]
    ·rw[hJ];simp
   have qA:au E.P G w0 μ φ (al m id (.eU kt e (eN key .bad es))) {w with heap:=w.heap.setIfInBounds g (.map HP mN)}:=by
    refine hM.write hm rfl hN.pl ⟨⟨rfl,rfl,rfl,by simp,fun k hk=>by simp[Array.getElem?_setIfInBounds_ne (Nat.ne_of_gt hk)]⟩,fun _=>Nat.le_refl _⟩ (by simp) (fun k hk=>by simp[Array.getElem?_setIfInBounds_ne (Ne.symm hk)]) (qE.2 ⟨g,HP,mN,ks,hN.pl,by simp[bp],kD,k1,fun i k' v' h=>?_,sd,fun i k' v' e0 h Fi=>?_⟩) rfl (by simp[bI.names]) (fun st h=>by cases h) fun a b hr=>?_
    ·rcases pR i k' v' h with⟨_,rfl,_⟩|⟨_,h⟩
     ·exact k2
     ·exact hN.key i k' v' h
    ·rcases pR i k' v' h with⟨rfl,rfl,rfl⟩|⟨PE,h⟩
     ·rw[Y1]at Fi;simp only[Option.some.injEq]at Fi;subst Fi;exact⟨by rw[adk];exact XM,.pure .bad⟩
     ·obtain⟨q1,q2⟩:=hN.rep i k' v' e0 h (zw i e0 PE Fi);refine⟨q1,?_⟩;unfold AV at q2⊢;split at q2
      ·refine⟨q2.1.cG rfl (fun _ _ h=>h) fun g' bU=>?_,q2.2⟩;have hr:(bI.eU kt e es).rowAt i 0=true:=by rw[iA h];rfl
       have:=(hM.apart id _ hm i 0 g' hr bU).1;rw[hN.pl]at this;simp only[ne_eq,Option.some.injEq]at this;simp[Array.getElem?_setIfInBounds_ne this]
      ·exact q2
    ·rcases iB hr with⟨_,_,_,_,_,_,fL,_⟩|⟨_,_,_,k',s',YF,fL,rfl,h'⟩
     ·cases fL
     ·simp only[bI.eU.injEq]at fL;obtain⟨rfl,rfl,rfl⟩:=fL;rcases pR a k' _ h' with⟨_,_,h⟩|⟨_,h⟩
      ·cases h
      ·rw[iA h];rfl
   have qo:=au.S6 qA (id:=id) (id2:=id2) (i:=J) (x:=yv) cR (aL _ _ _) (by rw[an cR];exact cN) hJb (fun g0 en0 adm HN hh0=>by
    rw[hN.pl]at HN;simp only[Option.some.injEq]at HN;subst HN;have:(w.heap.setIfInBounds g (Obj.map HP mN))[g]?=some (.map HP mN):=by simp[bp]
    rw[this]at hh0;simp only[Option.some.injEq,Obj.map.injEq]at hh0;obtain⟨rfl,_⟩:=hh0;exact⟨eJ,Y1,adl⟩) hv
   rw[PU hJb hJ,A0 cR]at qo;refine⟨_,_,hr,qo,?_⟩;have zt:cj E.P μ φ (al m id (.eU kt e (eN key .bad es))) f ρ:=hF.kK (fun _ _ h=>h) .set;refine((zt.forget id2).rn id).Ut (by simp[iT]) (fun k hk=>by simp[hk]) fun k hk=>?_;show(al (eS id (aX (bB id2 m) id2)) id _ k).isSome=true;by_cases e1:k=id
   ·subst e1;simp
   ·rw[an e1];rw[l7]at hk⊢;by_cases e2:k=id2
    ·subst e2;simp at hk
    ·rw[eP e2]at hk⊢;simp only[bB,an e1]at hk⊢;exact hk
  rcases CW r2 with⟨rfl,hp⟩|⟨j,e0,rfl,Fi,hp⟩
  ·have SZ:=Go.MapKept.run_setObj_map (P:=E.P) (.map (en.push {key:=yk,val:=yv,born:=clock}) (clock+1)) hN.heap;refine fin es.length _ _ (.inr ⟨hp,rfl⟩) (by simp only[Instr.mapUpdate,Sem.run_bind,run_underlying hu,zs,h1,r1,Result.andThen_ok];exact SZ) hN.born.push (by rw[kL,hp];simp[hN.size]) ⟨{key:=yk,val:=yv,born:=clock},?_,rfl,rfl⟩ fun i e0 hi h=>?_
   ·rw[←hN.size];simp
   ·rw[Array.getElem?_push]at h;split at h
    ·rename_i h';rw[hN.size]at h';exact absurd h' hi
    ·exact h
  ·have S7:en[j]?=some e0:=by simpa using Fi
   obtain⟨a,u,haj,Y2⟩:=zM hp;obtain⟨VO,hva⟩:=kn (hN.key j a u haj) (hN.rep j a u e0 haj S7).1;have rj:=DW hc VO Y2;have VP:Instr.sameBits 10000 e0.key yk=true:=by rw[hva,VN,←rj];refine sS (n:=9999) hc (fun ha=>?_);rw[nd hc];exact(uc Na).2.1 ha
   have SZ:=Go.MapKept.run_setObj_map (P:=E.P) (.map (en.modify j fun e=>{e with key:=yk,val:=yv}) clock) hN.heap;have xf:j<en.size:=(Array.getElem?_eq_some_iff.1 S7).1;refine fin j _ _ (.inl hp) (by simp only[Instr.mapUpdate,Sem.run_bind,run_underlying hu,zs,h1,r1,Result.andThen_ok];simp only[Nat.zero_add,S7,Option.map_some,Option.getD_some,Instr.keyThatStays,VP,if_true,Sem.run_pure,Result.andThen_ok];exact SZ) (hN.born.modify (fun e=>{e with key:=yk,val:=yv}) (fun _=>rfl) _) (by rw[kL,hp];simp[hN.size]) ⟨{e0 with key:=yk,val:=yv},by rw[Array.getElem?_modify,if_pos rfl,S7];rfl,rfl,rfl⟩ fun i e1 hi h=>?_;rw[Array.getElem?_modify,if_neg (Ne.symm hi)]at h;exact h
end
end Go.Ab
set_option linter.unusedVariables false
namespace Go.Ab
section
variable {P:Program} {G:Nat→Option (List PV)} {w0:bt} {μ μ':Ro} {φ φ':Nat→aC} {m m':Mem} {w w':World}
structure jc(P:Program)(μ:Ro)(rows:Nat→Nat→yD)(w:World)(s:Nat)(es:List PV)(xs:List Value):Prop where
 len:xs.length=es.length*s
 each:∀(i:Nat)e,es[i]?=some e→e.cells.length=s
 rep:∀(i:Nat)e(j:Nat)p x,es[i]?=some e→e.cells[j]?=some p→xs[i*s+j]?=some x→ef P μ (rows i j) w p x
 one:∀(i:Nat)(x:Value),xs[i]?=some x→x.oneCell'=true
variable{rows:Nat→Nat→yD}{es:List PV}{xs:List Value}
theorem jc.append{A1 PW:Nat→Nat→yD}{s:Nat}{es':List PV}{YG:List Value}(h:jc P μ rows w s es xs)(h':jc P μ A1 w s es' YG)(h1:∀i j,i<es.length→PW i j=rows i j)(h2:∀i j,es.length≤i→PW i j=A1 (i-es.length) j):jc P μ PW w s (es++es') (xs++YG):=by
 refine⟨by simp[h.len,h'.len,Nat.add_mul],fun i e he=>?_,fun i e j p x he hp hx=>?_,fun i x hx=>?_⟩
 ·rw[List.getElem?_append]at he;split at he
  ·exact h.each i e he
  ·exact h'.each _ e he
 ·rw[List.getElem?_append]at he;split at he
  ·rename_i hi;rw[h1 i j hi];have hj:j<s:=by rw[←h.each i e he];exact(List.getElem?_eq_some_iff.1 hp).1
   rw[List.getElem?_append_left (by rw[h.len];exact AL hi hj)]at hx;exact h.rep i e j p x he hp hx
  ·rename_i hi;rw[h2 i j (by omega)];have e1:i*s+j=es.length*s+((i-es.length)*s+j):=by
    have:i=es.length+(i-es.length):=by omega
    have h3:i*s=es.length*s+(i-es.length)*s:=by rw[←Nat.add_mul,←this]
    omega
   rw[List.getElem?_append_right (by rw[h.len,e1];omega),h.len,show i*s+j-es.length*s=(i-es.length)*s+j by omega]at hx;exact h'.rep _ e j p x he hp hx
 ·rw[List.getElem?_append]at hx;split at hx
  ·exact h.one i x hx
  ·exact h'.one _ x hx
theorem Cells.D2{s:Nat}(h:Cells P μ s es xs):jc P μ rows w s es xs:=⟨h.len,h.each,fun i e j p x he hp hx=>.pure (h.rep i e j p x he hp hx),h.one⟩
theorem jc.cG{rows:Nat→Nat→yD}{s:Nat}{es:List PV}{xs:List Value}(h:jc P μ rows w s es xs)(hw:∀i e j p g,es[i]?=some e→e.cells[j]?=some p→p.isRow=true→(rows i j).g=some g→w'.heap[g]?=w.heap[g]?):jc P μ rows w' s es xs:=⟨h.len,h.each,fun i e j p x he hp hx=>(h.rep i e j p x he hp hx).cG (fun _ _ h=>h) fun hr g hg=>hw i e j p g he hp hr hg,h.one⟩
theorem aS.D2{id sz:Nat}{et:TypeId}(h:aS P μ φ w id sz et es){g:Nat}(hg:(φ id).g=some g):∃c:Array Value,w.heap[g]?=some (.cells c et (0,0))∧(φ id).cap*sz≤c.size∧es.length≤(φ id).cap∧jc P μ (φ id).row w sz es (c.toList.take (es.length*sz)):=by obtain⟨a1,a2,a3,a4,a5,a6,a7⟩:=h;rw[hg]at a7;obtain⟨c,c1,c2,c3,c4,c5⟩:=a7;have hle:es.length*sz≤c.size:=Nat.le_trans (Nat.mul_le_mul_right _ c3) c2;refine⟨c,c1,c2,c3,by simp;omega,a5,fun i e j p x he hp hx=>c4 i e j p x he hp (by simpa using(eh hx).2),fun i x hx=>?_⟩;have:=eh hx;exact c5 i x this.1 (by simpa using this.2)
theorem jc.nest{id g sz:Nat}{et:TypeId}{c:Array Value}(SR:(φ id).toyD=⟨some g,(φ id).cap,es.length,sz⟩)(kD:sz=aO P et)(ei:0<sz)(mJ:(φ id).cap≤maxLen)(hh:w.heap[g]?=some (.cells c et (0,0)))(hc:(φ id).cap*sz≤c.size)(hle:es.length≤(φ id).cap)(hC:jc P μ (φ id).row w sz es (c.toList.take (es.length*sz))):aS P μ φ w id sz et es:=by
 have e1:(φ id).g=some g:=by rw[SR]
 refine⟨by rw[SR],by rw[SR],kD,ei,hC.each,mJ,?_⟩;rw[e1];have xf:∀(i:Nat)e(j:Nat)p,es[i]?=some e→e.cells[j]?=some p→i*sz+j<es.length*sz:=fun i e j p hi hj=>AL (List.getElem?_eq_some_iff.1 hi).1 (by rw[←hC.each i e hi];exact(List.getElem?_eq_some_iff.1 hj).1);refine⟨c,hh,hc,hle,fun i e j p x hi hj hx=>?_,fun i x hi hx=>?_⟩
 ·exact hC.rep i e j p x hi hj (by rw[List.getElem?_take_of_lt (xf i e j p hi hj)];simpa using hx)
 ·exact hC.one i x (by rw[List.getElem?_take_of_lt hi];simpa using hx)
end
section
variable {R:Type} {E:Env}
def LM(src:Option Nat)(m:Mem):Mem:=match src with|some id2=>aX (bB id2 m) id2|none=>m
def kfS(src:Option Nat)(f:Fr):Fr:=match src with|some id2=>eO id2 f|none=>f
variable{src:Option Nat}
theorem PX{m:Mem}{j:Nat}{b:bI}(h:LM src m j=some b):src≠some j∧∃b',m j=some b'∧b.rowAt=b'.rowAt:=by
 cases src with
 |none=>exact⟨by simp,b,h,rfl⟩
 |some id2=>obtain⟨h1,b',h2,rfl⟩:=eK h;exact⟨fun e=>h1 (by simpa using e.symm),b',h2,rf _ _⟩
theorem Nr{t e ty:TypeId}{x:V}{id s:Nat}{es new:List PV}{rd:bl}{m:Mem}(hu:E.P.underlying t=some (.slice e))(hm:m id=some (.nest s e es))(hs:s=aO E.P e)(hz:(dm E e).isSome=true)(ei:0<aO E.P e)(YH:0<Cc E.P e)(ek:(es++new).length*Cc E.P e≤aa)(vk:(∃id2,src=some id2∧id2≠id∧x=.os id2∧m id2=some (.nest s e new))∨(src=none∧eF m s x=some (new,rd))){G:Nat→Option (List PV)}{w0:bt}{μ:Ro}{φ:Nat→aC}{w:World}{f:Fr}{ρ:Nat→Value}{ys yx:Value}(hM:au E.P G w0 μ φ m w)(hF:cj E.P μ φ m f ρ)(ha:af E.P μ φ (.os id) ys)(hx:af E.P μ φ x yx):∃w' y φ',(Builtin.append_ #[t,t] ty #[ys,yx]).run E.P w=.ok y w'∧au E.P G w0 μ φ' (al (aX (bB id (LM src m)) id) id (.nest s e (es++new))) w'∧cj E.P μ φ' (al (aX (bB id (LM src m)) id) id (.nest s e (es++new))) (eO id (kfS src f)) ρ∧af E.P μ φ' (.os id) y:=by
 obtain⟨zc,OW⟩:=Option.isSome_iff_exists.1 hz;obtain⟨i,zv,hi,XJ,Uq,_,FN,_,_,_⟩:=eC OW;have hN:aS E.P μ φ w id s e es:=hM.dG id _ hm;have FP:(es++new).length=es.length+new.length:=by simp
 have iS:0<s:=by omega
 obtain⟨A1,qn⟩:∃A1:Nat→Nat→yD,A1=match src with|some id2=>(φ id2).row|none=>fun _ _=>default:=⟨_,rfl⟩
 obtain⟨os,VH,hC⟩:∃os,((ys=.slice none 0 0∧es.length=0∧os=[])∨∃(g cap:Nat)(c:Array Value),ys=.slice (some ⟨g,0,none⟩) es.length cap∧w.heap[g]?=some (.cells c e (0,0))∧cap*s≤c.size∧es.length≤cap∧cap≤maxLen∧os=c.toList.take (es.length*s))∧jc E.P μ (φ id).row w s es os:=by
  cases ha with
  |oX hg=>have a7:=hN.2.2.2.2.2.2;rw[hg]at a7;rw[a7.1];exact⟨[],.inl ⟨rfl,rfl,rfl⟩,by simp,by simp,fun i e j p x he=>by simp at he,by simp⟩
  | @os _ g hg=>obtain⟨c,c1,c2,c3,c4⟩:=hN.D2 hg;exact⟨_,.inr ⟨g,(φ id).cap,c,by rw[hN.1],c1,c2,c3,hN.2.2.2.2.2.1,rfl⟩,c4⟩
 obtain⟨xs,FO,hCx⟩:∃xs,((yx=.slice none 0 0∧new.length=0∧xs=[])∨∃(a:Addr)(cx:Nat),yx=.slice (some a) new.length cx∧xs.length=new.length*s∧(∀(j:Nat)v,xs[j]?=some v→w.cell? (a.add j)=some v)∧(∀v∈xs,v.oneCell'=true)∧new.length≤cx∧cx≤maxLen)∧jc E.P μ A1 w s new xs:=by
  rcases vk with⟨id2,rfl,cR,rfl,cN⟩|⟨rfl,xz⟩
  ·have hN2:aS E.P μ φ w id2 s e new:=hM.dG id2 _ cN;simp only at qn;subst qn;cases hx with
   |oX hg=>have a7:=hN2.2.2.2.2.2.2;rw[hg]at a7;rw[a7.1];exact⟨[],.inl ⟨rfl,rfl,rfl⟩,by simp,by simp,fun i e j p x he=>by simp at he,by simp⟩
   | @os _ g hg=>
    obtain⟨c,c1,c2,c3,c4⟩:=hN2.D2 hg;refine⟨_,.inr ⟨⟨g,0,none⟩,(φ id2).cap,by rw[hN2.1],c4.len,fun j v hj=>?_,fun v hv=>?_,c3,hN2.2.2.2.2.2.1⟩,c4⟩
    ·rw[Addr.add_mid,dJ c1];simpa using(eh hj).2
    ·obtain⟨j,hj⟩:=List.getElem?_of_mem hv;exact c4.one j v hj
  ·obtain⟨_,_,hsr⟩:=lO xz;have:=hsr _ _ _ _ _ _ _ hM hx;cases this with
   |none hn=>subst hn;exact⟨[],.inl ⟨rfl,rfl,rfl⟩,by simp,by simp,fun i e j p x he=>by simp at he,by simp⟩
   | @some a cx xs hC FO Ur PF=>exact⟨xs,.inr ⟨a,cx,rfl,hC.len,FO,fun u hu=>by obtain⟨j,hj⟩:=List.getElem?_of_mem hu;exact hC.one j u hj,Ur,PF⟩,hC.D2⟩
 obtain⟨w',y,hr,PG⟩:=AM (ty:=ty) hu hi XJ (by rw[FN,hs]) hs ei YH (by rw[←FP];exact ek) VH FO;let kM:Nat→Nat→yD:=fun a b=>if a<es.length then(φ id).row a b else A1 (a-es.length) b;have YJ:jc E.P μ kM w s (es++new) (os++xs):=hC.append hCx (fun a b h=>by simp only[kM,h,if_true]) (fun a b h=>by simp only[kM,Nat.not_lt.2 h,if_false]);have iw:∀a b g,(bI.nest s e (es++new)).rowAt a b=true→(kM a b).g=some g→(a<es.length∧(bI.nest s e es).rowAt a b=true∧((φ id).row a b).g=some g)∨(es.length≤a∧∃id2,src=some id2∧id2≠id∧m id2=some (.nest s e new)∧(bI.nest s e new).rowAt (a-es.length) b=true∧((φ id2).row (a-es.length) b).g=some g):=by
  intro a b g zq hg;rcases iB zq with⟨_,_,_,e',s',YF,fL,h',pt⟩|⟨_,_,_,_,_,_,fL,_⟩
  ·simp only[bI.nest.injEq]at fL;obtain⟨rfl,rfl,rfl⟩:=fL;by_cases bp:a<es.length
   ·rw[List.getElem?_append_left bp]at h';exact .inl ⟨bp,by rw[dy h' pt];rfl,by simpa[kM,bp]using hg⟩
   ·rw[List.getElem?_append_right (by omega)]at h';simp only[kM,bp,if_false]at hg;rcases vk with⟨id2,rfl,cR,rfl,cN⟩|⟨rfl,xz⟩
    ·simp only at qn;subst qn;exact .inr ⟨by omega,id2,rfl,cR,cN,by rw[dy h' pt];rfl,hg⟩
    ·exfalso;obtain⟨_,_,hsr⟩:=lO xz;have h3:=hsr _ _ _ _ _ _ _ hM hx;cases h3 with
     |none hn=>subst hn;simp at h'
     | @some a2 cx xs2 hC2 afF Ur PF=>
      have hj:(a-es.length)*s+b<xs2.length:=by rw[hC2.len];exact AL (List.getElem?_eq_some_iff.1 h').1 (by rw[←hC2.each _ _ h'];exact(List.getElem?_eq_some_iff.1 pt).1)
      exact absurd (hC2.rep _ _ _ _ _ h' pt (List.getElem?_eq_getElem hj)).zK (by simp[PV.isRow])
  ·cases fL
 have PY:∀j,(aX (bB id (LM src m)) id j).isSome=true→j≠id:=fun j hj e=>by subst e;simp at hj
 have bN:∀j b',aX (bB id (LM src m)) id j=some b'→j≠id∧src≠some j∧∃b,m j=some b∧b'.rowAt=b.rowAt:=by intro j b' hj;obtain⟨h1,b1,h2,rfl⟩:=eK hj;obtain⟨h3,b2,h4,h5⟩:=PX h2;exact⟨h1,h3,b2,h4,by rw[rf,h5]⟩
 have Iw:∀{j b' b g},b'.rowAt=b.rowAt→bI.ec b' (φ j) g→bI.ec b (φ j) g:=fun h ho=>by unfold bI.ec at*;rw[←h];exact ho
 have hM0:au E.P G w0 μ φ (LM src m) w:=by
  cases src with
  |none=>exact hM
  |some id2=>exact hM.forget id2
 have Y3:cj E.P μ φ (LM src m) (kfS src f) ρ:=by
  cases src with
  |none=>exact hF
  |some id2=>exact hF.forget id2
 have qA:=hM0.forget id;have zt:=Y3.forget id;have D3:∀a b g,(bI.nest s e (es++new)).rowAt a b=true→(kM a b).g=some g→w0.heap.size≤g∧μ g=none∧g<w.heap.size∧∀j b',aX (bB id (LM src m)) id j=some b'→¬b'.ec (φ j) g:=by
  intro a b g zq hg;rcases iw a b g zq hg with⟨_,h2,h3⟩|⟨_,id2,rfl,cR,cN,h2,h3⟩
  ·obtain⟨o1,o2⟩:=hM.own id _ g hm (.inr ⟨a,b,h2,h3⟩);refine⟨o1,o2 rfl,(hM.dG id _ hm).AD (.inr ⟨a,b,h2,h3⟩),fun j b' hj ho=>?_⟩;obtain⟨k1,_,b2,k3,k4⟩:=bN j b' hj;exact k1 (hM.inj j id _ _ g k3 hm (Iw k4 ho) (.inr ⟨a,b,h2,h3⟩))
  ·obtain⟨o1,o2⟩:=hM.own id2 _ g cN (.inr ⟨_,b,h2,h3⟩);refine⟨o1,o2 rfl,(hM.dG id2 _ cN).AD (.inr ⟨_,b,h2,h3⟩),fun j b' hj ho=>?_⟩;obtain⟨_,k1,b2,k3,k4⟩:=bN j b' hj;exact k1 (by rw[hM.inj j id2 _ _ g k3 cN (Iw k4 ho) (.inr ⟨_,b,h2,h3⟩)])
 have Ns:∀a b a' b' g,(bI.nest s e (es++new)).rowAt a b=true→(kM a b).g=some g→(bI.nest s e (es++new)).rowAt a' b'=true→(kM a' b').g=some g→a'=a∧b'=b:=by
  intro a b a' b' g h1 h2 h3 h4;rcases iw a b g h1 h2 with⟨u1,u2,u3⟩|⟨u1,i2,u0,une,um,u2,u3⟩<;>rcases iw a' b' g h3 h4 with⟨v1,v2,v3⟩|⟨v1,i3,v0,vne,vm,v2,v3⟩
  ·exact(hM.apart id _ hm a b g u2 u3).2 a' b' v2 v3
  ·exact absurd (hM.inj i3 id _ _ g vm hm (.inr ⟨_,_,v2,v3⟩) (.inr ⟨_,_,u2,u3⟩)) vne
  ·exact absurd (hM.inj i2 id _ _ g um hm (.inr ⟨_,_,u2,u3⟩) (.inr ⟨_,_,v2,v3⟩)) une
  ·rw[u0]at v0;simp only[Option.some.injEq]at v0;subst v0;obtain⟨h5,h6⟩:=(hM.apart i2 _ um (a-es.length) b g u2 u3).2 (a'-es.length) b' v2 v3;exact⟨by omega,h6⟩
 have fin:∀(q:aC)(w1:World),q.row=kM→jm w0.heap.size w w1→(∀k o,μ k=some o→w1.heap[k]?=some o)→(∀j b' g,aX (bB id (LM src m)) id j=some b'→b'.ec (φ j) g→w1.heap[g]?=w.heap[g]?)→(∀g,q.g=some g→w0.heap.size≤g∧μ g=none∧(∀j b',aX (bB id (LM src m)) id j=some b'→¬b'.ec (φ j) g)∧∀a b,(bI.nest s e (es++new)).rowAt a b=true→(kM a b).g≠some g)→(aS E.P μ (fun k=>if k=id then q else φ k) w1 id s e (es++new))→au E.P G w0 μ (fun k=>if k=id then q else φ k) (al (aX (bB id (LM src m)) id) id (.nest s e (es++new))) w1∧cj E.P μ (fun k=>if k=id then q else φ k) (al (aX (bB id (LM src m)) id) id (.nest s e (es++new))) (eO id (kfS src f)) ρ:=by
  intro q w1 hq H9 l0 hold q6 iP;refine⟨qA.put (by simp) H9 l0 hold (fun g hg=>?_) (fun a b g zq hg=>?_) iP (by simp[bI.names]) (fun st h=>by cases h),zt.mono (fun _ _ h=>h) fun j hj=>⟨by simp[PY j hj],by rw[an (PY j hj)];exact hj⟩⟩
  ·rcases hg with hg|⟨a,b,zq,hg⟩
   ·obtain⟨o1,o2,o3,_⟩:=q6 g hg;exact⟨o1,o2,o3⟩
   ·rw[hq]at hg;obtain⟨o1,o2,_,o3⟩:=D3 a b g zq hg;exact⟨o1,o2,o3⟩
  ·rw[hq]at hg;refine⟨fun h=>(q6 g h).2.2.2 a b zq hg,fun a' b' adn bU=>?_⟩;rw[hq]at bU;exact Ns a b a' b' g zq hg adn bU
 rcases PG with⟨rfl,rfl,h1,h2⟩|⟨g',zr,c',rfl,b1,b2,b3,b4,b5,b6⟩
 ·have h1:es=[]:=List.eq_nil_of_length_eq_zero h1;have h2:new=[]:=List.eq_nil_of_length_eq_zero h2;obtain⟨k1,k2⟩:=fin {g:=none,cap:=0,len:=0,sz:=s,row:=kM} w' rfl (jm.refl _ _) hM.ro (fun _ _ _ _ _=>rfl) (fun g hg=>by cases hg) ⟨by simp[h1,h2],by simp,hs,iS,by simp[h1,h2],by simp[maxLen],by simp[h1,h2]⟩;exact⟨w',_,_,hr,k1,k2,.oX (by simp)⟩
 ·have hq:∀(w1:World),w1.heap[g']?=some (.cells c' e (0,0))→jc E.P μ kM w1 s (es++new) (os++xs)→aS E.P μ (fun k=>if k=id then({g:=some g',cap:=zr,len:=(es++new).length,sz:=s,row:=kM}:aC)else φ k) w1 id s e (es++new):=fun w1 hh hC1=>jc.nest (g:=g') (c:=c') (by simp) hs iS (by simpa using b4) hh (by simpa using b2) (by simpa[FP]using b3) (by rw[FP,b5];simpa using hC1);have Uu:af E.P μ (fun k=>if k=id then({g:=some g',cap:=zr,len:=(es++new).length,sz:=s,row:=kM}:aC)else φ k) (.os id) (.slice (some ⟨g',0,none⟩) (es.length+new.length) zr):=by have:=af.os (P:=E.P) (μ:=μ) (φ:=fun k=>if k=id then({g:=some g',cap:=zr,len:=(es++new).length,sz:=s,row:=kM}:aC)else φ k) (id:=id) (g:=g') (by simp);simp only[if_true]at this;rw[←FP];exact this
  rcases b6 with⟨SU,XK,b6,b7⟩|⟨rfl,rfl⟩
  ·have bU:(φ id).g=some g':=by
    have key:∀z,af E.P μ φ (.os id) z→z=.slice (some ⟨g',0,none⟩) es.length SU→(φ id).g=some g':=by
     intro z hz he;cases hz with
     |oX _=>cases he
     |os hg=>simp only[Value.slice.injEq,Option.some.injEq,Addr.mk.injEq]at he;rw[←he.1.1];exact hg
    exact key _ ha XK
   obtain⟨o1,o2⟩:=hM.own id _ g' hm (.inl bU);have FL:∀a b,(bI.nest s e (es++new)).rowAt a b=true→(kM a b).g≠some g':=by
    intro a b zq hg;rcases iw a b g' zq hg with⟨u1,u2,u3⟩|⟨u1,i2,u0,une,um,u2,u3⟩
    ·exact(hM.apart id _ hm a b g' u2 u3).1 bU
    ·exact une (hM.inj i2 id _ _ g' um hm (.inr ⟨_,_,u2,u3⟩) (.inl bU))
   have zw:∀j b',aX (bB id (LM src m)) id j=some b'→¬b'.ec (φ j) g':=fun j b' hj ho=>by obtain⟨k1,_,b2,k3,k4⟩:=bN j b' hj;exact k1 (hM.inj j id _ _ g' k3 hm (Iw k4 ho) (.inl bU))
   obtain⟨k1,k2⟩:=fin {g:=some g',cap:=zr,len:=(es++new).length,sz:=s,row:=kM} w' rfl (b6.mono o1) (fun k o hk=>by rw[b7 k (fun e=>by subst e;rw[o2 rfl]at hk;cases hk)];exact hM.ro k o hk) (fun j b' g hj ho=>b7 g fun e=>by subst e;exact zw j b' hj ho) (fun g hg=>by
     simp only[Option.some.injEq]at hg;subst hg;exact⟨o1,o2 rfl,zw,FL⟩)
    (hq w' b1 (YJ.cG fun a e1 b p1 g he hp zq hg=>b7 g fun e=>by subst e;exact FL a b (by rw[dy he hp];exact zq) hg))
   exact⟨w',_,_,hr,k1,k2,Uu⟩
  ·have hold:∀k,k<w.heap.size→(w.drew.alloc (.cells c' e)).heap[k]?=w.heap[k]?:=fun k hk=>jm.heap_alloc w.drew _ k hk;obtain⟨k1,k2⟩:=fin {g:=some w.heap.size,cap:=zr,len:=(es++new).length,sz:=s,row:=kM} (w.drew.alloc (.cells c' e)) rfl ((jm.refl _ w).drew.alloc hM.below.size _) (fun k o hk=>by
     have:=hM.ro k o hk;rw[hold k (Array.getElem?_eq_some_iff.1 this).1];exact this)
    (fun j b' g hj ho=>hold g ((qA.dG j b' hj).AD ho)) (fun g hg=>by
     simp only[Option.some.injEq]at hg;subst hg;refine⟨hM.below.size,?_,fun j b' hj ho=>?_,fun a b zq hg=>?_⟩
     ·cases hq:μ w.heap.size with
      |none=>rfl
      |some o'=>have:=hM.ro _ _ hq;simp at this
     ·have:=(qA.dG j b' hj).AD ho;omega
     ·have:=(D3 a b _ zq hg).2.2.1;omega)
    (hq _ b1 (YJ.cG fun a e1 b p1 g he hp zq hg=>hold g (D3 a b g (by rw[dy he hp];exact zq) hg).2.2.1))
   exact⟨_,_,_,hr,k1,k2,Uu⟩
theorem A2{m:Mem}:∀{cs:List V}{j0:Nat}{ps:List PV},jl m j0 cs=some (ps,none)→∀m2:Mem,jl m2 j0 cs=some (ps,none)
 |[],j0,ps,h,m2=>h
 |v::r,j0,ps,h,m2=>by
  unfold jl at h;split at h
  ·rename_i heq;cases heq
  ·rename_i j id r' heq;split at h
   ·split at h
    ·simp at h
    ·cases h
   ·cases h
  ·rename_i j v' r' cR heq;simp only[List.cons.injEq]at heq;obtain⟨rfl,rfl⟩:=heq;unfold jl;split
   ·rename_i heq;cases heq
   ·rename_i j id r' heq;simp only[List.cons.injEq]at heq;exact absurd heq.1 (cR id)
   ·rename_i j v' r' cR heq;simp only[List.cons.injEq]at heq;obtain⟨rfl,rfl⟩:=heq;split at h
    ·rename_i p hp;split at h
     ·rename_i Ys t ht;simp only[Option.some.injEq,Prod.mk.injEq]at h;obtain⟨rfl,rfl⟩:=h;rw[A2 ht m2]
     ·cases h
    ·cases h
theorem sU{m m2:Mem}{j id2:Nat}(hm:m2 id2=m id2):∀{cs:List V}{j0:Nat}{ps:List PV},jl m j0 cs=some (ps,some (j,id2))→jl m2 j0 cs=some (ps,some (j,id2))
 |[],j0,ps,h=>by simp[jl]at h
 |v::r,j0,ps,h=>by
  unfold jl at h;split at h
  ·rename_i heq;cases heq
  ·rename_i j id r' heq;simp only[List.cons.injEq]at heq;obtain⟨rfl,rfl⟩:=heq;split at h
   ·rename_i s et es LN;split at h
    ·rename_i Ys ht;simp only[Option.some.injEq,Prod.mk.injEq]at h;obtain⟨rfl,rfl,rfl⟩:=h;simp only[jl,hm,LN,A2 ht m2]
    ·cases h
   ·cases h
  ·rename_i j v' r' cR heq;simp only[List.cons.injEq]at heq;obtain⟨rfl,rfl⟩:=heq;unfold jl;split
   ·rename_i heq;cases heq
   ·rename_i j id r' heq;simp only[List.cons.injEq]at heq;exact absurd heq.1 (cR id)
   ·rename_i j v' r' cR heq;simp only[List.cons.injEq]at heq;obtain⟨rfl,rfl⟩:=heq;split at h
    ·rename_i p hp;split at h
     ·rename_i Ys t ht;simp only[Option.some.injEq,Prod.mk.injEq]at h;obtain⟨rfl,rfl⟩:=h;rw[sU hm ht]
     ·cases h
    ·cases h
theorem Ix{site:Nat}{o:Oper}{f f2:Fr}{m m2:Mem}{sp:Sp}(h:vf E site o f m=some sp)(hf:∀x∈o.op.operands,bA E f2 x=bA E f x)(hm:∀x∈(sp.info site).2,m2 x.2=m x.2):vf E site o f2 m2=some sp:=by
 obtain⟨dst,op,type,pos,after,guard⟩:=o;unfold vf at h⊢;cases op;case store t a x=>
  simp only at h⊢;rw[hf a (by simp[Op.operands]),hf x (by simp[Op.operands])];split at h
  ·rename_i id i off ha;split at h
   ·rename_i s et es LN;split at h
    ·rename_i cs hc;split at h
     ·rename_i ps j id2 ht;split at h
      ·rename_i iD;simp only[Option.some.injEq]at h;subst h;have h1:m2 id=m id:=hm (true,id) (by simp[Sp.info]);have h2:m2 id2=m id2:=hm (true,id2) (by simp[Sp.info]);simp only[ha,h1,LN,hc,sU h2 ht,iD,if_true]
      ·cases h
     ·cases h
    ·cases h
   ·cases h
  ·cases h
 case buildSlice t len parts=>
  simp only at h⊢;have Np:(parts.toList.map fun(x:Nat×Operand)=>(x.1,bA E f2 x.2))=parts.toList.map fun(x:Nat×Operand)=>(x.1,bA E f x.2):=List.map_congr_left fun x hx=>by rw[hf x.2 (by simp only[Op.operands,List.mem_toArray,List.mem_map];exact⟨x,hx,rfl⟩)]
  rw[Np];split at h
  ·rename_i e v hu hp;split at h
   ·rename_i cs hc;split at h
    ·rename_i ps j id2 ht hs;split at h
     ·rename_i p Cj;split at h
      ·rename_i iD;simp only[Option.some.injEq]at h;subst h;have h1:m2 site=m site:=hm (true,site) (by simp[Sp.info]);have h2:m2 id2=m id2:=hm (true,id2) (by simp[Sp.info]);simp only[hu,hp,hc,sU h2 ht,h1,hs,Cj,iD,if_true]
      ·cases h
     ·cases h
    ·cases h
   ·cases h
  ·cases h
 case call c=>
  obtain⟨callee,args,argTypes⟩:=c;simp only at h⊢;have jq:args.toList.map (bA E f2)=args.toList.map (bA E f):=List.map_congr_left fun x hx=>hf x (by simp only[Op.operands,Call.operands];cases callee<;>simp[Array.mem_toList_iff.1 hx]);rw[jq];split at h
  ·rename_i id x t t' ha VV;split at h
   ·rename_i e s et es hu LN;split at h
    ·rename_i iD;have plain:∀{new:List PV}{rd:bl},eF m s x=some (new,rd)→x.has id=false→sp=.app id s et es new none rd→eF m2 s x=some (new,rd):=by intro new rd xz VW iS;subst iS;obtain⟨e1,_,_⟩:=lO xz;exact e1 m2 fun y hy=>hm y (by simp[Sp.info,hy])
     split at h
     ·rename_i nb;split at h
      ·rename_i s' Ag new St;split at h
       ·rename_i Cg;simp only[Option.some.injEq]at h;subst h;have h1:m2 id=m id:=hm (true,id) (by simp[Sp.info]);have h2:m2 nb=m nb:=hm (true,nb) (by simp[Sp.info]);simp only[ha,VV,hu,h1,LN,iD,if_true,h2,St,Cg]
       ·cases h
      ·rename_i hnn;split at h
       ·rename_i new rd xz;split at h
        ·cases h
        ·rename_i VW;simp only[Option.some.injEq]at h;have PZ:=plain xz (by simpa using VW) h.symm;subst h;have h1:m2 id=m id:=hm (true,id) (by simp[Sp.info]);simp only[ha,VV,hu,h1,LN,iD,if_true,PZ];split
         ·rename_i s' Ag afG cN;exfalso;simp only[eF,cN]at PZ;cases PZ
         ·rw[if_neg VW]
       ·cases h
     ·rename_i afH;split at h
      ·rename_i new rd xz;split at h
       ·cases h
       ·rename_i VW;simp only[Option.some.injEq]at h;have PZ:=plain xz (by simpa using VW) h.symm;subst h;have h1:m2 id=m id:=hm (true,id) (by simp[Sp.info]);simp only[ha,VV,hu,h1,LN,iD,if_true,PZ];try rw[if_neg VW]
      ·cases h
    ·cases h
   ·cases h
  ·cases h
 case mapUpdate t x key v=>
  simp only at h⊢;rw[hf x (by simp[Op.operands]),hf key (by simp[Op.operands]),hf v (by simp[Op.operands])];split at h
  ·rename_i kt et id id2 hu hx hv;split at h
   ·rename_i sr e es s e' rs kp h1 h2 hk;split at h
    ·rename_i iD;simp only[Option.some.injEq]at h;subst h;have h3:m2 id=m id:=hm (true,id) (by simp[Sp.info]);have h4:m2 id2=m id2:=hm (true,id2) (by simp[Sp.info]);simp only[hu,hx,hv,h3,h4,h1,h2,hk,iD,if_true]
    ·cases h
   ·cases h
  ·cases h
 all_goals (cases h)
end
end Go.Ab
