import Derived.Test.YtcmhmlnkhmefbaaGreatAbP4
import Derived.RangeFuncRecord
import Derived.Laws.IdiomRangeMap
set_option linter.unusedVariables false
namespace Go.Ab
section
variable {P:Program} {G:Nat→Option (List PV)} {w0:bx} {μ:Ro} {φ:Nat→aF} {m:Mem} {w:World}
theorem ax.aaa(hM:ax P G w0 μ φ m w){g:Nat}(hB:w0.heap.size≤g)(aab:∀id b,m id=some b→¬b.owns (φ id) g):ax P G w0 (nr μ w (some g)) φ m w:=by
 have mono:=jV hM (some g);refine⟨hM.below,fun b o hb=>?_,fun g' cs hg=>(hM.aH g' cs hg).mono mono,fun j c hj=>(hM.dI j c hj).cH (fun _ _=>rfl) rfl mono (fun _ _=>rfl),fun j c g' hj bV=>?_,hM.inj,hM.apart,hM.fi,fun b o hb br=>?_,fun b o hb=>mono b o (hM.dC b o hb),hM.y8⟩
 ·unfold nr at hb;split at hb
  ·exact hb
  ·exact hM.ro b o hb
 ·obtain⟨h1,h2⟩:=hM.own j c g' hj bV;refine⟨h1,fun Bb=>?_⟩;unfold nr;split
  ·rename_i he;simp only[Option.some.injEq]at he;subst he;exact absurd bV (aab j c hj)
  ·exact h2 Bb
 ·unfold nr at hb;split at hb
  ·rename_i he;simp only[Option.some.injEq]at he;omega
  ·exact hM.base b o hb br
theorem Ja(w:World)(g:Nat)(o:Obj):jw g w (w.putObj g o):=⟨⟨rfl,rfl,rfl,by simp,fun k hk=>World.putObj_heap_other (by omega)⟩,fun _=>Nat.le_refl _⟩
theorem wS{A:Type}(f:A→Nat):∀{l:List A}{i:Nat}{e:A},l[i]?=some e→(∀(j:Nat)x,l[j]?=some x→f x=f e→j=i)→l.filter (fun x=> !(f x==f e))=l.eraseIdx i
 |[],i,e,h,_=>by simp at h
 |y::l,0,e,h,inj=>by simp only[List.getElem?_cons_zero,Option.some.injEq]at h;subst h;simp only[List.filter_cons,BEq.rfl,Bool.not_true,Bool.false_eq_true,if_false,List.eraseIdx_cons_zero];rw[List.filter_eq_self];intro x hx;obtain⟨j,hj⟩:=List.mem_iff_getElem?.1 hx;simp only[Bool.not_eq_true',beq_eq_false_iff_ne];intro e;have:=inj (j+1) x (by simpa using hj) e;omega
 |y::l,i+1,e,h,inj=>by
  have h':l[i]?=some e:=by simpa using h
  have cS:¬f y=f e:=fun e'=>by have:=inj 0 y rfl e';omega
  have hb:(f y==f e)=false:=by simpa using cS
  simp only[List.filter_cons,hb,Bool.not_false,if_true,List.eraseIdx_cons_succ];rw[wS f h' (fun j x hj e'=>by have:=inj (j+1) x (by simpa using hj) e';omega)]
theorem Dx(en:Array MapEntry):jx en #[]=en.toList:=by unfold jx;rw[List.filter_eq_self];intro x _;simp
variable{en:Array MapEntry}{clock:Nat}{seen:Array Nat}{e:MapEntry}
theorem Bp(hb:jU en clock){i:Nat}(hi:(jx en seen)[i]?=some e):jx en (seen.push e.born)=(jx en seen).eraseIdx i:=by
 have h1:jx en (seen.push e.born)=(jx en seen).filter (fun x=> !(x.born==e.born)):=by unfold jx;rw[List.filter_filter];congr 1;funext x;simp only[Array.contains_push,Bool.not_or];rw[Bool.and_comm]
 rw[h1];refine wS (fun x=>x.born) hi fun j x hj e'=>?_;have Tz:(jx en seen).Pairwise fun a b=>a.born≠b.born:=by
  unfold jx;refine List.Pairwise.filter _ ?_;rw[List.pairwise_iff_getElem];intro a b ha fQ qM he;have h2:en[a]?=some en.toList[a]:=by rw[←Array.getElem?_toList];exact List.getElem?_eq_getElem ha
  have h3:en[b]?=some en.toList[b]:=by rw[←Array.getElem?_toList];exact List.getElem?_eq_getElem fQ
  have:=(hb b _ h3).2 a _ h2 he;omega
 have xJ:j<(jx en seen).length:=(List.getElem?_eq_some_iff.1 hj).1;have P1:i<(jx en seen).length:=(List.getElem?_eq_some_iff.1 hi).1;rw[List.getElem?_eq_getElem xJ]at hj;rw[List.getElem?_eq_getElem P1]at hi;simp only[Option.some.injEq]at hj hi;rw[List.pairwise_iff_getElem]at Tz;rcases Nat.lt_trichotomy j i with h|h|h
 ·exact absurd (by rw[hj,hi];exact e') (Tz j i xJ P1 h)
 ·exact h
 ·exact absurd (by rw[hj,hi];exact e'.symm) (Tz i j P1 xJ h)
theorem Oh(h:e∈jx en seen):∃i:Nat,en[i]?=some e:=by unfold jx at h;have:=(List.mem_filter.1 h).1;obtain⟨i,hi⟩:=List.mem_iff_getElem?.1 this;exact⟨i,by rw[←Array.getElem?_toList];exact hi⟩
theorem Oi{w:World}{g mg:Nat}(hg:w.heap[g]?=some (.mapIter (some mg) clock seen clock))(hm:w.heap[mg]?=some (.map en clock))(hb:jU en clock)(ty:TypeId):(jx en seen=[]∧(Instr.next (.pointer (some ⟨g,0,none⟩)) false ty).run P w=.ok (.tuple #[.bool false]) w)∨∃(j:Nat)(e:MapEntry)(w1:World),(jx en seen)[j]?=some e∧(w1=w∨w1=w.drew)∧(Instr.next (.pointer (some ⟨g,0,none⟩)) false ty).run P w=.ok (.tuple #[.bool true,e.key,e.val]) (w1.putObj g (.mapIter (some mg) clock (seen.push e.born) clock)):=by
 have hold:∀x∈en.toList,x.born<clock:=fun x hx=>by obtain⟨i,hi⟩:=List.mem_iff_getElem?.1 hx;exact(hb i x (by rw[←Array.getElem?_toList];exact hi)).1
 simp only[Instr.next,getObj,Sem.run_bind,Sem.run,hg,hm,Result.andThen,next_test_false seen en clock clock hold (Nat.le_refl _),Bool.false_eq_true,if_false];have hL:(Array.filter (fun e=> !seen.contains e.born) en).toList=jx en seen:=by simp[jx]
 have bO:∀x∈(Array.filter (fun e=> !seen.contains e.born) en).toList,x.born<clock:=fun x hx=>hold x (by simp at hx⊢;exact hx.1);generalize Array.filter (fun e=> !seen.contains e.born) en=L at bO hL⊢;have e1:L.filter (fun x=>decide (x.born<clock))=L:=Array.filter_eq_self.2 (fun x hx=>by simpa using bO x (by simpa using hx));have e2:L.filter (fun x=>decide (x.born≥clock))= #[]:=by rw[Array.filter_eq_empty_iff];intro x hx;have:=bO x (by simpa using hx);simp;omega
 simp only[e1,e2,Array.append_empty];rw[←hL];by_cases h0:L.size=0
 ·left;have:L= #[]:=Array.eq_empty_of_size_eq_zero h0;subst this;refine⟨rfl,?_⟩;simp[choose,Sem.run,Question.forced]
 ·right;have cS:L.isEmpty=false:=by simp[Array.isEmpty,h0]
  simp only[cS,Bool.false_eq_true,if_false,Array.empty_append,Array.size_map];have hch:∃(j:Nat)(w1:World),j<L.size∧(w1=w∨w1=w.drew)∧(choose (Question.mapNext L.size)).run P w=.ok j w1:=by
   by_cases hf:L.size≤1
   ·exact⟨0,w,by omega,.inl rfl,by simp[choose,Sem.run,Question.forced,hf]⟩
   ·exact⟨_,w.drew,Nat.mod_lt _ (by omega),.inr rfl,by simp only[choose,Sem.run,Question.forced,decide_eq_true_eq,hf,if_false,Question.cut];rfl⟩
  obtain⟨j,w1,hj,Oa,lY⟩:=hch;refine⟨j,L[j],w1,by rw[Array.getElem?_toList,Array.getElem?_eq_getElem hj],Oa,?_⟩;have hg1:w1.heap[g]?=some (.mapIter (some mg) clock seen clock):=by rcases Oa with rfl|rfl<;>exact hg
  have qX:(setObj g (.mapIter (some mg) clock (seen.push L[j].born) clock)).run P w1=.ok () (w1.putObj g (.mapIter (some mg) clock (seen.push L[j].born) clock)):=by simp only[setObj,Sem.run,hg1];rfl
  simp only[lY,Array.getElem?_map,Array.getElem?_eq_getElem hj,Option.map_some,Sem.run_bind,qX,Result.andThen];rfl
theorem Jb{w:World}{g mg:Nat}{i:Nat}(hg:w.heap[g]?=some (.mapIter (some mg) clock seen clock))(hm:w.heap[mg]?=some (.map en clock))(hb:jU en clock)(hi:en[i]?=some e)(hs:seen.back? =some e.born):(Instr.entry (.pointer (some ⟨g,0,none⟩))).run P w=.ok (.tuple #[e.key,e.val]) w:=by
 have hf:en.find? (·.born==e.born)=some e:=by
  rw[←Array.find?_toList];refine find_born e en.toList ?_ (by rw[Array.mem_toList_iff];exact Array.mem_of_getElem? hi);rw[List.Nodup,List.pairwise_map,List.pairwise_iff_getElem];intro a b ha fQ qM he;have h2:en[a]?=some en.toList[a]:=by rw[←Array.getElem?_toList];exact List.getElem?_eq_getElem ha
  have h3:en[b]?=some en.toList[b]:=by rw[←Array.getElem?_toList];exact List.getElem?_eq_getElem fQ
  have:=(hb b _ h3).2 a _ h2 he;omega
 simp only[Instr.entry,getObj,Sem.run_bind,Sem.run,hg,hm,Result.andThen,hs,bne_self_eq_false,Bool.false_eq_true,if_false,hf];rfl
end
section
variable {R:Type} {E:Env}
variable{g:Nat→Option R}{r:R}
theorem Jc{n:Nat}(h:pO n g=some r)(i:Nat)(hi:i<n):g i=some r:=by
 unfold pO at h;split at h
 ·rename_i hh;simp only[Option.some.injEq]at h;subst h;exact Classical.choose_spec hh i hi
 ·cases h
theorem Bq{n:Nat}(h0:0<n)(h:∀i,i<n→g i=some r):pO n g=some r:=by unfold pO;have hh:∃r,∀i,i<n→g i=some r:=⟨r,h⟩;rw[dif_pos hh];have:=Classical.choose_spec hh 0 h0;rw[h 0 h0]at this;exact this.symm
variable{k:V→Fr→Mem→Option R}
theorem Oj{site:Nat}{t:TypeId}{x:V}{f:Fr}{m:Mem}(h:IQ E site t x f m k=some r):∃f' m',k (.it site) f' m'=some r∧(m' site).isSome=true∧∀(G:Nat→Option (List PV))(w0:bx)(μ:Ro)(φ:Nat→aF)(w:World)(ρ:Nat→Value)(y:Value),ax E.P G w0 μ φ m w→ck E.P μ φ m f ρ→ai E.P μ φ x y→∃w' y' μ' φ',(Instr.range t y).run E.P w=.ok y' w'∧ax E.P G w0 μ' φ' m' w'∧ck E.P μ' φ' m' f' ρ∧ai E.P μ' φ' (.it site) y':=by
 unfold IQ at h;split at h
 ·rename_i kt et hu;split at h
  ·rename_i id;split at h
   ·rename_i sQ es hm;split at h
    ·obtain⟨f',m',hn,jn,uM,vP,te⟩:=cJ h;refine⟨f',m',jn,by simp[uM],fun G w0 μ φ w ρ y hM hF hx=>?_⟩;obtain⟨g,en,clock,kk,hg,hh,hs,yf,Ba,sE,hv⟩:=hM.dI id _ hm;obtain⟨o1,o2⟩:=hM.own id _ g hm (.inl hg);cases hx with
     |om bV=>
      rw[hg]at bV;simp only[Option.some.injEq]at bV;subst bV;have qW:=hM.forget id;have Y8:=qW.aaa o1 (fun j b hj e=>by obtain⟨cS,b',fQ,rfl⟩:=eM hj;exact cS (hM.inj j id b' _ g fQ hm (fD.1 e) (.inl hg)));have Dy:=jV qW (some g);have Aa:ck E.P (nr μ w (some g)) φ (bf (bC id m) id) (eP id f) ρ:=(hF.forget id).mono Dy fun j hj=>⟨rfl,hj⟩;have iY:∀φ':Nat→aF,φ' site=(CE (some w.heap.size) 0 0 0)→(∀j,(bJ.iter t es none).names j=true→φ' j=φ j)→fR E.P (nr μ w (some g)) φ' (w.alloc (.mapIter (some g) clock #[] clock)) site (.iter t es none):=fun φ' hp _=>by
       refine⟨w.heap.size,g,en,clock,#[],by rw[hp],fE w _,by simp[nr,hh],sE,(by rw[Dx,Array.length_toList,hs]),fun i k v e h1 h2=>?_,fun k v h=>by cases h⟩;have Oe:en[i]?=some e:=by rw[←Array.getElem?_toList,←Dx en];exact h2
       exact⟨(hv i k v e h1 Oe).1.mono Dy,(hv i k v e h1 Oe).2.mono Dy⟩
      obtain⟨φ',a1,a2,a3⟩:=te E.P G w0 _ φ w (w.alloc (.mapIter (some g) clock #[] clock)) ρ (CE (some w.heap.size) 0 0 0) Y8 Aa (jy.alloc (o:=.mapIter (some g) clock #[] clock) Y8 rfl iY (by simp[bJ.names]));exact⟨_,_,_,φ',run_range_map w t kt et g en clock hu hh,a2,a3,.it (by rw[a1])⟩
    ·cases h
   ·cases h
  ·cases h
 ·cases h
theorem wT{A:Type}{l:List A}{i j:Nat}{x:A}(h:(l.eraseIdx i)[j]?=some x):l[if j<i then j else j+1]?=some x:=by
 rw[List.getElem?_eraseIdx]at h;split at h
 ·rename_i br;rw[if_pos br];exact h
 ·rename_i br;rw[if_neg br];exact h
theorem QM{x:V}{f:Fr}{m:Mem}(h:Qk E x f m k=some r)(G:Nat→Option (List PV))(w0:bx)(μ:Ro)(φ:Nat→aF)(w:World)(y:Value)(ty:TypeId)(hM:ax E.P G w0 μ φ m w)(hx:ai E.P μ φ x y):∃v m' y' w',k v f m'=some r∧(∀id,v.has id=false)∧iO m m'∧(Instr.next y false ty).run E.P w=.ok y' w'∧ax E.P G w0 μ φ m' w'∧ai E.P μ φ v y':=by
 unfold Qk at h;split at h
 ·rename_i id;split at h
  ·rename_i t es cur hm;split at h
   ·rename_i kt et hu;obtain⟨g,mg,en,clock,seen,hg,hh,Bb,sE,xZ,hv,_⟩:=hM.dI id _ hm;obtain⟨o1,o2⟩:=hM.own id _ g hm (.inl hg);cases hx with
    |it bV=>
     rw[hg]at bV;simp only[Option.some.injEq]at bV;subst bV;have hmg:=hM.ro _ _ Bb;rcases Oi (P:=E.P) hh hmg sE ty with⟨Um,lY⟩|⟨j,e,w1,hj,MH,lY⟩
     ·have:es=[]:=by rw[Um]at xZ;exact List.eq_nil_of_length_eq_zero xZ.symm
      subst this;simp only[List.isEmpty_nil,if_true]at h;refine⟨_,m,_,w,h,by simp[V.has,cq],iO.refl m,lY,hM,.bm rfl fun i p x hp hx=>?_⟩;cases i with
      |zero=>simp at hp hx;subst hp;subst hx;exact .pv .bool
      |succ i=>simp at hp
     ·have xJ:j<(jx en seen).length:=(List.getElem?_eq_some_iff.1 hj).1;have cS:¬es.isEmpty=true:=by
       have eo:0<es.length:=by omega
       intro e';rw[List.isEmpty_iff]at e';rw[e']at eo;exact absurd eo (Nat.lt_irrefl 0)
      rw[if_neg cS]at h;have h:=Jc h j (by omega);obtain⟨e0,F0,h⟩:=Option.bind_eq_some_iff.1 h;obtain⟨qa,_,ha,ra,_⟩:=jL h;obtain⟨qb,_,hb,rb,_⟩:=jL ha;obtain⟨rk,rv⟩:=hv j e0.1 e0.2 e F0 hj;refine⟨_,_,_,_,hb,by simp[V.has,cq],.set,lY,?_,.bm rfl fun i p x hp hx=>?_⟩
      ·have qW:ax E.P G w0 μ φ m w1:=by rcases MH with rfl|rfl;exact hM;exact hM.drew
       have br:g<w1.heap.size:=by have:g<w.heap.size:=(Array.getElem?_eq_some_iff.1 hh).1;rcases MH with rfl|rfl<;>exact this
       refine qW.write hm rfl hg (Ja w1 g _) World.putObj_size (fun k hk=>World.putObj_heap_other hk) ?_ rfl (by simp[bJ.names]);refine⟨g,mg,en,clock,seen.push e.born,hg,World.putObj_heap_same br,Bb,sE,?_,fun i k v e' h1 h2=>?_,fun k v hc=>?_⟩
       ·rw[Bp sE hj,List.length_eraseIdx,List.length_eraseIdx,xZ]
       ·rw[Bp sE hj]at h2;exact hv _ k v e' (wT h1) (wT h2)
       ·simp only[Option.some.injEq,Prod.mk.injEq]at hc;obtain⟨rfl,rfl⟩:=hc;obtain⟨i,hi⟩:=Oh (List.mem_of_getElem? hj);exact⟨i,e,hi,by simp,ra _ _ _ rk,rb _ _ _ rv⟩
      ·match i with
       |0=>simp at hp hx;subst hp;subst hx;exact .pv .bool
       |1=>simp at hp hx;subst hp;subst hx;exact .pv (ra _ _ _ rk)
       |2=>simp at hp hx;subst hp;subst hx;exact .pv (rb _ _ _ rv)
       |i+3=>simp at hp
   ·cases h
  ·cases h
 ·cases h
theorem Ol{x:V}{m:Mem}{k:V→Mem→Option R}(h:IU x m k=some r)(P:Program)(G:Nat→Option (List PV))(w0:bx)(μ:Ro)(φ:Nat→aF)(w:World)(y:Value)(hM:ax P G w0 μ φ m w)(hx:ai P μ φ x y):∃v m' y',k v m'=some r∧(∀id,v.has id=false)∧iO m m'∧(Instr.entry y).run P w=.ok y' w∧ax P G w0 μ φ m' w∧ai P μ φ v y':=by
 unfold IU at h;split at h
 ·rename_i id;split at h
  ·rename_i t es a b hm;obtain⟨g,mg,en,clock,seen,hg,hh,Bb,sE,xZ,hv,ZP⟩:=hM.dI id _ hm;obtain⟨i,e,hi,hs,ra,rb⟩:=ZP a b rfl;cases hx with
   |it bV=>
    rw[hg]at bV;simp only[Option.some.injEq]at bV;subst bV;refine⟨_,_,_,h,by simp[V.has,cq],.set,Jb hh (hM.ro _ _ Bb) sE hi hs,?_,.bm rfl fun i p x hp hx=>?_⟩
    ·exact hM.write hm rfl hg (jw.refl _ _) rfl (fun _ _=>rfl) ⟨g,mg,en,clock,seen,hg,hh,Bb,sE,xZ,hv,fun k v h=>by cases h⟩ rfl (by simp[bJ.names])
    match i with
    |0=>simp at hp hx;subst hp;subst hx;exact .pv ra
    |1=>simp at hp hx;subst hp;subst hx;exact .pv rb
    |i+2=>simp at hp
  ·cases h
 ·cases h
end
end Go.Ab
set_option linter.unusedVariables false
namespace Go.Ab
section
variable {P:Program} {G:Nat→Option (List PV)} {w0:bx} {μ μ':Ro} {φ φ':Nat→aF} {m m':Mem} {w w':World}
variable{id j:Nat}{b:bJ}
theorem gx(h:eS id m j=some b):∃b',m j=some b'∧b=dO id b':=by
 unfold eS at h;cases hm:m j with
 |none=>rw[hm]at h;cases h
 |some b'=>rw[hm]at h;simp only[Option.some.injEq]at h;exact⟨b',rfl,h.symm⟩
theorem ml:(eS id m j).isSome=(m j).isSome:=by unfold eS;cases m j<;>rfl
theorem zk(id:Nat)(b:bJ):(dO id b).rowAt=b.rowAt:=by cases b<;>rfl
theorem oD{p:aF}{g:Nat}:(dO id b).owns p g↔b.owns p g:=by unfold bJ.owns;rw[zk]
theorem tr{p:aF}:(dO id b).apart p↔b.apart p:=by unfold bJ.apart;rw[zk]
theorem vR(id:Nat)(b:bJ):(dO id b).ir=b.ir:=by cases b<;>rfl
theorem Jd{cs:List V}(h:cq j (cs.map (lW id))=true):cq j cs=true:=by obtain⟨v,hv,hh⟩:=cT.1 h;obtain⟨u,hu,rfl⟩:=List.mem_map.1 hv;exact bL hu (uF hh).1
theorem fR.vo{id j:Nat}{b:bJ}(h:fR P μ φ w j b):fR P μ φ w j (dO id b):=by
 cases b with
 |box cs=>obtain⟨g,c,T,hg,hh,hs,hv,h1,xZ⟩:=h;refine⟨g,c,T,hg,hh,by simpa using hs,fun i v x hi hx=>?_,h1,by simpa using xZ⟩;simp only[List.getElem?_map,Option.map_eq_some_iff]at hi;obtain⟨u,hu,rfl⟩:=hi;exact(hv i u x hu hx).vo id
 |_=>exact h
theorem ax.rZ(hM:ax P G w0 μ φ m w)(id:Nat):ax P G w0 μ φ (eS id m) w:=by
 refine⟨hM.below,hM.ro,hM.aH,fun j b h=>?_,fun j b g h hg=>?_,fun i j b1 b2 g h1 h2 g1 g2=>?_,fun j b h=>?_,fun j cs i h hh=>?_,hM.base,hM.dC,fun j st h=>?_⟩
 ·obtain⟨b',hb,rfl⟩:=gx h;exact(hM.dI j b' hb).vo
 ·obtain⟨b',hb,rfl⟩:=gx h;rw[vR];exact hM.own j b' g hb (oD.1 hg)
 ·obtain⟨ZR,Tx,rfl⟩:=gx h1;obtain⟨ZS,pB,rfl⟩:=gx h2;exact hM.inj i j ZR ZS g Tx pB (oD.1 g1) (oD.1 g2)
 ·obtain⟨b',hb,rfl⟩:=gx h;exact tr.2 (hM.apart j b' hb)
 ·obtain⟨b',hb,e⟩:=gx h;cases b' with
  |box Dk=>simp only[dO,bJ.box.injEq]at e;subst e;rw[ml];exact hM.fi j Dk i hb (Jd hh)
  |_=>simp[dO]at e
 ·obtain⟨b',hb,e⟩:=gx h;cases b' with
  |loop st'=>simp only[dO,bJ.loop.injEq]at e;subst e;exact hM.y8 j st hb
  |_=>simp[dO]at e
variable{ρ:Nat→Value}
theorem ck.rZ{f:Fr}(h:ck P μ φ m f ρ)(id:Nat):ck P μ φ (eS id m) (gi id f) ρ:=⟨fun t=>(h.fr t).vo id,fun t j hj=>by rw[ml];exact h.live t j (uF hj).1⟩
theorem ax.km:∀{kl:Kl}{m:Mem},ax P G w0 μ φ m w→ax P G w0 μ φ (Go.Ab.km kl m) w
 |[],_,h=>h
 |(true,id)::r,m,h=>(ax.km (kl:=r) (m:=bf (bC id m) id) (h.forget id):)
 |(false,id)::r,m,h=>(ax.km (kl:=r) (m:=eS id m) (h.rZ id):)
theorem ck.km{ρ:Nat→Value}:∀{kl:Kl}{m:Mem}{f:Fr},ck P μ φ m f ρ→ck P μ φ (Go.Ab.km kl m) (kf kl f) ρ
 |[],_,_,h=>h
 |(true,id)::r,m,f,h=>(ck.km (kl:=r) (m:=bf (bC id m) id) (f:=eP id f) (h.forget id):)
 |(false,id)::r,m,f,h=>(ck.km (kl:=r) (m:=eS id m) (f:=gi id f) (h.rZ id):)
theorem ax.MI(hM:ax P G w0 μ φ m w)(nw:Nat→Nat→Nat)(hblk:∀j b',m' j=some b'→fR P μ φ' w j b')(vO:∀j b' g,m' j=some b'→b'.owns (φ' j) g→∃k b,m k=some b∧b.owns (φ k) g∧(b'.ir=true→b.ir=true)∧j=nw g k)(Bf:∀j b',m' j=some b'→b'.apart (φ' j))(y7:∀j cs id,m' j=some (.box cs)→cq id cs=true→(m' id).isSome=true)(ad7:∀j st,m' j=some (.loop st)→m j=some (.loop st)∧(φ' j).g=(φ j).g):ax P G w0 μ φ' m' w:=by
 refine⟨hM.below,hM.ro,hM.aH,hblk,fun j b' g h hg=>?_,fun i j b1 b2 g h1 h2 g1 g2=>?_,Bf,y7,hM.base,hM.dC,fun j st h=>?_⟩
 ·obtain⟨k,b,hk,ho,Bb,_⟩:=vO j b' g h hg;obtain⟨o1,o2⟩:=hM.own k b g hk ho;exact⟨o1,fun h=>o2 (Bb h)⟩
 ·obtain⟨k1,c1,Om,Zb,_,e1⟩:=vO i b1 g h1 g1;obtain⟨k2,c2,Un,ho2,_,e2⟩:=vO j b2 g h2 g2;rw[e1,e2,hM.inj k1 k2 c1 c2 g Om Un Zb ho2]
 ·obtain⟨h1,h2⟩:=ad7 j st h;obtain⟨g,rc,r1,r2,r3⟩:=hM.y8 j st h1;exact⟨g,rc,by rw[h2];exact r1,r2,r3⟩
def jc(p:aF)(i off:Nat)(r:y9):aF:={p with row:=fun a b=>if a=i∧b=off then r else p.row a b}
theorem fL(p:aF)(i off:Nat)(r:y9):(jc p i off r).row i off=r:=by simp[jc]
theorem fS(p:aF){i off a b:Nat}(r:y9)(h:¬(a=i∧b=off)):(jc p i off r).row a b=p.row a b:=by simp[jc,h]
theorem fR.MJ(h:fR P μ φ w j (dO id b))(hj:j≠id)(h0:(φ' id).toy9=(φ id).toy9)(hφ:∀k,k≠id→φ' k=φ k):fR P μ φ' w j (dO id b):=by
 have e:=hφ j hj;cases b with
 |box cs=>
  obtain⟨g,c,T,hg,hh,hs,hv,h1,xZ⟩:=h;refine⟨g,c,T,by rw[e];exact hg,hh,hs,fun i v x hi hx=>?_,h1,by rw[e];exact xZ⟩;refine(hv i v x hi hx).VH (fun _ _ h=>h) fun k hk=>?_;by_cases Uo:k=id
  ·subst Uo;refine⟨h0,fun h2=>?_⟩;simp only[List.getElem?_map,Option.map_eq_some_iff]at hi;obtain⟨u,hu,rfl⟩:=hi;rw[(uF hk).2]at h2;cases h2
  ·rw[hφ k Uo];exact⟨rfl,fun _=>rfl⟩
 |arr sz et es=>exact fR.cH h (fun k hk=>by simp[bJ.names,dO]at hk) e (fun _ _ h=>h) (fun _ _=>rfl)
 |nM sz et es=>exact fR.cH h (fun k hk=>by simp[bJ.names,dO]at hk) e (fun _ _ h=>h) (fun _ _=>rfl)
 |map kt es=>exact fR.cH h (fun k hk=>by simp[bJ.names,dO]at hk) e (fun _ _ h=>h) (fun _ _=>rfl)
 |nest sz et es=>exact fR.cH h (fun k hk=>by simp[bJ.names,dO]at hk) e (fun _ _ h=>h) (fun _ _=>rfl)
 |eU kt e0 es=>exact fR.cH h (fun k hk=>by simp[bJ.names,dO]at hk) e (fun _ _ h=>h) (fun _ _=>rfl)
 |loop st=>exact fR.cH h (fun k hk=>by simp[bJ.names,dO]at hk) e (fun _ _ h=>h) (fun _ _=>rfl)
 |iter t es cur=>exact fR.cH h (fun k hk=>by simp[bJ.names,dO]at hk) e (fun _ _ h=>h) (fun _ _=>rfl)
theorem ck.VU{f:Fr}(h:ck P μ φ m (gi id f) ρ)(h0:(φ' id).toy9=(φ id).toy9)(hφ:∀k,k≠id→φ' k=φ k)(hl:∀j,(m j).isSome=true→(m' j).isSome=true):ck P μ φ' m' (gi id f) ρ:=by
 refine⟨fun t=>(h.fr t).VH (fun _ _ h=>h) fun k hk=>?_,fun t j hj=>hl j (h.live t j hj)⟩;by_cases Uo:k=id
 ·subst Uo;refine⟨h0,fun h2=>?_⟩;have:=(uF (show(lW k (f t)).has k=true from hk)).2;rw[show gi k f t=lW k (f t)from rfl,this]at h2;cases h2
 ·rw[hφ k Uo];exact⟨rfl,fun _=>rfl⟩
theorem e8{id2:Nat}{b':bJ}(h:an (eS id (bf (bC id2 m) id2)) id b j=some b'):(j=id∧b'=b)∨(j≠id∧j≠id2∧∃c,m j=some c∧b'=dO id (fI id2 c)):=by
 by_cases e:j=id
 ·subst e;rw[aM]at h;simp only[Option.some.injEq]at h;exact .inl ⟨rfl,h.symm⟩
 ·rw[ao e]at h;obtain⟨c1,h1,rfl⟩:=gx h;obtain⟨cS,c,hc,rfl⟩:=eM h1;exact .inr ⟨e,cS,c,hc,rfl⟩
theorem Je{x:Value}(h:ai P μ φ (.os id) x):ai P μ (fun _=>((φ id).toy9).up) (.os 0) x:=by
 cases h with
 |pA h=>exact .pA h
 |os h=>exact .os (id:=0) (φ:=fun _=>((φ id).toy9).up) h
theorem aL.up{sz:Nat}{et:TypeId}{es:List PV}(h:aL P μ φ w id sz et es):aL P μ (fun _=>((φ id).toy9).up) w 0 sz et es:=h
theorem ax.Xh(hM:ax P G w0 μ φ m w){id2 i off s s2:Nat}{et GD:TypeId}{es rs:List PV}{e q:PV}{x:Value}(cS:id2≠id)(hm:m id=some (.nest s et es))(cG:m id2=some (.arr s2 GD rs))(he:es[i]?=some e)(vv:e.cells[off]?=some .bad)(hx:∀g c,(φ id).g=some g→w.heap[g]?=some (.cells c et (0,0))→c[i*s+off]?=some x)(hv:ai P μ φ (.os id2) x)(hq:q.cells=e.cells.set off (.fP s2 rs)):ax P G w0 μ (fun j=>if j=id then jc (φ id) i off (φ id2).toy9 else φ j) (an (eS id (bf (bC id2 m) id2)) id (.nest s et (es.set i q))) w:=by
 have qW:=(hM.forget id2).rZ id;have hN:aV P μ φ w id s et es:=hM.dI id _ hm;have Xg:aL P μ φ w id2 s2 GD rs:=hM.dI id2 _ cG;have P1:i<es.length:=(List.getElem?_eq_some_iff.1 he).1;have Zc:off<e.cells.length:=(List.getElem?_eq_some_iff.1 vv).1;have iK:∀a b,(bJ.nest s et (es.set i q)).rowAt a b=true→(a=i∧b=off)∨((bJ.nest s et es).rowAt a b=true∧¬(a=i∧b=off)):=by
  intro a b hr;by_cases qM:a=i∧b=off
  ·exact .inl qM
  ·refine .inr ⟨?_,qM⟩;rcases iN hr with⟨_,_,_,e',s',ZW,fQ,h',pQ⟩|⟨_,_,_,_,_,_,fQ,_⟩
   ·simp only[bJ.nest.injEq]at fQ;obtain⟨rfl,rfl,rfl⟩:=fQ;rcases eh h' with⟨rfl,rfl⟩|⟨QE,h'⟩
    ·rw[hq]at pQ;rcases eh pQ with⟨rfl,_⟩|⟨hnj,pQ⟩
     ·exact absurd ⟨rfl,rfl⟩ qM
     ·rw[dy he pQ];rfl
    ·rw[dy h' pQ];rfl
   ·cases fQ
 refine hM.MI (fun _ k=>if k=id2 then id else k) (fun j b' hj=>?_) (fun j b' g hj ho=>?_) (fun j b' hj=>?_) (fun j cs k hj hk=>?_) (fun j st hj=>?_)
 ·rcases e8 hj with⟨rfl,rfl⟩|⟨h1,h2,c,hc,rfl⟩
  ·show aV P μ (fun k=>if k=j then jc (φ j) i off (φ id2).toy9 else φ k) w j s et (es.set i q);refine aV.change (μ':=μ) (w':=w) (es':=es.set i q) hN (by simp) (fun i' e' h'=>?_) (by simp[jc]) (fun _ _=>rfl) (fun i' e' j' p' g c x' h' pQ hg hc I3 hold=>?_)
   ·rcases eh h' with⟨_,rfl⟩|⟨_,h'⟩
    ·rw[hq,List.length_set];exact hN.2.2.2.2.1 i e he
    ·exact hN.2.2.2.2.1 i' e' h'
   ·simp only[if_true];by_cases qM:i'=i∧j'=off
    ·obtain⟨rfl,rfl⟩:=qM;rw[fL];have e1:e'=q:=by
      rcases eh h' with⟨_,h⟩|⟨h,_⟩
      ·exact h
      ·exact absurd rfl h
     subst e1;rw[hq]at pQ;have e2:p'=.fP s2 rs:=by
      rcases eh pQ with⟨_,h⟩|⟨h,_⟩
      ·exact h
      ·exact absurd rfl h
     subst e2;have e3:x'=x:=by have:=hx g c hg hc;rw[I3]at this;simpa using this
     subst e3;exact⟨⟨GD,Xg.up⟩,Je hv⟩
    ·rw[fS _ _ qM];rcases eh h' with⟨rfl,rfl⟩|⟨QE,h'⟩
     ·rw[hq]at pQ;rcases eh pQ with⟨rfl,_⟩|⟨hnj,pQ⟩
      ·exact absurd ⟨rfl,rfl⟩ qM
      ·exact hold e p' he pQ
     ·exact hold e' p' h' pQ
  ·have hb:fR P μ φ w j (dO id (fI id2 c)):=(hM.dI j c hc).kill.vo;exact hb.MJ h1 (by simp[jc]) fun k hk=>by simp[hk]
 ·rcases e8 hj with⟨rfl,rfl⟩|⟨h1,h2,c,hc,rfl⟩
  ·simp only[if_true]at ho;rcases ho with ho|⟨a,b,hr,ho⟩
   ·exact⟨j,_,hm,.inl ho,fun _=>rfl,by simp[cS.symm]⟩
   ·rcases iK a b hr with⟨rfl,rfl⟩|⟨qL,qM⟩
    ·rw[fL]at ho;exact⟨id2,_,cG,.inl ho,fun _=>rfl,by simp⟩
    ·rw[fS _ _ qM]at ho;exact⟨j,_,hm,.inr ⟨a,b,qL,ho⟩,fun _=>rfl,by simp[cS.symm]⟩
  ·simp only[h1,if_false]at ho;exact⟨j,c,hc,fD.1 (oD.1 ho),fun h=>by rw[vR,uK]at h;exact h,by simp[h2]⟩
 ·rcases e8 hj with⟨rfl,rfl⟩|⟨h1,h2,c,hc,rfl⟩
  ·simp only[if_true];have Bf:=hM.apart j _ hm;have new:∀g,(φ id2).g=some g→¬(bJ.nest s et es).owns (φ j) g:=fun g hg ho=>cS (hM.inj id2 j _ _ g cG hm (.inl hg) ho);intro a b g hr hg;rcases iK a b hr with⟨rfl,rfl⟩|⟨qL,qM⟩
   ·rw[fL]at hg;refine⟨fun h=>new g hg (.inl h),fun a' b' Jf Jg=>?_⟩;rcases iK a' b' Jf with h|⟨Up,Jh⟩
    ·exact h
    ·rw[fS _ _ Jh]at Jg;exact absurd (.inr ⟨a',b',Up,Jg⟩) (new g hg)
   ·rw[fS _ _ qM]at hg;obtain⟨h3,h4⟩:=Bf a b g qL hg;refine⟨h3,fun a' b' Jf Jg=>?_⟩;rcases iK a' b' Jf with⟨rfl,rfl⟩|⟨Up,Jh⟩
    ·rw[fL]at Jg;exact absurd (.inr ⟨a,b,qL,hg⟩) (new g Jg)
    ·rw[fS _ _ Jh]at Jg;exact h4 a' b' Up Jg
  ·simp only[h1,if_false];exact tr.2 (rX.2 (hM.apart j c hc))
 ·rcases e8 hj with⟨rfl,hb⟩|⟨h1,h2,c,hc,hb⟩
  ·cases hb
  ·have F1:eS id (bf (bC id2 m) id2) j=some (.box cs):=by rw[ao h1]at hj;exact hj
   have:=qW.fi j cs k F1 hk;by_cases e:k=id
   ·subst e;simp
   ·rw[ao e];exact this
 ·rcases e8 hj with⟨rfl,hb⟩|⟨h1,h2,c,hc,hb⟩
  ·cases hb
  ·cases c<;>first|(simp[dO,fI]at hb;done)|skip
   simp only[dO,fI,bJ.loop.injEq]at hb;subst hb;exact⟨hc,by simp[h1]⟩
end
end Go.Ab
set_option linter.unusedVariables false
namespace Go.Ab
def jX(k:PV):List (PV×PV)→Option Nat
 |[]=>none
 |(a,_)::r=>if cA k.cells a.cells then some 0 else(jX k r).map (·+1)
def iu(es:List (PV×PV)):List (PV×PV):=es.map fun x=>(x.1,.bad)
theorem Br(k:PV):∀es,jX k (iu es)=jX k es
 |[]=>rfl
 |(a,u)::r=>by simp only[iu,List.map_cons,jX];rw[←Br k r];rfl
theorem As{k:PV}:∀{es:List (PV×PV)}{j:Nat},jX k es=some j→∃a u,es[j]?=some (a,u)∧cA k.cells a.cells=true
 |(a,u)::r,j,h=>by
  simp only[jX]at h;split at h
  ·rename_i hp;simp only[Option.some.injEq]at h;subst h;exact⟨a,u,rfl,hp⟩
  ·obtain⟨i,hi,rfl⟩:=Option.map_eq_some_iff.1 h;simpa using As hi
theorem kT(k v:PV):∀es,eO k v es=match jX k es with|some j=>es.set j (k,v)|none=>es++[(k,v)]
 |[]=>rfl
 |(a,u)::r=>by
  simp only[eO,jX];split
  ·rfl
  ·rw[kT k v r];cases jX k r<;>rfl
theorem qZ(k:PV):∀es,pK k es=match jX k es with|some j=>es.modify j fun x=>(x.1,.bad)|none=>es
 |[]=>rfl
 |(a,u)::r=>by
  simp only[pK,jX];split
  ·rfl
  ·rw[qZ k r];cases jX k r<;>simp
theorem GF(sz:Nat)(k:PV):∀es,F5 sz k es=match jX k es with|some j=>(es[j]?).bind fun x=>aY sz x.2|none=>some []
 |[]=>rfl
 |(a,u)::r=>by
  simp only[F5,jX];split
  ·simp
  ·rw[GF sz k r];cases jX k r<;>simp
theorem Dz{k z:PV}{l:List (PV×PV)}{es:List MapEntry}{i:Nat}{r:Option (Nat×Value)}(h:Found k .ny z (iu l) es i r):(r=none∧jX k l=none)∨∃j e,r=some (i+j,e.val)∧es[j]?=some e∧jX k l=some j:=by
 cases h with
 |none h1 h2 h3=>
  refine .inl ⟨rfl,?_⟩;rw[kT]at h3;rw[←Br];cases hp:jX k (iu l)with
  |none=>rfl
  |some j=>rw[hp]at h3;have:=congrArg List.length h3;simp at this
 | @some j a u e h1 h2 h3 h4 h5 h6=>
  refine .inr ⟨j,e,rfl,h2,?_⟩;rw[kT]at h6;rw[←Br];have br:j<(iu l).length:=(List.getElem?_eq_some_iff.1 h1).1;cases hp:jX k (iu l)with
  |none=>rw[hp]at h6;have:=congrArg List.length h6;simp at this
  |some j'=>
   rw[hp]at h6;simp only at h6;obtain⟨a',u',F1,_⟩:=As hp;have ad8:j'<(iu l).length:=(List.getElem?_eq_some_iff.1 F1).1;have e1:((iu l).set j (k,.ny))[j']?=some (k,.ny):=by rw[←h6];simp[ad8]
   rw[List.getElem?_set]at e1;split at e1
   ·rename_i h;rw[h]
   ·exfalso;simp only[iu,List.getElem?_map,Option.map_eq_some_iff]at e1;obtain⟨x,_,hx⟩:=e1;simp at hx
section
variable {P:Program} {G:Nat→Option (List PV)} {w0:bx} {μ μ':Ro} {φ φ':Nat→aF} {m m':Mem} {w w':World}
def Bs(P:Program)(μ:Ro)(R:y9)(w:World)(e0:TypeId)(v:PV)(x:Value):Prop:=match v with
 |.fP s rs=>aL P μ (fun _=>R.up) w 0 s e0 rs∧ai P μ (fun _=>R.up) (.os 0) x
 |v=>aj P μ v x
variable{e0:TypeId}
theorem Bs.pure{R:y9}{v:PV}{x:Value}(h:aj P μ v x):Bs P μ R w e0 v x:=by
 unfold Bs;split
 ·cases h
 ·exact h
structure Ji(P:Program)(μ:Ro)(p:aF)(w:World)(kt e0:TypeId)(es:List (PV×PV))(g:Nat)(en:Array MapEntry)(clock:Nat)(kk:List Kd):Prop where
 pl:p.g=some g
 heap:w.heap[g]?=some (.map en clock)
 size:en.size=es.length
 xI:pL P kt=some kk
 key:∀(i:Nat)k v,es[i]?=some (k,v)→sB P kt kk k=true
 born:jU en clock
 rep:∀(i:Nat)k v e,es[i]?=some (k,v)→en[i]?=some e→aj P μ k e.key∧Bs P μ (p.row i 0) w e0 v e.val
variable{kt:TypeId}{es:List (PV×PV)}
theorem q6{id:Nat}:fR P μ φ w id (.eU kt e0 es)↔∃g en clock kk,Ji P μ (φ id) w kt e0 es g en clock kk:=by
 constructor
 ·rintro⟨g,en,clock,kk,h1,h2,h3,h4,h5,h6,h7⟩;exact⟨g,en,clock,kk,h1,h2,h3,h4,h5,h6,fun i k v e a b=>h7 i k v e a b⟩
 ·rintro⟨g,en,clock,kk,h1,h2,h3,h4,h5,h6,h7⟩;exact⟨g,en,clock,kk,h1,h2,h3,h4,h5,h6,fun i k v e a b=>h7 i k v e a b⟩
variable{en:Array MapEntry}
theorem Ji.ent{p:aF}{g:Nat}{clock:Nat}{kk:List Kd}(h:Ji P μ p w kt e0 es g en clock kk):tp P μ kt kk (iu es) en.toList:=by
 refine⟨by simp[iu,h.size],fun i k v hi=>?_,fun i k v e hi he=>?_⟩
 ·simp only[iu,List.getElem?_map,Option.map_eq_some_iff]at hi;obtain⟨⟨a,u⟩,hq,hx⟩:=hi;simp only[Prod.mk.injEq]at hx;obtain⟨rfl,rfl⟩:=hx;exact h.key i a u hq
 ·simp only[iu,List.getElem?_map,Option.map_eq_some_iff]at hi;obtain⟨⟨a,u⟩,hq,hx⟩:=hi;simp only[Prod.mk.injEq]at hx;obtain⟨rfl,rfl⟩:=hx;exact⟨(h.rep i a u e hq (by simpa using he)).1,.bad⟩
theorem Bt{t et:TypeId}{ks:List Kd}{key:PV}{zv yi:Value}{g clock:Nat}{l:List (PV×PV)}(hu:P.underlying t=some (.map kt et))(hk:pL P kt=some ks)(nE:sB P kt ks key=true)(hyi:aj P μ key yi)(hg:w.heap[g]?=some (.map en clock))(hE:tp P μ kt ks (iu l) en.toList)(hz:(zeroValue et).run P w=.ok zv w):(jX key l=none∧(Instr.lookup t (.map (some g)) yi false).run P w=.ok zv w)∨∃j e,jX key l=some j∧en[j]?=some e∧(Instr.lookup t (.map (some g)) yi false).run P w=.ok e.val w:=by
 have Od:=uO hk;obtain⟨hc,hv⟩:=kz nE hyi;obtain⟨r,r1,r2⟩:=jN (v:=.ny) (z:=.bad) Od hc w hE;have h1:=gm 8 kt ks Od 9992 w en.isEmpty key.cells hc;have zZ:=Go.MapKept.run_getObj_map (P:=P) hg;have MF:(Instr.checkKey en.isEmpty 10000 kt (eL P kt key.cells)).run P w=.ok () w:=h1;rw[hv];unfold Instr.lookup;simp only[Sem.run_bind,run_underlying hu,Result.andThen_ok,Sem.run_pure,zZ];rcases Dz r2 with⟨rfl,h⟩|⟨j,e,rfl,he,h⟩
 ·exact .inl ⟨h,by simp[MF,r1,hz]⟩
 ·exact .inr ⟨j,e,h,by simpa using he,by simp[MF,r1]⟩
end
section
variable {R:Type} {E:Env}
theorem Jj{t:TypeId}(h:zeroV E.P t=some .bj)(w:World):(zeroValue t).run E.P w=.ok (.slice none 0 0) w:=by unfold zeroV at h;obtain⟨c,hc,h⟩:=Option.map_eq_some_iff.1 h;obtain⟨i,hi,hz⟩:=Option.bind_eq_some_iff.1 hc;have:=qS (P:=E.P) (μ:=fun _=>none) (φ:=fun _=>default) c;rw[h]at this;cases this;exact mj hi hz
theorem QN{site:Nat}{t:TypeId}{x ix:V}{m:Mem}{k:V→Mem→bp→Option R}{r:R}(h:F9 E site t x ix m k=some r):∃id b1 b2 m',m'=qK [(id,b1),(site,b2)] m∧k (.os site) m' [(true,id),(true,site)]=some r∧m site=none∧b2.names=(fun _=>false)∧b1.names=(fun _=>false)∧(m id).isSome=true∧(∀m2:Mem,m2 id=m id→m2 site=none→∀(R':Type)(k':V→Mem→bp→Option R'),F9 E site t x ix m2 k'=k' (.os site) (qK [(id,b1),(site,b2)] m2) [(true,id),(true,site)])∧∀(G:Nat→Option (List PV))(w0:bx)(μ:Ro)(φ:Nat→aF)(w:World)(f:Fr)(ρ:Nat→Value)(y yi:Value),ax E.P G w0 μ φ m w→ck E.P μ φ m f ρ→ai E.P μ φ x y→ai E.P μ φ ix yi→∃u φ',(Instr.lookup t y yi false).run E.P w=.ok u w∧ax E.P G w0 μ φ' m' w∧ck E.P μ φ' m' f ρ∧ai E.P μ φ' (.os site) u:=by
 unfold F9 at h;split at h
 ·rename_i kt et hu;split at h
  ·rename_i e hue;split at h
   ·rename_i id hz;split at h
    ·rename_i sQ e' es hm hs;split at h
     ·rename_i hc;obtain⟨rfl,rfl,eo⟩:=hc;obtain⟨key,nE,h⟩:=Option.bind_eq_some_iff.1 h;obtain⟨rs,Xi,h⟩:=Option.bind_eq_some_iff.1 h;obtain⟨ks,k1,k2,k3⟩:=qY nE;have cS:site≠id:=fun e=>by subst e;rw[hs]at hm;cases hm
      refine⟨id,.eU sQ e' (pK key es),.arr (aS E.P e') e' rs,_,rfl,h,hs,rfl,rfl,by rw[hm];rfl,fun m2 h1 h2 R' k'=>?_,fun G w0 μ φ w f ρ y yi hM hF hx hi=>?_⟩
      ·simp only[F9,hu,hue,hz,h1,h2,hm,nE,Xi,Option.bind_some,eo,and_self,if_true];rfl
      ·obtain⟨g,en,clock,kk,hN⟩:=q6.1 (hM.dI id _ hm);have yf:=hN.xI;rw[k1]at yf;simp only[Option.some.injEq]at yf;subst yf;cases hx with
       |om bV=>
        rw[hN.pl]at bV;simp only[Option.some.injEq]at bV;subst bV;have QO:=Bt hu k1 k2 (k3 μ φ yi hi) hN.heap hN.ent (Jj hz w);have On:∀i off,(bJ.eU sQ e' (pK key es)).rowAt i off=true→(bJ.eU sQ e' es).rowAt i off=true∧jX key es≠some i:=by
         intro i off hr;rcases iN hr with⟨_,_,_,_,_,_,hb,_⟩|⟨_,_,_,k0,s0,rs0,hb,rfl,he⟩
         ·cases hb
         ·simp only[bJ.eU.injEq]at hb;obtain⟨rfl,rfl,rfl⟩:=hb;rw[qZ]at he;cases hp:jX key es with
          |none=>rw[hp]at he;simp only at he;exact⟨by rw[iM he];rfl,by simp⟩
          |some j=>
           rw[hp]at he;simp only[List.getElem?_modify]at he;split at he
           ·rename_i Jk;exfalso;obtain⟨x0,_,I4⟩:=Option.map_eq_some_iff.1 he;simp at I4
           ·rename_i Jk;have he:es[i]?=some (k0,PV.fP s0 rs0):=by simpa using he
            exact⟨by rw[iM he];rfl,fun h=>Jk (by simpa using h)⟩
        have qW:ax E.P G w0 μ φ (an m id (.eU sQ e' (pK key es))) w:=by
         refine hM.write hm rfl hN.pl (jw.refl _ _) rfl (fun _ _=>rfl) (q6.2 ⟨g,en,clock,ks,hN.pl,hN.heap,?_,k1,fun i k0 v0 h0=>?_,hN.born,fun i k0 v0 e0 h0 F0=>?_⟩) rfl (by simp[bJ.names]) (fun st h=>by cases h) (fun i off hr=>(On i off hr).1)
         ·rw[hN.size,qZ];cases jX key es<;>simp
         ·rw[qZ]at h0;cases hp:jX key es with
          |none=>rw[hp]at h0;exact hN.key i k0 v0 h0
          |some j=>
           rw[hp]at h0;simp only[List.getElem?_modify]at h0;obtain⟨x0,I4,hq⟩:=Option.map_eq_some_iff.1 h0;obtain⟨xa,xu⟩:=x0;split at hq
           ·simp only[Prod.mk.injEq]at hq;rw[←hq.1];exact hN.key i xa xu I4
           ·simp only[id_eq,Prod.mk.injEq]at hq;rw[←hq.1];exact hN.key i xa xu I4
         ·rw[qZ]at h0;cases hp:jX key es with
          |none=>rw[hp]at h0;exact hN.rep i k0 v0 e0 h0 F0
          |some j=>
           rw[hp]at h0;simp only[List.getElem?_modify]at h0;obtain⟨x0,I4,hq⟩:=Option.map_eq_some_iff.1 h0;obtain⟨xa,xu⟩:=x0;obtain⟨q1,q2⟩:=hN.rep i xa xu e0 I4 F0;split at hq
           ·simp only[Prod.mk.injEq]at hq;obtain⟨rfl,rfl⟩:=hq;exact⟨q1,.pure .bad⟩
           ·simp only[id_eq,Prod.mk.injEq]at hq;obtain⟨rfl,rfl⟩:=hq;exact⟨q1,q2⟩
        have aac:∀(ph:aF)(u:Value),aL E.P μ (fun _=>ph) w 0 (aS E.P e') e' rs→ai E.P μ (fun _=>ph) (.os 0) u→(∀g',ph.g=some g'→∃j,jX key es=some j∧(bJ.eU sQ e' es).rowAt j 0=true∧((φ id).row j 0).g=some g')→∃φ',ax E.P G w0 μ φ' (qK [(id,.eU sQ e' (pK key es)),(site,.arr (aS E.P e') e' rs)] m) w∧ck E.P μ φ' (qK [(id,.eU sQ e' (pK key es)),(site,.arr (aS E.P e') e' rs)] m) f ρ∧ai E.P μ φ' (.os site) u:=by
         intro ph u hA hV zZ;have I2:∀j,(m j).isSome=true→j≠site:=fun j hj e=>by subst e;rw[hs]at hj;cases hj
         refine⟨fun i=>if i=site then ph else φ i,?_,?_,?_⟩
         ·refine qW.put (by rw[ao cS];exact hs) (jw.refl _ _) hM.ro (fun _ _ _ _ _=>rfl) (fun g' bV=>?_) (ov nN) ?_ (by simp[bJ.names]) (fun st h=>by cases h)
          ·have bV:=mi nN bV;obtain⟨j,hj,hr,hjg⟩:=zZ g' bV;obtain⟨o1,o2⟩:=hM.own id _ g' hm (.inr ⟨j,0,hr,hjg⟩);refine⟨o1,o2 rfl,fun i b' hi ho=>?_⟩;by_cases Dq:i=id
           ·subst Dq;rw[aM]at hi;simp only[Option.some.injEq]at hi;subst hi;obtain⟨a1,a2⟩:=hM.apart i _ hm j 0 g' hr hjg;rcases ho with ho|⟨i',qi,qL,ho⟩
            ·exact a1 ho
            ·obtain⟨h3,h4⟩:=On i' qi qL;exact h4 (by rw[hj,(a2 i' qi h3 ho).1])
           ·rw[ao Dq]at hi;exact Dq (hM.inj i id _ _ g' hi hm ho (.inr ⟨j,0,hr,hjg⟩))
          ·exact aL.move (φ':=fun i=>if i=site then ph else φ i) (j:=site) hA (by simp) (fun _ _ h=>h)
         ·refine hF.mono (fun _ _ h=>h) fun j hj=>⟨by simp[I2 j hj],?_⟩;show(an (an m id _) site _ j).isSome=true;rw[ao (I2 j hj)];by_cases Jk:j=id
          ·subst Jk;simp
          ·rw[ao Jk];exact hj
         ·cases hV with
          |pA h=>exact .pA (by simpa using h)
          | @os _ g0 h=>have:=ai.os (P:=E.P) (μ:=μ) (φ:=fun i=>if i=site then ph else φ i) (id:=site) (g:=g0) (by simpa using h);simpa using this
        rw[GF]at Xi;rcases QO with⟨hp,lY⟩|⟨j,en0,hp,hen,lY⟩
        ·rw[hp]at Xi;simp only[Option.some.injEq]at Xi;subst Xi;obtain⟨φ',a1,a2,a3⟩:=aac (CE none 0 0 (aS E.P e')) (.slice none 0 0) ⟨rfl,rfl,rfl,eo,by simp,by simp[maxLen],⟨rfl,rfl⟩⟩ (.pA rfl) (fun g' bV=>by cases bV);exact⟨_,φ',lY,a1,a2,a3⟩
        ·rw[hp]at Xi;obtain⟨x0,I4,iK⟩:=Option.bind_eq_some_iff.1 Xi;obtain⟨xa,xu⟩:=x0;have hxu:=Gm iK;simp only at hxu;subst hxu;obtain⟨_,q2⟩:=hN.rep j xa _ en0 I4 hen;obtain⟨φ',a1,a2,a3⟩:=aac ((φ id).row j 0).up en0.val q2.1 q2.2 (fun g' bV=>⟨j,hp,by rw[iM I4];rfl,bV⟩);exact⟨_,φ',lY,a1,a2,a3⟩
     ·cases h
    ·cases h
   ·cases h
  ·cases h
 ·cases h
end
end Go.Ab
set_option linter.unusedVariables false
namespace Go.Ab
theorem Bu{m:Mem}:∀{cs:List V}{j0:Nat}{ps:List PV}{tk:Option (Nat×Nat)},ju m j0 cs=some (ps,tk)→ps.length=cs.length∧(tk=none→∀(i:Nat)p,ps[i]?=some p→∃v,cs[i]?=some v∧jj dd 1 v=some p)∧∀j id2,tk=some (j,id2)→∃l s2 GD rs,cs[l]?=some (.os id2)∧m id2=some (.arr s2 GD rs)∧ps[l]?=some (.fP s2 rs)∧∀(i:Nat)p,i≠l→ps[i]?=some p→∃v,cs[i]?=some v∧jj dd 1 v=some p
 |[],j0,ps,tk,h=>by simp only[ju,Option.some.injEq,Prod.mk.injEq]at h;obtain⟨rfl,rfl⟩:=h;exact⟨rfl,fun _ i p hp=>by simp at hp,fun j id2 h=>by cases h⟩
 |v::r,j0,ps,tk,h=>by
  have plain:∀{p:PV},jj dd 1 v=some p→(match ju m (j0+1) r with
   |some (ps,t)=>some (p::ps,t)
   |none=>none)=some (ps,tk)→ps.length=(v::r).length∧
   (tk=none→∀(i:Nat)p,ps[i]?=some p→∃u,(v::r)[i]?=some u∧jj dd 1 u=some p)∧
   ∀j id2,tk=some (j,id2)→∃l s2 GD rs,(v::r)[l]?=some (.os id2)∧m id2=some (.arr s2 GD rs)∧ps[l]?=some (.fP s2 rs)∧∀(i:Nat)p,i≠l→ps[i]?=some p→∃u,(v::r)[i]?=some u∧jj dd 1 u=some p:=by
   intro p hp h
   split at h
   ·rename_i ZJ t ht;simp only[Option.some.injEq,Prod.mk.injEq]at h;obtain⟨rfl,rfl⟩:=h;obtain⟨h1,h2,h3⟩:=Bu ht;refine⟨by simp[h1],fun hn i q hq=>?_,fun j id2 hj=>?_⟩
    ·cases i with
     |zero=>simp at hq;subst hq;exact⟨v,rfl,hp⟩
     |succ i=>simpa using h2 hn i q (by simpa using hq)
    ·obtain⟨l,s2,GD,rs,a1,a2,a3,a4⟩:=h3 j id2 hj;refine⟨l+1,s2,GD,rs,by simpa using a1,a2,by simpa using a3,fun i q hi hq=>?_⟩;cases i with
     |zero=>simp at hq;subst hq;exact⟨v,rfl,hp⟩
     |succ i=>simpa using a4 i q (by omega) (by simpa using hq)
   ·cases h
  unfold ju at h;split at h
  ·rename_i heq;cases heq
  ·rename_i j id r' heq;simp only[List.cons.injEq]at heq;obtain⟨rfl,rfl⟩:=heq;split at h
   ·rename_i s et es hm;split at h
    ·rename_i ZJ ht;simp only[Option.some.injEq,Prod.mk.injEq]at h;obtain⟨rfl,rfl⟩:=h;obtain⟨h1,h2,_⟩:=Bu ht;refine⟨by simp[h1],fun hn=>(nomatch hn),fun j id2 hj=>?_⟩;simp only[Option.some.injEq,Prod.mk.injEq]at hj;obtain⟨rfl,rfl⟩:=hj;refine⟨0,s,et,es,rfl,hm,rfl,fun i q hi hq=>?_⟩;cases i with
     |zero=>exact absurd rfl hi
     |succ i=>simpa using h2 rfl i q (by simpa using hq)
    ·cases h
   ·cases h
  ·rename_i j v' r' _ heq;simp only[List.cons.injEq]at heq;obtain⟨rfl,rfl⟩:=heq;split at h
   ·rename_i p hp;exact plain hp h
   ·cases h
section
variable {P:Program} {G:Nat→Option (List PV)} {w0:bx} {μ μ':Ro} {φ φ':Nat→aF} {m m':Mem} {w w':World}
theorem Bv{v:V}{n j id2:Nat}{cs:List V}{ps:List PV}(hc:toCells n v=some cs)(h:ju m 0 cs=some (ps,some (j,id2))):∃l s2 GD rs,m id2=some (.arr s2 GD rs)∧ps[l]?=some (.fP s2 rs)∧ps.length=n∧v.has id2=true∧∀(P:Program)(μ:Ro)(φ:Nat→aF)(x:Value),ai P μ φ v x→x.cells.size=n∧(∀(i:Nat)(y:Value),x.cells[i]?=some y→y.oneCell'=true)∧(∀(i:Nat)p y,i≠l→ps[i]?=some p→x.cells[i]?=some y→aj P μ p y)∧∃y,x.cells[l]?=some y∧ai P μ φ (.os id2) y:=by
 obtain⟨t1,_,t3⟩:=Bu h;obtain⟨l,s2,GD,rs,a1,a2,a3,a4⟩:=t3 j id2 rfl;obtain⟨n1,n2,n3⟩:=toCells_ok hc;refine⟨l,s2,GD,rs,a2,a3,by rw[t1,n1],n2 id2 (bL (List.mem_of_getElem? a1) (by simp[V.has])),fun P μ φ x hx=>?_⟩;obtain⟨x1,x2,x3⟩:=n3 P μ φ x hx;refine⟨x1,x3,fun i p y hi hp hy=>?_,?_⟩
 ·obtain⟨u,hu,hf⟩:=a4 i p hi hp;exact qU 1 hf (x2 i u y hu hy)
 ·have hl:l<x.cells.size:=by rw[x1,←n1];exact(List.getElem?_eq_some_iff.1 a1).1
  exact⟨x.cells[l],Array.getElem?_eq_getElem hl,x2 l _ _ a1 (Array.getElem?_eq_getElem hl)⟩
theorem zl{s off n:Nat}{e:PV}{ps:List PV}(hn:ps.length=n)(hb:off+n≤s)(h0:0<n)(ha:s=1→∀p,ps.head? =some p→∀cs,p≠.agg cs):(if s=1 then ps.headD .bad else PV.agg (bR (aK s e) off ps)).cells=bR (aK s e) off ps:=by
 split
 ·rename_i h1;subst h1;have e1:off=0:=by omega
  have e2:n=1:=by omega
  subst e1;subst e2;match ps,hn with
  |[p],_=>
   have:=ha rfl p rfl;have hp:p.cells=[p]:=by cases p<;>first|rfl|exact absurd rfl (this _)
   simp only[List.headD_cons,hp,dB,List.take_zero,List.nil_append,List.length_cons,List.length_nil];rw[List.drop_of_length_le (by rw[bl];exact Nat.le_refl _)];rfl
 ·rfl
theorem Bw{T:Type}{cs ps:List T}{off l:Nat}{x:T}(hl:l<ps.length)(hb:off+ps.length≤cs.length):bR cs off (ps.set l x)=(bR cs off ps).set (off+l) x:=by
 have hto:(cs.take off).length=off:=by simp;omega
 rw[dB,dB,List.length_set,List.append_assoc,List.append_assoc,List.set_append,if_neg (by omega),List.set_append,if_pos (by omega)];rw[show off+l-(cs.take off).length=l by omega]
theorem Bx{id id2:Nat}{B X:bJ}(cS:id2≠id):an (eS id (bf (bC id2 (an m id B)) id2)) id X=an (eS id (bf (bC id2 m) id2)) id X:=by
 funext t;by_cases h:t=id
 ·subst h;simp
 ·rw[ao h,ao h];unfold eS;by_cases h2:t=id2
  ·subst h2;simp
  ·rw[eQ h2,eQ h2];unfold bC;rw[ao h]
end
section
variable {R:Type} {E:Env}
theorem QP{t:TypeId}{v:V}{id i off s id2 j:Nat}{et:TypeId}{es ps:List PV}{cs:List V}{e:PV}{m:Mem}(hm:m id=some (.nest s et es))(hc:toCells (aS E.P t) v=some cs)(ht:ju m 0 cs=some (ps,some (j,id2)))(hb:off+aS E.P t≤s)(h0:0<aS E.P t)(cS:id2≠id)(he:es[i]?=some e){G:Nat→Option (List PV)}{w0:bx}{μ:Ro}{φ:Nat→aF}{w:World}{f:Fr}{ρ:Nat→Value}{ya yx:Value}(hM:ax E.P G w0 μ φ m w)(hF:ck E.P μ φ m f ρ)(ha:ai E.P μ φ (.oe id i off) ya)(hx:ai E.P μ φ v yx):∃w' φ',(Instr.storeAt t ya yx).run E.P w=.ok () w'∧ax E.P G w0 μ φ' (qK [(id,.nest s et (es.set i (if s=1 then ps.headD .bad else .agg (bR (aK s e) off ps))))] (km [(true,id2),(false,id)] m)) w'∧ck E.P μ φ' (qK [(id,.nest s et (es.set i (if s=1 then ps.headD .bad else .agg (bR (aK s e) off ps))))] (km [(true,id2),(false,id)] m)) (kf [(true,id2),(false,id)] f) ρ:=by
 obtain⟨l,s2,GD,rs,cG,iK,Au,ad9,iY⟩:=Bv hc ht;obtain⟨x1,x2,x3,y,hy,Uh⟩:=iY E.P μ φ yx hx;have Gw:l<ps.length:=(List.getElem?_eq_some_iff.1 iK).1;have hN:aV E.P μ φ w id s et es:=hM.dI id _ hm;have yb:=hN.2.2.2.2.1 i e he;have A9:(aK s e).length=s:=bl _ _;have lZ:ps=(ps.set l .bad).set l (.fP s2 rs):=by
  rw[List.set_set];apply List.ext_getElem?;intro a;rw[List.getElem?_set];split
  ·rename_i e1;subst e1;first|exact iK|(rw[if_pos Gw];exact iK)
  ·rfl
 have qX:∀(a:Nat)p,(ps.set l .bad)[a]?=some p→(a=l∧p=.bad)∨(a≠l∧ps[a]?=some p):=fun a p h=>eh h;have hE:qo E.P μ (aS E.P t) (.agg (ps.set l .bad)) yx:=by
  refine⟨by simp[PV.cells,Au],x1,fun a p z hp hz=>?_,x2⟩;rcases qX a p (by simpa[PV.cells]using hp)with⟨_,rfl⟩|⟨h1,h2⟩
  ·exact .bad
  ·exact x3 a p z h1 h2 hz
 have one:s=1→ps.length=1:=fun h=>by omega
 have hq:(if s=1 then ps.headD .bad else PV.agg (bR (aK s e) off ps)).cells=bR (aK s e) off ps:=zl Au hb h0 fun h1 p hp Dk=>by
  have ID:l=0:=by have:=one h1;omega
  subst ID;rw[List.head?_eq_getElem?,iK]at hp;simp only[Option.some.injEq]at hp;subst hp;simp
 have N9:(if s=1 then(ps.set l .bad).headD .bad else PV.agg (bR (aK s e) off (ps.set l .bad))).cells=bR (aK s e) off (ps.set l .bad):=zl (by simpa using Au) hb h0 fun h1 p hp Dk=>by
  have ID:l=0:=by have:=one h1;omega
  subst ID;rw[List.head?_eq_getElem?,List.getElem?_set,if_pos rfl,if_pos Gw]at hp;simp only[Option.some.injEq]at hp;subst hp;simp
 generalize (if s=1 then ps.headD .bad else PV.agg (bR (aK s e) off ps))=q at hq⊢;generalize (if s=1 then(ps.set l .bad).headD .bad else PV.agg (bR (aK s e) off (ps.set l .bad)))=q' at N9;cases ha with
 | @oe _ _ _ g hg=>
  obtain⟨c,T,hh,nD,sT,ZU⟩:=aV.set (q:=q') hN (hM.apart id _ hm) hg he hE hb (by rw[N9];rfl);have kM:(φ id).sz=s:=hN.2.1;have hi:=kR (P:=E.P) (t:=t) (by omega);have qW:ax E.P G w0 μ φ (an m id (.nest s et (es.set i q'))) (w.setRow g (bR c.toList (i*s+off) yx.cells.toList).toArray):=hM.write hm rfl hg (jw.setRow (Nat.le_refl _)) setRow_size (fun k hk=>cK hk) sT rfl (fun j hj=>by simp[bJ.names]at hj) (fun st h=>by cases h) ZU;have P1:i<es.length:=(List.getElem?_eq_some_iff.1 he).1;have aad:q.cells=q'.cells.set (off+l) (.fP s2 rs):=by rw[hq,N9,←Bw (by simpa using Gw) (by simp[A9,Au];omega),←lZ]
  have vv:q'.cells[off+l]?=some .bad:=by rw[N9,Bw Gw (by rw[A9,Au];exact hb),List.getElem?_set,if_pos rfl,if_pos];rw[cO (by rw[A9,Au];exact hb),A9];omega
  have qM:=ax.Xh qW (id:=id) (id2:=id2) (i:=i) (off:=off+l) (e:=q') (q:=q) (x:=y) cS (aM _ _ _) (by rw[ao cS];exact cG) (by simp[P1]) vv (fun g0 c0 IC hc0=>by
   rw[hg]at IC;simp only[Option.some.injEq]at IC;subst IC;rw[setRow_heap w g c _ T (0,0) hh]at hc0;simp only[Option.some.injEq,Obj.cells.injEq]at hc0;obtain⟨rfl,_⟩:=hc0;rw[List.getElem?_toArray,dB];have br:(c.toList.take (i*s+off)).length=i*s+off:=by simp;omega
   have Dp:l<yx.cells.toList.length:=by simp only[Array.length_toList];rw[x1];omega
   rw[List.append_assoc,List.getElem?_append_right (by omega),br,show i*s+(off+l)-(i*s+off)=l by omega,List.getElem?_append_left Dp];simpa using hy) Uh aad
  rw[List.set_set,Bx cS]at qM;refine⟨_,_,by rw[kM];exact gR hE.size hi hh nD hE.one,qM,?_⟩;have Aa:ck E.P μ φ (an m id (.nest s et (es.set i q'))) f ρ:=hF.kS (fun _ _ h=>h) .set;have Ul:=(Aa.forget id2).rZ id;refine Ul.VU (by simp[jc]) (fun k hk=>by simp[hk]) fun k hk=>?_;show(an (eS id (bf (bC id2 m) id2)) id _ k).isSome=true;by_cases e1:k=id
  ·subst e1;simp
  ·rw[ao e1];rw[ml]at hk⊢;by_cases e2:k=id2
   ·subst e2;simp at hk
   ·rw[eQ e2]at hk⊢;simp only[bC,ao e1]at hk⊢;exact hk
end
end Go.Ab
set_option linter.unusedVariables false
namespace Go.Ab
section
variable {R:Type} {E:Env}
variable{e:TypeId}{id2:Nat}{G:Nat→Option (List PV)}{w0:bx}{φ:Nat→aF}{w:World}{ρ:Nat→Value}
theorem Oo{t:TypeId}{v:V}{j site:Nat}{cs:List V}{ps:List PV}{p:PV}{m:Mem}(hu:E.P.underlying t=some (.slice e))(hc:toCells (aS E.P e) v=some cs)(ht:ju m 0 cs=some (ps,some (j,id2)))(hs:m site=none)(hp:elemOf (aD E.P e) ps=some p)(eo:0<aS E.P e)(yg:aS E.P e≤16777216)(hz:(dg E e).isSome=true){μ:Ro}{f:Fr}{yx:Value}(hM:ax E.P G w0 μ φ m w)(hF:ck E.P μ φ m f ρ)(hx:ai E.P μ φ v yx):∃y w' φ',(Instr.buildSlice t 1 #[(0,yx)]).run E.P w=.ok y w'∧ax E.P G w0 μ φ' (qK [(site,.nest (aS E.P e) e [p])] (km [(true,id2)] m)) w'∧ck E.P μ φ' (qK [(site,.nest (aS E.P e) e [p])] (km [(true,id2)] m)) (kf [(true,id2)] f) ρ∧ai E.P μ φ' (.os site) y:=by
 obtain⟨l,s2,GD,rs,cG,iK,Au,ad9,iY⟩:=Bv hc ht;obtain⟨x1,x2,x3,z,Ui,hvz⟩:=iY E.P μ φ yx hx;obtain⟨zc,PZ⟩:=Option.isSome_iff_exists.1 hz;obtain⟨iz,zv,i1,i2,i3,_⟩:=eE PZ;have cS:id2≠site:=fun e=>by subst e;rw[hs]at cG;cases cG
 have Oq:p.cells=ps:=by
  unfold elemOf at hp;split at hp
  ·simp only[Option.some.injEq]at hp;subst hp;rfl
  ·split at hp
   ·rename_i q;simp only[Option.some.injEq]at hp;subst hp;have ID:l=0:=by have:=(List.getElem?_eq_some_iff.1 iK).1;simp at this;exact this
    subst ID;simp only[List.getElem?_cons_zero,Option.some.injEq]at iK;subst iK;rfl
   ·cases hp
 have Xg:aL E.P μ φ w id2 s2 GD rs:=hM.dI id2 _ cG;have aae:Instr.fill (fun i=>some (i*aS E.P e,aS E.P e)) ((Array.range (1*aS E.P e)).map (zv.cells[·%zv.cells.size]!)) [(0,yx)]=some yx.cells:=by
  have IG:((Array.range (1*aS E.P e)).map (zv.cells[·%zv.cells.size]!)).size=aS E.P e:=by simp
  rw[uN (off:=0) (size:=aS E.P e) (by simp) x1 (by rw[IG];omega)];simp only[Instr.fill,Option.some.injEq];apply Array.ext';simp only[dB,List.take_zero,List.nil_append,Nat.zero_add];rw[List.drop_of_length_le (by simp only[Array.length_toList];rw[IG,x1];exact Nat.le_refl _),List.append_nil]
 have lY:=run_buildSlice (P:=E.P) w t e 1 #[(0,yx)] yx.cells iz zv hu i1 i2 (by rw[i3];omega) (by rw[i3];omega) (by rw[i3];exact aae);let q:aF:={g:=some w.heap.size,cap:=1,len:=1,sz:=aS E.P e,row:=fun a b=>if a=0∧b=l then(φ id2).toy9 else default};have I2:∀k,(bf (bC id2 m) id2 k).isSome=true→k≠site:=fun k hk e=>by subst e;rw[eQ (Ne.symm cS)]at hk;simp[bC,hs]at hk
 have QQ:∀a b,(bJ.nest (aS E.P e) e [p]).rowAt a b=true→a=0∧b=l:=by
  intro a b hr;rcases iN hr with⟨_,_,_,e',s',ZW,fQ,h',pQ⟩|⟨_,_,_,_,_,_,fQ,_⟩
  ·simp only[bJ.nest.injEq]at fQ;obtain⟨rfl,rfl,rfl⟩:=fQ;cases a with
   |succ a=>simp at h'
   |zero=>
    simp only[List.getElem?_cons_zero,Option.some.injEq]at h';subst h';rw[Oq]at pQ;refine⟨rfl,?_⟩;by_cases hbl:b=l
    ·exact hbl
    ·exfalso;have br:b<yx.cells.size:=by rw[x1,←Au];exact(List.getElem?_eq_some_iff.1 pQ).1
     exact absurd (x3 b _ _ hbl pQ (Array.getElem?_eq_getElem br)).Aq (by simp[PV.isRow])
  ·cases fQ
 have qW:=hM.forget id2;have qt:ax E.P G w0 μ (fun i=>if i=site then q else φ i) (an (bf (bC id2 m) id2) site (.nest (aS E.P e) e [p])) (w.alloc (.cells yx.cells e)):=by
  have hold:∀k,k<w.heap.size→(w.alloc (.cells yx.cells e)).heap[k]?=w.heap[k]?:=fun k hk=>jw.heap_alloc w _ k hk;refine qW.put (by rw[eQ (Ne.symm cS)];simp[bC,hs]) ((jw.refl _ w).alloc hM.below.size _) (fun k o hk=>?_) (fun id b' g hid hg=>hold g ((qW.dI id b' hid).Bc hg)) (fun g hg=>?_) ?_ ?_ (by simp[bJ.names]) (fun st h=>by cases h)
  ·have:=hM.ro k o hk;rw[hold k (Array.getElem?_eq_some_iff.1 this).1];exact this
  ·rcases hg with hg|⟨a,b,hr,hg⟩
   ·simp only[q,Option.some.injEq]at hg;subst hg;refine⟨hM.below.size,?_,fun id b' hid ho=>?_⟩
    ·cases hq:μ w.heap.size with
     |none=>rfl
     |some o'=>have:=hM.ro _ _ hq;simp at this
    ·have:=(qW.dI id b' hid).Bc ho;omega
   ·have qM:=QQ a b hr;have hg:(φ id2).g=some g:=by simpa[q,qM]using hg
    obtain⟨o1,o2⟩:=hM.own id2 _ g cG (.inl hg);refine⟨o1,o2 rfl,fun id b' hid ho=>?_⟩;obtain⟨h1,b2,pB,rfl⟩:=eM hid;exact h1 (hM.inj id id2 _ _ g pB cG (fD.1 ho) (.inl hg))
  ·intro a b g hr hg;have qM:=QQ a b hr;have hg:(φ id2).g=some g:=by simpa[q,qM]using hg
   refine⟨fun h=>?_,fun a' b' qL _=>by have:=QQ a' b' qL;omega⟩;simp only[q,Option.some.injEq]at h;have:=(hM.dI id2 _ cG).Bc (.inl hg);omega
  ·show aV E.P μ (fun i=>if i=site then q else φ i) (w.alloc (.cells yx.cells e)) site (aS E.P e) e [p];unfold aV;simp only[if_true];refine⟨rfl,rfl,trivial,eo,fun i e' QR=>?_,by simp[q,maxLen],yx.cells,fE w _,by simp[q,x1],by simp[q],fun i e' b p' x' QR pQ I3=>?_,fun i x' _ I3=>x2 i x' I3⟩
   ·cases i with
    |zero=>simp at QR;subst QR;rw[Oq,Au]
    |succ i=>simp at QR
   ·cases i with
    |succ i=>simp at QR
    |zero=>
     simp only[List.getElem?_cons_zero,Option.some.injEq]at QR;subst QR;rw[Oq]at pQ;rw[Nat.zero_mul,Nat.zero_add]at I3;by_cases hbl:b=l
     ·subst hbl;rw[iK]at pQ;simp only[Option.some.injEq]at pQ;subst pQ;rw[Ui]at I3;simp only[Option.some.injEq]at I3;subst I3;have:q.row 0 b=(φ id2).toy9:=by simp[q]
      rw[this];refine eK.cH ⟨⟨GD,Xg.up⟩,Je hvz⟩ (fun _ _ h=>h) fun g hg=>hold g ((hM.dI id2 _ cG).Bc (.inl hg))
     ·exact .pure (x3 b p' x' hbl pQ I3)
 refine⟨_,_,_,lY,qt,?_,?_⟩
 ·exact(hF.forget id2).mono (fun _ _ h=>h) fun k hk=>⟨by simp[I2 k hk],by show(an (bf (bC id2 m) id2) site _ k).isSome=true;rw[ao (I2 k hk)];exact hk⟩
 ·have:=ai.os (P:=E.P) (μ:=μ) (φ:=fun i=>if i=site then q else φ i) (id:=site) (g:=w.heap.size) (by simp[q]);simpa[q]using this
theorem QS{k v v':PV}:∀{es:List (PV×PV)}{j:Nat},(eO k v es)[j]?=some (k,v)→(jX k es=some j∨(jX k es=none∧j=es.length))→(eO k v es).set j (k,v')=eO k v' es:=by
 intro es j hj hp;rw[kT,kT];rcases hp with hp|⟨hp,rfl⟩
 ·rw[hp];simp
 ·rw[hp];simp
variable{es:List (PV×PV)}
theorem ax.Uq{P:Program}{μ:Ro}{m:Mem}(hM:ax P G w0 μ φ m w){id i s2:Nat}{kt:TypeId}{k:PV}{rs:List PV}{x:Value}(cS:id2≠id)(hm:m id=some (.eU kt e es))(cG:m id2=some (.arr s2 e rs))(he:es[i]?=some (k,.bad))(hx:∀g en clock,(φ id).g=some g→w.heap[g]?=some (.map en clock)→∃e0,en[i]?=some e0∧e0.val=x)(hv:ai P μ φ (.os id2) x):ax P G w0 μ (fun j=>if j=id then jc (φ id) i 0 (φ id2).toy9 else φ j) (an (eS id (bf (bC id2 m) id2)) id (.eU kt e (es.set i (k,.fP s2 rs)))) w:=by
 have qW:=(hM.forget id2).rZ id;obtain⟨g0,en,clock,kk,hN⟩:=q6.1 (hM.dI id _ hm);have Xg:aL P μ φ w id2 s2 e rs:=hM.dI id2 _ cG;have iK:∀a b,(bJ.eU kt e (es.set i (k,.fP s2 rs))).rowAt a b=true→(a=i∧b=0)∨((bJ.eU kt e es).rowAt a b=true∧¬(a=i∧b=0)):=by
  intro a b hr;by_cases qM:a=i∧b=0
  ·exact .inl qM
  ·refine .inr ⟨?_,qM⟩;rcases iN hr with⟨_,_,_,_,_,_,fQ,_⟩|⟨_,_,_,k',s',ZW,fQ,rfl,h'⟩
   ·cases fQ
   ·simp only[bJ.eU.injEq]at fQ;obtain⟨rfl,rfl,rfl⟩:=fQ;rcases eh h' with⟨rfl,_⟩|⟨QE,h'⟩
    ·exact absurd ⟨rfl,rfl⟩ qM
    ·rw[iM h'];rfl
 refine hM.MI (fun _ k=>if k=id2 then id else k) (fun j b' hj=>?_) (fun j b' g hj ho=>?_) (fun j b' hj=>?_) (fun j cs k hj hk=>?_) (fun j st hj=>?_)
 ·rcases e8 hj with⟨rfl,rfl⟩|⟨h1,h2,c,hc,rfl⟩
  ·refine q6.2 ⟨g0,en,clock,kk,by simp[jc,hN.pl],hN.heap,by simp[hN.size],hN.xI,fun a k' v' h'=>?_,hN.born,fun a k' v' e' h' QR=>?_⟩
   ·rcases eh h' with⟨rfl,hq⟩|⟨_,h'⟩
    ·simp only[Prod.mk.injEq]at hq;rw[hq.1];exact hN.key a k _ he
    ·exact hN.key a k' v' h'
   ·simp only[if_true];rcases eh h' with⟨rfl,hq⟩|⟨QE,h'⟩
    ·simp only[Prod.mk.injEq]at hq;obtain⟨rfl,rfl⟩:=hq;refine⟨(hN.rep a _ _ e' he QR).1,?_⟩;rw[fL];obtain⟨e1,he1,hxe⟩:=hx g0 en clock hN.pl hN.heap;rw[QR]at he1;simp only[Option.some.injEq]at he1;subst he1;rw[hxe];exact⟨Xg.up,Je hv⟩
    ·rw[fS _ _ (fun h=>QE h.1)];exact hN.rep a k' v' e' h' QR
  ·have hb:fR P μ φ w j (dO id (fI id2 c)):=(hM.dI j c hc).kill.vo;exact hb.MJ h1 (by simp[jc]) fun k hk=>by simp[hk]
 ·rcases e8 hj with⟨rfl,rfl⟩|⟨h1,h2,c,hc,rfl⟩
  ·simp only[if_true]at ho;rcases ho with ho|⟨a,b,hr,ho⟩
   ·exact⟨j,_,hm,.inl ho,fun _=>rfl,by simp[cS.symm]⟩
   ·rcases iK a b hr with⟨rfl,rfl⟩|⟨qL,qM⟩
    ·rw[fL]at ho;exact⟨id2,_,cG,.inl ho,fun _=>rfl,by simp⟩
    ·rw[fS _ _ qM]at ho;exact⟨j,_,hm,.inr ⟨a,b,qL,ho⟩,fun _=>rfl,by simp[cS.symm]⟩
  ·simp only[h1,if_false]at ho;exact⟨j,c,hc,fD.1 (oD.1 ho),fun h=>by rw[vR,uK]at h;exact h,by simp[h2]⟩
 ·rcases e8 hj with⟨rfl,rfl⟩|⟨h1,h2,c,hc,rfl⟩
  ·simp only[if_true];have Bf:=hM.apart j _ hm;have new:∀g,(φ id2).g=some g→¬(bJ.eU kt e es).owns (φ j) g:=fun g hg ho=>cS (hM.inj id2 j _ _ g cG hm (.inl hg) ho);intro a b g hr hg;rcases iK a b hr with⟨rfl,rfl⟩|⟨qL,qM⟩
   ·rw[fL]at hg;refine⟨fun h=>new g hg (.inl h),fun a' b' Jf Jg=>?_⟩;rcases iK a' b' Jf with h|⟨Up,Jh⟩
    ·exact h
    ·rw[fS _ _ Jh]at Jg;exact absurd (.inr ⟨a',b',Up,Jg⟩) (new g hg)
   ·rw[fS _ _ qM]at hg;obtain⟨h3,h4⟩:=Bf a b g qL hg;refine⟨h3,fun a' b' Jf Jg=>?_⟩;rcases iK a' b' Jf with⟨rfl,rfl⟩|⟨Up,Jh⟩
    ·rw[fL]at Jg;exact absurd (.inr ⟨a,b,qL,hg⟩) (new g Jg)
    ·rw[fS _ _ Jh]at Jg;exact h4 a' b' Up Jg
  ·simp only[h1,if_false];exact tr.2 (rX.2 (hM.apart j c hc))
 ·rcases e8 hj with⟨rfl,hb⟩|⟨h1,h2,c,hc,hb⟩
  ·cases hb
  ·have F1:eS id (bf (bC id2 m) id2) j=some (.box cs):=by rw[ao h1]at hj;exact hj
   have:=qW.fi j cs k F1 hk;by_cases e:k=id
   ·subst e;simp
   ·rw[ao e];exact this
 ·rcases e8 hj with⟨rfl,hb⟩|⟨h1,h2,c,hc,hb⟩
  ·cases hb
  ·cases c<;>first|(simp[dO,fI]at hb;done)|skip
   simp only[dO,fI,bJ.loop.injEq]at hb;subst hb;exact⟨hc,by simp[h1]⟩
theorem Ot{t kt et:TypeId}{xk:V}{id s:Nat}{key:PV}{rs:List PV}{m:Mem}(hu:E.P.underlying t=some (.map kt et))(hm:m id=some (.eU kt e es))(cG:m id2=some (.arr s e rs))(nE:keyOf E kt xk=some key){μ:Ro}{f:Fr}{ya yk yv:Value}(hM:ax E.P G w0 μ φ m w)(hF:ck E.P μ φ m f ρ)(ha:ai E.P μ φ (.om id) ya)(hk:ai E.P μ φ xk yk)(hv:ai E.P μ φ (.os id2) yv):∃w' φ',(Instr.mapUpdate t ya yk yv).run E.P w=.ok () w'∧ax E.P G w0 μ φ' (qK [(id,.eU kt e (eO key (.fP s rs) es))] (km [(true,id2),(false,id)] m)) w'∧ck E.P μ φ' (qK [(id,.eU kt e (eO key (.fP s rs) es))] (km [(true,id2),(false,id)] m)) (kf [(true,id2),(false,id)] f) ρ:=by
 have cS:id2≠id:=fun h=>by subst h;rw[hm]at cG;cases cG
 obtain⟨ks,k1,k2,k3⟩:=qY nE;obtain⟨g,en,clock,kk,hN⟩:=q6.1 (hM.dI id _ hm);have yf:=hN.xI;rw[k1]at yf;simp only[Option.some.injEq]at yf;subst yf;have Od:=uO k1;have Y9:=k3 μ φ yk hk;obtain⟨hc,Xd⟩:=kz k2 Y9;obtain⟨res,r1,r2⟩:=jN (v:=.ny) (z:=.bad) Od hc w hN.ent;have zZ:=Go.MapKept.run_getObj_map (P:=E.P) hN.heap;have h1:(Instr.checkKey false 10000 kt yk).run E.P w=.ok () w:=by rw[Xd];exact gm 8 kt ks Od 9992 w false key.cells hc
 rw[←Xd]at r1;have br:g<w.heap.size:=(Array.getElem?_eq_some_iff.1 hN.heap).1;cases ha with
 |om bV=>
  rw[hN.pl]at bV;simp only[Option.some.injEq]at bV;subst bV;have fin:∀(J:Nat)(IE:Array MapEntry)(nb:Nat),(jX key es=some J∨(jX key es=none∧J=es.length))→(Instr.mapUpdate t (.map (some g)) yk yv).run E.P w=.ok () {w with heap:=w.heap.setIfInBounds g (.map IE nb)}→jU IE nb→IE.size=(eO key .bad es).length→(∃e0,IE[J]?=some e0∧e0.key=yk∧e0.val=yv)→(∀i e0,i≠J→IE[i]?=some e0→en[i]?=some e0)→∃w' φ',(Instr.mapUpdate t (.map (some g)) yk yv).run E.P w=.ok () w'∧ax E.P G w0 μ φ' (qK [(id,.eU kt e (eO key (.fP s rs) es))] (km [(true,id2),(false,id)] m)) w'∧ck E.P μ φ' (qK [(id,.eU kt e (eO key (.fP s rs) es))] (km [(true,id2),(false,id)] m)) (kf [(true,id2),(false,id)] f) ρ:=by
   intro J IE nb hJ hr sE kM hJe Ac;obtain⟨eJ,aaf,aea,aeb⟩:=hJe;have qt:∀i k' v',(eO key .bad es)[i]?=some (k',v')→(i=J∧k'=key∧v'=.bad)∨(i≠J∧es[i]?=some (k',v')):=by
    intro i k' v' h;rw[kT]at h;rcases hJ with hJ|⟨hJ,rfl⟩
    ·rw[hJ]at h;rcases eh h with⟨rfl,hq⟩|⟨QE,h⟩
     ·simp only[Prod.mk.injEq]at hq;exact .inl ⟨rfl,hq.1,hq.2⟩
     ·exact .inr ⟨QE,h⟩
    ·rw[hJ]at h;simp only at h;rw[List.getElem?_append]at h;split at h
     ·rename_i br;exact .inr ⟨by omega,h⟩
     ·rename_i CN;cases hd:i-es.length with
      |zero=>rw[hd]at h;simp only[List.getElem?_cons_zero,Option.some.injEq,Prod.mk.injEq]at h;exact .inl ⟨by omega,h.1.symm,h.2.symm⟩
      |succ n=>rw[hd]at h;simp at h
   have hJb:(eO key .bad es)[J]?=some (key,.bad):=by
    rw[kT];rcases hJ with hJ|⟨hJ,rfl⟩
    ·rw[hJ];obtain⟨a,u,hj,_⟩:=As hJ;simp[(List.getElem?_eq_some_iff.1 hj).1]
    ·rw[hJ];simp
   have qW:ax E.P G w0 μ φ (an m id (.eU kt e (eO key .bad es))) {w with heap:=w.heap.setIfInBounds g (.map IE nb)}:=by
    refine hM.write hm rfl hN.pl ⟨⟨rfl,rfl,rfl,by simp,fun k hk=>by simp[Array.getElem?_setIfInBounds_ne (Nat.ne_of_gt hk)]⟩,fun _=>Nat.le_refl _⟩ (by simp) (fun k hk=>by simp[Array.getElem?_setIfInBounds_ne (Ne.symm hk)]) (q6.2 ⟨g,IE,nb,ks,hN.pl,by simp[br],kM,k1,fun i k' v' h=>?_,sE,fun i k' v' e0 h F0=>?_⟩) rfl (by simp[bJ.names]) (fun st h=>by cases h) fun a b hr=>?_
    ·rcases qt i k' v' h with⟨_,rfl,_⟩|⟨_,h⟩
     ·exact k2
     ·exact hN.key i k' v' h
    ·rcases qt i k' v' h with⟨rfl,rfl,rfl⟩|⟨QE,h⟩
     ·rw[aaf]at F0;simp only[Option.some.injEq]at F0;subst F0;exact⟨by rw[aea];exact Y9,.pure .bad⟩
     ·obtain⟨q1,q2⟩:=hN.rep i k' v' e0 h (Ac i e0 QE F0);refine⟨q1,?_⟩;unfold Bs at q2⊢;split at q2
      ·refine⟨q2.1.cH rfl (fun _ _ h=>h) fun g' bV=>?_,q2.2⟩;have hr:(bJ.eU kt e es).rowAt i 0=true:=by rw[iM h];rfl
       have:=(hM.apart id _ hm i 0 g' hr bV).1;rw[hN.pl]at this;simp only[ne_eq,Option.some.injEq]at this;simp[Array.getElem?_setIfInBounds_ne this]
      ·exact q2
    ·rcases iN hr with⟨_,_,_,_,_,_,fQ,_⟩|⟨_,_,_,k',s',ZW,fQ,rfl,h'⟩
     ·cases fQ
     ·simp only[bJ.eU.injEq]at fQ;obtain⟨rfl,rfl,rfl⟩:=fQ;rcases qt a k' _ h' with⟨_,_,h⟩|⟨_,h⟩
      ·cases h
      ·rw[iM h];rfl
   have qM:=ax.Uq qW (id:=id) (id2:=id2) (i:=J) (x:=yv) cS (aM _ _ _) (by rw[ao cS];exact cG) hJb (fun g0 en0 aec IC hh0=>by
    rw[hN.pl]at IC;simp only[Option.some.injEq]at IC;subst IC;have:(w.heap.setIfInBounds g (Obj.map IE nb))[g]?=some (.map IE nb):=by simp[br]
    rw[this]at hh0;simp only[Option.some.injEq,Obj.map.injEq]at hh0;obtain⟨rfl,_⟩:=hh0;exact⟨eJ,aaf,aeb⟩) hv
   rw[QS hJb hJ,Bx cS]at qM;refine⟨_,_,hr,qM,?_⟩;have Aa:ck E.P μ φ (an m id (.eU kt e (eO key .bad es))) f ρ:=hF.kS (fun _ _ h=>h) .set;refine((Aa.forget id2).rZ id).VU (by simp[jc]) (fun k hk=>by simp[hk]) fun k hk=>?_;show(an (eS id (bf (bC id2 m) id2)) id _ k).isSome=true;by_cases e1:k=id
   ·subst e1;simp
   ·rw[ao e1];rw[ml]at hk⊢;by_cases e2:k=id2
    ·subst e2;simp at hk
    ·rw[eQ e2]at hk⊢;simp only[bC,ao e1]at hk⊢;exact hk
  rcases Dz r2 with⟨rfl,hp⟩|⟨j,e0,rfl,F0,hp⟩
  ·have Uj:=Go.MapKept.run_setObj_map (P:=E.P) (.map (en.push {key:=yk,val:=yv,born:=clock}) (clock+1)) hN.heap;refine fin es.length _ _ (.inr ⟨hp,rfl⟩) (by simp only[Instr.mapUpdate,Sem.run_bind,run_underlying hu,zZ,h1,r1,Result.andThen_ok];exact Uj) hN.born.push (by rw[kT,hp];simp[hN.size]) ⟨{key:=yk,val:=yv,born:=clock},?_,rfl,rfl⟩ fun i e0 hi h=>?_
   ·rw[←hN.size];simp
   ·rw[Array.getElem?_push]at h;split at h
    ·rename_i h';rw[hN.size]at h';exact absurd h' hi
    ·exact h
  ·have Ur:en[j]?=some e0:=by simpa using F0
   obtain⟨a,u,haj,hpq⟩:=As hp;obtain⟨VT,hva⟩:=kz (hN.key j a u haj) (hN.rep j a u e0 haj Ur).1;have rY:=Ez hc VT hpq;have Xe:Instr.sameBits 10000 e0.key yk=true:=by rw[hva,Xd,←rY];refine tq (n:=9999) hc (fun ha=>?_);rw[nC hc];exact(uI Od).2.1 ha
   have Uj:=Go.MapKept.run_setObj_map (P:=E.P) (.map (en.modify j fun e=>{e with key:=yk,val:=yv}) clock) hN.heap;have xJ:j<en.size:=(Array.getElem?_eq_some_iff.1 Ur).1;refine fin j _ _ (.inl hp) (by simp only[Instr.mapUpdate,Sem.run_bind,run_underlying hu,zZ,h1,r1,Result.andThen_ok];simp only[Nat.zero_add,Ur,Option.map_some,Option.getD_some,Instr.keyThatStays,Xe,if_true,Sem.run_pure,Result.andThen_ok];exact Uj) (hN.born.modify (fun e=>{e with key:=yk,val:=yv}) (fun _=>rfl) _) (by rw[kT,hp];simp[hN.size]) ⟨{e0 with key:=yk,val:=yv},by rw[Array.getElem?_modify,if_pos rfl,Ur];rfl,rfl,rfl⟩ fun i e1 hi h=>?_;rw[Array.getElem?_modify,if_neg (Ne.symm hi)]at h;exact h
end
end Go.Ab
set_option linter.unusedVariables false
namespace Go.Ab
section
variable {P:Program} {G:Nat→Option (List PV)} {w0:bx} {μ μ':Ro} {φ φ':Nat→aF} {m m':Mem} {w w':World}
structure jo(P:Program)(μ:Ro)(rows:Nat→Nat→y9)(w:World)(s:Nat)(es:List PV)(xs:List Value):Prop where
 len:xs.length=es.length*s
 each:∀(i:Nat)e,es[i]?=some e→e.cells.length=s
 rep:∀(i:Nat)e(j:Nat)p x,es[i]?=some e→e.cells[j]?=some p→xs[i*s+j]?=some x→eg P μ (rows i j) w p x
 one:∀(i:Nat)(x:Value),xs[i]?=some x→x.oneCell'=true
variable{rows:Nat→Nat→y9}{es:List PV}{xs:List Value}
theorem jo.append{Bz QT:Nat→Nat→y9}{s:Nat}{es':List PV}{ZX:List Value}(h:jo P μ rows w s es xs)(h':jo P μ Bz w s es' ZX)(h1:∀i j,i<es.length→QT i j=rows i j)(h2:∀i j,es.length≤i→QT i j=Bz (i-es.length) j):jo P μ QT w s (es++es') (xs++ZX):=by
 refine⟨by simp[h.len,h'.len,Nat.add_mul],fun i e he=>?_,fun i e j p x he hp hx=>?_,fun i x hx=>?_⟩
 ·rw[List.getElem?_append]at he;split at he
  ·exact h.each i e he
  ·exact h'.each _ e he
 ·rw[List.getElem?_append]at he;split at he
  ·rename_i hi;rw[h1 i j hi];have hj:j<s:=by rw[←h.each i e he];exact(List.getElem?_eq_some_iff.1 hp).1
   rw[List.getElem?_append_left (by rw[h.len];exact Bj hi hj)]at hx;exact h.rep i e j p x he hp hx
  ·rename_i hi;rw[h2 i j (by omega)];have e1:i*s+j=es.length*s+((i-es.length)*s+j):=by
    have:i=es.length+(i-es.length):=by omega
    have h3:i*s=es.length*s+(i-es.length)*s:=by rw[←Nat.add_mul,←this]
    omega
   rw[List.getElem?_append_right (by rw[h.len,e1];omega),h.len,show i*s+j-es.length*s=(i-es.length)*s+j by omega]at hx;exact h'.rep _ e j p x he hp hx
 ·rw[List.getElem?_append]at hx;split at hx
  ·exact h.one i x hx
  ·exact h'.one _ x hx
theorem Cells.ED{s:Nat}(h:Cells P μ s es xs):jo P μ rows w s es xs:=⟨h.len,h.each,fun i e j p x he hp hx=>.pure (h.rep i e j p x he hp hx),h.one⟩
theorem jo.cH{rows:Nat→Nat→y9}{s:Nat}{es:List PV}{xs:List Value}(h:jo P μ rows w s es xs)(hw:∀i e j p g,es[i]?=some e→e.cells[j]?=some p→p.isRow=true→(rows i j).g=some g→w'.heap[g]?=w.heap[g]?):jo P μ rows w' s es xs:=⟨h.len,h.each,fun i e j p x he hp hx=>(h.rep i e j p x he hp hx).cH (fun _ _ h=>h) fun hr g hg=>hw i e j p g he hp hr hg,h.one⟩
theorem aV.ED{id sz:Nat}{et:TypeId}(h:aV P μ φ w id sz et es){g:Nat}(hg:(φ id).g=some g):∃c:Array Value,w.heap[g]?=some (.cells c et (0,0))∧(φ id).cap*sz≤c.size∧es.length≤(φ id).cap∧jo P μ (φ id).row w sz es (c.toList.take (es.length*sz)):=by obtain⟨a1,a2,a3,a4,a5,a6,a7⟩:=h;rw[hg]at a7;obtain⟨c,c1,c2,c3,c4,c5⟩:=a7;have hle:es.length*sz≤c.size:=Nat.le_trans (Nat.mul_le_mul_right _ c3) c2;refine⟨c,c1,c2,c3,by simp;omega,a5,fun i e j p x he hp hx=>c4 i e j p x he hp (by simpa using(ek hx).2),fun i x hx=>?_⟩;have:=ek hx;exact c5 i x this.1 (by simpa using this.2)
theorem jo.nest{id g sz:Nat}{et:TypeId}{c:Array Value}(Ud:(φ id).toy9=⟨some g,(φ id).cap,es.length,sz⟩)(kM:sz=aS P et)(eo:0<sz)(mY:(φ id).cap≤maxLen)(hh:w.heap[g]?=some (.cells c et (0,0)))(hc:(φ id).cap*sz≤c.size)(hle:es.length≤(φ id).cap)(hC:jo P μ (φ id).row w sz es (c.toList.take (es.length*sz))):aV P μ φ w id sz et es:=by
 have e1:(φ id).g=some g:=by rw[Ud]
 refine⟨by rw[Ud],by rw[Ud],kM,eo,hC.each,mY,?_⟩;rw[e1];have xJ:∀(i:Nat)e(j:Nat)p,es[i]?=some e→e.cells[j]?=some p→i*sz+j<es.length*sz:=fun i e j p hi hj=>Bj (List.getElem?_eq_some_iff.1 hi).1 (by rw[←hC.each i e hi];exact(List.getElem?_eq_some_iff.1 hj).1);refine⟨c,hh,hc,hle,fun i e j p x hi hj hx=>?_,fun i x hi hx=>?_⟩
 ·exact hC.rep i e j p x hi hj (by rw[List.getElem?_take_of_lt (xJ i e j p hi hj)];simpa using hx)
 ·exact hC.one i x (by rw[List.getElem?_take_of_lt hi];simpa using hx)
end
section
variable {R:Type} {E:Env}
def MK(src:Option Nat)(m:Mem):Mem:=match src with|some id2=>bf (bC id2 m) id2|none=>m
def kfS(src:Option Nat)(f:Fr):Fr:=match src with|some id2=>eP id2 f|none=>f
variable{src:Option Nat}
theorem QU{m:Mem}{j:Nat}{b:bJ}(h:MK src m j=some b):src≠some j∧∃b',m j=some b'∧b.rowAt=b'.rowAt:=by
 cases src with
 |none=>exact⟨by simp,b,h,rfl⟩
 |some id2=>obtain⟨h1,b',h2,rfl⟩:=eM h;exact⟨fun e=>h1 (by simpa using e.symm),b',h2,rW _ _⟩
theorem Ou{t e ty:TypeId}{x:V}{id s:Nat}{es new:List PV}{rd:bp}{m:Mem}(hu:E.P.underlying t=some (.slice e))(hm:m id=some (.nest s e es))(hs:s=aS E.P e)(hz:(dg E e).isSome=true)(eo:0<aS E.P e)(ZY:0<CJ E.P e)(ep:(es++new).length*CJ E.P e≤aa)(vO:(∃id2,src=some id2∧id2≠id∧x=.os id2∧m id2=some (.nest s e new))∨(src=none∧eH m s x=some (new,rd))){G:Nat→Option (List PV)}{w0:bx}{μ:Ro}{φ:Nat→aF}{w:World}{f:Fr}{ρ:Nat→Value}{ys yx:Value}(hM:ax E.P G w0 μ φ m w)(hF:ck E.P μ φ m f ρ)(ha:ai E.P μ φ (.os id) ys)(hx:ai E.P μ φ x yx):∃w' y φ',(Builtin.append_ #[t,t] ty #[ys,yx]).run E.P w=.ok y w'∧ax E.P G w0 μ φ' (an (bf (bC id (MK src m)) id) id (.nest s e (es++new))) w'∧ck E.P μ φ' (an (bf (bC id (MK src m)) id) id (.nest s e (es++new))) (eP id (kfS src f)) ρ∧ai E.P μ φ' (.os id) y:=by
 obtain⟨zc,PZ⟩:=Option.isSome_iff_exists.1 hz;obtain⟨i,zv,hi,Y6,VQ,_,Gu,_,_,_⟩:=eE PZ;have hN:aV E.P μ φ w id s e es:=hM.dI id _ hm;have Gw:(es++new).length=es.length+new.length:=by simp
 have jb:0<s:=by omega
 obtain⟨Bz,qL⟩:∃Bz:Nat→Nat→y9,Bz=match src with|some id2=>(φ id2).row|none=>fun _ _=>default:=⟨_,rfl⟩
 obtain⟨os,W7,hC⟩:∃os,((ys=.slice none 0 0∧es.length=0∧os=[])∨∃(g cap:Nat)(c:Array Value),ys=.slice (some ⟨g,0,none⟩) es.length cap∧w.heap[g]?=some (.cells c e (0,0))∧cap*s≤c.size∧es.length≤cap∧cap≤maxLen∧os=c.toList.take (es.length*s))∧jo E.P μ (φ id).row w s es os:=by
  cases ha with
  |pA hg=>have a7:=hN.2.2.2.2.2.2;rw[hg]at a7;rw[a7.1];exact⟨[],.inl ⟨rfl,rfl,rfl⟩,by simp,by simp,fun i e j p x he=>by simp at he,by simp⟩
  | @os _ g hg=>obtain⟨c,c1,c2,c3,c4⟩:=hN.ED hg;exact⟨_,.inr ⟨g,(φ id).cap,c,by rw[hN.1],c1,c2,c3,hN.2.2.2.2.2.1,rfl⟩,c4⟩
 obtain⟨xs,Gv,hCx⟩:∃xs,((yx=.slice none 0 0∧new.length=0∧xs=[])∨∃(a:Addr)(cx:Nat),yx=.slice (some a) new.length cx∧xs.length=new.length*s∧(∀(j:Nat)v,xs[j]?=some v→w.cell? (a.add j)=some v)∧(∀v∈xs,v.oneCell'=true)∧new.length≤cx∧cx≤maxLen)∧jo E.P μ Bz w s new xs:=by
  rcases vO with⟨id2,rfl,cS,rfl,cG⟩|⟨rfl,yb⟩
  ·have hN2:aV E.P μ φ w id2 s e new:=hM.dI id2 _ cG;simp only at qL;subst qL;cases hx with
   |pA hg=>have a7:=hN2.2.2.2.2.2.2;rw[hg]at a7;rw[a7.1];exact⟨[],.inl ⟨rfl,rfl,rfl⟩,by simp,by simp,fun i e j p x he=>by simp at he,by simp⟩
   | @os _ g hg=>
    obtain⟨c,c1,c2,c3,c4⟩:=hN2.ED hg;refine⟨_,.inr ⟨⟨g,0,none⟩,(φ id2).cap,by rw[hN2.1],c4.len,fun j v hj=>?_,fun v hv=>?_,c3,hN2.2.2.2.2.2.1⟩,c4⟩
    ·rw[Addr.add_mid,dM c1];simpa using(ek hj).2
    ·obtain⟨j,hj⟩:=List.getElem?_of_mem hv;exact c4.one j v hj
  ·obtain⟨_,_,hsr⟩:=l0 yb;have:=hsr _ _ _ _ _ _ _ hM hx;cases this with
   |none hn=>subst hn;exact⟨[],.inl ⟨rfl,rfl,rfl⟩,by simp,by simp,fun i e j p x he=>by simp at he,by simp⟩
   | @some a cx xs hC Gv VR QF=>exact⟨xs,.inr ⟨a,cx,rfl,hC.len,Gv,fun u hu=>by obtain⟨j,hj⟩:=List.getElem?_of_mem hu;exact hC.one j u hj,VR,QF⟩,hC.ED⟩
 obtain⟨w',y,hr,QG⟩:=Bk (ty:=ty) hu hi Y6 (by rw[Gu,hs]) hs eo ZY (by rw[←Gw];exact ep) W7 Gv;let kU:Nat→Nat→y9:=fun a b=>if a<es.length then(φ id).row a b else Bz (a-es.length) b;have Z0:jo E.P μ kU w s (es++new) (os++xs):=hC.append hCx (fun a b h=>by simp only[kU,h,if_true]) (fun a b h=>by simp only[kU,Nat.not_lt.2 h,if_false]);have iK:∀a b g,(bJ.nest s e (es++new)).rowAt a b=true→(kU a b).g=some g→(a<es.length∧(bJ.nest s e es).rowAt a b=true∧((φ id).row a b).g=some g)∨(es.length≤a∧∃id2,src=some id2∧id2≠id∧m id2=some (.nest s e new)∧(bJ.nest s e new).rowAt (a-es.length) b=true∧((φ id2).row (a-es.length) b).g=some g):=by
  intro a b g zX hg;rcases iN zX with⟨_,_,_,e',s',ZW,fQ,h',pQ⟩|⟨_,_,_,_,_,_,fQ,_⟩
  ·simp only[bJ.nest.injEq]at fQ;obtain⟨rfl,rfl,rfl⟩:=fQ;by_cases br:a<es.length
   ·rw[List.getElem?_append_left br]at h';exact .inl ⟨br,by rw[dy h' pQ];rfl,by simpa[kU,br]using hg⟩
   ·rw[List.getElem?_append_right (by omega)]at h';simp only[kU,br,if_false]at hg;rcases vO with⟨id2,rfl,cS,rfl,cG⟩|⟨rfl,yb⟩
    ·simp only at qL;subst qL;exact .inr ⟨by omega,id2,rfl,cS,cG,by rw[dy h' pQ];rfl,hg⟩
    ·exfalso;obtain⟨_,_,hsr⟩:=l0 yb;have h3:=hsr _ _ _ _ _ _ _ hM hx;cases h3 with
     |none hn=>subst hn;simp at h'
     | @some a2 cx xs2 hC2 agu VR QF=>
      have hj:(a-es.length)*s+b<xs2.length:=by rw[hC2.len];exact Bj (List.getElem?_eq_some_iff.1 h').1 (by rw[←hC2.each _ _ h'];exact(List.getElem?_eq_some_iff.1 pQ).1)
      exact absurd (hC2.rep _ _ _ _ _ h' pQ (List.getElem?_eq_getElem hj)).Aq (by simp[PV.isRow])
  ·cases fQ
 have QV:∀j,(bf (bC id (MK src m)) id j).isSome=true→j≠id:=fun j hj e=>by subst e;simp at hj
 have bO:∀j b',bf (bC id (MK src m)) id j=some b'→j≠id∧src≠some j∧∃b,m j=some b∧b'.rowAt=b.rowAt:=by intro j b' hj;obtain⟨h1,b1,h2,rfl⟩:=eM hj;obtain⟨h3,b2,h4,h5⟩:=QU h2;exact⟨h1,h3,b2,h4,by rw[rW,h5]⟩
 have Jl:∀{j b' b g},b'.rowAt=b.rowAt→bJ.owns b' (φ j) g→bJ.owns b (φ j) g:=fun h ho=>by unfold bJ.owns at*;rw[←h];exact ho
 have hM0:ax E.P G w0 μ φ (MK src m) w:=by
  cases src with
  |none=>exact hM
  |some id2=>exact hM.forget id2
 have hF0:ck E.P μ φ (MK src m) (kfS src f) ρ:=by
  cases src with
  |none=>exact hF
  |some id2=>exact hF.forget id2
 have qW:=hM0.forget id;have Aa:=hF0.forget id;have EE:∀a b g,(bJ.nest s e (es++new)).rowAt a b=true→(kU a b).g=some g→w0.heap.size≤g∧μ g=none∧g<w.heap.size∧∀j b',bf (bC id (MK src m)) id j=some b'→¬b'.owns (φ j) g:=by
  intro a b g zX hg;rcases iK a b g zX hg with⟨_,h2,h3⟩|⟨_,id2,rfl,cS,cG,h2,h3⟩
  ·obtain⟨o1,o2⟩:=hM.own id _ g hm (.inr ⟨a,b,h2,h3⟩);refine⟨o1,o2 rfl,(hM.dI id _ hm).Bc (.inr ⟨a,b,h2,h3⟩),fun j b' hj ho=>?_⟩;obtain⟨k1,_,b2,k3,k4⟩:=bO j b' hj;exact k1 (hM.inj j id _ _ g k3 hm (Jl k4 ho) (.inr ⟨a,b,h2,h3⟩))
  ·obtain⟨o1,o2⟩:=hM.own id2 _ g cG (.inr ⟨_,b,h2,h3⟩);refine⟨o1,o2 rfl,(hM.dI id2 _ cG).Bc (.inr ⟨_,b,h2,h3⟩),fun j b' hj ho=>?_⟩;obtain⟨_,k1,b2,k3,k4⟩:=bO j b' hj;exact k1 (by rw[hM.inj j id2 _ _ g k3 cG (Jl k4 ho) (.inr ⟨_,b,h2,h3⟩)])
 have Ov:∀a b a' b' g,(bJ.nest s e (es++new)).rowAt a b=true→(kU a b).g=some g→(bJ.nest s e (es++new)).rowAt a' b'=true→(kU a' b').g=some g→a'=a∧b'=b:=by
  intro a b a' b' g h1 h2 h3 h4;rcases iK a b g h1 h2 with⟨u1,u2,u3⟩|⟨u1,i2,u0,une,um,u2,u3⟩<;>rcases iK a' b' g h3 h4 with⟨v1,v2,v3⟩|⟨v1,i3,v0,vne,vm,v2,v3⟩
  ·exact(hM.apart id _ hm a b g u2 u3).2 a' b' v2 v3
  ·exact absurd (hM.inj i3 id _ _ g vm hm (.inr ⟨_,_,v2,v3⟩) (.inr ⟨_,_,u2,u3⟩)) vne
  ·exact absurd (hM.inj i2 id _ _ g um hm (.inr ⟨_,_,u2,u3⟩) (.inr ⟨_,_,v2,v3⟩)) une
  ·rw[u0]at v0;simp only[Option.some.injEq]at v0;subst v0;obtain⟨h5,h6⟩:=(hM.apart i2 _ um (a-es.length) b g u2 u3).2 (a'-es.length) b' v2 v3;exact⟨by omega,h6⟩
 have fin:∀(q:aF)(w1:World),q.row=kU→jw w0.heap.size w w1→(∀k o,μ k=some o→w1.heap[k]?=some o)→(∀j b' g,bf (bC id (MK src m)) id j=some b'→b'.owns (φ j) g→w1.heap[g]?=w.heap[g]?)→(∀g,q.g=some g→w0.heap.size≤g∧μ g=none∧(∀j b',bf (bC id (MK src m)) id j=some b'→¬b'.owns (φ j) g)∧∀a b,(bJ.nest s e (es++new)).rowAt a b=true→(kU a b).g≠some g)→(aV E.P μ (fun k=>if k=id then q else φ k) w1 id s e (es++new))→ax E.P G w0 μ (fun k=>if k=id then q else φ k) (an (bf (bC id (MK src m)) id) id (.nest s e (es++new))) w1∧ck E.P μ (fun k=>if k=id then q else φ k) (an (bf (bC id (MK src m)) id) id (.nest s e (es++new))) (eP id (kfS src f)) ρ:=by
  intro q w1 hq I1 mh hold rR iY;refine⟨qW.put (by simp) I1 mh hold (fun g hg=>?_) (fun a b g zX hg=>?_) iY (by simp[bJ.names]) (fun st h=>by cases h),Aa.mono (fun _ _ h=>h) fun j hj=>⟨by simp[QV j hj],by rw[ao (QV j hj)];exact hj⟩⟩
  ·rcases hg with hg|⟨a,b,zX,hg⟩
   ·obtain⟨o1,o2,o3,_⟩:=rR g hg;exact⟨o1,o2,o3⟩
   ·rw[hq]at hg;obtain⟨o1,o2,_,o3⟩:=EE a b g zX hg;exact⟨o1,o2,o3⟩
  ·rw[hq]at hg;refine⟨fun h=>(rR g h).2.2.2 a b zX hg,fun a' b' aed bV=>?_⟩;rw[hq]at bV;exact Ov a b a' b' g zX hg aed bV
 rcases QG with⟨rfl,rfl,h1,h2⟩|⟨g',zY,c',rfl,b1,b2,b3,b4,b5,b6⟩
 ·have h1:es=[]:=List.eq_nil_of_length_eq_zero h1;have h2:new=[]:=List.eq_nil_of_length_eq_zero h2;obtain⟨k1,k2⟩:=fin {g:=none,cap:=0,len:=0,sz:=s,row:=kU} w' rfl (jw.refl _ _) hM.ro (fun _ _ _ _ _=>rfl) (fun g hg=>by cases hg) ⟨by simp[h1,h2],by simp,hs,jb,by simp[h1,h2],by simp[maxLen],by simp[h1,h2]⟩;exact⟨w',_,_,hr,k1,k2,.pA (by simp)⟩
 ·have hq:∀(w1:World),w1.heap[g']?=some (.cells c' e (0,0))→jo E.P μ kU w1 s (es++new) (os++xs)→aV E.P μ (fun k=>if k=id then({g:=some g',cap:=zY,len:=(es++new).length,sz:=s,row:=kU}:aF)else φ k) w1 id s e (es++new):=fun w1 hh hC1=>jo.nest (g:=g') (c:=c') (by simp) hs jb (by simpa using b4) hh (by simpa using b2) (by simpa[Gw]using b3) (by rw[Gw,b5];simpa using hC1);have VV:ai E.P μ (fun k=>if k=id then({g:=some g',cap:=zY,len:=(es++new).length,sz:=s,row:=kU}:aF)else φ k) (.os id) (.slice (some ⟨g',0,none⟩) (es.length+new.length) zY):=by have:=ai.os (P:=E.P) (μ:=μ) (φ:=fun k=>if k=id then({g:=some g',cap:=zY,len:=(es++new).length,sz:=s,row:=kU}:aF)else φ k) (id:=id) (g:=g') (by simp);simp only[if_true]at this;rw[←Gw];exact this
  rcases b6 with⟨Uf,Y7,b6,b7⟩|⟨rfl,rfl⟩
  ·have bV:(φ id).g=some g':=by
    have key:∀z,ai E.P μ φ (.os id) z→z=.slice (some ⟨g',0,none⟩) es.length Uf→(φ id).g=some g':=by
     intro z hz he;cases hz with
     |pA _=>cases he
     |os hg=>simp only[Value.slice.injEq,Option.some.injEq,Addr.mk.injEq]at he;rw[←he.1.1];exact hg
    exact key _ ha Y7
   obtain⟨o1,o2⟩:=hM.own id _ g' hm (.inl bV);have Gs:∀a b,(bJ.nest s e (es++new)).rowAt a b=true→(kU a b).g≠some g':=by
    intro a b zX hg;rcases iK a b g' zX hg with⟨u1,u2,u3⟩|⟨u1,i2,u0,une,um,u2,u3⟩
    ·exact(hM.apart id _ hm a b g' u2 u3).1 bV
    ·exact une (hM.inj i2 id _ _ g' um hm (.inr ⟨_,_,u2,u3⟩) (.inl bV))
   have Ac:∀j b',bf (bC id (MK src m)) id j=some b'→¬b'.owns (φ j) g':=fun j b' hj ho=>by obtain⟨k1,_,b2,k3,k4⟩:=bO j b' hj;exact k1 (hM.inj j id _ _ g' k3 hm (Jl k4 ho) (.inl bV))
   obtain⟨k1,k2⟩:=fin {g:=some g',cap:=zY,len:=(es++new).length,sz:=s,row:=kU} w' rfl (b6.mono o1) (fun k o hk=>by rw[b7 k (fun e=>by subst e;rw[o2 rfl]at hk;cases hk)];exact hM.ro k o hk) (fun j b' g hj ho=>b7 g fun e=>by subst e;exact Ac j b' hj ho) (fun g hg=>by
     simp only[Option.some.injEq]at hg;subst hg;exact⟨o1,o2 rfl,Ac,Gs⟩)
    (hq w' b1 (Z0.cH fun a e1 b p1 g he hp zX hg=>b7 g fun e=>by subst e;exact Gs a b (by rw[dy he hp];exact zX) hg))
   exact⟨w',_,_,hr,k1,k2,VV⟩
  ·have hold:∀k,k<w.heap.size→(w.drew.alloc (.cells c' e)).heap[k]?=w.heap[k]?:=fun k hk=>jw.heap_alloc w.drew _ k hk;obtain⟨k1,k2⟩:=fin {g:=some w.heap.size,cap:=zY,len:=(es++new).length,sz:=s,row:=kU} (w.drew.alloc (.cells c' e)) rfl ((jw.refl _ w).drew.alloc hM.below.size _) (fun k o hk=>by
     have:=hM.ro k o hk;rw[hold k (Array.getElem?_eq_some_iff.1 this).1];exact this)
    (fun j b' g hj ho=>hold g ((qW.dI j b' hj).Bc ho)) (fun g hg=>by
     simp only[Option.some.injEq]at hg;subst hg;refine⟨hM.below.size,?_,fun j b' hj ho=>?_,fun a b zX hg=>?_⟩
     ·cases hq:μ w.heap.size with
      |none=>rfl
      |some o'=>have:=hM.ro _ _ hq;simp at this
     ·have:=(qW.dI j b' hj).Bc ho;omega
     ·have:=(EE a b _ zX hg).2.2.1;omega)
    (hq _ b1 (Z0.cH fun a e1 b p1 g he hp zX hg=>hold g (EE a b g (by rw[dy he hp];exact zX) hg).2.2.1))
   exact⟨_,_,_,hr,k1,k2,VV⟩
theorem BA{m:Mem}:∀{cs:List V}{j0:Nat}{ps:List PV},ju m j0 cs=some (ps,none)→∀m2:Mem,ju m2 j0 cs=some (ps,none)
 |[],j0,ps,h,m2=>h
 |v::r,j0,ps,h,m2=>by
  unfold ju at h;split at h
  ·rename_i heq;cases heq
  ·rename_i j id r' heq;split at h
   ·split at h
    ·simp at h
    ·cases h
   ·cases h
  ·rename_i j v' r' cS heq;simp only[List.cons.injEq]at heq;obtain⟨rfl,rfl⟩:=heq;unfold ju;split
   ·rename_i heq;cases heq
   ·rename_i j id r' heq;simp only[List.cons.injEq]at heq;exact absurd heq.1 (cS id)
   ·rename_i j v' r' cS heq;simp only[List.cons.injEq]at heq;obtain⟨rfl,rfl⟩:=heq;split at h
    ·rename_i p hp;split at h
     ·rename_i ZJ t ht;simp only[Option.some.injEq,Prod.mk.injEq]at h;obtain⟨rfl,rfl⟩:=h;rw[BA ht m2]
     ·cases h
    ·cases h
theorem tt{m m2:Mem}{j id2:Nat}(hm:m2 id2=m id2):∀{cs:List V}{j0:Nat}{ps:List PV},ju m j0 cs=some (ps,some (j,id2))→ju m2 j0 cs=some (ps,some (j,id2))
 |[],j0,ps,h=>by simp[ju]at h
 |v::r,j0,ps,h=>by
  unfold ju at h;split at h
  ·rename_i heq;cases heq
  ·rename_i j id r' heq;simp only[List.cons.injEq]at heq;obtain⟨rfl,rfl⟩:=heq;split at h
   ·rename_i s et es ML;split at h
    ·rename_i ZJ ht;simp only[Option.some.injEq,Prod.mk.injEq]at h;obtain⟨rfl,rfl,rfl⟩:=h;simp only[ju,hm,ML,BA ht m2]
    ·cases h
   ·cases h
  ·rename_i j v' r' cS heq;simp only[List.cons.injEq]at heq;obtain⟨rfl,rfl⟩:=heq;unfold ju;split
   ·rename_i heq;cases heq
   ·rename_i j id r' heq;simp only[List.cons.injEq]at heq;exact absurd heq.1 (cS id)
   ·rename_i j v' r' cS heq;simp only[List.cons.injEq]at heq;obtain⟨rfl,rfl⟩:=heq;split at h
    ·rename_i p hp;split at h
     ·rename_i ZJ t ht;simp only[Option.some.injEq,Prod.mk.injEq]at h;obtain⟨rfl,rfl⟩:=h;rw[tt hm ht]
     ·cases h
    ·cases h
theorem Jm{site:Nat}{o:Oper}{f f2:Fr}{m m2:Mem}{sp:Sp}(h:vJ E site o f m=some sp)(hf:∀x∈o.op.operands,bB E f2 x=bB E f x)(hm:∀x∈(sp.info site).2,m2 x.2=m x.2):vJ E site o f2 m2=some sp:=by
 obtain⟨dst,op,type,pos,after,guard⟩:=o;unfold vJ at h⊢;cases op;case store t a x=>
  simp only at h⊢;rw[hf a (by simp[Op.operands]),hf x (by simp[Op.operands])];split at h
  ·rename_i id i off ha;split at h
   ·rename_i s et es ML;split at h
    ·rename_i cs hc;split at h
     ·rename_i ps j id2 ht;split at h
      ·rename_i iP;simp only[Option.some.injEq]at h;subst h;have h1:m2 id=m id:=hm (true,id) (by simp[Sp.info]);have h2:m2 id2=m id2:=hm (true,id2) (by simp[Sp.info]);simp only[ha,h1,ML,hc,tt h2 ht,iP,if_true]
      ·cases h
     ·cases h
    ·cases h
   ·cases h
  ·cases h
 case buildSlice t len parts=>
  simp only at h⊢;have Oq:(parts.toList.map fun(x:Nat×Operand)=>(x.1,bB E f2 x.2))=parts.toList.map fun(x:Nat×Operand)=>(x.1,bB E f x.2):=List.map_congr_left fun x hx=>by rw[hf x.2 (by simp only[Op.operands,List.mem_toArray,List.mem_map];exact⟨x,hx,rfl⟩)]
  rw[Oq];split at h
  ·rename_i e v hu hp;split at h
   ·rename_i cs hc;split at h
    ·rename_i ps j id2 ht hs;split at h
     ·rename_i p CP;split at h
      ·rename_i iP;simp only[Option.some.injEq]at h;subst h;have h1:m2 site=m site:=hm (true,site) (by simp[Sp.info]);have h2:m2 id2=m id2:=hm (true,id2) (by simp[Sp.info]);simp only[hu,hp,hc,tt h2 ht,h1,hs,CP,iP,if_true]
      ·cases h
     ·cases h
    ·cases h
   ·cases h
  ·cases h
 case call c=>
  obtain⟨callee,args,argTypes⟩:=c;simp only at h⊢;have jz:args.toList.map (bB E f2)=args.toList.map (bB E f):=List.map_congr_left fun x hx=>hf x (by simp only[Op.operands,Call.operands];cases callee<;>simp[Array.mem_toList_iff.1 hx]);rw[jz];split at h
  ·rename_i id x t t' ha Xj;split at h
   ·rename_i e s et es hu ML;split at h
    ·rename_i iP;have plain:∀{new:List PV}{rd:bp},eH m s x=some (new,rd)→x.has id=false→sp=.app id s et es new none rd→eH m2 s x=some (new,rd):=by intro new rd yb Xk jb;subst jb;obtain⟨e1,_,_⟩:=l0 yb;exact e1 m2 fun y hy=>hm y (by simp[Sp.info,hy])
     split at h
     ·rename_i nA;split at h
      ·rename_i s' AP new TA;split at h
       ·rename_i A3;simp only[Option.some.injEq]at h;subst h;have h1:m2 id=m id:=hm (true,id) (by simp[Sp.info]);have h2:m2 nA=m nA:=hm (true,nA) (by simp[Sp.info]);simp only[ha,Xj,hu,h1,ML,iP,if_true,h2,TA,A3]
       ·cases h
      ·rename_i hnn;split at h
       ·rename_i new rd yb;split at h
        ·cases h
        ·rename_i Xk;simp only[Option.some.injEq]at h;have QW:=plain yb (by simpa using Xk) h.symm;subst h;have h1:m2 id=m id:=hm (true,id) (by simp[Sp.info]);simp only[ha,Xj,hu,h1,ML,iP,if_true,QW];split
         ·rename_i s' AP agv cG;exfalso;simp only[eH,cG]at QW;cases QW
         ·rw[if_neg Xk]
       ·cases h
     ·rename_i agw;split at h
      ·rename_i new rd yb;split at h
       ·cases h
       ·rename_i Xk;simp only[Option.some.injEq]at h;have QW:=plain yb (by simpa using Xk) h.symm;subst h;have h1:m2 id=m id:=hm (true,id) (by simp[Sp.info]);simp only[ha,Xj,hu,h1,ML,iP,if_true,QW];try rw[if_neg Xk]
      ·cases h
    ·cases h
   ·cases h
  ·cases h
 case mapUpdate t x key v=>
  simp only at h⊢;rw[hf x (by simp[Op.operands]),hf key (by simp[Op.operands]),hf v (by simp[Op.operands])];split at h
  ·rename_i kt et id id2 hu hx hv;split at h
   ·rename_i sQ e es s e' rs kp h1 h2 hk;split at h
    ·rename_i iP;simp only[Option.some.injEq]at h;subst h;have h3:m2 id=m id:=hm (true,id) (by simp[Sp.info]);have h4:m2 id2=m id2:=hm (true,id2) (by simp[Sp.info]);simp only[hu,hx,hv,h3,h4,h1,h2,hk,iP,if_true]
    ·cases h
   ·cases h
  ·cases h
 all_goals (cases h)
end
end Go.Ab
