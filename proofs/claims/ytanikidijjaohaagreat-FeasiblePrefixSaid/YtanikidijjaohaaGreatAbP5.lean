import Derived.Test.YtanikidijjaohaaGreatAbP4
import Derived.RangeFuncRecord
import Derived.Laws.IdiomRangeMap
set_option linter.unusedVariables false
namespace Go.Ab
section
variable {P:Program} {G:Nat→Option (List PV)} {w0:br} {μ:Ro} {φ:Nat→aA} {m:Mem} {w:World}
theorem av.abL(hM:av P G w0 μ φ m w){g:Nat}(hB:w0.heap.size≤g)(abM:∀id b,m id=some b→¬b.owns (φ id) g):av P G w0 (pB μ w (some g)) φ m w:=by
 have mono:=lF hM (some g);refine⟨hM.below,fun b o hb=>?_,fun g' cs hg=>(hM.aD g' cs hg).mono mono,fun j c hj=>(hM.dy j c hj).cD (fun _ _=>rfl) rfl mono (fun _ _=>rfl),fun j c g' hj bP=>?_,hM.inj,hM.apart,hM.fJ,fun b o hb bm=>?_,fun b o hb=>mono b o (hM.dA b o hb),hM.BD⟩
 ·unfold pB at hb;split at hb
  ·exact hb
  ·exact hM.ro b o hb
 ·obtain⟨h1,h2⟩:=hM.own j c g' hj bP;refine⟨h1,fun Dn=>?_⟩;unfold pB;split
  ·rename_i he;simp only[Option.some.injEq]at he;subst he;exact absurd bP (abM j c hj)
  ·exact h2 Dn
 ·unfold pB at hb;split at hb
  ·rename_i he;simp only[Option.some.injEq]at he;omega
  ·exact hM.base b o hb bm
theorem Mi(w:World)(g:Nat)(o:Obj):kG g w (w.putObj g o):=⟨⟨rfl,rfl,rfl,by simp,fun k hk=>World.putObj_heap_other (by omega)⟩,fun _=>Nat.le_refl _⟩
theorem zo{A:Type}(f:A→Nat):∀{l:List A}{i:Nat}{e:A},l[i]?=some e→(∀(j:Nat)x,l[j]?=some x→f x=f e→j=i)→l.filter (fun x=> !(f x==f e))=l.eraseIdx i
 |[],i,e,h,_=>by simp at h
 |y::l,0,e,h,inj=>by simp only[List.getElem?_cons_zero,Option.some.injEq]at h;subst h;simp only[List.filter_cons,BEq.rfl,Bool.not_true,Bool.false_eq_true,if_false,List.eraseIdx_cons_zero];rw[List.filter_eq_self];intro x hx;obtain⟨j,hj⟩:=List.mem_iff_getElem?.1 hx;simp only[Bool.not_eq_true',beq_eq_false_iff_ne];intro e;have:=inj (j+1) x (by simpa using hj) e;omega
 |y::l,i+1,e,h,inj=>by
  have h':l[i]?=some e:=by simpa using h
  have cB:¬f y=f e:=fun e'=>by have:=inj 0 y rfl e';omega
  have hb:(f y==f e)=false:=by simpa using cB
  simp only[List.filter_cons,hb,Bool.not_false,if_true,List.eraseIdx_cons_succ];rw[zo f h' (fun j x hj e'=>by have:=inj (j+1) x (by simpa using hj) e';omega)]
theorem Gh(en:Array MapEntry):kS en #[]=en.toList:=by unfold kS;rw[List.filter_eq_self];intro x _;simp
variable{en:Array MapEntry}{clock:Nat}{seen:Array Nat}{e:MapEntry}
theorem DD(hb:lE en clock){i:Nat}(hi:(kS en seen)[i]?=some e):kS en (seen.push e.born)=(kS en seen).eraseIdx i:=by
 have h1:kS en (seen.push e.born)=(kS en seen).filter (fun x=> !(x.born==e.born)):=by unfold kS;rw[List.filter_filter];congr 1;funext x;simp only[Array.contains_push,Bool.not_or];rw[Bool.and_comm]
 rw[h1];refine zo (fun x=>x.born) hi fun j x hj e'=>?_;have WI:(kS en seen).Pairwise fun a b=>a.born≠b.born:=by
  unfold kS;refine List.Pairwise.filter _ ?_;rw[List.pairwise_iff_getElem];intro a b ha gB sQ he;have h2:en[a]?=some en.toList[a]:=by rw[←Array.getElem?_toList];exact List.getElem?_eq_getElem ha
  have h3:en[b]?=some en.toList[b]:=by rw[←Array.getElem?_toList];exact List.getElem?_eq_getElem gB
  have:=(hb b _ h3).2 a _ h2 he;omega
 have Al:j<(kS en seen).length:=(List.getElem?_eq_some_iff.1 hj).1;have hil:i<(kS en seen).length:=(List.getElem?_eq_some_iff.1 hi).1;rw[List.getElem?_eq_getElem Al]at hj;rw[List.getElem?_eq_getElem hil]at hi;simp only[Option.some.injEq]at hj hi;rw[List.pairwise_iff_getElem]at WI;rcases Nat.lt_trichotomy j i with h|h|h
 ·exact absurd (by rw[hj,hi];exact e') (WI j i Al hil h)
 ·exact h
 ·exact absurd (by rw[hj,hi];exact e'.symm) (WI i j hil Al h)
theorem RM(h:e∈kS en seen):∃i:Nat,en[i]?=some e:=by unfold kS at h;have:=(List.mem_filter.1 h).1;obtain⟨i,hi⟩:=List.mem_iff_getElem?.1 this;exact⟨i,by rw[←Array.getElem?_toList];exact hi⟩
theorem RN{w:World}{g mg:Nat}(hg:w.heap[g]?=some (.mapIter (some mg) clock seen clock))(hm:w.heap[mg]?=some (.map en clock))(hb:lE en clock)(ty:TypeId):(kS en seen=[]∧(Instr.next (.pointer (some ⟨g,0,none⟩)) false ty).run P w=.ok (.tuple #[.bool false]) w)∨∃(j:Nat)(e:MapEntry)(w1:World),(kS en seen)[j]?=some e∧(w1=w∨w1=w.drew)∧(Instr.next (.pointer (some ⟨g,0,none⟩)) false ty).run P w=.ok (.tuple #[.bool true,e.key,e.val]) (w1.putObj g (.mapIter (some mg) clock (seen.push e.born) clock)):=by
 have hold:∀x∈en.toList,x.born<clock:=fun x hx=>by obtain⟨i,hi⟩:=List.mem_iff_getElem?.1 hx;exact(hb i x (by rw[←Array.getElem?_toList];exact hi)).1
 simp only[Instr.next,getObj,Sem.run_bind,Sem.run,hg,hm,Result.andThen,next_test_false seen en clock clock hold (Nat.le_refl _),Bool.false_eq_true,if_false];have hL:(Array.filter (fun e=> !seen.contains e.born) en).toList=kS en seen:=by simp[kS]
 have bJ:∀x∈(Array.filter (fun e=> !seen.contains e.born) en).toList,x.born<clock:=fun x hx=>hold x (by simp at hx⊢;exact hx.1);generalize Array.filter (fun e=> !seen.contains e.born) en=L at bJ hL⊢;have e1:L.filter (fun x=>decide (x.born<clock))=L:=Array.filter_eq_self.2 (fun x hx=>by simpa using bJ x (by simpa using hx));have e2:L.filter (fun x=>decide (x.born≥clock))= #[]:=by rw[Array.filter_eq_empty_iff];intro x hx;have:=bJ x (by simpa using hx);simp;omega
 simp only[e1,e2,Array.append_empty];rw[←hL];by_cases h0:L.size=0
 ·left;have:L= #[]:=Array.eq_empty_of_size_eq_zero h0;subst this;refine⟨rfl,?_⟩;simp[choose,Sem.run,Question.forced]
 ·right;have cB:L.isEmpty=false:=by simp[Array.isEmpty,h0]
  simp only[cB,Bool.false_eq_true,if_false,Array.empty_append,Array.size_map];have hch:∃(j:Nat)(w1:World),j<L.size∧(w1=w∨w1=w.drew)∧(choose (Question.mapNext L.size)).run P w=.ok j w1:=by
   by_cases hf:L.size≤1
   ·exact⟨0,w,by omega,.inl rfl,by simp[choose,Sem.run,Question.forced,hf]⟩
   ·exact⟨_,w.drew,Nat.mod_lt _ (by omega),.inr rfl,by simp only[choose,Sem.run,Question.forced,decide_eq_true_eq,hf,if_false,Question.cut];rfl⟩
  obtain⟨j,w1,hj,Hx,nu⟩:=hch;refine⟨j,L[j],w1,by rw[Array.getElem?_toList,Array.getElem?_eq_getElem hj],Hx,?_⟩;have hg1:w1.heap[g]?=some (.mapIter (some mg) clock seen clock):=by rcases Hx with rfl|rfl<;>exact hg
  have rM:(setObj g (.mapIter (some mg) clock (seen.push L[j].born) clock)).run P w1=.ok () (w1.putObj g (.mapIter (some mg) clock (seen.push L[j].born) clock)):=by simp only[setObj,Sem.run,hg1];rfl
  simp only[nu,Array.getElem?_map,Array.getElem?_eq_getElem hj,Option.map_some,Sem.run_bind,rM,Result.andThen];rfl
theorem Mj{w:World}{g mg:Nat}{i:Nat}(hg:w.heap[g]?=some (.mapIter (some mg) clock seen clock))(hm:w.heap[mg]?=some (.map en clock))(hb:lE en clock)(hi:en[i]?=some e)(hs:seen.back? =some e.born):(Instr.entry (.pointer (some ⟨g,0,none⟩))).run P w=.ok (.tuple #[e.key,e.val]) w:=by
 have hf:en.find? (·.born==e.born)=some e:=by
  rw[←Array.find?_toList];refine find_born e en.toList ?_ (by rw[Array.mem_toList_iff];exact Array.mem_of_getElem? hi);rw[List.Nodup,List.pairwise_map,List.pairwise_iff_getElem];intro a b ha gB sQ he;have h2:en[a]?=some en.toList[a]:=by rw[←Array.getElem?_toList];exact List.getElem?_eq_getElem ha
  have h3:en[b]?=some en.toList[b]:=by rw[←Array.getElem?_toList];exact List.getElem?_eq_getElem gB
  have:=(hb b _ h3).2 a _ h2 he;omega
 simp only[Instr.entry,getObj,Sem.run_bind,Sem.run,hg,hm,Result.andThen,hs,bne_self_eq_false,Bool.false_eq_true,if_false,hf];rfl
end
section
variable {R:Type} {E:Env}
variable{g:Nat→Option R}{r:R}
theorem Mk{n:Nat}(h:rT n g=some r)(i:Nat)(hi:i<n):g i=some r:=by
 unfold rT at h;split at h
 ·rename_i hh;simp only[Option.some.injEq]at h;subst h;exact Classical.choose_spec hh i hi
 ·cases h
theorem DE{n:Nat}(h0:0<n)(h:∀i,i<n→g i=some r):rT n g=some r:=by unfold rT;have hh:∃r,∀i,i<n→g i=some r:=⟨r,h⟩;rw[dif_pos hh];have:=Classical.choose_spec hh 0 h0;rw[h 0 h0]at this;exact this.symm
variable{k:V→Fr→Mem→Option R}
theorem RO{site:Nat}{t:TypeId}{x:V}{f:Fr}{m:Mem}(h:LY E site t x f m k=some r):∃f' m',k (.it site) f' m'=some r∧(m' site).isSome=true∧∀(G:Nat→Option (List PV))(w0:br)(μ:Ro)(φ:Nat→aA)(w:World)(ρ:Nat→Value)(y:Value),av E.P G w0 μ φ m w→bZ E.P μ φ m f ρ→ae E.P μ φ x y→∃w' y' μ' φ',(Instr.range t y).run E.P w=.ok y' w'∧av E.P G w0 μ' φ' m' w'∧bZ E.P μ' φ' m' f' ρ∧ae E.P μ' φ' (.it site) y':=by
 unfold LY at h;split at h
 ·rename_i kt et hu;split at h
  ·rename_i id;split at h
   ·rename_i vh es hm;split at h
    ·obtain⟨f',m',hn,qz,vl,xf,vi⟩:=ei h;refine⟨f',m',qz,by simp[vl],fun G w0 μ φ w ρ y hM hF hx=>?_⟩;obtain⟨g,en,clock,kk,hg,hh,hs,BM,Fc,uW,hv⟩:=hM.dy id _ hm;obtain⟨o1,o2⟩:=hM.own id _ g hm (.inl hg);cases hx with
     |om bP=>
      rw[hg]at bP;simp only[Option.some.injEq]at bP;subst bP;have ta:=hM.forget id;have hM2:=ta.abL o1 (fun j b hj e=>by obtain⟨cB,b',gB,rfl⟩:=eP hj;exact cB (hM.inj j id b' _ g gB hm (gj.1 e) (.inl hg)));have Gi:=lF ta (some g);have Cm:bZ E.P (pB μ w (some g)) φ (bh (bx id m) id) (eU id f) ρ:=(hF.forget id).mono Gi fun j hj=>⟨rfl,hj⟩;have jd:∀φ':Nat→aA,φ' site=(Ci (some w.heap.size) 0 0 0)→(∀j,(bE.iter t es none).names j=true→φ' j=φ j)→gC E.P (pB μ w (some g)) φ' (w.alloc (.mapIter (some g) clock #[] clock)) site (.iter t es none):=fun φ' hp _=>by
       refine⟨w.heap.size,g,en,clock,#[],by rw[hp],fA w _,by simp[pB,hh],uW,(by rw[Gh,Array.length_toList,hs]),fun i k v e h1 h2=>?_,fun k v h=>by cases h⟩;have LM:en[i]?=some e:=by rw[←Array.getElem?_toList,←Gh en];exact h2
       exact⟨(hv i k v e h1 LM).1.mono Gi,(hv i k v e h1 LM).2.mono Gi⟩
      obtain⟨φ',a1,a2,a3⟩:=vi E.P G w0 _ φ w (w.alloc (.mapIter (some g) clock #[] clock)) ρ (Ci (some w.heap.size) 0 0 0) hM2 Cm (kF.alloc (o:=.mapIter (some g) clock #[] clock) hM2 rfl jd (by simp[bE.names]));exact⟨_,_,_,φ',run_range_map w t kt et g en clock hu hh,a2,a3,.it (by rw[a1])⟩
    ·cases h
   ·cases h
  ·cases h
 ·cases h
theorem zp{A:Type}{l:List A}{i j:Nat}{x:A}(h:(l.eraseIdx i)[j]?=some x):l[if j<i then j else j+1]?=some x:=by
 rw[List.getElem?_eraseIdx]at h;split at h
 ·rename_i bm;rw[if_pos bm];exact h
 ·rename_i bm;rw[if_neg bm];exact h
theorem T8{x:V}{f:Fr}{m:Mem}(h:TA E x f m k=some r)(G:Nat→Option (List PV))(w0:br)(μ:Ro)(φ:Nat→aA)(w:World)(y:Value)(ty:TypeId)(hM:av E.P G w0 μ φ m w)(hx:ae E.P μ φ x y):∃v m' y' w',k v f m'=some r∧(∀id,v.has id=false)∧jW m m'∧(Instr.next y false ty).run E.P w=.ok y' w'∧av E.P G w0 μ φ m' w'∧ae E.P μ φ v y':=by
 unfold TA at h;split at h
 ·rename_i id;split at h
  ·rename_i t es cur hm;split at h
   ·rename_i kt et hu;obtain⟨g,mg,en,clock,seen,hg,hh,Dn,uW,xZ,hv,_⟩:=hM.dy id _ hm;obtain⟨o1,o2⟩:=hM.own id _ g hm (.inl hg);cases hx with
    |it bP=>
     rw[hg]at bP;simp only[Option.some.injEq]at bP;subst bP;have hmg:=hM.ro _ _ Dn;rcases RN (P:=E.P) hh hmg uW ty with⟨Xj,nu⟩|⟨j,e,w1,hj,DF,nu⟩
     ·have:es=[]:=by rw[Xj]at xZ;exact List.eq_nil_of_length_eq_zero xZ.symm
      subst this;simp only[List.isEmpty_nil,if_true]at h;refine⟨_,m,_,w,h,by simp[V.has,cm],jW.refl m,nu,hM,.bt rfl fun i p x hp hx=>?_⟩;cases i with
      |zero=>simp at hp hx;subst hp;subst hx;exact .pv .bool
      |succ i=>simp at hp
     ·have Al:j<(kS en seen).length:=(List.getElem?_eq_some_iff.1 hj).1;have cB:¬es.isEmpty=true:=by
       have ec:0<es.length:=by omega
       intro e';rw[List.isEmpty_iff]at e';rw[e']at ec;exact absurd ec (Nat.lt_irrefl 0)
      rw[if_neg cB]at h;have h:=Mk h j (by omega);obtain⟨e0,T9,h⟩:=Option.bind_eq_some_iff.1 h;obtain⟨qa,_,ha,ra,_⟩:=lq h;obtain⟨qb,_,hb,rb,_⟩:=lq ha;obtain⟨rk,rv⟩:=hv j e0.1 e0.2 e T9 hj;refine⟨_,_,_,_,hb,by simp[V.has,cm],.set,nu,?_,.bt rfl fun i p x hp hx=>?_⟩
      ·have ta:av E.P G w0 μ φ m w1:=by rcases DF with rfl|rfl;exact hM;exact hM.drew
       have bm:g<w1.heap.size:=by have:g<w.heap.size:=(Array.getElem?_eq_some_iff.1 hh).1;rcases DF with rfl|rfl<;>exact this
       refine ta.write hm rfl hg (Mi w1 g _) World.putObj_size (fun k hk=>World.putObj_heap_other hk) ?_ rfl (by simp[bE.names]);refine⟨g,mg,en,clock,seen.push e.born,hg,World.putObj_heap_same bm,Dn,uW,?_,fun i k v e' h1 h2=>?_,fun k v hc=>?_⟩
       ·rw[DD uW hj,List.length_eraseIdx,List.length_eraseIdx,xZ]
       ·rw[DD uW hj]at h2;exact hv _ k v e' (zp h1) (zp h2)
       ·simp only[Option.some.injEq,Prod.mk.injEq]at hc;obtain⟨rfl,rfl⟩:=hc;obtain⟨i,hi⟩:=RM (List.mem_of_getElem? hj);exact⟨i,e,hi,by simp,ra _ _ _ rk,rb _ _ _ rv⟩
      ·match i with
       |0=>simp at hp hx;subst hp;subst hx;exact .pv .bool
       |1=>simp at hp hx;subst hp;subst hx;exact .pv (ra _ _ _ rk)
       |2=>simp at hp hx;subst hp;subst hx;exact .pv (rb _ _ _ rv)
       |i+3=>simp at hp
   ·cases h
  ·cases h
 ·cases h
theorem RP{x:V}{m:Mem}{k:V→Mem→Option R}(h:LZ x m k=some r)(P:Program)(G:Nat→Option (List PV))(w0:br)(μ:Ro)(φ:Nat→aA)(w:World)(y:Value)(hM:av P G w0 μ φ m w)(hx:ae P μ φ x y):∃v m' y',k v m'=some r∧(∀id,v.has id=false)∧jW m m'∧(Instr.entry y).run P w=.ok y' w∧av P G w0 μ φ m' w∧ae P μ φ v y':=by
 unfold LZ at h;split at h
 ·rename_i id;split at h
  ·rename_i t es a b hm;obtain⟨g,mg,en,clock,seen,hg,hh,Dn,uW,xZ,hv,hcu⟩:=hM.dy id _ hm;obtain⟨i,e,hi,hs,ra,rb⟩:=hcu a b rfl;cases hx with
   |it bP=>
    rw[hg]at bP;simp only[Option.some.injEq]at bP;subst bP;refine⟨_,_,_,h,by simp[V.has,cm],.set,Mj hh (hM.ro _ _ Dn) uW hi hs,?_,.bt rfl fun i p x hp hx=>?_⟩
    ·exact hM.write hm rfl hg (kG.refl _ _) rfl (fun _ _=>rfl) ⟨g,mg,en,clock,seen,hg,hh,Dn,uW,xZ,hv,fun k v h=>by cases h⟩ rfl (by simp[bE.names])
    match i with
    |0=>simp at hp hx;subst hp;subst hx;exact .pv ra
    |1=>simp at hp hx;subst hp;subst hx;exact .pv rb
    |i+2=>simp at hp
  ·cases h
 ·cases h
end
end Go.Ab
set_option linter.unusedVariables false
namespace Go.Ab
section
variable {P:Program} {G:Nat→Option (List PV)} {w0:br} {μ μ':Ro} {φ φ':Nat→aA} {m m':Mem} {w w':World}
variable{id j:Nat}{b:bE}
theorem iF(h:e8 id m j=some b):∃b',m j=some b'∧b=dO id b':=by
 unfold e8 at h;cases hm:m j with
 |none=>rw[hm]at h;cases h
 |some b'=>rw[hm]at h;simp only[Option.some.injEq]at h;exact⟨b',rfl,h.symm⟩
theorem oa:(e8 id m j).isSome=(m j).isSome:=by unfold e8;cases m j<;>rfl
theorem BQ(id:Nat)(b:bE):(dO id b).rowAt=b.rowAt:=by cases b<;>rfl
theorem qB{p:aA}{g:Nat}:(dO id b).owns p g↔b.owns p g:=by unfold bE.owns;rw[BQ]
theorem vG{p:aA}:(dO id b).apart p↔b.apart p:=by unfold bE.apart;rw[BQ]
theorem yo(id:Nat)(b:bE):(dO id b).jD=b.jD:=by cases b<;>rfl
theorem Ml{cs:List V}(h:cm j (cs.map (nq id))=true):cm j cs=true:=by obtain⟨v,hv,hh⟩:=cL.1 h;obtain⟨u,hu,rfl⟩:=List.mem_map.1 hv;exact bI hu (wN hh).1
theorem gC.xt{id j:Nat}{b:bE}(h:gC P μ φ w j b):gC P μ φ w j (dO id b):=by
 cases b with
 |box cs=>obtain⟨g,c,T,hg,hh,hs,hv,h1,xZ⟩:=h;refine⟨g,c,T,hg,hh,by simpa using hs,fun i v x hi hx=>?_,h1,by simpa using xZ⟩;simp only[List.getElem?_map,Option.map_eq_some_iff]at hi;obtain⟨u,hu,rfl⟩:=hi;exact(hv i u x hu hx).xt id
 |_=>exact h
theorem av.ue(hM:av P G w0 μ φ m w)(id:Nat):av P G w0 μ φ (e8 id m) w:=by
 refine⟨hM.below,hM.ro,hM.aD,fun j b h=>?_,fun j b g h hg=>?_,fun i j b1 b2 g h1 h2 g1 g2=>?_,fun j b h=>?_,fun j cs i h hh=>?_,hM.base,hM.dA,fun j st h=>?_⟩
 ·obtain⟨b',hb,rfl⟩:=iF h;exact(hM.dy j b' hb).xt
 ·obtain⟨b',hb,rfl⟩:=iF h;rw[yo];exact hM.own j b' g hb (qB.1 hg)
 ·obtain⟨b1',WE,rfl⟩:=iF h1;obtain⟨b2',rV,rfl⟩:=iF h2;exact hM.inj i j b1' b2' g WE rV (qB.1 g1) (qB.1 g2)
 ·obtain⟨b',hb,rfl⟩:=iF h;exact vG.2 (hM.apart j b' hb)
 ·obtain⟨b',hb,e⟩:=iF h;cases b' with
  |box L8=>simp only[dO,bE.box.injEq]at e;subst e;rw[oa];exact hM.fJ j L8 i hb (Ml hh)
  |_=>simp[dO]at e
 ·obtain⟨b',hb,e⟩:=iF h;cases b' with
  |loop st'=>simp only[dO,bE.loop.injEq]at e;subst e;exact hM.BD j st hb
  |_=>simp[dO]at e
variable{ρ:Nat→Value}
theorem bZ.ue{f:Fr}(h:bZ P μ φ m f ρ)(id:Nat):bZ P μ φ (e8 id m) (ic id f) ρ:=⟨fun t=>(h.fr t).xt id,fun t j hj=>by rw[oa];exact h.live t j (wN hj).1⟩
theorem av.km:∀{kl:Kl}{m:Mem},av P G w0 μ φ m w→av P G w0 μ φ (Go.Ab.km kl m) w
 |[],_,h=>h
 |(true,id)::r,m,h=>(av.km (kl:=r) (m:=bh (bx id m) id) (h.forget id):)
 |(false,id)::r,m,h=>(av.km (kl:=r) (m:=e8 id m) (h.ue id):)
theorem bZ.km{ρ:Nat→Value}:∀{kl:Kl}{m:Mem}{f:Fr},bZ P μ φ m f ρ→bZ P μ φ (Go.Ab.km kl m) (kf kl f) ρ
 |[],_,_,h=>h
 |(true,id)::r,m,f,h=>(bZ.km (kl:=r) (m:=bh (bx id m) id) (f:=eU id f) (h.forget id):)
 |(false,id)::r,m,f,h=>(bZ.km (kl:=r) (m:=e8 id m) (f:=ic id f) (h.ue id):)
theorem av.Qa(hM:av P G w0 μ φ m w)(nw:Nat→Nat→Nat)(hblk:∀j b',m' j=some b'→gC P μ φ' w j b')(yj:∀j b' g,m' j=some b'→b'.owns (φ' j) g→∃k b,m k=some b∧b.owns (φ k) g∧(b'.jD=true→b.jD=true)∧j=nw g k)(Dt:∀j b',m' j=some b'→b'.apart (φ' j))(BC:∀j cs id,m' j=some (.box cs)→cm id cs=true→(m' id).isSome=true)(afi:∀j st,m' j=some (.loop st)→m j=some (.loop st)∧(φ' j).g=(φ j).g):av P G w0 μ φ' m' w:=by
 refine⟨hM.below,hM.ro,hM.aD,hblk,fun j b' g h hg=>?_,fun i j b1 b2 g h1 h2 g1 g2=>?_,Dt,BC,hM.base,hM.dA,fun j st h=>?_⟩
 ·obtain⟨k,b,hk,ho,Dn,_⟩:=yj j b' g h hg;obtain⟨o1,o2⟩:=hM.own k b g hk ho;exact⟨o1,fun h=>o2 (Dn h)⟩
 ·obtain⟨k1,c1,RQ,ho1,_,e1⟩:=yj i b1 g h1 g1;obtain⟨k2,c2,Xk,ho2,_,e2⟩:=yj j b2 g h2 g2;rw[e1,e2,hM.inj k1 k2 c1 c2 g RQ Xk ho1 ho2]
 ·obtain⟨h1,h2⟩:=afi j st h;obtain⟨g,rc,r1,r2,r3⟩:=hM.BD j st h1;exact⟨g,rc,by rw[h2];exact r1,r2,r3⟩
def ky(p:aA)(i off:Nat)(r:BE):aA:={p with row:=fun a b=>if a=i∧b=off then r else p.row a b}
theorem gv(p:aA)(i off:Nat)(r:BE):(ky p i off r).row i off=r:=by simp[ky]
theorem gD(p:aA){i off a b:Nat}(r:BE)(h:¬(a=i∧b=off)):(ky p i off r).row a b=p.row a b:=by simp[ky,h]
theorem gC.Qb(h:gC P μ φ w j (dO id b))(hj:j≠id)(h0:(φ' id).toBE=(φ id).toBE)(hφ:∀k,k≠id→φ' k=φ k):gC P μ φ' w j (dO id b):=by
 have e:=hφ j hj;cases b with
 |box cs=>
  obtain⟨g,c,T,hg,hh,hs,hv,h1,xZ⟩:=h;refine⟨g,c,T,by rw[e];exact hg,hh,hs,fun i v x hi hx=>?_,h1,by rw[e];exact xZ⟩;refine(hv i v x hi hx).YT (fun _ _ h=>h) fun k hk=>?_;by_cases Xl:k=id
  ·subst Xl;refine⟨h0,fun h2=>?_⟩;simp only[List.getElem?_map,Option.map_eq_some_iff]at hi;obtain⟨u,hu,rfl⟩:=hi;rw[(wN hk).2]at h2;cases h2
  ·rw[hφ k Xl];exact⟨rfl,fun _=>rfl⟩
 |arr sz et es=>exact gC.cD h (fun k hk=>by simp[bE.names,dO]at hk) e (fun _ _ h=>h) (fun _ _=>rfl)
 |pR sz et es=>exact gC.cD h (fun k hk=>by simp[bE.names,dO]at hk) e (fun _ _ h=>h) (fun _ _=>rfl)
 |map kt es=>exact gC.cD h (fun k hk=>by simp[bE.names,dO]at hk) e (fun _ _ h=>h) (fun _ _=>rfl)
 |nest sz et es=>exact gC.cD h (fun k hk=>by simp[bE.names,dO]at hk) e (fun _ _ h=>h) (fun _ _=>rfl)
 |fe kt e0 es=>exact gC.cD h (fun k hk=>by simp[bE.names,dO]at hk) e (fun _ _ h=>h) (fun _ _=>rfl)
 |loop st=>exact gC.cD h (fun k hk=>by simp[bE.names,dO]at hk) e (fun _ _ h=>h) (fun _ _=>rfl)
 |iter t es cur=>exact gC.cD h (fun k hk=>by simp[bE.names,dO]at hk) e (fun _ _ h=>h) (fun _ _=>rfl)
theorem bZ.Y7{f:Fr}(h:bZ P μ φ m (ic id f) ρ)(h0:(φ' id).toBE=(φ id).toBE)(hφ:∀k,k≠id→φ' k=φ k)(hl:∀j,(m j).isSome=true→(m' j).isSome=true):bZ P μ φ' m' (ic id f) ρ:=by
 refine⟨fun t=>(h.fr t).YT (fun _ _ h=>h) fun k hk=>?_,fun t j hj=>hl j (h.live t j hj)⟩;by_cases Xl:k=id
 ·subst Xl;refine⟨h0,fun h2=>?_⟩;have:=(wN (show(nq k (f t)).has k=true from hk)).2;rw[show ic k f t=nq k (f t)from rfl,this]at h2;cases h2
 ·rw[hφ k Xl];exact⟨rfl,fun _=>rfl⟩
theorem fv{id2:Nat}{b':bE}(h:ak (e8 id (bh (bx id2 m) id2)) id b j=some b'):(j=id∧b'=b)∨(j≠id∧j≠id2∧∃c,m j=some c∧b'=dO id (gq id2 c)):=by
 by_cases e:j=id
 ·subst e;rw[aK]at h;simp only[Option.some.injEq]at h;exact .inl ⟨rfl,h.symm⟩
 ·rw[al e]at h;obtain⟨c1,h1,rfl⟩:=iF h;obtain⟨cB,c,hc,rfl⟩:=eP h1;exact .inr ⟨e,cB,c,hc,rfl⟩
theorem Mm{x:Value}(h:ae P μ φ (.os id) x):ae P μ (fun _=>((φ id).toBE).up) (.os 0) x:=by
 cases h with
 |rL h=>exact .rL h
 |os h=>exact .os (id:=0) (φ:=fun _=>((φ id).toBE).up) h
theorem aF.up{sz:Nat}{et:TypeId}{es:List PV}(h:aF P μ φ w id sz et es):aF P μ (fun _=>((φ id).toBE).up) w 0 sz et es:=h
theorem av.aah(hM:av P G w0 μ φ m w){id2 i off s s2:Nat}{et Jz:TypeId}{es rs:List PV}{e q:PV}{x:Value}(cB:id2≠id)(hm:m id=some (.nest s et es))(cq:m id2=some (.arr s2 Jz rs))(he:es[i]?=some e)(xB:e.cells[off]?=some .bad)(hx:∀g c T,(φ id).g=some g→w.heap[g]?=some (.cells c T (0,0))→c[i*s+off]?=some x)(hv:ae P μ φ (.os id2) x)(hq:q.cells=e.cells.set off (.pG s2 rs)):av P G w0 μ (fun j=>if j=id then ky (φ id) i off (φ id2).toBE else φ j) (ak (e8 id (bh (bx id2 m) id2)) id (.nest s et (es.set i q))) w:=by
 have ta:=(hM.forget id2).ue id;have hN:aV P μ φ w id s et es:=hM.dy id _ hm;have hA2:aF P μ φ w id2 s2 Jz rs:=hM.dy id2 _ cq;have hil:i<es.length:=(List.getElem?_eq_some_iff.1 he).1;have hol:off<e.cells.length:=(List.getElem?_eq_some_iff.1 xB).1;have jT:∀a b,(bE.nest s et (es.set i q)).rowAt a b=true→(a=i∧b=off)∨((bE.nest s et es).rowAt a b=true∧¬(a=i∧b=off)):=by
  intro a b hr;by_cases sQ:a=i∧b=off
  ·exact .inl sQ
  ·refine .inr ⟨?_,sQ⟩;rcases jV hr with⟨_,_,_,e',s',rs',gB,h',rW⟩|⟨_,_,_,_,_,_,gB,_⟩
   ·simp only[bE.nest.injEq]at gB;obtain⟨rfl,rfl,rfl⟩:=gB;rcases eF h' with⟨rfl,rfl⟩|⟨TW,h'⟩
    ·rw[hq]at rW;rcases eF rW with⟨rfl,_⟩|⟨hnj,rW⟩
     ·exact absurd ⟨rfl,rfl⟩ sQ
     ·rw[dv he rW];rfl
    ·rw[dv h' rW];rfl
   ·cases gB
 refine hM.Qa (fun _ k=>if k=id2 then id else k) (fun j b' hj=>?_) (fun j b' g hj ho=>?_) (fun j b' hj=>?_) (fun j cs k hj hk=>?_) (fun j st hj=>?_)
 ·rcases fv hj with⟨rfl,rfl⟩|⟨h1,h2,c,hc,rfl⟩
  ·show aV P μ (fun k=>if k=j then ky (φ j) i off (φ id2).toBE else φ k) w j s et (es.set i q);refine aV.change (μ':=μ) (w':=w) (es':=es.set i q) hN (by simp) (fun i' e' h'=>?_) (by simp[ky]) (fun _ _=>rfl) (fun i' e' j' p' g c T x' h' rW hg hc Js hold=>?_)
   ·rcases eF h' with⟨_,rfl⟩|⟨_,h'⟩
    ·rw[hq,List.length_set];exact hN.2.2.2.2.1 i e he
    ·exact hN.2.2.2.2.1 i' e' h'
   ·simp only[if_true];by_cases sQ:i'=i∧j'=off
    ·obtain⟨rfl,rfl⟩:=sQ;rw[gv];have e1:e'=q:=by
      rcases eF h' with⟨_,h⟩|⟨h,_⟩
      ·exact h
      ·exact absurd rfl h
     subst e1;rw[hq]at rW;have e2:p'=.pG s2 rs:=by
      rcases eF rW with⟨_,h⟩|⟨h,_⟩
      ·exact h
      ·exact absurd rfl h
     subst e2;have e3:x'=x:=by have:=hx g c _ hg hc;rw[Js]at this;simpa using this
     subst e3;exact⟨⟨Jz,hA2.up⟩,Mm hv⟩
    ·rw[gD _ _ sQ];rcases eF h' with⟨rfl,rfl⟩|⟨TW,h'⟩
     ·rw[hq]at rW;rcases eF rW with⟨rfl,_⟩|⟨hnj,rW⟩
      ·exact absurd ⟨rfl,rfl⟩ sQ
      ·exact hold e p' he rW
     ·exact hold e' p' h' rW
  ·have hb:gC P μ φ w j (dO id (gq id2 c)):=(hM.dy j c hc).kill.xt;exact hb.Qb h1 (by simp[ky]) fun k hk=>by simp[hk]
 ·rcases fv hj with⟨rfl,rfl⟩|⟨h1,h2,c,hc,rfl⟩
  ·simp only[if_true]at ho;rcases ho with ho|⟨a,b,hr,ho⟩
   ·exact⟨j,_,hm,.inl ho,fun _=>rfl,by simp[cB.symm]⟩
   ·rcases jT a b hr with⟨rfl,rfl⟩|⟨yb,sQ⟩
    ·rw[gv]at ho;exact⟨id2,_,cq,.inl ho,fun _=>rfl,by simp⟩
    ·rw[gD _ _ sQ]at ho;exact⟨j,_,hm,.inr ⟨a,b,yb,ho⟩,fun _=>rfl,by simp[cB.symm]⟩
  ·simp only[h1,if_false]at ho;exact⟨j,c,hc,gj.1 (qB.1 ho),fun h=>by rw[yo,wS]at h;exact h,by simp[h2]⟩
 ·rcases fv hj with⟨rfl,rfl⟩|⟨h1,h2,c,hc,rfl⟩
  ·simp only[if_true];have Dt:=hM.apart j _ hm;have new:∀g,(φ id2).g=some g→¬(bE.nest s et es).owns (φ j) g:=fun g hg ho=>cB (hM.inj id2 j _ _ g cq hm (.inl hg) ho);intro a b g hr hg;rcases jT a b hr with⟨rfl,rfl⟩|⟨yb,sQ⟩
   ·rw[gv]at hg;refine⟨fun h=>new g hg (.inl h),fun a' b' AK Mn=>?_⟩;rcases jT a' b' AK with h|⟨Xm,Mo⟩
    ·exact h
    ·rw[gD _ _ Mo]at Mn;exact absurd (.inr ⟨a',b',Xm,Mn⟩) (new g hg)
   ·rw[gD _ _ sQ]at hg;obtain⟨h3,h4⟩:=Dt a b g yb hg;refine⟨h3,fun a' b' AK Mn=>?_⟩;rcases jT a' b' AK with⟨rfl,rfl⟩|⟨Xm,Mo⟩
    ·rw[gv]at Mn;exact absurd (.inr ⟨a,b,yb,hg⟩) (new g Mn)
    ·rw[gD _ _ Mo]at Mn;exact h4 a' b' Xm Mn
  ·simp only[h1,if_false];exact vG.2 (uc.2 (hM.apart j c hc))
 ·rcases fv hj with⟨rfl,hb⟩|⟨h1,h2,c,hc,hb⟩
  ·cases hb
  ·have I2:e8 id (bh (bx id2 m) id2) j=some (.box cs):=by rw[al h1]at hj;exact hj
   have:=ta.fJ j cs k I2 hk;by_cases e:k=id
   ·subst e;simp
   ·rw[al e];exact this
 ·rcases fv hj with⟨rfl,hb⟩|⟨h1,h2,c,hc,hb⟩
  ·cases hb
  ·cases c<;>first|(simp[dO,gq]at hb;done)|skip
   simp only[dO,gq,bE.loop.injEq]at hb;subst hb;exact⟨hc,by simp[h1]⟩
end
end Go.Ab
set_option linter.unusedVariables false
namespace Go.Ab
def lH(k:PV):List (PV×PV)→Option Nat
 |[]=>none
 |(a,_)::r=>if dK k.cells a.cells then some 0 else(lH k r).map (·+1)
def jG(es:List (PV×PV)):List (PV×PV):=es.map fun x=>(x.1,.bad)
theorem DG(k:PV):∀es,lH k (jG es)=lH k es
 |[]=>rfl
 |(a,u)::r=>by simp only[jG,List.map_cons,lH];rw[←DG k r];rfl
theorem CI{k:PV}:∀{es:List (PV×PV)}{j:Nat},lH k es=some j→∃a u,es[j]?=some (a,u)∧dK k.cells a.cells=true
 |(a,u)::r,j,h=>by
  simp only[lH]at h;split at h
  ·rename_i hp;simp only[Option.some.injEq]at h;subst h;exact⟨a,u,rfl,hp⟩
  ·obtain⟨i,hi,rfl⟩:=Option.map_eq_some_iff.1 h;simpa using CI hi
theorem mn(k v:PV):∀es,eS k v es=match lH k es with|some j=>es.set j (k,v)|none=>es++[(k,v)]
 |[]=>rfl
 |(a,u)::r=>by
  simp only[eS,lH];split
  ·rfl
  ·rw[mn k v r];cases lH k r<;>rfl
theorem td(k:PV):∀es,rQ k es=match lH k es with|some j=>es.modify j fun x=>(x.1,.bad)|none=>es
 |[]=>rfl
 |(a,u)::r=>by
  simp only[rQ,lH];split
  ·rfl
  ·rw[td k r];cases lH k r<;>simp
theorem JA(sz:Nat)(k:PV):∀es,I5 sz k es=match lH k es with|some j=>(es[j]?).bind fun x=>eT sz x.2|none=>some []
 |[]=>rfl
 |(a,u)::r=>by
  simp only[I5,lH];split
  ·simp
  ·rw[JA sz k r];cases lH k r<;>simp
theorem Gj{k z:PV}{l:List (PV×PV)}{es:List MapEntry}{i:Nat}{r:Option (Nat×Value)}(h:Found k .pF z (jG l) es i r):(r=none∧lH k l=none)∨∃j e,r=some (i+j,e.val)∧es[j]?=some e∧lH k l=some j:=by
 cases h with
 |none h1 h2 h3=>
  refine .inl ⟨rfl,?_⟩;rw[mn]at h3;rw[←DG];cases hp:lH k (jG l)with
  |none=>rfl
  |some j=>rw[hp]at h3;have:=congrArg List.length h3;simp at this
 | @some j a u e h1 h2 h3 h4 h5 h6=>
  refine .inr ⟨j,e,rfl,h2,?_⟩;rw[mn]at h6;rw[←DG];have bm:j<(jG l).length:=(List.getElem?_eq_some_iff.1 h1).1;cases hp:lH k (jG l)with
  |none=>rw[hp]at h6;have:=congrArg List.length h6;simp at this
  |some j'=>
   rw[hp]at h6;simp only at h6;obtain⟨a',u',I2,_⟩:=CI hp;have afj:j'<(jG l).length:=(List.getElem?_eq_some_iff.1 I2).1;have e1:((jG l).set j (k,.pF))[j']?=some (k,.pF):=by rw[←h6];simp[afj]
   rw[List.getElem?_set]at e1;split at e1
   ·rename_i h;rw[h]
   ·exfalso;simp only[jG,List.getElem?_map,Option.map_eq_some_iff]at e1;obtain⟨x,_,hx⟩:=e1;simp at hx
section
variable {P:Program} {G:Nat→Option (List PV)} {w0:br} {μ μ':Ro} {φ φ':Nat→aA} {m m':Mem} {w w':World}
def DH(P:Program)(μ:Ro)(R:BE)(w:World)(e0:TypeId)(v:PV)(x:Value):Prop:=match v with
 |.pG s rs=>aF P μ (fun _=>R.up) w 0 s e0 rs∧ae P μ (fun _=>R.up) (.os 0) x
 |v=>af P μ v x
variable{e0:TypeId}
theorem DH.pure{R:BE}{v:PV}{x:Value}(h:af P μ v x):DH P μ R w e0 v x:=by
 unfold DH;split
 ·cases h
 ·exact h
structure Mp(P:Program)(μ:Ro)(p:aA)(w:World)(kt e0:TypeId)(es:List (PV×PV))(g:Nat)(en:Array MapEntry)(clock:Nat)(kk:List Kd):Prop where
 pl:p.g=some g
 heap:w.heap[g]?=some (.map en clock)
 size:en.size=es.length
 Aj:rR P kt=some kk
 key:∀(i:Nat)k v,es[i]?=some (k,v)→uS P kt kk k=true
 born:lE en clock
 rep:∀(i:Nat)k v e,es[i]?=some (k,v)→en[i]?=some e→af P μ k e.key∧DH P μ (p.row i 0) w e0 v e.val
variable{kt:TypeId}{es:List (PV×PV)}
theorem te{id:Nat}:gC P μ φ w id (.fe kt e0 es)↔∃g en clock kk,Mp P μ (φ id) w kt e0 es g en clock kk:=by
 constructor
 ·rintro⟨g,en,clock,kk,h1,h2,h3,h4,h5,h6,h7⟩;exact⟨g,en,clock,kk,h1,h2,h3,h4,h5,h6,fun i k v e a b=>h7 i k v e a b⟩
 ·rintro⟨g,en,clock,kk,h1,h2,h3,h4,h5,h6,h7⟩;exact⟨g,en,clock,kk,h1,h2,h3,h4,h5,h6,fun i k v e a b=>h7 i k v e a b⟩
variable{en:Array MapEntry}
theorem Mp.ent{p:aA}{g:Nat}{clock:Nat}{kk:List Kd}(h:Mp P μ p w kt e0 es g en clock kk):vE P μ kt kk (jG es) en.toList:=by
 refine⟨by simp[jG,h.size],fun i k v hi=>?_,fun i k v e hi he=>?_⟩
 ·simp only[jG,List.getElem?_map,Option.map_eq_some_iff]at hi;obtain⟨⟨a,u⟩,hq,hx⟩:=hi;simp only[Prod.mk.injEq]at hx;obtain⟨rfl,rfl⟩:=hx;exact h.key i a u hq
 ·simp only[jG,List.getElem?_map,Option.map_eq_some_iff]at hi;obtain⟨⟨a,u⟩,hq,hx⟩:=hi;simp only[Prod.mk.injEq]at hx;obtain⟨rfl,rfl⟩:=hx;exact⟨(h.rep i a u e hq (by simpa using he)).1,.bad⟩
theorem DJ{t et:TypeId}{ks:List Kd}{key:PV}{zv yi:Value}{g clock:Nat}{l:List (PV×PV)}(hu:P.underlying t=some (.map kt et))(hk:rR P kt=some ks)(tc:uS P kt ks key=true)(hyi:af P μ key yi)(hg:w.heap[g]?=some (.map en clock))(hE:vE P μ kt ks (jG l) en.toList)(hz:(zeroValue et).run P w=.ok zv w):(lH key l=none∧(Instr.lookup t (.map (some g)) yi false).run P w=.ok zv w)∨∃j e,lH key l=some j∧en[j]?=some e∧(Instr.lookup t (.map (some g)) yi false).run P w=.ok e.val w:=by
 have RI:=wU hk;obtain⟨hc,hv⟩:=lU tc hyi;obtain⟨r,r1,r2⟩:=lv (v:=.pF) (z:=.bad) RI hc w hE;have h1:=il 8 kt ks RI 9992 w en.isEmpty key.cells hc;have Cl:=Go.MapKept.run_getObj_map (P:=P) hg;have P8:(Instr.checkKey en.isEmpty 10000 kt (eO P kt key.cells)).run P w=.ok () w:=h1;rw[hv];unfold Instr.lookup;simp only[Sem.run_bind,run_underlying hu,Result.andThen_ok,Sem.run_pure,Cl];rcases Gj r2 with⟨rfl,h⟩|⟨j,e,rfl,he,h⟩
 ·exact .inl ⟨h,by simp[P8,r1,hz]⟩
 ·exact .inr ⟨j,e,h,by simpa using he,by simp[P8,r1]⟩
end
section
variable {R:Type} {E:Env}
theorem Mq{t:TypeId}(h:zeroV E.P t=some .hZ)(w:World):(zeroValue t).run E.P w=.ok (.slice none 0 0) w:=by unfold zeroV at h;obtain⟨c,hc,h⟩:=Option.map_eq_some_iff.1 h;obtain⟨i,hi,hz⟩:=Option.bind_eq_some_iff.1 hc;have:=sW (P:=E.P) (μ:=fun _=>none) (φ:=fun _=>default) c;rw[h]at this;cases this;exact nZ hi hz
theorem Ua{site:Nat}{t:TypeId}{x ix:V}{m:Mem}{k:V→Mem→bk→Option R}{r:R}(h:I9 E site t x ix m k=some r):∃id b1 b2 m',m'=sN [(id,b1),(site,b2)] m∧k (.os site) m' [(true,id),(true,site)]=some r∧m site=none∧b2.names=(fun _=>false)∧b1.names=(fun _=>false)∧(m id).isSome=true∧(∀m2:Mem,m2 id=m id→m2 site=none→∀(R':Type)(k':V→Mem→bk→Option R'),I9 E site t x ix m2 k'=k' (.os site) (sN [(id,b1),(site,b2)] m2) [(true,id),(true,site)])∧∀(G:Nat→Option (List PV))(w0:br)(μ:Ro)(φ:Nat→aA)(w:World)(f:Fr)(ρ:Nat→Value)(y yi:Value),av E.P G w0 μ φ m w→bZ E.P μ φ m f ρ→ae E.P μ φ x y→ae E.P μ φ ix yi→∃u φ',(Instr.lookup t y yi false).run E.P w=.ok u w∧av E.P G w0 μ φ' m' w∧bZ E.P μ φ' m' f ρ∧ae E.P μ φ' (.os site) u:=by
 unfold I9 at h;split at h
 ·rename_i kt et hu;split at h
  ·rename_i e hue;split at h
   ·rename_i id hz;split at h
    ·rename_i vh e' es hm hs;split at h
     ·rename_i hc;obtain⟨rfl,rfl,ec⟩:=hc;obtain⟨key,tc,h⟩:=Option.bind_eq_some_iff.1 h;obtain⟨rs,hrs,h⟩:=Option.bind_eq_some_iff.1 h;obtain⟨ks,k1,k2,k3⟩:=tb tc;have cB:site≠id:=fun e=>by subst e;rw[hs]at hm;cases hm
      refine⟨id,.fe vh e' (rQ key es),.arr (aP E.P e') e' rs,_,rfl,h,hs,rfl,rfl,by rw[hm];rfl,fun m2 h1 h2 R' k'=>?_,fun G w0 μ φ w f ρ y yi hM hF hx hi=>?_⟩
      ·simp only[I9,hu,hue,hz,h1,h2,hm,tc,hrs,Option.bind_some,ec,and_self,if_true];rfl
      ·obtain⟨g,en,clock,kk,hN⟩:=te.1 (hM.dy id _ hm);have BM:=hN.Aj;rw[k1]at BM;simp only[Option.some.injEq]at BM;subst BM;cases hx with
       |om bP=>
        rw[hN.pl]at bP;simp only[Option.some.injEq]at bP;subst bP;have Ub:=DJ hu k1 k2 (k3 μ φ yi hi) hN.heap hN.ent (Mq hz w);have Xn:∀i off,(bE.fe vh e' (rQ key es)).rowAt i off=true→(bE.fe vh e' es).rowAt i off=true∧lH key es≠some i:=by
         intro i off hr;rcases jV hr with⟨_,_,_,_,_,_,hb,_⟩|⟨_,_,_,k0,s0,rs0,hb,rfl,he⟩
         ·cases hb
         ·simp only[bE.fe.injEq]at hb;obtain⟨rfl,rfl,rfl⟩:=hb;rw[td]at he;cases hp:lH key es with
          |none=>rw[hp]at he;simp only at he;exact⟨by rw[jU he];rfl,by simp⟩
          |some j=>
           rw[hp]at he;simp only[List.getElem?_modify]at he;split at he
           ·rename_i Mr;exfalso;obtain⟨x0,_,Ma⟩:=Option.map_eq_some_iff.1 he;simp at Ma
           ·rename_i Mr;have he:es[i]?=some (k0,PV.pG s0 rs0):=by simpa using he
            exact⟨by rw[jU he];rfl,fun h=>Mr (by simpa using h)⟩
        have ta:av E.P G w0 μ φ (ak m id (.fe vh e' (rQ key es))) w:=by
         refine hM.write hm rfl hN.pl (kG.refl _ _) rfl (fun _ _=>rfl) (te.2 ⟨g,en,clock,ks,hN.pl,hN.heap,?_,k1,fun i k0 v0 h0=>?_,hN.born,fun i k0 v0 e0 h0 T9=>?_⟩) rfl (by simp[bE.names]) (fun st h=>by cases h) (fun i off hr=>(Xn i off hr).1)
         ·rw[hN.size,td];cases lH key es<;>simp
         ·rw[td]at h0;cases hp:lH key es with
          |none=>rw[hp]at h0;exact hN.key i k0 v0 h0
          |some j=>
           rw[hp]at h0;simp only[List.getElem?_modify]at h0;obtain⟨x0,Ma,hq⟩:=Option.map_eq_some_iff.1 h0;obtain⟨xa,xu⟩:=x0;split at hq
           ·simp only[Prod.mk.injEq]at hq;rw[←hq.1];exact hN.key i xa xu Ma
           ·simp only[id_eq,Prod.mk.injEq]at hq;rw[←hq.1];exact hN.key i xa xu Ma
         ·rw[td]at h0;cases hp:lH key es with
          |none=>rw[hp]at h0;exact hN.rep i k0 v0 e0 h0 T9
          |some j=>
           rw[hp]at h0;simp only[List.getElem?_modify]at h0;obtain⟨x0,Ma,hq⟩:=Option.map_eq_some_iff.1 h0;obtain⟨xa,xu⟩:=x0;obtain⟨q1,q2⟩:=hN.rep i xa xu e0 Ma T9;split at hq
           ·simp only[Prod.mk.injEq]at hq;obtain⟨rfl,rfl⟩:=hq;exact⟨q1,.pure .bad⟩
           ·simp only[id_eq,Prod.mk.injEq]at hq;obtain⟨rfl,rfl⟩:=hq;exact⟨q1,q2⟩
        have abN:∀(ph:aA)(u:Value),aF E.P μ (fun _=>ph) w 0 (aP E.P e') e' rs→ae E.P μ (fun _=>ph) (.os 0) u→(∀g',ph.g=some g'→∃j,lH key es=some j∧(bE.fe vh e' es).rowAt j 0=true∧((φ id).row j 0).g=some g')→∃φ',av E.P G w0 μ φ' (sN [(id,.fe vh e' (rQ key es)),(site,.arr (aP E.P e') e' rs)] m) w∧bZ E.P μ φ' (sN [(id,.fe vh e' (rQ key es)),(site,.arr (aP E.P e') e' rs)] m) f ρ∧ae E.P μ φ' (.os site) u:=by
         intro ph u hA hV Cl;have F7:∀j,(m j).isSome=true→j≠site:=fun j hj e=>by subst e;rw[hs]at hj;cases hj
         refine⟨fun i=>if i=site then ph else φ i,?_,?_,?_⟩
         ·refine ta.put (by rw[al cB];exact hs) (kG.refl _ _) hM.ro (fun _ _ _ _ _=>rfl) (fun g' bP=>?_) (qv pS) ?_ (by simp[bE.names]) (fun st h=>by cases h)
          ·have bP:=nY pS bP;obtain⟨j,hj,hr,hjg⟩:=Cl g' bP;obtain⟨o1,o2⟩:=hM.own id _ g' hm (.inr ⟨j,0,hr,hjg⟩);refine⟨o1,o2 rfl,fun i b' hi ho=>?_⟩;by_cases Ga:i=id
           ·subst Ga;rw[aK]at hi;simp only[Option.some.injEq]at hi;subst hi;obtain⟨a1,a2⟩:=hM.apart i _ hm j 0 g' hr hjg;rcases ho with ho|⟨i',si,yb,ho⟩
            ·exact a1 ho
            ·obtain⟨h3,h4⟩:=Xn i' si yb;exact h4 (by rw[hj,(a2 i' si h3 ho).1])
           ·rw[al Ga]at hi;exact Ga (hM.inj i id _ _ g' hi hm ho (.inr ⟨j,0,hr,hjg⟩))
          ·exact aF.move (φ':=fun i=>if i=site then ph else φ i) (j:=site) hA (by simp) (fun _ _ h=>h)
         ·refine hF.mono (fun _ _ h=>h) fun j hj=>⟨by simp[F7 j hj],?_⟩;show(ak (ak m id _) site _ j).isSome=true;rw[al (F7 j hj)];by_cases Mr:j=id
          ·subst Mr;simp
          ·rw[al Mr];exact hj
         ·cases hV with
          |rL h=>exact .rL (by simpa using h)
          | @os _ g0 h=>have:=ae.os (P:=E.P) (μ:=μ) (φ:=fun i=>if i=site then ph else φ i) (id:=site) (g:=g0) (by simpa using h);simpa using this
        rw[JA]at hrs;rcases Ub with⟨hp,nu⟩|⟨j,en0,hp,hen,nu⟩
        ·rw[hp]at hrs;simp only[Option.some.injEq]at hrs;subst hrs;obtain⟨φ',a1,a2,a3⟩:=abN (Ci none 0 0 (aP E.P e')) (.slice none 0 0) ⟨rfl,rfl,rfl,ec,by simp,by simp[maxLen],⟨rfl,rfl⟩⟩ (.rL rfl) (fun g' bP=>by cases bP);exact⟨_,φ',nu,a1,a2,a3⟩
        ·rw[hp]at hrs;obtain⟨x0,Ma,jT⟩:=Option.bind_eq_some_iff.1 hrs;obtain⟨xa,xu⟩:=x0;have hxu:=Jm jT;simp only at hxu;subst hxu;obtain⟨_,q2⟩:=hN.rep j xa _ en0 Ma hen;obtain⟨φ',a1,a2,a3⟩:=abN ((φ id).row j 0).up en0.val q2.1 q2.2 (fun g' bP=>⟨j,hp,by rw[jU Ma];rfl,bP⟩);exact⟨_,φ',nu,a1,a2,a3⟩
     ·cases h
    ·cases h
   ·cases h
  ·cases h
 ·cases h
end
end Go.Ab
set_option linter.unusedVariables false
namespace Go.Ab
theorem DK{m:Mem}:∀{cs:List V}{j0:Nat}{ps:List PV}{tk:Option (Nat×Nat)},kR m j0 cs=some (ps,tk)→ps.length=cs.length∧(tk=none→∀(i:Nat)p,ps[i]?=some p→∃v,cs[i]?=some v∧kD cW 1 v=some p)∧∀j id2,tk=some (j,id2)→∃l s2 Jz rs,cs[l]?=some (.os id2)∧m id2=some (.arr s2 Jz rs)∧ps[l]?=some (.pG s2 rs)∧∀(i:Nat)p,i≠l→ps[i]?=some p→∃v,cs[i]?=some v∧kD cW 1 v=some p
 |[],j0,ps,tk,h=>by simp only[kR,Option.some.injEq,Prod.mk.injEq]at h;obtain⟨rfl,rfl⟩:=h;exact⟨rfl,fun _ i p hp=>by simp at hp,fun j id2 h=>by cases h⟩
 |v::r,j0,ps,tk,h=>by
  have plain:∀{p:PV},kD cW 1 v=some p→(match kR m (j0+1) r with
   |some (ps,t)=>some (p::ps,t)
   |none=>none)=some (ps,tk)→ps.length=(v::r).length∧
   (tk=none→∀(i:Nat)p,ps[i]?=some p→∃u,(v::r)[i]?=some u∧kD cW 1 u=some p)∧
   ∀j id2,tk=some (j,id2)→∃l s2 Jz rs,(v::r)[l]?=some (.os id2)∧m id2=some (.arr s2 Jz rs)∧ps[l]?=some (.pG s2 rs)∧∀(i:Nat)p,i≠l→ps[i]?=some p→∃u,(v::r)[i]?=some u∧kD cW 1 u=some p:=by
   intro p hp h
   split at h
   ·rename_i ps' t ht;simp only[Option.some.injEq,Prod.mk.injEq]at h;obtain⟨rfl,rfl⟩:=h;obtain⟨h1,h2,h3⟩:=DK ht;refine⟨by simp[h1],fun hn i q hq=>?_,fun j id2 hj=>?_⟩
    ·cases i with
     |zero=>simp at hq;subst hq;exact⟨v,rfl,hp⟩
     |succ i=>simpa using h2 hn i q (by simpa using hq)
    ·obtain⟨l,s2,Jz,rs,a1,a2,a3,a4⟩:=h3 j id2 hj;refine⟨l+1,s2,Jz,rs,by simpa using a1,a2,by simpa using a3,fun i q hi hq=>?_⟩;cases i with
     |zero=>simp at hq;subst hq;exact⟨v,rfl,hp⟩
     |succ i=>simpa using a4 i q (by omega) (by simpa using hq)
   ·cases h
  unfold kR at h;split at h
  ·rename_i heq;cases heq
  ·rename_i j id r' heq;simp only[List.cons.injEq]at heq;obtain⟨rfl,rfl⟩:=heq;split at h
   ·rename_i s et es hm;split at h
    ·rename_i ps' ht;simp only[Option.some.injEq,Prod.mk.injEq]at h;obtain⟨rfl,rfl⟩:=h;obtain⟨h1,h2,_⟩:=DK ht;refine⟨by simp[h1],fun hn=>(nomatch hn),fun j id2 hj=>?_⟩;simp only[Option.some.injEq,Prod.mk.injEq]at hj;obtain⟨rfl,rfl⟩:=hj;refine⟨0,s,et,es,rfl,hm,rfl,fun i q hi hq=>?_⟩;cases i with
     |zero=>exact absurd rfl hi
     |succ i=>simpa using h2 rfl i q (by simpa using hq)
    ·cases h
   ·cases h
  ·rename_i j v' r' _ heq;simp only[List.cons.injEq]at heq;obtain⟨rfl,rfl⟩:=heq;split at h
   ·rename_i p hp;exact plain hp h
   ·cases h
section
variable {P:Program} {G:Nat→Option (List PV)} {w0:br} {μ μ':Ro} {φ φ':Nat→aA} {m m':Mem} {w w':World}
theorem DL{v:V}{n j id2:Nat}{cs:List V}{ps:List PV}(hc:toCells n v=some cs)(h:kR m 0 cs=some (ps,some (j,id2))):∃l s2 Jz rs,m id2=some (.arr s2 Jz rs)∧ps[l]?=some (.pG s2 rs)∧ps.length=n∧v.has id2=true∧∀(P:Program)(μ:Ro)(φ:Nat→aA)(x:Value),ae P μ φ v x→x.cells.size=n∧(∀(i:Nat)(y:Value),x.cells[i]?=some y→y.oneCell'=true)∧(∀(i:Nat)p y,i≠l→ps[i]?=some p→x.cells[i]?=some y→af P μ p y)∧∃y,x.cells[l]?=some y∧ae P μ φ (.os id2) y:=by
 obtain⟨t1,_,t3⟩:=DK h;obtain⟨l,s2,Jz,rs,a1,a2,a3,a4⟩:=t3 j id2 rfl;obtain⟨n1,n2,n3⟩:=toCells_ok hc;refine⟨l,s2,Jz,rs,a2,a3,by rw[t1,n1],n2 id2 (bI (List.mem_of_getElem? a1) (by simp[V.has])),fun P μ φ x hx=>?_⟩;obtain⟨x1,x2,x3⟩:=n3 P μ φ x hx;refine⟨x1,x3,fun i p y hi hp hy=>?_,?_⟩
 ·obtain⟨u,hu,hf⟩:=a4 i p hi hp;exact sY 1 hf (x2 i u y hu hy)
 ·have hl:l<x.cells.size:=by rw[x1,←n1];exact(List.getElem?_eq_some_iff.1 a1).1
  exact⟨x.cells[l],Array.getElem?_eq_getElem hl,x2 l _ _ a1 (Array.getElem?_eq_getElem hl)⟩
theorem BR{s off n:Nat}{e:PV}{ps:List PV}(hn:ps.length=n)(hb:off+n≤s)(h0:0<n)(ha:s=1→∀p,ps.head? =some p→∀cs,p≠.agg cs):(if s=1 then ps.headD .bad else PV.agg (bH (aC s e) off ps)).cells=bH (aC s e) off ps:=by
 split
 ·rename_i h1;subst h1;have e1:off=0:=by omega
  have e2:n=1:=by omega
  subst e1;subst e2;match ps,hn with
  |[p],_=>
   have:=ha rfl p rfl;have hp:p.cells=[p]:=by cases p<;>first|rfl|exact absurd rfl (this _)
   simp only[List.headD_cons,hp,dz,List.take_zero,List.nil_append,List.length_cons,List.length_nil];rw[List.drop_of_length_le (by rw[aT];exact Nat.le_refl _)];rfl
 ·rfl
theorem DM{T:Type}{cs ps:List T}{off l:Nat}{x:T}(hl:l<ps.length)(hb:off+ps.length≤cs.length):bH cs off (ps.set l x)=(bH cs off ps).set (off+l) x:=by
 have hto:(cs.take off).length=off:=by simp;omega
 rw[dz,dz,List.length_set,List.append_assoc,List.append_assoc,List.set_append,if_neg (by omega),List.set_append,if_pos (by omega)];rw[show off+l-(cs.take off).length=l by omega]
theorem DN{id id2:Nat}{B X:bE}(cB:id2≠id):ak (e8 id (bh (bx id2 (ak m id B)) id2)) id X=ak (e8 id (bh (bx id2 m) id2)) id X:=by
 funext t;by_cases h:t=id
 ·subst h;simp
 ·rw[al h,al h];unfold e8;by_cases h2:t=id2
  ·subst h2;simp
  ·rw[eV h2,eV h2];unfold bx;rw[al h]
end
section
variable {R:Type} {E:Env}
theorem Uc{t:TypeId}{v:V}{id i off s id2 j:Nat}{et:TypeId}{es ps:List PV}{cs:List V}{e:PV}{m:Mem}(hm:m id=some (.nest s et es))(hc:toCells (aP E.P t) v=some cs)(ht:kR m 0 cs=some (ps,some (j,id2)))(hb:off+aP E.P t≤s)(h0:0<aP E.P t)(cB:id2≠id)(he:es[i]?=some e){G:Nat→Option (List PV)}{w0:br}{μ:Ro}{φ:Nat→aA}{w:World}{f:Fr}{ρ:Nat→Value}{ya yx:Value}(hM:av E.P G w0 μ φ m w)(hF:bZ E.P μ φ m f ρ)(ha:ae E.P μ φ (.oe id i off) ya)(hx:ae E.P μ φ v yx):∃w' φ',(Instr.storeAt t ya yx).run E.P w=.ok () w'∧av E.P G w0 μ φ' (sN [(id,.nest s et (es.set i (if s=1 then ps.headD .bad else .agg (bH (aC s e) off ps))))] (km [(true,id2),(false,id)] m)) w'∧bZ E.P μ φ' (sN [(id,.nest s et (es.set i (if s=1 then ps.headD .bad else .agg (bH (aC s e) off ps))))] (km [(true,id2),(false,id)] m)) (kf [(true,id2),(false,id)] f) ρ:=by
 obtain⟨l,s2,Jz,rs,cq,jT,CJ,afk,jd⟩:=DL hc ht;obtain⟨x1,x2,x3,y,hy,Xf⟩:=jd E.P μ φ yx hx;have CH:l<ps.length:=(List.getElem?_eq_some_iff.1 jT).1;have hN:aV E.P μ φ w id s et es:=hM.dy id _ hm;have AG:=hN.2.2.2.2.1 i e he;have BK:(aC s e).length=s:=aT _ _;have nd:ps=(ps.set l .bad).set l (.pG s2 rs):=by
  rw[List.set_set];apply List.ext_getElem?;intro a;rw[List.getElem?_set];split
  ·rename_i e1;subst e1;first|exact jT|(rw[if_pos CH];exact jT)
  ·rfl
 have rM:∀(a:Nat)p,(ps.set l .bad)[a]?=some p→(a=l∧p=.bad)∨(a≠l∧ps[a]?=some p):=fun a p h=>eF h;have hE:sn E.P μ (aP E.P t) (.agg (ps.set l .bad)) yx:=by
  refine⟨by simp[PV.cells,CJ],x1,fun a p z hp hz=>?_,x2⟩;rcases rM a p (by simpa[PV.cells]using hp)with⟨_,rfl⟩|⟨h1,h2⟩
  ·exact .bad
  ·exact x3 a p z h1 h2 hz
 have one:s=1→ps.length=1:=fun h=>by omega
 have hq:(if s=1 then ps.headD .bad else PV.agg (bH (aC s e) off ps)).cells=bH (aC s e) off ps:=BR CJ hb h0 fun h1 p hp L8=>by
  have LK:l=0:=by have:=one h1;omega
  subst LK;rw[List.head?_eq_getElem?,jT]at hp;simp only[Option.some.injEq]at hp;subst hp;simp
 have Y1:(if s=1 then(ps.set l .bad).headD .bad else PV.agg (bH (aC s e) off (ps.set l .bad))).cells=bH (aC s e) off (ps.set l .bad):=BR (by simpa using CJ) hb h0 fun h1 p hp L8=>by
  have LK:l=0:=by have:=one h1;omega
  subst LK;rw[List.head?_eq_getElem?,List.getElem?_set,if_pos rfl,if_pos CH]at hp;simp only[Option.some.injEq]at hp;subst hp;simp
 generalize (if s=1 then ps.headD .bad else PV.agg (bH (aC s e) off ps))=q at hq⊢;generalize (if s=1 then(ps.set l .bad).headD .bad else PV.agg (bH (aC s e) off (ps.set l .bad)))=q' at Y1;cases ha with
 | @oe _ _ _ g hg=>
  obtain⟨c,T,hh,ou,xw,hrw⟩:=aV.set (q:=q') hN (hM.apart id _ hm) hg he hE hb (by rw[Y1];rfl);have l0:(φ id).sz=s:=hN.2.1;have hi:=kx (P:=E.P) (t:=t) (by omega);have ta:av E.P G w0 μ φ (ak m id (.nest s et (es.set i q'))) (w.setRow g (bH c.toList (i*s+off) yx.cells.toList).toArray):=hM.write hm rfl hg (kG.setRow (Nat.le_refl _)) setRow_size (fun k hk=>ca hk) xw rfl (fun j hj=>by simp[bE.names]at hj) (fun st h=>by cases h) hrw;have hil:i<es.length:=(List.getElem?_eq_some_iff.1 he).1;have abO:q.cells=q'.cells.set (off+l) (.pG s2 rs):=by rw[hq,Y1,←DM (by simpa using CH) (by simp[BK,CJ];omega),←nd]
  have xB:q'.cells[off+l]?=some .bad:=by rw[Y1,DM CH (by rw[BK,CJ];exact hb),List.getElem?_set,if_pos rfl,if_pos];rw[ck (by rw[BK,CJ];exact hb),BK];omega
  have sQ:=av.aah ta (id:=id) (id2:=id2) (i:=i) (off:=off+l) (e:=q') (q:=q) (x:=y) cB (aK _ _ _) (by rw[al cB];exact cq) (by simp[hil]) xB (fun g0 c0 _ LJ Y2=>by
   rw[hg]at LJ;simp only[Option.some.injEq]at LJ;subst LJ;rw[setRow_heap w g c _ T (0,0) hh]at Y2;simp only[Option.some.injEq,Obj.cells.injEq]at Y2;obtain⟨rfl,_⟩:=Y2;rw[List.getElem?_toArray,dz];have bm:(c.toList.take (i*s+off)).length=i*s+off:=by simp;omega
   have F9:l<yx.cells.toList.length:=by simp only[Array.length_toList];rw[x1];omega
   rw[List.append_assoc,List.getElem?_append_right (by omega),bm,show i*s+(off+l)-(i*s+off)=l by omega,List.getElem?_append_left F9];simpa using hy) Xf abO
  rw[List.set_set,DN cB]at sQ;refine⟨_,_,by rw[l0];exact gk hE.size hi hh ou hE.one,sQ,?_⟩;have Cm:bZ E.P μ φ (ak m id (.nest s et (es.set i q'))) f ρ:=hF.ml (fun _ _ h=>h) .set;have Xi:=(Cm.forget id2).ue id;refine Xi.Y7 (by simp[ky]) (fun k hk=>by simp[hk]) fun k hk=>?_;show(ak (e8 id (bh (bx id2 m) id2)) id _ k).isSome=true;by_cases e1:k=id
  ·subst e1;simp
  ·rw[al e1];rw[oa]at hk⊢;by_cases e2:k=id2
   ·subst e2;simp at hk
   ·rw[eV e2]at hk⊢;simp only[bx,al e1]at hk⊢;exact hk
end
end Go.Ab
set_option linter.unusedVariables false
namespace Go.Ab
section
variable {R:Type} {E:Env}
variable{e:TypeId}{id2:Nat}{G:Nat→Option (List PV)}{w0:br}{φ:Nat→aA}{w:World}{ρ:Nat→Value}
theorem RR{t:TypeId}{v:V}{j site:Nat}{cs:List V}{ps:List PV}{p:PV}{m:Mem}(hu:E.P.underlying t=some (.slice e))(hc:toCells (aP E.P e) v=some cs)(ht:kR m 0 cs=some (ps,some (j,id2)))(hs:m site=none)(hp:elemOf (ao E.P e) ps=some p)(ec:0<aP E.P e)(AL:aP E.P e≤16777216)(hz:(c9 E e).isSome=true){μ:Ro}{f:Fr}{yx:Value}(hM:av E.P G w0 μ φ m w)(hF:bZ E.P μ φ m f ρ)(hx:ae E.P μ φ v yx):∃y w' φ',(Instr.buildSlice t 1 #[(0,yx)]).run E.P w=.ok y w'∧av E.P G w0 μ φ' (sN [(site,.nest (aP E.P e) e [p])] (km [(true,id2)] m)) w'∧bZ E.P μ φ' (sN [(site,.nest (aP E.P e) e [p])] (km [(true,id2)] m)) (kf [(true,id2)] f) ρ∧ae E.P μ φ' (.os site) y:=by
 obtain⟨l,s2,Jz,rs,cq,jT,CJ,afk,jd⟩:=DL hc ht;obtain⟨x1,x2,x3,z,Xg,hvz⟩:=jd E.P μ φ yx hx;obtain⟨zc,Tl⟩:=Option.isSome_iff_exists.1 hz;obtain⟨iz,zv,i1,i2,i3,_⟩:=eE Tl;have cB:id2≠site:=fun e=>by subst e;rw[hs]at cq;cases cq
 have Ms:p.cells=ps:=by
  unfold elemOf at hp;split at hp
  ·simp only[Option.some.injEq]at hp;subst hp;rfl
  ·split at hp
   ·rename_i q;simp only[Option.some.injEq]at hp;subst hp;have LK:l=0:=by have:=(List.getElem?_eq_some_iff.1 jT).1;simp at this;exact this
    subst LK;simp only[List.getElem?_cons_zero,Option.some.injEq]at jT;subst jT;rfl
   ·cases hp
 have hA2:aF E.P μ φ w id2 s2 Jz rs:=hM.dy id2 _ cq;have abP:Instr.fill (fun i=>some (i*aP E.P e,aP E.P e)) ((Array.range (1*aP E.P e)).map (zv.cells[·%zv.cells.size]!)) [(0,yx)]=some yx.cells:=by
  have Qc:((Array.range (1*aP E.P e)).map (zv.cells[·%zv.cells.size]!)).size=aP E.P e:=by simp
  rw[wT (off:=0) (size:=aP E.P e) (by simp) x1 (by rw[Qc];omega)];simp only[Instr.fill,Option.some.injEq];apply Array.ext';simp only[dz,List.take_zero,List.nil_append,Nat.zero_add];rw[List.drop_of_length_le (by simp only[Array.length_toList];rw[Qc,x1];exact Nat.le_refl _),List.append_nil]
 have nu:=run_buildSlice (P:=E.P) w t e 1 #[(0,yx)] yx.cells iz zv hu i1 i2 (by rw[i3];omega) (by rw[i3];omega) (by rw[i3];exact abP);let q:aA:={g:=some w.heap.size,cap:=1,len:=1,sz:=aP E.P e,row:=fun a b=>if a=0∧b=l then(φ id2).toBE else default};have F7:∀k,(bh (bx id2 m) id2 k).isSome=true→k≠site:=fun k hk e=>by subst e;rw[eV (Ne.symm cB)]at hk;simp[bx,hs]at hk
 have Ud:∀a b,(bE.nest (aP E.P e) e [p]).rowAt a b=true→a=0∧b=l:=by
  intro a b hr;rcases jV hr with⟨_,_,_,e',s',rs',gB,h',rW⟩|⟨_,_,_,_,_,_,gB,_⟩
  ·simp only[bE.nest.injEq]at gB;obtain⟨rfl,rfl,rfl⟩:=gB;cases a with
   |succ a=>simp at h'
   |zero=>
    simp only[List.getElem?_cons_zero,Option.some.injEq]at h';subst h';rw[Ms]at rW;refine⟨rfl,?_⟩;by_cases Ue:b=l
    ·exact Ue
    ·exfalso;have bm:b<yx.cells.size:=by rw[x1,←CJ];exact(List.getElem?_eq_some_iff.1 rW).1
     exact absurd (x3 b _ _ Ue rW (Array.getElem?_eq_getElem bm)).CG (by simp[PV.isRow])
  ·cases gB
 have ta:=hM.forget id2;have su:av E.P G w0 μ (fun i=>if i=site then q else φ i) (ak (bh (bx id2 m) id2) site (.nest (aP E.P e) e [p])) (w.alloc (.cells yx.cells e)):=by
  have hold:∀k,k<w.heap.size→(w.alloc (.cells yx.cells e)).heap[k]?=w.heap[k]?:=fun k hk=>kG.heap_alloc w _ k hk;refine ta.put (by rw[eV (Ne.symm cB)];simp[bx,hs]) ((kG.refl _ w).alloc hM.below.size _) (fun k o hk=>?_) (fun id b' g hid hg=>hold g ((ta.dy id b' hid).Dp hg)) (fun g hg=>?_) ?_ ?_ (by simp[bE.names]) (fun st h=>by cases h)
  ·have:=hM.ro k o hk;rw[hold k (Array.getElem?_eq_some_iff.1 this).1];exact this
  ·rcases hg with hg|⟨a,b,hr,hg⟩
   ·simp only[q,Option.some.injEq]at hg;subst hg;refine⟨hM.below.size,?_,fun id b' hid ho=>?_⟩
    ·cases hq:μ w.heap.size with
     |none=>rfl
     |some o'=>have:=hM.ro _ _ hq;simp at this
    ·have:=(ta.dy id b' hid).Dp ho;omega
   ·have sQ:=Ud a b hr;have hg:(φ id2).g=some g:=by simpa[q,sQ]using hg
    obtain⟨o1,o2⟩:=hM.own id2 _ g cq (.inl hg);refine⟨o1,o2 rfl,fun id b' hid ho=>?_⟩;obtain⟨h1,b2,rV,rfl⟩:=eP hid;exact h1 (hM.inj id id2 _ _ g rV cq (gj.1 ho) (.inl hg))
  ·intro a b g hr hg;have sQ:=Ud a b hr;have hg:(φ id2).g=some g:=by simpa[q,sQ]using hg
   refine⟨fun h=>?_,fun a' b' yb _=>by have:=Ud a' b' yb;omega⟩;simp only[q,Option.some.injEq]at h;have:=(hM.dy id2 _ cq).Dp (.inl hg);omega
  ·show aV E.P μ (fun i=>if i=site then q else φ i) (w.alloc (.cells yx.cells e)) site (aP E.P e) e [p];unfold aV;simp only[if_true];refine⟨rfl,rfl,trivial,ec,fun i e' RS=>?_,by simp[q,maxLen],yx.cells,e,fA w _,by simp[q,x1],by simp[q],fun i e' b p' x' RS rW Js=>?_,fun i x' _ Js=>x2 i x' Js⟩
   ·cases i with
    |zero=>simp at RS;subst RS;rw[Ms,CJ]
    |succ i=>simp at RS
   ·cases i with
    |succ i=>simp at RS
    |zero=>
     simp only[List.getElem?_cons_zero,Option.some.injEq]at RS;subst RS;rw[Ms]at rW;rw[Nat.zero_mul,Nat.zero_add]at Js;by_cases Ue:b=l
     ·subst Ue;rw[jT]at rW;simp only[Option.some.injEq]at rW;subst rW;rw[Xg]at Js;simp only[Option.some.injEq]at Js;subst Js;have:q.row 0 b=(φ id2).toBE:=by simp[q]
      rw[this];refine eN.cD ⟨⟨Jz,hA2.up⟩,Mm hvz⟩ (fun _ _ h=>h) fun g hg=>hold g ((hM.dy id2 _ cq).Dp (.inl hg))
     ·exact .pure (x3 b p' x' Ue rW Js)
 refine⟨_,_,_,nu,su,?_,?_⟩
 ·exact(hF.forget id2).mono (fun _ _ h=>h) fun k hk=>⟨by simp[F7 k hk],by show(ak (bh (bx id2 m) id2) site _ k).isSome=true;rw[al (F7 k hk)];exact hk⟩
 ·have:=ae.os (P:=E.P) (μ:=μ) (φ:=fun i=>if i=site then q else φ i) (id:=site) (g:=w.heap.size) (by simp[q]);simpa[q]using this
theorem Uf{k v v':PV}:∀{es:List (PV×PV)}{j:Nat},(eS k v es)[j]?=some (k,v)→(lH k es=some j∨(lH k es=none∧j=es.length))→(eS k v es).set j (k,v')=eS k v' es:=by
 intro es j hj hp;rw[mn,mn];rcases hp with hp|⟨hp,rfl⟩
 ·rw[hp];simp
 ·rw[hp];simp
variable{es:List (PV×PV)}
theorem av.Xo{P:Program}{μ:Ro}{m:Mem}(hM:av P G w0 μ φ m w){id i s2:Nat}{kt:TypeId}{k:PV}{rs:List PV}{x:Value}(cB:id2≠id)(hm:m id=some (.fe kt e es))(cq:m id2=some (.arr s2 e rs))(he:es[i]?=some (k,.bad))(hx:∀g en clock,(φ id).g=some g→w.heap[g]?=some (.map en clock)→∃e0,en[i]?=some e0∧e0.val=x)(hv:ae P μ φ (.os id2) x):av P G w0 μ (fun j=>if j=id then ky (φ id) i 0 (φ id2).toBE else φ j) (ak (e8 id (bh (bx id2 m) id2)) id (.fe kt e (es.set i (k,.pG s2 rs)))) w:=by
 have ta:=(hM.forget id2).ue id;obtain⟨g0,en,clock,kk,hN⟩:=te.1 (hM.dy id _ hm);have hA2:aF P μ φ w id2 s2 e rs:=hM.dy id2 _ cq;have jT:∀a b,(bE.fe kt e (es.set i (k,.pG s2 rs))).rowAt a b=true→(a=i∧b=0)∨((bE.fe kt e es).rowAt a b=true∧¬(a=i∧b=0)):=by
  intro a b hr;by_cases sQ:a=i∧b=0
  ·exact .inl sQ
  ·refine .inr ⟨?_,sQ⟩;rcases jV hr with⟨_,_,_,_,_,_,gB,_⟩|⟨_,_,_,k',s',rs',gB,rfl,h'⟩
   ·cases gB
   ·simp only[bE.fe.injEq]at gB;obtain⟨rfl,rfl,rfl⟩:=gB;rcases eF h' with⟨rfl,_⟩|⟨TW,h'⟩
    ·exact absurd ⟨rfl,rfl⟩ sQ
    ·rw[jU h'];rfl
 refine hM.Qa (fun _ k=>if k=id2 then id else k) (fun j b' hj=>?_) (fun j b' g hj ho=>?_) (fun j b' hj=>?_) (fun j cs k hj hk=>?_) (fun j st hj=>?_)
 ·rcases fv hj with⟨rfl,rfl⟩|⟨h1,h2,c,hc,rfl⟩
  ·refine te.2 ⟨g0,en,clock,kk,by simp[ky,hN.pl],hN.heap,by simp[hN.size],hN.Aj,fun a k' v' h'=>?_,hN.born,fun a k' v' e' h' RS=>?_⟩
   ·rcases eF h' with⟨rfl,hq⟩|⟨_,h'⟩
    ·simp only[Prod.mk.injEq]at hq;rw[hq.1];exact hN.key a k _ he
    ·exact hN.key a k' v' h'
   ·simp only[if_true];rcases eF h' with⟨rfl,hq⟩|⟨TW,h'⟩
    ·simp only[Prod.mk.injEq]at hq;obtain⟨rfl,rfl⟩:=hq;refine⟨(hN.rep a _ _ e' he RS).1,?_⟩;rw[gv];obtain⟨e1,he1,hxe⟩:=hx g0 en clock hN.pl hN.heap;rw[RS]at he1;simp only[Option.some.injEq]at he1;subst he1;rw[hxe];exact⟨hA2.up,Mm hv⟩
    ·rw[gD _ _ (fun h=>TW h.1)];exact hN.rep a k' v' e' h' RS
  ·have hb:gC P μ φ w j (dO id (gq id2 c)):=(hM.dy j c hc).kill.xt;exact hb.Qb h1 (by simp[ky]) fun k hk=>by simp[hk]
 ·rcases fv hj with⟨rfl,rfl⟩|⟨h1,h2,c,hc,rfl⟩
  ·simp only[if_true]at ho;rcases ho with ho|⟨a,b,hr,ho⟩
   ·exact⟨j,_,hm,.inl ho,fun _=>rfl,by simp[cB.symm]⟩
   ·rcases jT a b hr with⟨rfl,rfl⟩|⟨yb,sQ⟩
    ·rw[gv]at ho;exact⟨id2,_,cq,.inl ho,fun _=>rfl,by simp⟩
    ·rw[gD _ _ sQ]at ho;exact⟨j,_,hm,.inr ⟨a,b,yb,ho⟩,fun _=>rfl,by simp[cB.symm]⟩
  ·simp only[h1,if_false]at ho;exact⟨j,c,hc,gj.1 (qB.1 ho),fun h=>by rw[yo,wS]at h;exact h,by simp[h2]⟩
 ·rcases fv hj with⟨rfl,rfl⟩|⟨h1,h2,c,hc,rfl⟩
  ·simp only[if_true];have Dt:=hM.apart j _ hm;have new:∀g,(φ id2).g=some g→¬(bE.fe kt e es).owns (φ j) g:=fun g hg ho=>cB (hM.inj id2 j _ _ g cq hm (.inl hg) ho);intro a b g hr hg;rcases jT a b hr with⟨rfl,rfl⟩|⟨yb,sQ⟩
   ·rw[gv]at hg;refine⟨fun h=>new g hg (.inl h),fun a' b' AK Mn=>?_⟩;rcases jT a' b' AK with h|⟨Xm,Mo⟩
    ·exact h
    ·rw[gD _ _ Mo]at Mn;exact absurd (.inr ⟨a',b',Xm,Mn⟩) (new g hg)
   ·rw[gD _ _ sQ]at hg;obtain⟨h3,h4⟩:=Dt a b g yb hg;refine⟨h3,fun a' b' AK Mn=>?_⟩;rcases jT a' b' AK with⟨rfl,rfl⟩|⟨Xm,Mo⟩
    ·rw[gv]at Mn;exact absurd (.inr ⟨a,b,yb,hg⟩) (new g Mn)
    ·rw[gD _ _ Mo]at Mn;exact h4 a' b' Xm Mn
  ·simp only[h1,if_false];exact vG.2 (uc.2 (hM.apart j c hc))
 ·rcases fv hj with⟨rfl,hb⟩|⟨h1,h2,c,hc,hb⟩
  ·cases hb
  ·have I2:e8 id (bh (bx id2 m) id2) j=some (.box cs):=by rw[al h1]at hj;exact hj
   have:=ta.fJ j cs k I2 hk;by_cases e:k=id
   ·subst e;simp
   ·rw[al e];exact this
 ·rcases fv hj with⟨rfl,hb⟩|⟨h1,h2,c,hc,hb⟩
  ·cases hb
  ·cases c<;>first|(simp[dO,gq]at hb;done)|skip
   simp only[dO,gq,bE.loop.injEq]at hb;subst hb;exact⟨hc,by simp[h1]⟩
theorem RT{t kt et:TypeId}{xk:V}{id s:Nat}{key:PV}{rs:List PV}{m:Mem}(hu:E.P.underlying t=some (.map kt et))(hm:m id=some (.fe kt e es))(cq:m id2=some (.arr s e rs))(tc:keyOf E kt xk=some key){μ:Ro}{f:Fr}{ya yk yv:Value}(hM:av E.P G w0 μ φ m w)(hF:bZ E.P μ φ m f ρ)(ha:ae E.P μ φ (.om id) ya)(hk:ae E.P μ φ xk yk)(hv:ae E.P μ φ (.os id2) yv):∃w' φ',(Instr.mapUpdate t ya yk yv).run E.P w=.ok () w'∧av E.P G w0 μ φ' (sN [(id,.fe kt e (eS key (.pG s rs) es))] (km [(true,id2),(false,id)] m)) w'∧bZ E.P μ φ' (sN [(id,.fe kt e (eS key (.pG s rs) es))] (km [(true,id2),(false,id)] m)) (kf [(true,id2),(false,id)] f) ρ:=by
 have cB:id2≠id:=fun h=>by subst h;rw[hm]at cq;cases cq
 obtain⟨ks,k1,k2,k3⟩:=tb tc;obtain⟨g,en,clock,kk,hN⟩:=te.1 (hM.dy id _ hm);have BM:=hN.Aj;rw[k1]at BM;simp only[Option.some.injEq]at BM;subst BM;have RI:=wU k1;have hkr:=k3 μ φ yk hk;obtain⟨hc,hkv⟩:=lU k2 hkr;obtain⟨res,r1,r2⟩:=lv (v:=.pF) (z:=.bad) RI hc w hN.ent;have Cl:=Go.MapKept.run_getObj_map (P:=E.P) hN.heap;have h1:(Instr.checkKey false 10000 kt yk).run E.P w=.ok () w:=by rw[hkv];exact il 8 kt ks RI 9992 w false key.cells hc
 rw[←hkv]at r1;have bm:g<w.heap.size:=(Array.getElem?_eq_some_iff.1 hN.heap).1;cases ha with
 |om bP=>
  rw[hN.pl]at bP;simp only[Option.some.injEq]at bP;subst bP;have fin:∀(J:Nat)(LL:Array MapEntry)(oU:Nat),(lH key es=some J∨(lH key es=none∧J=es.length))→(Instr.mapUpdate t (.map (some g)) yk yv).run E.P w=.ok () {w with heap:=w.heap.setIfInBounds g (.map LL oU)}→lE LL oU→LL.size=(eS key .bad es).length→(∃e0,LL[J]?=some e0∧e0.key=yk∧e0.val=yv)→(∀i e0,i≠J→LL[i]?=some e0→en[i]?=some e0)→∃w' φ',(Instr.mapUpdate t (.map (some g)) yk yv).run E.P w=.ok () w'∧av E.P G w0 μ φ' (sN [(id,.fe kt e (eS key (.pG s rs) es))] (km [(true,id2),(false,id)] m)) w'∧bZ E.P μ φ' (sN [(id,.fe kt e (eS key (.pG s rs) es))] (km [(true,id2),(false,id)] m)) (kf [(true,id2),(false,id)] f) ρ:=by
   intro J LL oU hJ hr uW l0 hJe Co;obtain⟨eJ,abQ,afl,afm⟩:=hJe;have su:∀i k' v',(eS key .bad es)[i]?=some (k',v')→(i=J∧k'=key∧v'=.bad)∨(i≠J∧es[i]?=some (k',v')):=by
    intro i k' v' h;rw[mn]at h;rcases hJ with hJ|⟨hJ,rfl⟩
    ·rw[hJ]at h;rcases eF h with⟨rfl,hq⟩|⟨TW,h⟩
     ·simp only[Prod.mk.injEq]at hq;exact .inl ⟨rfl,hq.1,hq.2⟩
     ·exact .inr ⟨TW,h⟩
    ·rw[hJ]at h;simp only at h;rw[List.getElem?_append]at h;split at h
     ·rename_i bm;exact .inr ⟨by omega,h⟩
     ·rename_i Fo;cases hd:i-es.length with
      |zero=>rw[hd]at h;simp only[List.getElem?_cons_zero,Option.some.injEq,Prod.mk.injEq]at h;exact .inl ⟨by omega,h.1.symm,h.2.symm⟩
      |succ n=>rw[hd]at h;simp at h
   have hJb:(eS key .bad es)[J]?=some (key,.bad):=by
    rw[mn];rcases hJ with hJ|⟨hJ,rfl⟩
    ·rw[hJ];obtain⟨a,u,hj,_⟩:=CI hJ;simp[(List.getElem?_eq_some_iff.1 hj).1]
    ·rw[hJ];simp
   have ta:av E.P G w0 μ φ (ak m id (.fe kt e (eS key .bad es))) {w with heap:=w.heap.setIfInBounds g (.map LL oU)}:=by
    refine hM.write hm rfl hN.pl ⟨⟨rfl,rfl,rfl,by simp,fun k hk=>by simp[Array.getElem?_setIfInBounds_ne (Nat.ne_of_gt hk)]⟩,fun _=>Nat.le_refl _⟩ (by simp) (fun k hk=>by simp[Array.getElem?_setIfInBounds_ne (Ne.symm hk)]) (te.2 ⟨g,LL,oU,ks,hN.pl,by simp[bm],l0,k1,fun i k' v' h=>?_,uW,fun i k' v' e0 h T9=>?_⟩) rfl (by simp[bE.names]) (fun st h=>by cases h) fun a b hr=>?_
    ·rcases su i k' v' h with⟨_,rfl,_⟩|⟨_,h⟩
     ·exact k2
     ·exact hN.key i k' v' h
    ·rcases su i k' v' h with⟨rfl,rfl,rfl⟩|⟨TW,h⟩
     ·rw[abQ]at T9;simp only[Option.some.injEq]at T9;subst T9;exact⟨by rw[afl];exact hkr,.pure .bad⟩
     ·obtain⟨q1,q2⟩:=hN.rep i k' v' e0 h (Co i e0 TW T9);refine⟨q1,?_⟩;unfold DH at q2⊢;split at q2
      ·refine⟨q2.1.cD rfl (fun _ _ h=>h) fun g' bP=>?_,q2.2⟩;have hr:(bE.fe kt e es).rowAt i 0=true:=by rw[jU h];rfl
       have:=(hM.apart id _ hm i 0 g' hr bP).1;rw[hN.pl]at this;simp only[ne_eq,Option.some.injEq]at this;simp[Array.getElem?_setIfInBounds_ne this]
      ·exact q2
    ·rcases jV hr with⟨_,_,_,_,_,_,gB,_⟩|⟨_,_,_,k',s',rs',gB,rfl,h'⟩
     ·cases gB
     ·simp only[bE.fe.injEq]at gB;obtain⟨rfl,rfl,rfl⟩:=gB;rcases su a k' _ h' with⟨_,_,h⟩|⟨_,h⟩
      ·cases h
      ·rw[jU h];rfl
   have sQ:=av.Xo ta (id:=id) (id2:=id2) (i:=J) (x:=yv) cB (aK _ _ _) (by rw[al cB];exact cq) hJb (fun g0 en0 afn LJ hh0=>by
    rw[hN.pl]at LJ;simp only[Option.some.injEq]at LJ;subst LJ;have:(w.heap.setIfInBounds g (Obj.map LL oU))[g]?=some (.map LL oU):=by simp[bm]
    rw[this]at hh0;simp only[Option.some.injEq,Obj.map.injEq]at hh0;obtain⟨rfl,_⟩:=hh0;exact⟨eJ,abQ,afm⟩) hv
   rw[Uf hJb hJ,DN cB]at sQ;refine⟨_,_,hr,sQ,?_⟩;have Cm:bZ E.P μ φ (ak m id (.fe kt e (eS key .bad es))) f ρ:=hF.ml (fun _ _ h=>h) .set;refine((Cm.forget id2).ue id).Y7 (by simp[ky]) (fun k hk=>by simp[hk]) fun k hk=>?_;show(ak (e8 id (bh (bx id2 m) id2)) id _ k).isSome=true;by_cases e1:k=id
   ·subst e1;simp
   ·rw[al e1];rw[oa]at hk⊢;by_cases e2:k=id2
    ·subst e2;simp at hk
    ·rw[eV e2]at hk⊢;simp only[bx,al e1]at hk⊢;exact hk
  rcases Gj r2 with⟨rfl,hp⟩|⟨j,e0,rfl,T9,hp⟩
  ·have Xh:=Go.MapKept.run_setObj_map (P:=E.P) (.map (en.push {key:=yk,val:=yv,born:=clock}) (clock+1)) hN.heap;refine fin es.length _ _ (.inr ⟨hp,rfl⟩) (by simp only[Instr.mapUpdate,Sem.run_bind,run_underlying hu,Cl,h1,r1,Result.andThen_ok];exact Xh) hN.born.push (by rw[mn,hp];simp[hN.size]) ⟨{key:=yk,val:=yv,born:=clock},?_,rfl,rfl⟩ fun i e0 hi h=>?_
   ·rw[←hN.size];simp
   ·rw[Array.getElem?_push]at h;split at h
    ·rename_i h';rw[hN.size]at h';exact absurd h' hi
    ·exact h
  ·have Xp:en[j]?=some e0:=by simpa using T9
   obtain⟨a,u,haj,hpq⟩:=CI hp;obtain⟨hca,hva⟩:=lU (hN.key j a u haj) (hN.rep j a u e0 haj Xp).1;have ud:=HA hc hca hpq;have hsb:Instr.sameBits 10000 e0.key yk=true:=by rw[hva,hkv,←ud];refine vF (n:=9999) hc (fun ha=>?_);rw[pK hc];exact(wQ RI).2.1 ha
   have Xh:=Go.MapKept.run_setObj_map (P:=E.P) (.map (en.modify j fun e=>{e with key:=yk,val:=yv}) clock) hN.heap;have Al:j<en.size:=(Array.getElem?_eq_some_iff.1 Xp).1;refine fin j _ _ (.inl hp) (by simp only[Instr.mapUpdate,Sem.run_bind,run_underlying hu,Cl,h1,r1,Result.andThen_ok];simp only[Nat.zero_add,Xp,Option.map_some,Option.getD_some,Instr.keyThatStays,hsb,if_true,Sem.run_pure,Result.andThen_ok];exact Xh) (hN.born.modify (fun e=>{e with key:=yk,val:=yv}) (fun _=>rfl) _) (by rw[mn,hp];simp[hN.size]) ⟨{e0 with key:=yk,val:=yv},by rw[Array.getElem?_modify,if_pos rfl,Xp];rfl,rfl,rfl⟩ fun i e1 hi h=>?_;rw[Array.getElem?_modify,if_neg (Ne.symm hi)]at h;exact h
end
end Go.Ab
set_option linter.unusedVariables false
namespace Go.Ab
section
variable {P:Program} {G:Nat→Option (List PV)} {w0:br} {μ μ':Ro} {φ φ':Nat→aA} {m m':Mem} {w w':World}
structure kH(P:Program)(μ:Ro)(rows:Nat→Nat→BE)(w:World)(s:Nat)(es:List PV)(xs:List Value):Prop where
 len:xs.length=es.length*s
 each:∀(i:Nat)e,es[i]?=some e→e.cells.length=s
 rep:∀(i:Nat)e(j:Nat)p x,es[i]?=some e→e.cells[j]?=some p→xs[i*s+j]?=some x→eh P μ (rows i j) w p x
 one:∀(i:Nat)(x:Value),xs[i]?=some x→x.oneCell'=true
variable{rows:Nat→Nat→BE}{es:List PV}{xs:List Value}
theorem kH.append{DO Ug:Nat→Nat→BE}{s:Nat}{es':List PV}{xs':List Value}(h:kH P μ rows w s es xs)(h':kH P μ DO w s es' xs')(h1:∀i j,i<es.length→Ug i j=rows i j)(h2:∀i j,es.length≤i→Ug i j=DO (i-es.length) j):kH P μ Ug w s (es++es') (xs++xs'):=by
 refine⟨by simp[h.len,h'.len,Nat.add_mul],fun i e he=>?_,fun i e j p x he hp hx=>?_,fun i x hx=>?_⟩
 ·rw[List.getElem?_append]at he;split at he
  ·exact h.each i e he
  ·exact h'.each _ e he
 ·rw[List.getElem?_append]at he;split at he
  ·rename_i hi;rw[h1 i j hi];have hj:j<s:=by rw[←h.each i e he];exact(List.getElem?_eq_some_iff.1 hp).1
   rw[List.getElem?_append_left (by rw[h.len];exact Dx hi hj)]at hx;exact h.rep i e j p x he hp hx
  ·rename_i hi;rw[h2 i j (by omega)];have e1:i*s+j=es.length*s+((i-es.length)*s+j):=by
    have:i=es.length+(i-es.length):=by omega
    have h3:i*s=es.length*s+(i-es.length)*s:=by rw[←Nat.add_mul,←this]
    omega
   rw[List.getElem?_append_right (by rw[h.len,e1];omega),h.len,show i*s+j-es.length*s=(i-es.length)*s+j by omega]at hx;exact h'.rep _ e j p x he hp hx
 ·rw[List.getElem?_append]at hx;split at hx
  ·exact h.one i x hx
  ·exact h'.one _ x hx
theorem Cells.HE{s:Nat}(h:Cells P μ s es xs):kH P μ rows w s es xs:=⟨h.len,h.each,fun i e j p x he hp hx=>.pure (h.rep i e j p x he hp hx),h.one⟩
theorem kH.cD{rows:Nat→Nat→BE}{s:Nat}{es:List PV}{xs:List Value}(h:kH P μ rows w s es xs)(hw:∀i e j p g,es[i]?=some e→e.cells[j]?=some p→p.isRow=true→(rows i j).g=some g→w'.heap[g]?=w.heap[g]?):kH P μ rows w' s es xs:=⟨h.len,h.each,fun i e j p x he hp hx=>(h.rep i e j p x he hp hx).cD (fun _ _ h=>h) fun hr g hg=>hw i e j p g he hp hr hg,h.one⟩
theorem aV.HE{id sz:Nat}{et:TypeId}(h:aV P μ φ w id sz et es){g:Nat}(hg:(φ id).g=some g):∃(c:Array Value)(T:TypeId),w.heap[g]?=some (.cells c T (0,0))∧(φ id).cap*sz≤c.size∧es.length≤(φ id).cap∧kH P μ (φ id).row w sz es (c.toList.take (es.length*sz)):=by obtain⟨a1,a2,a3,a4,a5,a6,a7⟩:=h;rw[hg]at a7;obtain⟨c,T,c1,c2,c3,c4,c5⟩:=a7;have hle:es.length*sz≤c.size:=Nat.le_trans (Nat.mul_le_mul_right _ c3) c2;refine⟨c,T,c1,c2,c3,by simp;omega,a5,fun i e j p x he hp hx=>c4 i e j p x he hp (by simpa using(dB hx).2),fun i x hx=>?_⟩;have:=dB hx;exact c5 i x this.1 (by simpa using this.2)
theorem kH.nest{id g sz:Nat}{et T:TypeId}{c:Array Value}(Xc:(φ id).toBE=⟨some g,(φ id).cap,es.length,sz⟩)(l0:sz=aP P et)(ec:0<sz)(oR:(φ id).cap≤maxLen)(hh:w.heap[g]?=some (.cells c T (0,0)))(hc:(φ id).cap*sz≤c.size)(hle:es.length≤(φ id).cap)(hC:kH P μ (φ id).row w sz es (c.toList.take (es.length*sz))):aV P μ φ w id sz et es:=by
 have e1:(φ id).g=some g:=by rw[Xc]
 refine⟨by rw[Xc],by rw[Xc],l0,ec,hC.each,oR,?_⟩;rw[e1];have Al:∀(i:Nat)e(j:Nat)p,es[i]?=some e→e.cells[j]?=some p→i*sz+j<es.length*sz:=fun i e j p hi hj=>Dx (List.getElem?_eq_some_iff.1 hi).1 (by rw[←hC.each i e hi];exact(List.getElem?_eq_some_iff.1 hj).1);refine⟨c,T,hh,hc,hle,fun i e j p x hi hj hx=>?_,fun i x hi hx=>?_⟩
 ·exact hC.rep i e j p x hi hj (by rw[List.getElem?_take_of_lt (Al i e j p hi hj)];simpa using hx)
 ·exact hC.one i x (by rw[List.getElem?_take_of_lt hi];simpa using hx)
end
section
variable {R:Type} {E:Env}
def Qd(src:Option Nat)(m:Mem):Mem:=match src with|some id2=>bh (bx id2 m) id2|none=>m
def kfS(src:Option Nat)(f:Fr):Fr:=match src with|some id2=>eU id2 f|none=>f
variable{src:Option Nat}
theorem Uh{m:Mem}{j:Nat}{b:bE}(h:Qd src m j=some b):src≠some j∧∃b',m j=some b'∧b.rowAt=b'.rowAt:=by
 cases src with
 |none=>exact⟨by simp,b,h,rfl⟩
 |some id2=>obtain⟨h1,b',h2,rfl⟩:=eP h;exact⟨fun e=>h1 (by simpa using e.symm),b',h2,ub _ _⟩
theorem RU{t e ty:TypeId}{x:V}{id s:Nat}{es new:List PV}{rd:bk}{m:Mem}(hu:E.P.underlying t=some (.slice e))(hm:m id=some (.nest s e es))(hs:s=aP E.P e)(hz:(c9 E e).isSome=true)(ec:0<aP E.P e)(hby:0<Fi E.P e)(gu:(es++new).length*Fi E.P e≤an)(yj:(∃id2,src=some id2∧id2≠id∧x=.os id2∧m id2=some (.nest s e new))∨(src=none∧eM m s x=some (new,rd))){G:Nat→Option (List PV)}{w0:br}{μ:Ro}{φ:Nat→aA}{w:World}{f:Fr}{ρ:Nat→Value}{ys yx:Value}(hM:av E.P G w0 μ φ m w)(hF:bZ E.P μ φ m f ρ)(ha:ae E.P μ φ (.os id) ys)(hx:ae E.P μ φ x yx):∃w' y φ',(Builtin.append_ #[t,t] ty #[ys,yx]).run E.P w=.ok y w'∧av E.P G w0 μ φ' (ak (bh (bx id (Qd src m)) id) id (.nest s e (es++new))) w'∧bZ E.P μ φ' (ak (bh (bx id (Qd src m)) id) id (.nest s e (es++new))) (eU id (kfS src f)) ρ∧ae E.P μ φ' (.os id) y:=by
 obtain⟨zc,Tl⟩:=Option.isSome_iff_exists.1 hz;obtain⟨i,zv,hi,hzv,Y4,_,Jt,_,_,_⟩:=eE Tl;have hN:aV E.P μ φ w id s e es:=hM.dy id _ hm;have CH:(es++new).length=es.length+new.length:=by simp
 have pT:0<s:=by omega
 obtain⟨DO,yb⟩:∃DO:Nat→Nat→BE,DO=match src with|some id2=>(φ id2).row|none=>fun _ _=>default:=⟨_,rfl⟩
 obtain⟨os,hos,hC⟩:∃os,((ys=.slice none 0 0∧es.length=0∧os=[])∨∃(g cap:Nat)(c:Array Value)(T:TypeId),ys=.slice (some ⟨g,0,none⟩) es.length cap∧w.heap[g]?=some (.cells c T (0,0))∧cap*s≤c.size∧es.length≤cap∧cap≤maxLen∧os=c.toList.take (es.length*s))∧kH E.P μ (φ id).row w s es os:=by
  cases ha with
  |rL hg=>have a7:=hN.2.2.2.2.2.2;rw[hg]at a7;rw[a7.1];exact⟨[],.inl ⟨rfl,rfl,rfl⟩,by simp,by simp,fun i e j p x he=>by simp at he,by simp⟩
  | @os _ g hg=>obtain⟨c,T,c1,c2,c3,c4⟩:=hN.HE hg;exact⟨_,.inr ⟨g,(φ id).cap,c,T,by rw[hN.1],c1,c2,c3,hN.2.2.2.2.2.1,rfl⟩,c4⟩
 obtain⟨xs,Hv,hCx⟩:∃xs,((yx=.slice none 0 0∧new.length=0∧xs=[])∨∃(a:Addr)(cx:Nat),yx=.slice (some a) new.length cx∧xs.length=new.length*s∧(∀(j:Nat)v,xs[j]?=some v→w.cell? (a.add j)=some v)∧(∀v∈xs,v.oneCell'=true)∧new.length≤cx∧cx≤maxLen)∧kH E.P μ DO w s new xs:=by
  rcases yj with⟨id2,rfl,cB,rfl,cq⟩|⟨rfl,AG⟩
  ·have hN2:aV E.P μ φ w id2 s e new:=hM.dy id2 _ cq;simp only at yb;subst yb;cases hx with
   |rL hg=>have a7:=hN2.2.2.2.2.2.2;rw[hg]at a7;rw[a7.1];exact⟨[],.inl ⟨rfl,rfl,rfl⟩,by simp,by simp,fun i e j p x he=>by simp at he,by simp⟩
   | @os _ g hg=>
    obtain⟨c,_,c1,c2,c3,c4⟩:=hN2.HE hg;refine⟨_,.inr ⟨⟨g,0,none⟩,(φ id2).cap,by rw[hN2.1],c4.len,fun j v hj=>?_,fun v hv=>?_,c3,hN2.2.2.2.2.2.1⟩,c4⟩
    ·rw[Addr.add_mid,dm c1];simpa using(dB hj).2
    ·obtain⟨j,hj⟩:=List.getElem?_of_mem hv;exact c4.one j v hj
  ·obtain⟨_,_,hsr⟩:=nA AG;have:=hsr _ _ _ _ _ _ _ hM hx;cases this with
   |none hn=>subst hn;exact⟨[],.inl ⟨rfl,rfl,rfl⟩,by simp,by simp,fun i e j p x he=>by simp at he,by simp⟩
   | @some a cx xs hC Hv Y5 TX=>exact⟨xs,.inr ⟨a,cx,rfl,hC.len,Hv,fun u hu=>by obtain⟨j,hj⟩:=List.getElem?_of_mem hu;exact hC.one j u hj,Y5,TX⟩,hC.HE⟩
 obtain⟨w',y,hr,TY⟩:=Dy (ty:=ty) hu hi hzv (by rw[Jt,hs]) hs ec hby (by rw[←CH];exact gu) hos Hv;let mo:Nat→Nat→BE:=fun a b=>if a<es.length then(φ id).row a b else DO (a-es.length) b;have hCC:kH E.P μ mo w s (es++new) (os++xs):=hC.append hCx (fun a b h=>by simp only[mo,h,if_true]) (fun a b h=>by simp only[mo,Nat.not_lt.2 h,if_false]);have jT:∀a b g,(bE.nest s e (es++new)).rowAt a b=true→(mo a b).g=some g→(a<es.length∧(bE.nest s e es).rowAt a b=true∧((φ id).row a b).g=some g)∨(es.length≤a∧∃id2,src=some id2∧id2≠id∧m id2=some (.nest s e new)∧(bE.nest s e new).rowAt (a-es.length) b=true∧((φ id2).row (a-es.length) b).g=some g):=by
  intro a b g Cj hg;rcases jV Cj with⟨_,_,_,e',s',rs',gB,h',rW⟩|⟨_,_,_,_,_,_,gB,_⟩
  ·simp only[bE.nest.injEq]at gB;obtain⟨rfl,rfl,rfl⟩:=gB;by_cases bm:a<es.length
   ·rw[List.getElem?_append_left bm]at h';exact .inl ⟨bm,by rw[dv h' rW];rfl,by simpa[mo,bm]using hg⟩
   ·rw[List.getElem?_append_right (by omega)]at h';simp only[mo,bm,if_false]at hg;rcases yj with⟨id2,rfl,cB,rfl,cq⟩|⟨rfl,AG⟩
    ·simp only at yb;subst yb;exact .inr ⟨by omega,id2,rfl,cB,cq,by rw[dv h' rW];rfl,hg⟩
    ·exfalso;obtain⟨_,_,hsr⟩:=nA AG;have h3:=hsr _ _ _ _ _ _ _ hM hx;cases h3 with
     |none hn=>subst hn;simp at h'
     | @some a2 cx xs2 hC2 agF Y5 TX=>
      have hj:(a-es.length)*s+b<xs2.length:=by rw[hC2.len];exact Dx (List.getElem?_eq_some_iff.1 h').1 (by rw[←hC2.each _ _ h'];exact(List.getElem?_eq_some_iff.1 rW).1)
      exact absurd (hC2.rep _ _ _ _ _ h' rW (List.getElem?_eq_getElem hj)).CG (by simp[PV.isRow])
  ·cases gB
 have Ui:∀j,(bh (bx id (Qd src m)) id j).isSome=true→j≠id:=fun j hj e=>by subst e;simp at hj
 have bJ:∀j b',bh (bx id (Qd src m)) id j=some b'→j≠id∧src≠some j∧∃b,m j=some b∧b'.rowAt=b.rowAt:=by intro j b' hj;obtain⟨h1,b1,h2,rfl⟩:=eP hj;obtain⟨h3,b2,h4,h5⟩:=Uh h2;exact⟨h1,h3,b2,h4,by rw[ub,h5]⟩
 have Mt:∀{j b' b g},b'.rowAt=b.rowAt→bE.owns b' (φ j) g→bE.owns b (φ j) g:=fun h ho=>by unfold bE.owns at*;rw[←h];exact ho
 have hM0:av E.P G w0 μ φ (Qd src m) w:=by
  cases src with
  |none=>exact hM
  |some id2=>exact hM.forget id2
 have hF0:bZ E.P μ φ (Qd src m) (kfS src f) ρ:=by
  cases src with
  |none=>exact hF
  |some id2=>exact hF.forget id2
 have ta:=hM0.forget id;have Cm:=hF0.forget id;have HF:∀a b g,(bE.nest s e (es++new)).rowAt a b=true→(mo a b).g=some g→w0.heap.size≤g∧μ g=none∧g<w.heap.size∧∀j b',bh (bx id (Qd src m)) id j=some b'→¬b'.owns (φ j) g:=by
  intro a b g Cj hg;rcases jT a b g Cj hg with⟨_,h2,h3⟩|⟨_,id2,rfl,cB,cq,h2,h3⟩
  ·obtain⟨o1,o2⟩:=hM.own id _ g hm (.inr ⟨a,b,h2,h3⟩);refine⟨o1,o2 rfl,(hM.dy id _ hm).Dp (.inr ⟨a,b,h2,h3⟩),fun j b' hj ho=>?_⟩;obtain⟨k1,_,b2,k3,k4⟩:=bJ j b' hj;exact k1 (hM.inj j id _ _ g k3 hm (Mt k4 ho) (.inr ⟨a,b,h2,h3⟩))
  ·obtain⟨o1,o2⟩:=hM.own id2 _ g cq (.inr ⟨_,b,h2,h3⟩);refine⟨o1,o2 rfl,(hM.dy id2 _ cq).Dp (.inr ⟨_,b,h2,h3⟩),fun j b' hj ho=>?_⟩;obtain⟨_,k1,b2,k3,k4⟩:=bJ j b' hj;exact k1 (by rw[hM.inj j id2 _ _ g k3 cq (Mt k4 ho) (.inr ⟨_,b,h2,h3⟩)])
 have RV:∀a b a' b' g,(bE.nest s e (es++new)).rowAt a b=true→(mo a b).g=some g→(bE.nest s e (es++new)).rowAt a' b'=true→(mo a' b').g=some g→a'=a∧b'=b:=by
  intro a b a' b' g h1 h2 h3 h4;rcases jT a b g h1 h2 with⟨u1,u2,u3⟩|⟨u1,i2,u0,une,um,u2,u3⟩<;>rcases jT a' b' g h3 h4 with⟨v1,v2,v3⟩|⟨v1,i3,v0,vne,vm,v2,v3⟩
  ·exact(hM.apart id _ hm a b g u2 u3).2 a' b' v2 v3
  ·exact absurd (hM.inj i3 id _ _ g vm hm (.inr ⟨_,_,v2,v3⟩) (.inr ⟨_,_,u2,u3⟩)) vne
  ·exact absurd (hM.inj i2 id _ _ g um hm (.inr ⟨_,_,u2,u3⟩) (.inr ⟨_,_,v2,v3⟩)) une
  ·rw[u0]at v0;simp only[Option.some.injEq]at v0;subst v0;obtain⟨h5,h6⟩:=(hM.apart i2 _ um (a-es.length) b g u2 u3).2 (a'-es.length) b' v2 v3;exact⟨by omega,h6⟩
 have fin:∀(q:aA)(w1:World),q.row=mo→kG w0.heap.size w w1→(∀k o,μ k=some o→w1.heap[k]?=some o)→(∀j b' g,bh (bx id (Qd src m)) id j=some b'→b'.owns (φ j) g→w1.heap[g]?=w.heap[g]?)→(∀g,q.g=some g→w0.heap.size≤g∧μ g=none∧(∀j b',bh (bx id (Qd src m)) id j=some b'→¬b'.owns (φ j) g)∧∀a b,(bE.nest s e (es++new)).rowAt a b=true→(mo a b).g≠some g)→(aV E.P μ (fun k=>if k=id then q else φ k) w1 id s e (es++new))→av E.P G w0 μ (fun k=>if k=id then q else φ k) (ak (bh (bx id (Qd src m)) id) id (.nest s e (es++new))) w1∧bZ E.P μ (fun k=>if k=id then q else φ k) (ak (bh (bx id (Qd src m)) id) id (.nest s e (es++new))) (eU id (kfS src f)) ρ:=by
  intro q w1 hq L9 sO hold tW jd;refine⟨ta.put (by simp) L9 sO hold (fun g hg=>?_) (fun a b g Cj hg=>?_) jd (by simp[bE.names]) (fun st h=>by cases h),Cm.mono (fun _ _ h=>h) fun j hj=>⟨by simp[Ui j hj],by rw[al (Ui j hj)];exact hj⟩⟩
  ·rcases hg with hg|⟨a,b,Cj,hg⟩
   ·obtain⟨o1,o2,o3,_⟩:=tW g hg;exact⟨o1,o2,o3⟩
   ·rw[hq]at hg;obtain⟨o1,o2,_,o3⟩:=HF a b g Cj hg;exact⟨o1,o2,o3⟩
  ·rw[hq]at hg;refine⟨fun h=>(tW g h).2.2.2 a b Cj hg,fun a' b' afo bP=>?_⟩;rw[hq]at bP;exact RV a b a' b' g Cj hg afo bP
 rcases TY with⟨rfl,rfl,h1,h2⟩|⟨g',Ck,c',T',rfl,b1,b2,b3,b4,b5,b6⟩
 ·have h1:es=[]:=List.eq_nil_of_length_eq_zero h1;have h2:new=[]:=List.eq_nil_of_length_eq_zero h2;obtain⟨k1,k2⟩:=fin {g:=none,cap:=0,len:=0,sz:=s,row:=mo} w' rfl (kG.refl _ _) hM.ro (fun _ _ _ _ _=>rfl) (fun g hg=>by cases hg) ⟨by simp[h1,h2],by simp,hs,pT,by simp[h1,h2],by simp[maxLen],by simp[h1,h2]⟩;exact⟨w',_,_,hr,k1,k2,.rL (by simp)⟩
 ·have hq:∀(w1:World)(T:TypeId),w1.heap[g']?=some (.cells c' T (0,0))→kH E.P μ mo w1 s (es++new) (os++xs)→aV E.P μ (fun k=>if k=id then({g:=some g',cap:=Ck,len:=(es++new).length,sz:=s,row:=mo}:aA)else φ k) w1 id s e (es++new):=fun w1 T hh hC1=>kH.nest (g:=g') (c:=c') (by simp) hs pT (by simpa using b4) hh (by simpa using b2) (by simpa[CH]using b3) (by rw[CH,b5];simpa using hC1);have Y8:ae E.P μ (fun k=>if k=id then({g:=some g',cap:=Ck,len:=(es++new).length,sz:=s,row:=mo}:aA)else φ k) (.os id) (.slice (some ⟨g',0,none⟩) (es.length+new.length) Ck):=by have:=ae.os (P:=E.P) (μ:=μ) (φ:=fun k=>if k=id then({g:=some g',cap:=Ck,len:=(es++new).length,sz:=s,row:=mo}:aA)else φ k) (id:=id) (g:=g') (by simp);simp only[if_true]at this;rw[←CH];exact this
  rcases b6 with⟨Xe,hys,b6,b7⟩|⟨rfl,rfl⟩
  ·have bP:(φ id).g=some g':=by
    have key:∀z,ae E.P μ φ (.os id) z→z=.slice (some ⟨g',0,none⟩) es.length Xe→(φ id).g=some g':=by
     intro z hz he;cases hz with
     |rL _=>cases he
     |os hg=>simp only[Value.slice.injEq,Option.some.injEq,Addr.mk.injEq]at he;rw[←he.1.1];exact hg
    exact key _ ha hys
   obtain⟨o1,o2⟩:=hM.own id _ g' hm (.inl bP);have Jq:∀a b,(bE.nest s e (es++new)).rowAt a b=true→(mo a b).g≠some g':=by
    intro a b Cj hg;rcases jT a b g' Cj hg with⟨u1,u2,u3⟩|⟨u1,i2,u0,une,um,u2,u3⟩
    ·exact(hM.apart id _ hm a b g' u2 u3).1 bP
    ·exact une (hM.inj i2 id _ _ g' um hm (.inr ⟨_,_,u2,u3⟩) (.inl bP))
   have Co:∀j b',bh (bx id (Qd src m)) id j=some b'→¬b'.owns (φ j) g':=fun j b' hj ho=>by obtain⟨k1,_,b2,k3,k4⟩:=bJ j b' hj;exact k1 (hM.inj j id _ _ g' k3 hm (Mt k4 ho) (.inl bP))
   obtain⟨k1,k2⟩:=fin {g:=some g',cap:=Ck,len:=(es++new).length,sz:=s,row:=mo} w' rfl (b6.mono o1) (fun k o hk=>by rw[b7 k (fun e=>by subst e;rw[o2 rfl]at hk;cases hk)];exact hM.ro k o hk) (fun j b' g hj ho=>b7 g fun e=>by subst e;exact Co j b' hj ho) (fun g hg=>by
     simp only[Option.some.injEq]at hg;subst hg;exact⟨o1,o2 rfl,Co,Jq⟩)
    (hq w' _ b1 (hCC.cD fun a e1 b p1 g he hp Cj hg=>b7 g fun e=>by subst e;exact Jq a b (by rw[dv he hp];exact Cj) hg))
   exact⟨w',_,_,hr,k1,k2,Y8⟩
  ·have hold:∀k,k<w.heap.size→(w.drew.alloc (.cells c' e)).heap[k]?=w.heap[k]?:=fun k hk=>kG.heap_alloc w.drew _ k hk;obtain⟨k1,k2⟩:=fin {g:=some w.heap.size,cap:=Ck,len:=(es++new).length,sz:=s,row:=mo} (w.drew.alloc (.cells c' e)) rfl ((kG.refl _ w).drew.alloc hM.below.size _) (fun k o hk=>by
     have:=hM.ro k o hk;rw[hold k (Array.getElem?_eq_some_iff.1 this).1];exact this)
    (fun j b' g hj ho=>hold g ((ta.dy j b' hj).Dp ho)) (fun g hg=>by
     simp only[Option.some.injEq]at hg;subst hg;refine⟨hM.below.size,?_,fun j b' hj ho=>?_,fun a b Cj hg=>?_⟩
     ·cases hq:μ w.heap.size with
      |none=>rfl
      |some o'=>have:=hM.ro _ _ hq;simp at this
     ·have:=(ta.dy j b' hj).Dp ho;omega
     ·have:=(HF a b _ Cj hg).2.2.1;omega)
    (hq _ _ b1 (hCC.cD fun a e1 b p1 g he hp Cj hg=>hold g (HF a b g (by rw[dv he hp];exact Cj) hg).2.2.1))
   exact⟨_,_,_,hr,k1,k2,Y8⟩
theorem DP{m:Mem}:∀{cs:List V}{j0:Nat}{ps:List PV},kR m j0 cs=some (ps,none)→∀m2:Mem,kR m2 j0 cs=some (ps,none)
 |[],j0,ps,h,m2=>h
 |v::r,j0,ps,h,m2=>by
  unfold kR at h;split at h
  ·rename_i heq;cases heq
  ·rename_i j id r' heq;split at h
   ·split at h
    ·simp at h
    ·cases h
   ·cases h
  ·rename_i j v' r' cB heq;simp only[List.cons.injEq]at heq;obtain⟨rfl,rfl⟩:=heq;unfold kR;split
   ·rename_i heq;cases heq
   ·rename_i j id r' heq;simp only[List.cons.injEq]at heq;exact absurd heq.1 (cB id)
   ·rename_i j v' r' cB heq;simp only[List.cons.injEq]at heq;obtain⟨rfl,rfl⟩:=heq;split at h
    ·rename_i p hp;split at h
     ·rename_i ps' t ht;simp only[Option.some.injEq,Prod.mk.injEq]at h;obtain⟨rfl,rfl⟩:=h;rw[DP ht m2]
     ·cases h
    ·cases h
theorem vH{m m2:Mem}{j id2:Nat}(hm:m2 id2=m id2):∀{cs:List V}{j0:Nat}{ps:List PV},kR m j0 cs=some (ps,some (j,id2))→kR m2 j0 cs=some (ps,some (j,id2))
 |[],j0,ps,h=>by simp[kR]at h
 |v::r,j0,ps,h=>by
  unfold kR at h;split at h
  ·rename_i heq;cases heq
  ·rename_i j id r' heq;simp only[List.cons.injEq]at heq;obtain⟨rfl,rfl⟩:=heq;split at h
   ·rename_i s et es Qe;split at h
    ·rename_i ps' ht;simp only[Option.some.injEq,Prod.mk.injEq]at h;obtain⟨rfl,rfl,rfl⟩:=h;simp only[kR,hm,Qe,DP ht m2]
    ·cases h
   ·cases h
  ·rename_i j v' r' cB heq;simp only[List.cons.injEq]at heq;obtain⟨rfl,rfl⟩:=heq;unfold kR;split
   ·rename_i heq;cases heq
   ·rename_i j id r' heq;simp only[List.cons.injEq]at heq;exact absurd heq.1 (cB id)
   ·rename_i j v' r' cB heq;simp only[List.cons.injEq]at heq;obtain⟨rfl,rfl⟩:=heq;split at h
    ·rename_i p hp;split at h
     ·rename_i ps' t ht;simp only[Option.some.injEq,Prod.mk.injEq]at h;obtain⟨rfl,rfl⟩:=h;rw[vH hm ht]
     ·cases h
    ·cases h
theorem Mu{site:Nat}{o:Oper}{f f2:Fr}{m m2:Mem}{sp:Sp}(h:xV E site o f m=some sp)(hf:∀x∈o.op.operands,bw E f2 x=bw E f x)(hm:∀x∈(sp.info site).2,m2 x.2=m x.2):xV E site o f2 m2=some sp:=by
 obtain⟨dst,op,type,pos,after,guard⟩:=o;unfold xV at h⊢;cases op;case store t a x=>
  simp only at h⊢;rw[hf a (by simp[Op.operands]),hf x (by simp[Op.operands])];split at h
  ·rename_i id i off ha;split at h
   ·rename_i s et es Qe;split at h
    ·rename_i cs hc;split at h
     ·rename_i ps j id2 ht;split at h
      ·rename_i jX;simp only[Option.some.injEq]at h;subst h;have h1:m2 id=m id:=hm (true,id) (by simp[Sp.info]);have h2:m2 id2=m id2:=hm (true,id2) (by simp[Sp.info]);simp only[ha,h1,Qe,hc,vH h2 ht,jX,if_true]
      ·cases h
     ·cases h
    ·cases h
   ·cases h
  ·cases h
 case buildSlice t len parts=>
  simp only at h⊢;have Ms:(parts.toList.map fun(x:Nat×Operand)=>(x.1,bw E f2 x.2))=parts.toList.map fun(x:Nat×Operand)=>(x.1,bw E f x.2):=List.map_congr_left fun x hx=>by rw[hf x.2 (by simp only[Op.operands,List.mem_toArray,List.mem_map];exact⟨x,hx,rfl⟩)]
  rw[Ms];split at h
  ·rename_i e v hu hp;split at h
   ·rename_i cs hc;split at h
    ·rename_i ps j id2 ht hs;split at h
     ·rename_i p Fs;split at h
      ·rename_i jX;simp only[Option.some.injEq]at h;subst h;have h1:m2 site=m site:=hm (true,site) (by simp[Sp.info]);have h2:m2 id2=m id2:=hm (true,id2) (by simp[Sp.info]);simp only[hu,hp,hc,vH h2 ht,h1,hs,Fs,jX,if_true]
      ·cases h
     ·cases h
    ·cases h
   ·cases h
  ·cases h
 case call c=>
  obtain⟨callee,args,argTypes⟩:=c;simp only at h⊢;have jf:args.toList.map (bw E f2)=args.toList.map (bw E f):=List.map_congr_left fun x hx=>hf x (by simp only[Op.operands,Call.operands];cases callee<;>simp[Array.mem_toList_iff.1 hx]);rw[jf];split at h
  ·rename_i id x t t' ha Qf;split at h
   ·rename_i e s et es hu Qe;split at h
    ·rename_i jX;have plain:∀{new:List PV}{rd:bk},eM m s x=some (new,rd)→x.has id=false→sp=.app id s et es new none rd→eM m2 s x=some (new,rd):=by intro new rd AG hxh pT;subst pT;obtain⟨e1,_,_⟩:=nA AG;exact e1 m2 fun y hy=>hm y (by simp[Sp.info,hy])
     split at h
     ·rename_i pI;split at h
      ·rename_i s' C4 new hm';split at h
       ·rename_i Rv;simp only[Option.some.injEq]at h;subst h;have h1:m2 id=m id:=hm (true,id) (by simp[Sp.info]);have h2:m2 pI=m pI:=hm (true,pI) (by simp[Sp.info]);simp only[ha,Qf,hu,h1,Qe,jX,if_true,h2,hm',Rv]
       ·cases h
      ·rename_i hnn;split at h
       ·rename_i new rd AG;split at h
        ·cases h
        ·rename_i hxh;simp only[Option.some.injEq]at h;have Uj:=plain AG (by simpa using hxh) h.symm;subst h;have h1:m2 id=m id:=hm (true,id) (by simp[Sp.info]);simp only[ha,Qf,hu,h1,Qe,jX,if_true,Uj];split
         ·rename_i s' C4 agG cq;exfalso;simp only[eM,cq]at Uj;cases Uj
         ·rw[if_neg hxh]
       ·cases h
     ·rename_i agH;split at h
      ·rename_i new rd AG;split at h
       ·cases h
       ·rename_i hxh;simp only[Option.some.injEq]at h;have Uj:=plain AG (by simpa using hxh) h.symm;subst h;have h1:m2 id=m id:=hm (true,id) (by simp[Sp.info]);simp only[ha,Qf,hu,h1,Qe,jX,if_true,Uj];try rw[if_neg hxh]
      ·cases h
    ·cases h
   ·cases h
  ·cases h
 case mapUpdate t x key v=>
  simp only at h⊢;rw[hf x (by simp[Op.operands]),hf key (by simp[Op.operands]),hf v (by simp[Op.operands])];split at h
  ·rename_i kt et id id2 hu hx hv;split at h
   ·rename_i vh e es s e' rs kp h1 h2 hk;split at h
    ·rename_i jX;simp only[Option.some.injEq]at h;subst h;have h3:m2 id=m id:=hm (true,id) (by simp[Sp.info]);have h4:m2 id2=m id2:=hm (true,id2) (by simp[Sp.info]);simp only[hu,hx,hv,h3,h4,h1,h2,hk,jX,if_true]
    ·cases h
   ·cases h
  ·cases h
 all_goals (cases h)
end
end Go.Ab
