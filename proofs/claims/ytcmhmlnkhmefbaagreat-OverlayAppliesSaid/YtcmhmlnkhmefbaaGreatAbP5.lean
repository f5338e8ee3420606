import Derived.Test.YtcmhmlnkhmefbaaGreatAbP4
import Derived.RangeFuncRecord
import Derived.Laws.IdiomRangeMap
set_option linter.unusedVariables false
namespace Go.Ab
section
variable {P:Program} {G:Nat→Option (List PV)} {w0:bx} {μ:Ro} {φ:Nat→aG} {m:Mem} {w:World}
theorem az.aaz(hM:az P G w0 μ φ m w){g:Nat}(hB:w0.heap.size≤g)(aaA:∀id b,m id=some b→¬b.owns (φ id) g):az P G w0 (nK μ w (some g)) φ m w:=by
 have mono:=kj hM (some g);refine⟨hM.below,fun b o hb=>?_,fun g' cs hg=>(hM.aH g' cs hg).mono mono,fun j c hj=>(hM.dG j c hj).cE (fun _ _=>rfl) rfl mono (fun _ _=>rfl),fun j c g' hj bV=>?_,hM.inj,hM.apart,hM.fp,fun b o hb bu=>?_,fun b o hb=>mono b o (hM.dB b o hb),hM.zO⟩
 ·unfold nK at hb;split at hb
  ·exact hb
  ·exact hM.ro b o hb
 ·obtain⟨h1,h2⟩:=hM.own j c g' hj bV;refine⟨h1,fun BI=>?_⟩;unfold nK;split
  ·rename_i he;simp only[Option.some.injEq]at he;subst he;exact absurd bV (aaA j c hj)
  ·exact h2 BI
 ·unfold nK at hb;split at hb
  ·rename_i he;simp only[Option.some.injEq]at he;omega
  ·exact hM.base b o hb bu
theorem JP(w:World)(g:Nat)(o:Obj):jG g w (w.putObj g o):=⟨⟨rfl,rfl,rfl,by simp,fun k hk=>World.putObj_heap_other (by omega)⟩,fun _=>Nat.le_refl _⟩
theorem xx{A:Type}(f:A→Nat):∀{l:List A}{i:Nat}{e:A},l[i]?=some e→(∀(j:Nat)x,l[j]?=some x→f x=f e→j=i)→l.filter (fun x=> !(f x==f e))=l.eraseIdx i
 |[],i,e,h,_=>by simp at h
 |y::l,0,e,h,inj=>by simp only[List.getElem?_cons_zero,Option.some.injEq]at h;subst h;simp only[List.filter_cons,BEq.rfl,Bool.not_true,Bool.false_eq_true,if_false,List.eraseIdx_cons_zero];rw[List.filter_eq_self];intro x hx;obtain⟨j,hj⟩:=List.mem_iff_getElem?.1 hx;simp only[Bool.not_eq_true',beq_eq_false_iff_ne];intro e;have:=inj (j+1) x (by simpa using hj) e;omega
 |y::l,i+1,e,h,inj=>by
  have h':l[i]?=some e:=by simpa using h
  have cQ:¬f y=f e:=fun e'=>by have:=inj 0 y rfl e';omega
  have hb:(f y==f e)=false:=by simpa using cQ
  simp only[List.filter_cons,hb,Bool.not_false,if_true,List.eraseIdx_cons_succ];rw[xx f h' (fun j x hj e'=>by have:=inj (j+1) x (by simpa using hj) e';omega)]
theorem Ec(en:Array MapEntry):jH en #[]=en.toList:=by unfold jH;rw[List.filter_eq_self];intro x _;simp
variable{en:Array MapEntry}{clock:Nat}{seen:Array Nat}{e:MapEntry}
theorem BW(hb:kh en clock){i:Nat}(hi:(jH en seen)[i]?=some e):jH en (seen.push e.born)=(jH en seen).eraseIdx i:=by
 have h1:jH en (seen.push e.born)=(jH en seen).filter (fun x=> !(x.born==e.born)):=by unfold jH;rw[List.filter_filter];congr 1;funext x;simp only[Array.contains_push,Bool.not_or];rw[Bool.and_comm]
 rw[h1];refine xx (fun x=>x.born) hi fun j x hj e'=>?_;have QY:(jH en seen).Pairwise fun a b=>a.born≠b.born:=by
  unfold jH;refine List.Pairwise.filter _ ?_;rw[List.pairwise_iff_getElem];intro a b ha fV ry he;have h2:en[a]?=some en.toList[a]:=by rw[←Array.getElem?_toList];exact List.getElem?_eq_getElem ha
  have h3:en[b]?=some en.toList[b]:=by rw[←Array.getElem?_toList];exact List.getElem?_eq_getElem fV
  have:=(hb b _ h3).2 a _ h2 he;omega
 have yz:j<(jH en seen).length:=(List.getElem?_eq_some_iff.1 hj).1;have QZ:i<(jH en seen).length:=(List.getElem?_eq_some_iff.1 hi).1;rw[List.getElem?_eq_getElem yz]at hj;rw[List.getElem?_eq_getElem QZ]at hi;simp only[Option.some.injEq]at hj hi;rw[List.pairwise_iff_getElem]at QY;rcases Nat.lt_trichotomy j i with h|h|h
 ·exact absurd (by rw[hj,hi];exact e') (QY j i yz QZ h)
 ·exact h
 ·exact absurd (by rw[hj,hi];exact e'.symm) (QY i j QZ yz h)
theorem Pm(h:e∈jH en seen):∃i:Nat,en[i]?=some e:=by unfold jH at h;have:=(List.mem_filter.1 h).1;obtain⟨i,hi⟩:=List.mem_iff_getElem?.1 this;exact⟨i,by rw[←Array.getElem?_toList];exact hi⟩
theorem Pn{w:World}{g mg:Nat}(hg:w.heap[g]?=some (.mapIter (some mg) clock seen clock))(hm:w.heap[mg]?=some (.map en clock))(hb:kh en clock)(ty:TypeId):(jH en seen=[]∧(Instr.next (.pointer (some ⟨g,0,none⟩)) false ty).run P w=.ok (.tuple #[.bool false]) w)∨∃(j:Nat)(e:MapEntry)(w1:World),(jH en seen)[j]?=some e∧(w1=w∨w1=w.drew)∧(Instr.next (.pointer (some ⟨g,0,none⟩)) false ty).run P w=.ok (.tuple #[.bool true,e.key,e.val]) (w1.putObj g (.mapIter (some mg) clock (seen.push e.born) clock)):=by
 have hold:∀x∈en.toList,x.born<clock:=fun x hx=>by obtain⟨i,hi⟩:=List.mem_iff_getElem?.1 hx;exact(hb i x (by rw[←Array.getElem?_toList];exact hi)).1
 simp only[Instr.next,getObj,Sem.run_bind,Sem.run,hg,hm,Result.andThen,next_test_false seen en clock clock hold (Nat.le_refl _),Bool.false_eq_true,if_false];have hL:(Array.filter (fun e=> !seen.contains e.born) en).toList=jH en seen:=by simp[jH]
 have bO:∀x∈(Array.filter (fun e=> !seen.contains e.born) en).toList,x.born<clock:=fun x hx=>hold x (by simp at hx⊢;exact hx.1);generalize Array.filter (fun e=> !seen.contains e.born) en=L at bO hL⊢;have e1:L.filter (fun x=>decide (x.born<clock))=L:=Array.filter_eq_self.2 (fun x hx=>by simpa using bO x (by simpa using hx));have e2:L.filter (fun x=>decide (x.born≥clock))= #[]:=by rw[Array.filter_eq_empty_iff];intro x hx;have:=bO x (by simpa using hx);simp;omega
 simp only[e1,e2,Array.append_empty];rw[←hL];by_cases h0:L.size=0
 ·left;have:L= #[]:=Array.eq_empty_of_size_eq_zero h0;subst this;refine⟨rfl,?_⟩;simp[choose,Sem.run,Question.forced]
 ·right;have cQ:L.isEmpty=false:=by simp[Array.isEmpty,h0]
  simp only[cQ,Bool.false_eq_true,if_false,Array.empty_append,Array.size_map];have hch:∃(j:Nat)(w1:World),j<L.size∧(w1=w∨w1=w.drew)∧(choose (Question.mapNext L.size)).run P w=.ok j w1:=by
   by_cases hf:L.size≤1
   ·exact⟨0,w,by omega,.inl rfl,by simp[choose,Sem.run,Question.forced,hf]⟩
   ·exact⟨_,w.drew,Nat.mod_lt _ (by omega),.inr rfl,by simp only[choose,Sem.run,Question.forced,decide_eq_true_eq,hf,if_false,Question.cut];rfl⟩
  obtain⟨j,w1,hj,Pd,mo⟩:=hch;refine⟨j,L[j],w1,by rw[Array.getElem?_toList,Array.getElem?_eq_getElem hj],Pd,?_⟩;have hg1:w1.heap[g]?=some (.mapIter (some mg) clock seen clock):=by rcases Pd with rfl|rfl<;>exact hg
  have rJ:(setObj g (.mapIter (some mg) clock (seen.push L[j].born) clock)).run P w1=.ok () (w1.putObj g (.mapIter (some mg) clock (seen.push L[j].born) clock)):=by simp only[setObj,Sem.run,hg1];rfl
  simp only[mo,Array.getElem?_map,Array.getElem?_eq_getElem hj,Option.map_some,Sem.run_bind,rJ,Result.andThen];rfl
theorem JQ{w:World}{g mg:Nat}{i:Nat}(hg:w.heap[g]?=some (.mapIter (some mg) clock seen clock))(hm:w.heap[mg]?=some (.map en clock))(hb:kh en clock)(hi:en[i]?=some e)(hs:seen.back? =some e.born):(Instr.entry (.pointer (some ⟨g,0,none⟩))).run P w=.ok (.tuple #[e.key,e.val]) w:=by
 have hf:en.find? (·.born==e.born)=some e:=by
  rw[←Array.find?_toList];refine find_born e en.toList ?_ (by rw[Array.mem_toList_iff];exact Array.mem_of_getElem? hi);rw[List.Nodup,List.pairwise_map,List.pairwise_iff_getElem];intro a b ha fV ry he;have h2:en[a]?=some en.toList[a]:=by rw[←Array.getElem?_toList];exact List.getElem?_eq_getElem ha
  have h3:en[b]?=some en.toList[b]:=by rw[←Array.getElem?_toList];exact List.getElem?_eq_getElem fV
  have:=(hb b _ h3).2 a _ h2 he;omega
 simp only[Instr.entry,getObj,Sem.run_bind,Sem.run,hg,hm,Result.andThen,hs,bne_self_eq_false,Bool.false_eq_true,if_false,hf];rfl
end
section
variable {R:Type} {E:Env}
variable{g:Nat→Option R}{r:R}
theorem JR{n:Nat}(h:qo n g=some r)(i:Nat)(hi:i<n):g i=some r:=by
 unfold qo at h;split at h
 ·rename_i hh;simp only[Option.some.injEq]at h;subst h;exact Classical.choose_spec hh i hi
 ·cases h
theorem BX{n:Nat}(h0:0<n)(h:∀i,i<n→g i=some r):qo n g=some r:=by unfold qo;have hh:∃r,∀i,i<n→g i=some r:=⟨r,h⟩;rw[dif_pos hh];have:=Classical.choose_spec hh 0 h0;rw[h 0 h0]at this;exact this.symm
variable{k:V→Fr→Mem→Option R}
theorem Po{site:Nat}{t:TypeId}{x:V}{f:Fr}{m:Mem}(h:Jx E site t x f m k=some r):∃f' m',k (.it site) f' m'=some r∧(m' site).isSome=true∧∀(G:Nat→Option (List PV))(w0:bx)(μ:Ro)(φ:Nat→aG)(w:World)(ρ:Nat→Value)(y:Value),az E.P G w0 μ φ m w→cm E.P μ φ m f ρ→ai E.P μ φ x y→∃w' y' μ' φ',(Instr.range t y).run E.P w=.ok y' w'∧az E.P G w0 μ' φ' m' w'∧cm E.P μ' φ' m' f' ρ∧ai E.P μ' φ' (.it site) y':=by
 unfold Jx at h;split at h
 ·rename_i kt et hu;split at h
  ·rename_i id;split at h
   ·rename_i tn es hm;split at h
    ·obtain⟨f',m',hn,jJ,vp,wz,tF⟩:=cF h;refine⟨f',m',jJ,by simp[vp],fun G w0 μ φ w ρ y hM hF hx=>?_⟩;obtain⟨g,en,clock,kk,hg,hh,hs,yS,AN,s9,hv⟩:=hM.dG id _ hm;obtain⟨o1,o2⟩:=hM.own id _ g hm (.inl hg);cases hx with
     |om bV=>
      rw[hg]at bV;simp only[Option.some.injEq]at bV;subst bV;have rI:=hM.forget id;have hM2:=rI.aaz o1 (fun j b hj e=>by obtain⟨cQ,b',fV,rfl⟩:=eL hj;exact cQ (hM.inj j id b' _ g fV hm (fI.1 e) (.inl hg)));have Ee:=kj rI (some g);have AP:cm E.P (nK μ w (some g)) φ (bh (bB id m) id) (eP id f) ρ:=(hF.forget id).mono Ee fun j hj=>⟨rfl,hj⟩;have jf:∀φ':Nat→aG,φ' site=(Dg (some w.heap.size) 0 0 0)→(∀j,(bL.iter t es none).names j=true→φ' j=φ j)→fW E.P (nK μ w (some g)) φ' (w.alloc (.mapIter (some g) clock #[] clock)) site (.iter t es none):=fun φ' hp _=>by
       refine⟨w.heap.size,g,en,clock,#[],by rw[hp],fJ w _,by simp[nK,hh],s9,(by rw[Ec,Array.length_toList,hs]),fun i k v e h1 h2=>?_,fun k v h=>by cases h⟩;have Pj:en[i]?=some e:=by rw[←Array.getElem?_toList,←Ec en];exact h2
       exact⟨(hv i k v e h1 Pj).1.mono Ee,(hv i k v e h1 Pj).2.mono Ee⟩
      obtain⟨φ',a1,a2,a3⟩:=tF E.P G w0 _ φ w (w.alloc (.mapIter (some g) clock #[] clock)) ρ (Dg (some w.heap.size) 0 0 0) hM2 AP (jI.alloc (o:=.mapIter (some g) clock #[] clock) hM2 rfl jf (by simp[bL.names]));exact⟨_,_,_,φ',run_range_map w t kt et g en clock hu hh,a2,a3,.it (by rw[a1])⟩
    ·cases h
   ·cases h
  ·cases h
 ·cases h
theorem xy{A:Type}{l:List A}{i j:Nat}{x:A}(h:(l.eraseIdx i)[j]?=some x):l[if j<i then j else j+1]?=some x:=by
 rw[List.getElem?_eraseIdx]at h;split at h
 ·rename_i bu;rw[if_pos bu];exact h
 ·rename_i bu;rw[if_neg bu];exact h
theorem RP{x:V}{f:Fr}{m:Mem}(h:Rl E x f m k=some r)(G:Nat→Option (List PV))(w0:bx)(μ:Ro)(φ:Nat→aG)(w:World)(y:Value)(ty:TypeId)(hM:az E.P G w0 μ φ m w)(hx:ai E.P μ φ x y):∃v m' y' w',k v f m'=some r∧(∀id,v.has id=false)∧iU m m'∧(Instr.next y false ty).run E.P w=.ok y' w'∧az E.P G w0 μ φ m' w'∧ai E.P μ φ v y':=by
 unfold Rl at h;split at h
 ·rename_i id;split at h
  ·rename_i t es cur hm;split at h
   ·rename_i kt et hu;obtain⟨g,mg,en,clock,seen,hg,hh,BI,s9,yP,hv,_⟩:=hM.dG id _ hm;obtain⟨o1,o2⟩:=hM.own id _ g hm (.inl hg);cases hx with
    |it bV=>
     rw[hg]at bV;simp only[Option.some.injEq]at bV;subst bV;have hmg:=hM.ro _ _ BI;rcases Pn (P:=E.P) hh hmg s9 ty with⟨Vk,mo⟩|⟨j,e,w1,hj,NQ,mo⟩
     ·have:es=[]:=by rw[Vk]at yP;exact List.eq_nil_of_length_eq_zero yP.symm
      subst this;simp only[List.isEmpty_nil,if_true]at h;refine⟨_,m,_,w,h,by simp[V.has,cr],iU.refl m,mo,hM,.aZ rfl fun i p x hp hx=>?_⟩;cases i with
      |zero=>simp at hp hx;subst hp;subst hx;exact .pv .bool
      |succ i=>simp at hp
     ·have yz:j<(jH en seen).length:=(List.getElem?_eq_some_iff.1 hj).1;have cQ:¬es.isEmpty=true:=by
       have dK:0<es.length:=by omega
       intro e';rw[List.isEmpty_iff]at e';rw[e']at dK;exact absurd dK (Nat.lt_irrefl 0)
      rw[if_neg cQ]at h;have h:=JR h j (by omega);obtain⟨e0,Du,h⟩:=Option.bind_eq_some_iff.1 h;obtain⟨qa,_,ha,ra,_⟩:=j3 h;obtain⟨qb,_,hb,rb,_⟩:=j3 ha;obtain⟨rk,rv⟩:=hv j e0.1 e0.2 e Du hj;refine⟨_,_,_,_,hb,by simp[V.has,cr],.set,mo,?_,.aZ rfl fun i p x hp hx=>?_⟩
      ·have rI:az E.P G w0 μ φ m w1:=by rcases NQ with rfl|rfl;exact hM;exact hM.drew
       have bu:g<w1.heap.size:=by have:g<w.heap.size:=(Array.getElem?_eq_some_iff.1 hh).1;rcases NQ with rfl|rfl<;>exact this
       refine rI.write hm rfl hg (JP w1 g _) World.putObj_size (fun k hk=>World.putObj_heap_other hk) ?_ rfl (by simp[bL.names]);refine⟨g,mg,en,clock,seen.push e.born,hg,World.putObj_heap_same bu,BI,s9,?_,fun i k v e' h1 h2=>?_,fun k v hc=>?_⟩
       ·rw[BW s9 hj,List.length_eraseIdx,List.length_eraseIdx,yP]
       ·rw[BW s9 hj]at h2;exact hv _ k v e' (xy h1) (xy h2)
       ·simp only[Option.some.injEq,Prod.mk.injEq]at hc;obtain⟨rfl,rfl⟩:=hc;obtain⟨i,hi⟩:=Pm (List.mem_of_getElem? hj);exact⟨i,e,hi,by simp,ra _ _ _ rk,rb _ _ _ rv⟩
      ·match i with
       |0=>simp at hp hx;subst hp;subst hx;exact .pv .bool
       |1=>simp at hp hx;subst hp;subst hx;exact .pv (ra _ _ _ rk)
       |2=>simp at hp hx;subst hp;subst hx;exact .pv (rb _ _ _ rv)
       |i+3=>simp at hp
   ·cases h
  ·cases h
 ·cases h
theorem Pp{x:V}{m:Mem}{k:V→Mem→Option R}(h:Jy x m k=some r)(P:Program)(G:Nat→Option (List PV))(w0:bx)(μ:Ro)(φ:Nat→aG)(w:World)(y:Value)(hM:az P G w0 μ φ m w)(hx:ai P μ φ x y):∃v m' y',k v m'=some r∧(∀id,v.has id=false)∧iU m m'∧(Instr.entry y).run P w=.ok y' w∧az P G w0 μ φ m' w∧ai P μ φ v y':=by
 unfold Jy at h;split at h
 ·rename_i id;split at h
  ·rename_i t es a b hm;obtain⟨g,mg,en,clock,seen,hg,hh,BI,s9,yP,hv,hcu⟩:=hM.dG id _ hm;obtain⟨i,e,hi,hs,ra,rb⟩:=hcu a b rfl;cases hx with
   |it bV=>
    rw[hg]at bV;simp only[Option.some.injEq]at bV;subst bV;refine⟨_,_,_,h,by simp[V.has,cr],.set,JQ hh (hM.ro _ _ BI) s9 hi hs,?_,.aZ rfl fun i p x hp hx=>?_⟩
    ·exact hM.write hm rfl hg (jG.refl _ _) rfl (fun _ _=>rfl) ⟨g,mg,en,clock,seen,hg,hh,BI,s9,yP,hv,fun k v h=>by cases h⟩ rfl (by simp[bL.names])
    match i with
    |0=>simp at hp hx;subst hp;subst hx;exact .pv ra
    |1=>simp at hp hx;subst hp;subst hx;exact .pv rb
    |i+2=>simp at hp
  ·cases h
 ·cases h
end
end Go.Ab
set_option linter.unusedVariables false
namespace Go.Ab
section
variable {P:Program} {G:Nat→Option (List PV)} {w0:bx} {μ μ':Ro} {φ φ':Nat→aG} {m m':Mem} {w w':World}
variable{id j:Nat}{b:bL}
theorem gA(h:eU id m j=some b):∃b',m j=some b'∧b=dN id b':=by
 unfold eU at h;cases hm:m j with
 |none=>rw[hm]at h;cases h
 |some b'=>rw[hm]at h;simp only[Option.some.injEq]at h;exact⟨b',rfl,h.symm⟩
theorem mL:(eU id m j).isSome=(m j).isSome:=by unfold eU;cases m j<;>rfl
theorem zZ(id:Nat)(b:bL):(dN id b).rowAt=b.rowAt:=by cases b<;>rfl
theorem oR{p:aG}{g:Nat}:(dN id b).owns p g↔b.owns p g:=by unfold bL.owns;rw[zZ]
theorem tO{p:aG}:(dN id b).apart p↔b.apart p:=by unfold bL.apart;rw[zZ]
theorem wB(id:Nat)(b:bL):(dN id b).iE=b.iE:=by cases b<;>rfl
theorem JS{cs:List V}(h:cr j (cs.map (ml id))=true):cr j cs=true:=by obtain⟨v,hv,hh⟩:=cR.1 h;obtain⟨u,hu,rfl⟩:=List.mem_map.1 hv;exact bM hu (vi hh).1
theorem fW.vT{id j:Nat}{b:bL}(h:fW P μ φ w j b):fW P μ φ w j (dN id b):=by
 cases b with
 |box cs=>obtain⟨g,c,T,hg,hh,hs,hv,h1,yP⟩:=h;refine⟨g,c,T,hg,hh,by simpa using hs,fun i v x hi hx=>?_,h1,by simpa using yP⟩;simp only[List.getElem?_map,Option.map_eq_some_iff]at hi;obtain⟨u,hu,rfl⟩:=hi;exact(hv i u x hu hx).vT id
 |_=>exact h
theorem az.sE(hM:az P G w0 μ φ m w)(id:Nat):az P G w0 μ φ (eU id m) w:=by
 refine⟨hM.below,hM.ro,hM.aH,fun j b h=>?_,fun j b g h hg=>?_,fun i j b1 b2 g h1 h2 g1 g2=>?_,fun j b h=>?_,fun j cs i h hh=>?_,hM.base,hM.dB,fun j st h=>?_⟩
 ·obtain⟨b',hb,rfl⟩:=gA h;exact(hM.dG j b' hb).vT
 ·obtain⟨b',hb,rfl⟩:=gA h;rw[wB];exact hM.own j b' g hb (oR.1 hg)
 ·obtain⟨b1',QV,rfl⟩:=gA h1;obtain⟨b2',oL,rfl⟩:=gA h2;exact hM.inj i j b1' b2' g QV oL (oR.1 g1) (oR.1 g2)
 ·obtain⟨b',hb,rfl⟩:=gA h;exact tO.2 (hM.apart j b' hb)
 ·obtain⟨b',hb,e⟩:=gA h;cases b' with
  |box DZ=>simp only[dN,bL.box.injEq]at e;subst e;rw[mL];exact hM.fp j DZ i hb (JS hh)
  |_=>simp[dN]at e
 ·obtain⟨b',hb,e⟩:=gA h;cases b' with
  |loop st'=>simp only[dN,bL.loop.injEq]at e;subst e;exact hM.zO j st hb
  |_=>simp[dN]at e
variable{ρ:Nat→Value}
theorem cm.sE{f:Fr}(h:cm P μ φ m f ρ)(id:Nat):cm P μ φ (eU id m) (gn id f) ρ:=⟨fun t=>(h.fr t).vT id,fun t j hj=>by rw[mL];exact h.live t j (vi hj).1⟩
theorem az.km:∀{kl:Kl}{m:Mem},az P G w0 μ φ m w→az P G w0 μ φ (Go.Ab.km kl m) w
 |[],_,h=>h
 |(true,id)::r,m,h=>(az.km (kl:=r) (m:=bh (bB id m) id) (h.forget id):)
 |(false,id)::r,m,h=>(az.km (kl:=r) (m:=eU id m) (h.sE id):)
theorem cm.km{ρ:Nat→Value}:∀{kl:Kl}{m:Mem}{f:Fr},cm P μ φ m f ρ→cm P μ φ (Go.Ab.km kl m) (kf kl f) ρ
 |[],_,_,h=>h
 |(true,id)::r,m,f,h=>(cm.km (kl:=r) (m:=bh (bB id m) id) (f:=eP id f) (h.forget id):)
 |(false,id)::r,m,f,h=>(cm.km (kl:=r) (m:=eU id m) (f:=gn id f) (h.sE id):)
theorem az.NR(hM:az P G w0 μ φ m w)(nw:Nat→Nat→Nat)(hblk:∀j b',m' j=some b'→fW P μ φ' w j b')(wy:∀j b' g,m' j=some b'→b'.owns (φ' j) g→∃k b,m k=some b∧b.owns (φ k) g∧(b'.iE=true→b.iE=true)∧j=nw g k)(BM:∀j b',m' j=some b'→b'.apart (φ' j))(zN:∀j cs id,m' j=some (.box cs)→cr id cs=true→(m' id).isSome=true)(aeO:∀j st,m' j=some (.loop st)→m j=some (.loop st)∧(φ' j).g=(φ j).g):az P G w0 μ φ' m' w:=by
 refine⟨hM.below,hM.ro,hM.aH,hblk,fun j b' g h hg=>?_,fun i j b1 b2 g h1 h2 g1 g2=>?_,BM,zN,hM.base,hM.dB,fun j st h=>?_⟩
 ·obtain⟨k,b,hk,ho,BI,_⟩:=wy j b' g h hg;obtain⟨o1,o2⟩:=hM.own k b g hk ho;exact⟨o1,fun h=>o2 (BI h)⟩
 ·obtain⟨k1,c1,Pq,ho1,_,e1⟩:=wy i b1 g h1 g1;obtain⟨k2,c2,Vl,ho2,_,e2⟩:=wy j b2 g h2 g2;rw[e1,e2,hM.inj k1 k2 c1 c2 g Pq Vl ho1 ho2]
 ·obtain⟨h1,h2⟩:=aeO j st h;obtain⟨g,rc,r1,r2,r3⟩:=hM.zO j st h1;exact⟨g,rc,by rw[h2];exact r1,r2,r3⟩
def jj(p:aG)(i off:Nat)(r:zP):aG:={p with row:=fun a b=>if a=i∧b=off then r else p.row a b}
theorem fP(p:aG)(i off:Nat)(r:zP):(jj p i off r).row i off=r:=by simp[jj]
theorem fX(p:aG){i off a b:Nat}(r:zP)(h:¬(a=i∧b=off)):(jj p i off r).row a b=p.row a b:=by simp[jj,h]
theorem fW.NS(h:fW P μ φ w j (dN id b))(hj:j≠id)(h0:(φ' id).tozP=(φ id).tozP)(hφ:∀k,k≠id→φ' k=φ k):fW P μ φ' w j (dN id b):=by
 have e:=hφ j hj;cases b with
 |box cs=>
  obtain⟨g,c,T,hg,hh,hs,hv,h1,yP⟩:=h;refine⟨g,c,T,by rw[e];exact hg,hh,hs,fun i v x hi hx=>?_,h1,by rw[e];exact yP⟩;refine(hv i v x hi hx).WM (fun _ _ h=>h) fun k hk=>?_;by_cases Vm:k=id
  ·subst Vm;refine⟨h0,fun h2=>?_⟩;simp only[List.getElem?_map,Option.map_eq_some_iff]at hi;obtain⟨u,hu,rfl⟩:=hi;rw[(vi hk).2]at h2;cases h2
  ·rw[hφ k Vm];exact⟨rfl,fun _=>rfl⟩
 |arr sz et es=>exact fW.cE h (fun k hk=>by simp[bL.names,dN]at hk) e (fun _ _ h=>h) (fun _ _=>rfl)
 |nZ sz et es=>exact fW.cE h (fun k hk=>by simp[bL.names,dN]at hk) e (fun _ _ h=>h) (fun _ _=>rfl)
 |map kt es=>exact fW.cE h (fun k hk=>by simp[bL.names,dN]at hk) e (fun _ _ h=>h) (fun _ _=>rfl)
 |nest sz et es=>exact fW.cE h (fun k hk=>by simp[bL.names,dN]at hk) e (fun _ _ h=>h) (fun _ _=>rfl)
 |e8 kt e0 es=>exact fW.cE h (fun k hk=>by simp[bL.names,dN]at hk) e (fun _ _ h=>h) (fun _ _=>rfl)
 |loop st=>exact fW.cE h (fun k hk=>by simp[bL.names,dN]at hk) e (fun _ _ h=>h) (fun _ _=>rfl)
 |iter t es cur=>exact fW.cE h (fun k hk=>by simp[bL.names,dN]at hk) e (fun _ _ h=>h) (fun _ _=>rfl)
theorem cm.W0{f:Fr}(h:cm P μ φ m (gn id f) ρ)(h0:(φ' id).tozP=(φ id).tozP)(hφ:∀k,k≠id→φ' k=φ k)(hl:∀j,(m j).isSome=true→(m' j).isSome=true):cm P μ φ' m' (gn id f) ρ:=by
 refine⟨fun t=>(h.fr t).WM (fun _ _ h=>h) fun k hk=>?_,fun t j hj=>hl j (h.live t j hj)⟩;by_cases Vm:k=id
 ·subst Vm;refine⟨h0,fun h2=>?_⟩;have:=(vi (show(ml k (f t)).has k=true from hk)).2;rw[show gn k f t=ml k (f t)from rfl,this]at h2;cases h2
 ·rw[hφ k Vm];exact⟨rfl,fun _=>rfl⟩
theorem fh{id2:Nat}{b':bL}(h:au (eU id (bh (bB id2 m) id2)) id b j=some b'):(j=id∧b'=b)∨(j≠id∧j≠id2∧∃c,m j=some c∧b'=dN id (fM id2 c)):=by
 by_cases e:j=id
 ·subst e;rw[aN]at h;simp only[Option.some.injEq]at h;exact .inl ⟨rfl,h.symm⟩
 ·rw[av e]at h;obtain⟨c1,h1,rfl⟩:=gA h;obtain⟨cQ,c,hc,rfl⟩:=eL h1;exact .inr ⟨e,cQ,c,hc,rfl⟩
theorem JT{x:Value}(h:ai P μ φ (.os id) x):ai P μ (fun _=>((φ id).tozP).up) (.os 0) x:=by
 cases h with
 |pZ h=>exact .pZ h
 |os h=>exact .os (id:=0) (φ:=fun _=>((φ id).tozP).up) h
theorem aL.up{sz:Nat}{et:TypeId}{es:List PV}(h:aL P μ φ w id sz et es):aL P μ (fun _=>((φ id).tozP).up) w 0 sz et es:=h
theorem az.YC(hM:az P G w0 μ φ m w){id2 i off s s2:Nat}{et Hc:TypeId}{es rs:List PV}{e q:PV}{x:Value}(cQ:id2≠id)(hm:m id=some (.nest s et es))(cM:m id2=some (.arr s2 Hc rs))(he:es[i]?=some e)(vY:e.cells[off]?=some .bad)(hx:∀g c,(φ id).g=some g→w.heap[g]?=some (.cells c et (0,0))→c[i*s+off]?=some x)(hv:ai P μ φ (.os id2) x)(hq:q.cells=e.cells.set off (.cK s2 rs)):az P G w0 μ (fun j=>if j=id then jj (φ id) i off (φ id2).tozP else φ j) (au (eU id (bh (bB id2 m) id2)) id (.nest s et (es.set i q))) w:=by
 have rI:=(hM.forget id2).sE id;have hN:aX P μ φ w id s et es:=hM.dG id _ hm;have YB:aL P μ φ w id2 s2 Hc rs:=hM.dG id2 _ cM;have QZ:i<es.length:=(List.getElem?_eq_some_iff.1 he).1;have hol:off<e.cells.length:=(List.getElem?_eq_some_iff.1 vY).1;have iQ:∀a b,(bL.nest s et (es.set i q)).rowAt a b=true→(a=i∧b=off)∨((bL.nest s et es).rowAt a b=true∧¬(a=i∧b=off)):=by
  intro a b hr;by_cases ry:a=i∧b=off
  ·exact .inl ry
  ·refine .inr ⟨?_,ry⟩;rcases iT hr with⟨_,_,_,e',s',rs',fV,h',qq⟩|⟨_,_,_,_,_,_,fV,_⟩
   ·simp only[bL.nest.injEq]at fV;obtain⟨rfl,rfl,rfl⟩:=fV;rcases ek h' with⟨rfl,rfl⟩|⟨RG,h'⟩
    ·rw[hq]at qq;rcases ek qq with⟨rfl,_⟩|⟨hnj,qq⟩
     ·exact absurd ⟨rfl,rfl⟩ ry
     ·rw[dx he qq];rfl
    ·rw[dx h' qq];rfl
   ·cases fV
 refine hM.NR (fun _ k=>if k=id2 then id else k) (fun j b' hj=>?_) (fun j b' g hj ho=>?_) (fun j b' hj=>?_) (fun j cs k hj hk=>?_) (fun j st hj=>?_)
 ·rcases fh hj with⟨rfl,rfl⟩|⟨h1,h2,c,hc,rfl⟩
  ·show aX P μ (fun k=>if k=j then jj (φ j) i off (φ id2).tozP else φ k) w j s et (es.set i q);refine aX.change (μ':=μ) (w':=w) (es':=es.set i q) hN (by simp) (fun i' e' h'=>?_) (by simp[jj]) (fun _ _=>rfl) (fun i' e' j' p' g c x' h' qq hg hc JI hold=>?_)
   ·rcases ek h' with⟨_,rfl⟩|⟨_,h'⟩
    ·rw[hq,List.length_set];exact hN.2.2.2.2.1 i e he
    ·exact hN.2.2.2.2.1 i' e' h'
   ·simp only[if_true];by_cases ry:i'=i∧j'=off
    ·obtain⟨rfl,rfl⟩:=ry;rw[fP];have e1:e'=q:=by
      rcases ek h' with⟨_,h⟩|⟨h,_⟩
      ·exact h
      ·exact absurd rfl h
     subst e1;rw[hq]at qq;have e2:p'=.cK s2 rs:=by
      rcases ek qq with⟨_,h⟩|⟨h,_⟩
      ·exact h
      ·exact absurd rfl h
     subst e2;have e3:x'=x:=by have:=hx g c hg hc;rw[JI]at this;simpa using this
     subst e3;exact⟨⟨Hc,YB.up⟩,JT hv⟩
    ·rw[fX _ _ ry];rcases ek h' with⟨rfl,rfl⟩|⟨RG,h'⟩
     ·rw[hq]at qq;rcases ek qq with⟨rfl,_⟩|⟨hnj,qq⟩
      ·exact absurd ⟨rfl,rfl⟩ ry
      ·exact hold e p' he qq
     ·exact hold e' p' h' qq
  ·have hb:fW P μ φ w j (dN id (fM id2 c)):=(hM.dG j c hc).kill.vT;exact hb.NS h1 (by simp[jj]) fun k hk=>by simp[hk]
 ·rcases fh hj with⟨rfl,rfl⟩|⟨h1,h2,c,hc,rfl⟩
  ·simp only[if_true]at ho;rcases ho with ho|⟨a,b,hr,ho⟩
   ·exact⟨j,_,hm,.inl ho,fun _=>rfl,by simp[cQ.symm]⟩
   ·rcases iQ a b hr with⟨rfl,rfl⟩|⟨ru,ry⟩
    ·rw[fP]at ho;exact⟨id2,_,cM,.inl ho,fun _=>rfl,by simp⟩
    ·rw[fX _ _ ry]at ho;exact⟨j,_,hm,.inr ⟨a,b,ru,ho⟩,fun _=>rfl,by simp[cQ.symm]⟩
  ·simp only[h1,if_false]at ho;exact⟨j,c,hc,fI.1 (oR.1 ho),fun h=>by rw[wB,vo]at h;exact h,by simp[h2]⟩
 ·rcases fh hj with⟨rfl,rfl⟩|⟨h1,h2,c,hc,rfl⟩
  ·simp only[if_true];have BM:=hM.apart j _ hm;have new:∀g,(φ id2).g=some g→¬(bL.nest s et es).owns (φ j) g:=fun g hg ho=>cQ (hM.inj id2 j _ _ g cM hm (.inl hg) ho);intro a b g hr hg;rcases iQ a b hr with⟨rfl,rfl⟩|⟨ru,ry⟩
   ·rw[fP]at hg;refine⟨fun h=>new g hg (.inl h),fun a' b' NT JU=>?_⟩;rcases iQ a' b' NT with h|⟨Vn,JV⟩
    ·exact h
    ·rw[fX _ _ JV]at JU;exact absurd (.inr ⟨a',b',Vn,JU⟩) (new g hg)
   ·rw[fX _ _ ry]at hg;obtain⟨h3,h4⟩:=BM a b g ru hg;refine⟨h3,fun a' b' NT JU=>?_⟩;rcases iQ a' b' NT with⟨rfl,rfl⟩|⟨Vn,JV⟩
    ·rw[fP]at JU;exact absurd (.inr ⟨a,b,ru,hg⟩) (new g JU)
    ·rw[fX _ _ JV]at JU;exact h4 a' b' Vn JU
  ·simp only[h1,if_false];exact tO.2 (sC.2 (hM.apart j c hc))
 ·rcases fh hj with⟨rfl,hb⟩|⟨h1,h2,c,hc,hb⟩
  ·cases hb
  ·have Gz:eU id (bh (bB id2 m) id2) j=some (.box cs):=by rw[av h1]at hj;exact hj
   have:=rI.fp j cs k Gz hk;by_cases e:k=id
   ·subst e;simp
   ·rw[av e];exact this
 ·rcases fh hj with⟨rfl,hb⟩|⟨h1,h2,c,hc,hb⟩
  ·cases hb
  ·cases c<;>first|(simp[dN,fM]at hb;done)|skip
   simp only[dN,fM,bL.loop.injEq]at hb;subst hb;exact⟨hc,by simp[h1]⟩
end
end Go.Ab
set_option linter.unusedVariables false
namespace Go.Ab
def ko(k:PV):List (PV×PV)→Option Nat
 |[]=>none
 |(a,_)::r=>if cA k.cells a.cells then some 0 else(ko k r).map (·+1)
def iF(es:List (PV×PV)):List (PV×PV):=es.map fun x=>(x.1,.bad)
theorem BZ(k:PV):∀es,ko k (iF es)=ko k es
 |[]=>rfl
 |(a,u)::r=>by simp only[iF,List.map_cons,ko];rw[←BZ k r];rfl
theorem A5{k:PV}:∀{es:List (PV×PV)}{j:Nat},ko k es=some j→∃a u,es[j]?=some (a,u)∧cA k.cells a.cells=true
 |(a,u)::r,j,h=>by
  simp only[ko]at h;split at h
  ·rename_i hp;simp only[Option.some.injEq]at h;subst h;exact⟨a,u,rfl,hp⟩
  ·obtain⟨i,hi,rfl⟩:=Option.map_eq_some_iff.1 h;simpa using A5 hi
theorem ll(k v:PV):∀es,eM k v es=match ko k es with|some j=>es.set j (k,v)|none=>es++[(k,v)]
 |[]=>rfl
 |(a,u)::r=>by
  simp only[eM,ko];split
  ·rfl
  ·rw[ll k v r];cases ko k r<;>rfl
theorem rL(k:PV):∀es,qk k es=match ko k es with|some j=>es.modify j fun x=>(x.1,.bad)|none=>es
 |[]=>rfl
 |(a,u)::r=>by
  simp only[qk,ko];split
  ·rfl
  ·rw[rL k r];cases ko k r<;>simp
theorem Hd(sz:Nat)(k:PV):∀es,GG sz k es=match ko k es with|some j=>(es[j]?).bind fun x=>aO sz x.2|none=>some []
 |[]=>rfl
 |(a,u)::r=>by
  simp only[GG,ko];split
  ·simp
  ·rw[Hd sz k r];cases ko k r<;>simp
theorem Ef{k z:PV}{l:List (PV×PV)}{es:List MapEntry}{i:Nat}{r:Option (Nat×Value)}(h:Found k .nM z (iF l) es i r):(r=none∧ko k l=none)∨∃j e,r=some (i+j,e.val)∧es[j]?=some e∧ko k l=some j:=by
 cases h with
 |none h1 h2 h3=>
  refine .inl ⟨rfl,?_⟩;rw[ll]at h3;rw[←BZ];cases hp:ko k (iF l)with
  |none=>rfl
  |some j=>rw[hp]at h3;have:=congrArg List.length h3;simp at this
 | @some j a u e h1 h2 h3 h4 h5 h6=>
  refine .inr ⟨j,e,rfl,h2,?_⟩;rw[ll]at h6;rw[←BZ];have bu:j<(iF l).length:=(List.getElem?_eq_some_iff.1 h1).1;cases hp:ko k (iF l)with
  |none=>rw[hp]at h6;have:=congrArg List.length h6;simp at this
  |some j'=>
   rw[hp]at h6;simp only at h6;obtain⟨a',u',Gz,_⟩:=A5 hp;have aeP:j'<(iF l).length:=(List.getElem?_eq_some_iff.1 Gz).1;have e1:((iF l).set j (k,.nM))[j']?=some (k,.nM):=by rw[←h6];simp[aeP]
   rw[List.getElem?_set]at e1;split at e1
   ·rename_i h;rw[h]
   ·exfalso;simp only[iF,List.getElem?_map,Option.map_eq_some_iff]at e1;obtain⟨x,_,hx⟩:=e1;simp at hx
section
variable {P:Program} {G:Nat→Option (List PV)} {w0:bx} {μ μ':Ro} {φ φ':Nat→aG} {m m':Mem} {w w':World}
def B0(P:Program)(μ:Ro)(R:zP)(w:World)(e0:TypeId)(v:PV)(x:Value):Prop:=match v with
 |.cK s rs=>aL P μ (fun _=>R.up) w 0 s e0 rs∧ai P μ (fun _=>R.up) (.os 0) x
 |v=>ak P μ v x
variable{e0:TypeId}
theorem B0.pure{R:zP}{v:PV}{x:Value}(h:ak P μ v x):B0 P μ R w e0 v x:=by
 unfold B0;split
 ·cases h
 ·exact h
structure JW(P:Program)(μ:Ro)(p:aG)(w:World)(kt e0:TypeId)(es:List (PV×PV))(g:Nat)(en:Array MapEntry)(clock:Nat)(kk:List Kd):Prop where
 pl:p.g=some g
 heap:w.heap[g]?=some (.map en clock)
 size:en.size=es.length
 yy:qm P kt=some kk
 key:∀(i:Nat)k v,es[i]?=some (k,v)→sZ P kt kk k=true
 born:kh en clock
 rep:∀(i:Nat)k v e,es[i]?=some (k,v)→en[i]?=some e→ak P μ k e.key∧B0 P μ (p.row i 0) w e0 v e.val
variable{kt:TypeId}{es:List (PV×PV)}
theorem rM{id:Nat}:fW P μ φ w id (.e8 kt e0 es)↔∃g en clock kk,JW P μ (φ id) w kt e0 es g en clock kk:=by
 constructor
 ·rintro⟨g,en,clock,kk,h1,h2,h3,h4,h5,h6,h7⟩;exact⟨g,en,clock,kk,h1,h2,h3,h4,h5,h6,fun i k v e a b=>h7 i k v e a b⟩
 ·rintro⟨g,en,clock,kk,h1,h2,h3,h4,h5,h6,h7⟩;exact⟨g,en,clock,kk,h1,h2,h3,h4,h5,h6,fun i k v e a b=>h7 i k v e a b⟩
variable{en:Array MapEntry}
theorem JW.ent{p:aG}{g:Nat}{clock:Nat}{kk:List Kd}(h:JW P μ p w kt e0 es g en clock kk):tM P μ kt kk (iF es) en.toList:=by
 refine⟨by simp[iF,h.size],fun i k v hi=>?_,fun i k v e hi he=>?_⟩
 ·simp only[iF,List.getElem?_map,Option.map_eq_some_iff]at hi;obtain⟨⟨a,u⟩,hq,hx⟩:=hi;simp only[Prod.mk.injEq]at hx;obtain⟨rfl,rfl⟩:=hx;exact h.key i a u hq
 ·simp only[iF,List.getElem?_map,Option.map_eq_some_iff]at hi;obtain⟨⟨a,u⟩,hq,hx⟩:=hi;simp only[Prod.mk.injEq]at hx;obtain⟨rfl,rfl⟩:=hx;exact⟨(h.rep i a u e hq (by simpa using he)).1,.bad⟩
theorem B1{t et:TypeId}{ks:List Kd}{key:PV}{zv yi:Value}{g clock:Nat}{l:List (PV×PV)}(hu:P.underlying t=some (.map kt et))(hk:qm P kt=some ks)(qL:sZ P kt ks key=true)(hyi:ak P μ key yi)(hg:w.heap[g]?=some (.map en clock))(hE:tM P μ kt ks (iF l) en.toList)(hz:(zeroValue et).run P w=.ok zv w):(ko key l=none∧(Instr.lookup t (.map (some g)) yi false).run P w=.ok zv w)∨∃j e,ko key l=some j∧en[j]?=some e∧(Instr.lookup t (.map (some g)) yi false).run P w=.ok e.val w:=by
 have Ph:=vt hk;obtain⟨hc,hv⟩:=kO qL hyi;obtain⟨r,r1,r2⟩:=j6 (v:=.nM) (z:=.bad) Ph hc w hE;have h1:=gr 8 kt ks Ph 9992 w en.isEmpty key.cells hc;have AO:=Go.MapKept.run_getObj_map (P:=P) hg;have NO:(Instr.checkKey en.isEmpty 10000 kt (eK P kt key.cells)).run P w=.ok () w:=h1;rw[hv];unfold Instr.lookup;simp only[Sem.run_bind,run_underlying hu,Result.andThen_ok,Sem.run_pure,AO];rcases Ef r2 with⟨rfl,h⟩|⟨j,e,rfl,he,h⟩
 ·exact .inl ⟨h,by simp[NO,r1,hz]⟩
 ·exact .inr ⟨j,e,h,by simpa using he,by simp[NO,r1]⟩
end
section
variable {R:Type} {E:Env}
theorem JX{t:TypeId}(h:zeroV E.P t=some .bl)(w:World):(zeroValue t).run E.P w=.ok (.slice none 0 0) w:=by unfold zeroV at h;obtain⟨c,hc,h⟩:=Option.map_eq_some_iff.1 h;obtain⟨i,hi,hz⟩:=Option.bind_eq_some_iff.1 hc;have:=rE (P:=E.P) (μ:=fun _=>none) (φ:=fun _=>default) c;rw[h]at this;cases this;exact mK hi hz
theorem RQ{site:Nat}{t:TypeId}{x ix:V}{m:Mem}{k:V→Mem→bq→Option R}{r:R}(h:GK E site t x ix m k=some r):∃id b1 b2 m',m'=rr [(id,b1),(site,b2)] m∧k (.os site) m' [(true,id),(true,site)]=some r∧m site=none∧b2.names=(fun _=>false)∧b1.names=(fun _=>false)∧(m id).isSome=true∧(∀m2:Mem,m2 id=m id→m2 site=none→∀(R':Type)(k':V→Mem→bq→Option R'),GK E site t x ix m2 k'=k' (.os site) (rr [(id,b1),(site,b2)] m2) [(true,id),(true,site)])∧∀(G:Nat→Option (List PV))(w0:bx)(μ:Ro)(φ:Nat→aG)(w:World)(f:Fr)(ρ:Nat→Value)(y yi:Value),az E.P G w0 μ φ m w→cm E.P μ φ m f ρ→ai E.P μ φ x y→ai E.P μ φ ix yi→∃u φ',(Instr.lookup t y yi false).run E.P w=.ok u w∧az E.P G w0 μ φ' m' w∧cm E.P μ φ' m' f ρ∧ai E.P μ φ' (.os site) u:=by
 unfold GK at h;split at h
 ·rename_i kt et hu;split at h
  ·rename_i e hue;split at h
   ·rename_i id hz;split at h
    ·rename_i tn e' es hm hs;split at h
     ·rename_i hc;obtain⟨rfl,rfl,dK⟩:=hc;obtain⟨key,qL,h⟩:=Option.bind_eq_some_iff.1 h;obtain⟨rs,YD,h⟩:=Option.bind_eq_some_iff.1 h;obtain⟨ks,k1,k2,k3⟩:=rK qL;have cQ:site≠id:=fun e=>by subst e;rw[hs]at hm;cases hm
      refine⟨id,.e8 tn e' (qk key es),.arr (aU E.P e') e' rs,_,rfl,h,hs,rfl,rfl,by rw[hm];rfl,fun m2 h1 h2 R' k'=>?_,fun G w0 μ φ w f ρ y yi hM hF hx hi=>?_⟩
      ·simp only[GK,hu,hue,hz,h1,h2,hm,qL,YD,Option.bind_some,dK,and_self,if_true];rfl
      ·obtain⟨g,en,clock,kk,hN⟩:=rM.1 (hM.dG id _ hm);have yS:=hN.yy;rw[k1]at yS;simp only[Option.some.injEq]at yS;subst yS;cases hx with
       |om bV=>
        rw[hN.pl]at bV;simp only[Option.some.injEq]at bV;subst bV;have RR:=B1 hu k1 k2 (k3 μ φ yi hi) hN.heap hN.ent (JX hz w);have Pr:∀i off,(bL.e8 tn e' (qk key es)).rowAt i off=true→(bL.e8 tn e' es).rowAt i off=true∧ko key es≠some i:=by
         intro i off hr;rcases iT hr with⟨_,_,_,_,_,_,hb,_⟩|⟨_,_,_,k0,s0,rs0,hb,rfl,he⟩
         ·cases hb
         ·simp only[bL.e8.injEq]at hb;obtain⟨rfl,rfl,rfl⟩:=hb;rw[rL]at he;cases hp:ko key es with
          |none=>rw[hp]at he;simp only at he;exact⟨by rw[iS he];rfl,by simp⟩
          |some j=>
           rw[hp]at he;simp only[List.getElem?_modify]at he;split at he
           ·rename_i JY;exfalso;obtain⟨x0,_,JJ⟩:=Option.map_eq_some_iff.1 he;simp at JJ
           ·rename_i JY;have he:es[i]?=some (k0,PV.cK s0 rs0):=by simpa using he
            exact⟨by rw[iS he];rfl,fun h=>JY (by simpa using h)⟩
        have rI:az E.P G w0 μ φ (au m id (.e8 tn e' (qk key es))) w:=by
         refine hM.write hm rfl hN.pl (jG.refl _ _) rfl (fun _ _=>rfl) (rM.2 ⟨g,en,clock,ks,hN.pl,hN.heap,?_,k1,fun i k0 v0 h0=>?_,hN.born,fun i k0 v0 e0 h0 Du=>?_⟩) rfl (by simp[bL.names]) (fun st h=>by cases h) (fun i off hr=>(Pr i off hr).1)
         ·rw[hN.size,rL];cases ko key es<;>simp
         ·rw[rL]at h0;cases hp:ko key es with
          |none=>rw[hp]at h0;exact hN.key i k0 v0 h0
          |some j=>
           rw[hp]at h0;simp only[List.getElem?_modify]at h0;obtain⟨x0,JJ,hq⟩:=Option.map_eq_some_iff.1 h0;obtain⟨xa,xu⟩:=x0;split at hq
           ·simp only[Prod.mk.injEq]at hq;rw[←hq.1];exact hN.key i xa xu JJ
           ·simp only[id_eq,Prod.mk.injEq]at hq;rw[←hq.1];exact hN.key i xa xu JJ
         ·rw[rL]at h0;cases hp:ko key es with
          |none=>rw[hp]at h0;exact hN.rep i k0 v0 e0 h0 Du
          |some j=>
           rw[hp]at h0;simp only[List.getElem?_modify]at h0;obtain⟨x0,JJ,hq⟩:=Option.map_eq_some_iff.1 h0;obtain⟨xa,xu⟩:=x0;obtain⟨q1,q2⟩:=hN.rep i xa xu e0 JJ Du;split at hq
           ·simp only[Prod.mk.injEq]at hq;obtain⟨rfl,rfl⟩:=hq;exact⟨q1,.pure .bad⟩
           ·simp only[id_eq,Prod.mk.injEq]at hq;obtain⟨rfl,rfl⟩:=hq;exact⟨q1,q2⟩
        have aaB:∀(ph:aG)(u:Value),aL E.P μ (fun _=>ph) w 0 (aU E.P e') e' rs→ai E.P μ (fun _=>ph) (.os 0) u→(∀g',ph.g=some g'→∃j,ko key es=some j∧(bL.e8 tn e' es).rowAt j 0=true∧((φ id).row j 0).g=some g')→∃φ',az E.P G w0 μ φ' (rr [(id,.e8 tn e' (qk key es)),(site,.arr (aU E.P e') e' rs)] m) w∧cm E.P μ φ' (rr [(id,.e8 tn e' (qk key es)),(site,.arr (aU E.P e') e' rs)] m) f ρ∧ai E.P μ φ' (.os site) u:=by
         intro ph u hA hV AO;have JG:∀j,(m j).isSome=true→j≠site:=fun j hj e=>by subst e;rw[hs]at hj;cases hj
         refine⟨fun i=>if i=site then ph else φ i,?_,?_,?_⟩
         ·refine rI.put (by rw[av cQ];exact hs) (jG.refl _ _) hM.ro (fun _ _ _ _ _=>rfl) (fun g' bV=>?_) (oK oa) ?_ (by simp[bL.names]) (fun st h=>by cases h)
          ·have bV:=mJ oa bV;obtain⟨j,hj,hr,hjg⟩:=AO g' bV;obtain⟨o1,o2⟩:=hM.own id _ g' hm (.inr ⟨j,0,hr,hjg⟩);refine⟨o1,o2 rfl,fun i b' hi ho=>?_⟩;by_cases D6:i=id
           ·subst D6;rw[aN]at hi;simp only[Option.some.injEq]at hi;subst hi;obtain⟨a1,a2⟩:=hM.apart i _ hm j 0 g' hr hjg;rcases ho with ho|⟨i',qE,ru,ho⟩
            ·exact a1 ho
            ·obtain⟨h3,h4⟩:=Pr i' qE ru;exact h4 (by rw[hj,(a2 i' qE h3 ho).1])
           ·rw[av D6]at hi;exact D6 (hM.inj i id _ _ g' hi hm ho (.inr ⟨j,0,hr,hjg⟩))
          ·exact aL.move (φ':=fun i=>if i=site then ph else φ i) (j:=site) hA (by simp) (fun _ _ h=>h)
         ·refine hF.mono (fun _ _ h=>h) fun j hj=>⟨by simp[JG j hj],?_⟩;show(au (au m id _) site _ j).isSome=true;rw[av (JG j hj)];by_cases JY:j=id
          ·subst JY;simp
          ·rw[av JY];exact hj
         ·cases hV with
          |pZ h=>exact .pZ (by simpa using h)
          | @os _ g0 h=>have:=ai.os (P:=E.P) (μ:=μ) (φ:=fun i=>if i=site then ph else φ i) (id:=site) (g:=g0) (by simpa using h);simpa using this
        rw[Hd]at YD;rcases RR with⟨hp,mo⟩|⟨j,en0,hp,hen,mo⟩
        ·rw[hp]at YD;simp only[Option.some.injEq]at YD;subst YD;obtain⟨φ',a1,a2,a3⟩:=aaB (Dg none 0 0 (aU E.P e')) (.slice none 0 0) ⟨rfl,rfl,rfl,dK,by simp,by simp[maxLen],⟨rfl,rfl⟩⟩ (.pZ rfl) (fun g' bV=>by cases bV);exact⟨_,φ',mo,a1,a2,a3⟩
        ·rw[hp]at YD;obtain⟨x0,JJ,iQ⟩:=Option.bind_eq_some_iff.1 YD;obtain⟨xa,xu⟩:=x0;have hxu:=GX iQ;simp only at hxu;subst hxu;obtain⟨_,q2⟩:=hN.rep j xa _ en0 JJ hen;obtain⟨φ',a1,a2,a3⟩:=aaB ((φ id).row j 0).up en0.val q2.1 q2.2 (fun g' bV=>⟨j,hp,by rw[iS JJ];rfl,bV⟩);exact⟨_,φ',mo,a1,a2,a3⟩
     ·cases h
    ·cases h
   ·cases h
  ·cases h
 ·cases h
end
end Go.Ab
set_option linter.unusedVariables false
namespace Go.Ab
theorem B2{m:Mem}:∀{cs:List V}{j0:Nat}{ps:List PV}{tk:Option (Nat×Nat)},jF m j0 cs=some (ps,tk)→ps.length=cs.length∧(tk=none→∀(i:Nat)p,ps[i]?=some p→∃v,cs[i]?=some v∧jt dc 1 v=some p)∧∀j id2,tk=some (j,id2)→∃l s2 Hc rs,cs[l]?=some (.os id2)∧m id2=some (.arr s2 Hc rs)∧ps[l]?=some (.cK s2 rs)∧∀(i:Nat)p,i≠l→ps[i]?=some p→∃v,cs[i]?=some v∧jt dc 1 v=some p
 |[],j0,ps,tk,h=>by simp only[jF,Option.some.injEq,Prod.mk.injEq]at h;obtain⟨rfl,rfl⟩:=h;exact⟨rfl,fun _ i p hp=>by simp at hp,fun j id2 h=>by cases h⟩
 |v::r,j0,ps,tk,h=>by
  have plain:∀{p:PV},jt dc 1 v=some p→(match jF m (j0+1) r with
   |some (ps,t)=>some (p::ps,t)
   |none=>none)=some (ps,tk)→ps.length=(v::r).length∧
   (tk=none→∀(i:Nat)p,ps[i]?=some p→∃u,(v::r)[i]?=some u∧jt dc 1 u=some p)∧
   ∀j id2,tk=some (j,id2)→∃l s2 Hc rs,(v::r)[l]?=some (.os id2)∧m id2=some (.arr s2 Hc rs)∧ps[l]?=some (.cK s2 rs)∧∀(i:Nat)p,i≠l→ps[i]?=some p→∃u,(v::r)[i]?=some u∧jt dc 1 u=some p:=by
   intro p hp h
   split at h
   ·rename_i ps' t ht;simp only[Option.some.injEq,Prod.mk.injEq]at h;obtain⟨rfl,rfl⟩:=h;obtain⟨h1,h2,h3⟩:=B2 ht;refine⟨by simp[h1],fun hn i q hq=>?_,fun j id2 hj=>?_⟩
    ·cases i with
     |zero=>simp at hq;subst hq;exact⟨v,rfl,hp⟩
     |succ i=>simpa using h2 hn i q (by simpa using hq)
    ·obtain⟨l,s2,Hc,rs,a1,a2,a3,a4⟩:=h3 j id2 hj;refine⟨l+1,s2,Hc,rs,by simpa using a1,a2,by simpa using a3,fun i q hi hq=>?_⟩;cases i with
     |zero=>simp at hq;subst hq;exact⟨v,rfl,hp⟩
     |succ i=>simpa using a4 i q (by omega) (by simpa using hq)
   ·cases h
  unfold jF at h;split at h
  ·rename_i heq;cases heq
  ·rename_i j id r' heq;simp only[List.cons.injEq]at heq;obtain⟨rfl,rfl⟩:=heq;split at h
   ·rename_i s et es hm;split at h
    ·rename_i ps' ht;simp only[Option.some.injEq,Prod.mk.injEq]at h;obtain⟨rfl,rfl⟩:=h;obtain⟨h1,h2,_⟩:=B2 ht;refine⟨by simp[h1],fun hn=>(nomatch hn),fun j id2 hj=>?_⟩;simp only[Option.some.injEq,Prod.mk.injEq]at hj;obtain⟨rfl,rfl⟩:=hj;refine⟨0,s,et,es,rfl,hm,rfl,fun i q hi hq=>?_⟩;cases i with
     |zero=>exact absurd rfl hi
     |succ i=>simpa using h2 rfl i q (by simpa using hq)
    ·cases h
   ·cases h
  ·rename_i j v' r' _ heq;simp only[List.cons.injEq]at heq;obtain⟨rfl,rfl⟩:=heq;split at h
   ·rename_i p hp;exact plain hp h
   ·cases h
section
variable {P:Program} {G:Nat→Option (List PV)} {w0:bx} {μ μ':Ro} {φ φ':Nat→aG} {m m':Mem} {w w':World}
theorem B3{v:V}{n j id2:Nat}{cs:List V}{ps:List PV}(hc:toCells n v=some cs)(h:jF m 0 cs=some (ps,some (j,id2))):∃l s2 Hc rs,m id2=some (.arr s2 Hc rs)∧ps[l]?=some (.cK s2 rs)∧ps.length=n∧v.has id2=true∧∀(P:Program)(μ:Ro)(φ:Nat→aG)(x:Value),ai P μ φ v x→x.cells.size=n∧(∀(i:Nat)(y:Value),x.cells[i]?=some y→y.oneCell'=true)∧(∀(i:Nat)p y,i≠l→ps[i]?=some p→x.cells[i]?=some y→ak P μ p y)∧∃y,x.cells[l]?=some y∧ai P μ φ (.os id2) y:=by
 obtain⟨t1,_,t3⟩:=B2 h;obtain⟨l,s2,Hc,rs,a1,a2,a3,a4⟩:=t3 j id2 rfl;obtain⟨n1,n2,n3⟩:=toCells_ok hc;refine⟨l,s2,Hc,rs,a2,a3,by rw[t1,n1],n2 id2 (bM (List.mem_of_getElem? a1) (by simp[V.has])),fun P μ φ x hx=>?_⟩;obtain⟨x1,x2,x3⟩:=n3 P μ φ x hx;refine⟨x1,x3,fun i p y hi hp hy=>?_,?_⟩
 ·obtain⟨u,hu,hf⟩:=a4 i p hi hp;exact rG 1 hf (x2 i u y hu hy)
 ·have hl:l<x.cells.size:=by rw[x1,←n1];exact(List.getElem?_eq_some_iff.1 a1).1
  exact⟨x.cells[l],Array.getElem?_eq_getElem hl,x2 l _ _ a1 (Array.getElem?_eq_getElem hl)⟩
theorem Aa{s off n:Nat}{e:PV}{ps:List PV}(hn:ps.length=n)(hb:off+n≤s)(h0:0<n)(ha:s=1→∀p,ps.head? =some p→∀cs,p≠.agg cs):(if s=1 then ps.headD .bad else PV.agg (bQ (aK s e) off ps)).cells=bQ (aK s e) off ps:=by
 split
 ·rename_i h1;subst h1;have e1:off=0:=by omega
  have e2:n=1:=by omega
  subst e1;subst e2;match ps,hn with
  |[p],_=>
   have:=ha rfl p rfl;have hp:p.cells=[p]:=by cases p<;>first|rfl|exact absurd rfl (this _)
   simp only[List.headD_cons,hp,dA,List.take_zero,List.nil_append,List.length_cons,List.length_nil];rw[List.drop_of_length_le (by rw[bn];exact Nat.le_refl _)];rfl
 ·rfl
theorem B4{T:Type}{cs ps:List T}{off l:Nat}{x:T}(hl:l<ps.length)(hb:off+ps.length≤cs.length):bQ cs off (ps.set l x)=(bQ cs off ps).set (off+l) x:=by
 have hto:(cs.take off).length=off:=by simp;omega
 rw[dA,dA,List.length_set,List.append_assoc,List.append_assoc,List.set_append,if_neg (by omega),List.set_append,if_pos (by omega)];rw[show off+l-(cs.take off).length=l by omega]
theorem B5{id id2:Nat}{B X:bL}(cQ:id2≠id):au (eU id (bh (bB id2 (au m id B)) id2)) id X=au (eU id (bh (bB id2 m) id2)) id X:=by
 funext t;by_cases h:t=id
 ·subst h;simp
 ·rw[av h,av h];unfold eU;by_cases h2:t=id2
  ·subst h2;simp
  ·rw[eQ h2,eQ h2];unfold bB;rw[av h]
end
section
variable {R:Type} {E:Env}
theorem RS{t:TypeId}{v:V}{id i off s id2 j:Nat}{et:TypeId}{es ps:List PV}{cs:List V}{e:PV}{m:Mem}(hm:m id=some (.nest s et es))(hc:toCells (aU E.P t) v=some cs)(ht:jF m 0 cs=some (ps,some (j,id2)))(hb:off+aU E.P t≤s)(h0:0<aU E.P t)(cQ:id2≠id)(he:es[i]?=some e){G:Nat→Option (List PV)}{w0:bx}{μ:Ro}{φ:Nat→aG}{w:World}{f:Fr}{ρ:Nat→Value}{ya yx:Value}(hM:az E.P G w0 μ φ m w)(hF:cm E.P μ φ m f ρ)(ha:ai E.P μ φ (.oe id i off) ya)(hx:ai E.P μ φ v yx):∃w' φ',(Instr.storeAt t ya yx).run E.P w=.ok () w'∧az E.P G w0 μ φ' (rr [(id,.nest s et (es.set i (if s=1 then ps.headD .bad else .agg (bQ (aK s e) off ps))))] (km [(true,id2),(false,id)] m)) w'∧cm E.P μ φ' (rr [(id,.nest s et (es.set i (if s=1 then ps.headD .bad else .agg (bQ (aK s e) off ps))))] (km [(true,id2),(false,id)] m)) (kf [(true,id2),(false,id)] f) ρ:=by
 obtain⟨l,s2,Hc,rs,cM,iQ,A6,aeQ,jf⟩:=B3 hc ht;obtain⟨x1,x2,x3,y,hy,Vg⟩:=jf E.P μ φ yx hx;have G6:l<ps.length:=(List.getElem?_eq_some_iff.1 iQ).1;have hN:aX E.P μ φ w id s et es:=hM.dG id _ hm;have yQ:=hN.2.2.2.2.1 i e he;have BH:(aK s e).length=s:=bn _ _;have mq:ps=(ps.set l .bad).set l (.cK s2 rs):=by
  rw[List.set_set];apply List.ext_getElem?;intro a;rw[List.getElem?_set];split
  ·rename_i e1;subst e1;first|exact iQ|(rw[if_pos G6];exact iQ)
  ·rfl
 have rJ:∀(a:Nat)p,(ps.set l .bad)[a]?=some p→(a=l∧p=.bad)∨(a≠l∧ps[a]?=some p):=fun a p h=>ek h;have hE:qJ E.P μ (aU E.P t) (.agg (ps.set l .bad)) yx:=by
  refine⟨by simp[PV.cells,A6],x1,fun a p z hp hz=>?_,x2⟩;rcases rJ a p (by simpa[PV.cells]using hp)with⟨_,rfl⟩|⟨h1,h2⟩
  ·exact .bad
  ·exact x3 a p z h1 h2 hz
 have one:s=1→ps.length=1:=fun h=>by omega
 have hq:(if s=1 then ps.headD .bad else PV.agg (bQ (aK s e) off ps)).cells=bQ (aK s e) off ps:=Aa A6 hb h0 fun h1 p hp DZ=>by
  have Jl:l=0:=by have:=one h1;omega
  subst Jl;rw[List.head?_eq_getElem?,iQ]at hp;simp only[Option.some.injEq]at hp;subst hp;simp
 have Pc:(if s=1 then(ps.set l .bad).headD .bad else PV.agg (bQ (aK s e) off (ps.set l .bad))).cells=bQ (aK s e) off (ps.set l .bad):=Aa (by simpa using A6) hb h0 fun h1 p hp DZ=>by
  have Jl:l=0:=by have:=one h1;omega
  subst Jl;rw[List.head?_eq_getElem?,List.getElem?_set,if_pos rfl,if_pos G6]at hp;simp only[Option.some.injEq]at hp;subst hp;simp
 generalize (if s=1 then ps.headD .bad else PV.agg (bQ (aK s e) off ps))=q at hq⊢;generalize (if s=1 then(ps.set l .bad).headD .bad else PV.agg (bQ (aK s e) off (ps.set l .bad)))=q' at Pc;cases ha with
 | @oe _ _ _ g hg=>
  obtain⟨c,T,hh,nQ,tu,hrw⟩:=aX.set (q:=q') hN (hM.apart id _ hm) hg he hE hb (by rw[Pc];rfl);have k9:(φ id).sz=s:=hN.2.1;have hi:=lj (P:=E.P) (t:=t) (by omega);have rI:az E.P G w0 μ φ (au m id (.nest s et (es.set i q'))) (w.setRow g (bQ c.toList (i*s+off) yx.cells.toList).toArray):=hM.write hm rfl hg (jG.setRow (Nat.le_refl _)) setRow_size (fun k hk=>cG hk) tu rfl (fun j hj=>by simp[bL.names]at hj) (fun st h=>by cases h) hrw;have QZ:i<es.length:=(List.getElem?_eq_some_iff.1 he).1;have aaC:q.cells=q'.cells.set (off+l) (.cK s2 rs):=by rw[hq,Pc,←B4 (by simpa using G6) (by simp[BH,A6];omega),←mq]
  have vY:q'.cells[off+l]?=some .bad:=by rw[Pc,B4 G6 (by rw[BH,A6];exact hb),List.getElem?_set,if_pos rfl,if_pos];rw[cN (by rw[BH,A6];exact hb),BH];omega
  have ry:=az.YC rI (id:=id) (id2:=id2) (i:=i) (off:=off+l) (e:=q') (q:=q) (x:=y) cQ (aN _ _ _) (by rw[av cQ];exact cM) (by simp[QZ]) vY (fun g0 c0 Jk hc0=>by
   rw[hg]at Jk;simp only[Option.some.injEq]at Jk;subst Jk;rw[setRow_heap w g c _ T (0,0) hh]at hc0;simp only[Option.some.injEq,Obj.cells.injEq]at hc0;obtain⟨rfl,_⟩:=hc0;rw[List.getElem?_toArray,dA];have bu:(c.toList.take (i*s+off)).length=i*s+off:=by simp;omega
   have D5:l<yx.cells.toList.length:=by simp only[Array.length_toList];rw[x1];omega
   rw[List.append_assoc,List.getElem?_append_right (by omega),bu,show i*s+(off+l)-(i*s+off)=l by omega,List.getElem?_append_left D5];simpa using hy) Vg aaC
  rw[List.set_set,B5 cQ]at ry;refine⟨_,_,by rw[k9];exact gY hE.size hi hh nQ hE.one,ry,?_⟩;have AP:cm E.P μ φ (au m id (.nest s et (es.set i q'))) f ρ:=hF.lk (fun _ _ h=>h) .set;have Vj:=(AP.forget id2).sE id;refine Vj.W0 (by simp[jj]) (fun k hk=>by simp[hk]) fun k hk=>?_;show(au (eU id (bh (bB id2 m) id2)) id _ k).isSome=true;by_cases e1:k=id
  ·subst e1;simp
  ·rw[av e1];rw[mL]at hk⊢;by_cases e2:k=id2
   ·subst e2;simp at hk
   ·rw[eQ e2]at hk⊢;simp only[bB,av e1]at hk⊢;exact hk
end
end Go.Ab
set_option linter.unusedVariables false
namespace Go.Ab
section
variable {R:Type} {E:Env}
variable{e:TypeId}{id2:Nat}{G:Nat→Option (List PV)}{w0:bx}{φ:Nat→aG}{w:World}{ρ:Nat→Value}
theorem Ps{t:TypeId}{v:V}{j site:Nat}{cs:List V}{ps:List PV}{p:PV}{m:Mem}(hu:E.P.underlying t=some (.slice e))(hc:toCells (aU E.P e) v=some cs)(ht:jF m 0 cs=some (ps,some (j,id2)))(hs:m site=none)(hp:elemOf (aF E.P e) ps=some p)(dK:0<aU E.P e)(yT:aU E.P e≤16777216)(hz:(dg E e).isSome=true){μ:Ro}{f:Fr}{yx:Value}(hM:az E.P G w0 μ φ m w)(hF:cm E.P μ φ m f ρ)(hx:ai E.P μ φ v yx):∃y w' φ',(Instr.buildSlice t 1 #[(0,yx)]).run E.P w=.ok y w'∧az E.P G w0 μ φ' (rr [(site,.nest (aU E.P e) e [p])] (km [(true,id2)] m)) w'∧cm E.P μ φ' (rr [(site,.nest (aU E.P e) e [p])] (km [(true,id2)] m)) (kf [(true,id2)] f) ρ∧ai E.P μ φ' (.os site) y:=by
 obtain⟨l,s2,Hc,rs,cM,iQ,A6,aeQ,jf⟩:=B3 hc ht;obtain⟨x1,x2,x3,z,Vh,hvz⟩:=jf E.P μ φ yx hx;obtain⟨zc,QW⟩:=Option.isSome_iff_exists.1 hz;obtain⟨iz,zv,i1,i2,i3,_⟩:=eD QW;have cQ:id2≠site:=fun e=>by subst e;rw[hs]at cM;cases cM
 have Pt:p.cells=ps:=by
  unfold elemOf at hp;split at hp
  ·simp only[Option.some.injEq]at hp;subst hp;rfl
  ·split at hp
   ·rename_i q;simp only[Option.some.injEq]at hp;subst hp;have Jl:l=0:=by have:=(List.getElem?_eq_some_iff.1 iQ).1;simp at this;exact this
    subst Jl;simp only[List.getElem?_cons_zero,Option.some.injEq]at iQ;subst iQ;rfl
   ·cases hp
 have YB:aL E.P μ φ w id2 s2 Hc rs:=hM.dG id2 _ cM;have aaD:Instr.fill (fun i=>some (i*aU E.P e,aU E.P e)) ((Array.range (1*aU E.P e)).map (zv.cells[·%zv.cells.size]!)) [(0,yx)]=some yx.cells:=by
  have Jo:((Array.range (1*aU E.P e)).map (zv.cells[·%zv.cells.size]!)).size=aU E.P e:=by simp
  rw[vq (off:=0) (size:=aU E.P e) (by simp) x1 (by rw[Jo];omega)];simp only[Instr.fill,Option.some.injEq];apply Array.ext';simp only[dA,List.take_zero,List.nil_append,Nat.zero_add];rw[List.drop_of_length_le (by simp only[Array.length_toList];rw[Jo,x1];exact Nat.le_refl _),List.append_nil]
 have mo:=run_buildSlice (P:=E.P) w t e 1 #[(0,yx)] yx.cells iz zv hu i1 i2 (by rw[i3];omega) (by rw[i3];omega) (by rw[i3];exact aaD);let q:aG:={g:=some w.heap.size,cap:=1,len:=1,sz:=aU E.P e,row:=fun a b=>if a=0∧b=l then(φ id2).tozP else default};have JG:∀k,(bh (bB id2 m) id2 k).isSome=true→k≠site:=fun k hk e=>by subst e;rw[eQ (Ne.symm cQ)]at hk;simp[bB,hs]at hk
 have RT:∀a b,(bL.nest (aU E.P e) e [p]).rowAt a b=true→a=0∧b=l:=by
  intro a b hr;rcases iT hr with⟨_,_,_,e',s',rs',fV,h',qq⟩|⟨_,_,_,_,_,_,fV,_⟩
  ·simp only[bL.nest.injEq]at fV;obtain⟨rfl,rfl,rfl⟩:=fV;cases a with
   |succ a=>simp at h'
   |zero=>
    simp only[List.getElem?_cons_zero,Option.some.injEq]at h';subst h';rw[Pt]at qq;refine⟨rfl,?_⟩;by_cases hbl:b=l
    ·exact hbl
    ·exfalso;have bu:b<yx.cells.size:=by rw[x1,←A6];exact(List.getElem?_eq_some_iff.1 qq).1
     exact absurd (x3 b _ _ hbl qq (Array.getElem?_eq_getElem bu)).A3 (by simp[PV.isRow])
  ·cases fV
 have rI:=hM.forget id2;have qN:az E.P G w0 μ (fun i=>if i=site then q else φ i) (au (bh (bB id2 m) id2) site (.nest (aU E.P e) e [p])) (w.alloc (.cells yx.cells e)):=by
  have hold:∀k,k<w.heap.size→(w.alloc (.cells yx.cells e)).heap[k]?=w.heap[k]?:=fun k hk=>jG.heap_alloc w _ k hk;refine rI.put (by rw[eQ (Ne.symm cQ)];simp[bB,hs]) ((jG.refl _ w).alloc hM.below.size _) (fun k o hk=>?_) (fun id b' g hid hg=>hold g ((rI.dG id b' hid).BJ hg)) (fun g hg=>?_) ?_ ?_ (by simp[bL.names]) (fun st h=>by cases h)
  ·have:=hM.ro k o hk;rw[hold k (Array.getElem?_eq_some_iff.1 this).1];exact this
  ·rcases hg with hg|⟨a,b,hr,hg⟩
   ·simp only[q,Option.some.injEq]at hg;subst hg;refine⟨hM.below.size,?_,fun id b' hid ho=>?_⟩
    ·cases hq:μ w.heap.size with
     |none=>rfl
     |some o'=>have:=hM.ro _ _ hq;simp at this
    ·have:=(rI.dG id b' hid).BJ ho;omega
   ·have ry:=RT a b hr;have hg:(φ id2).g=some g:=by simpa[q,ry]using hg
    obtain⟨o1,o2⟩:=hM.own id2 _ g cM (.inl hg);refine⟨o1,o2 rfl,fun id b' hid ho=>?_⟩;obtain⟨h1,b2,oL,rfl⟩:=eL hid;exact h1 (hM.inj id id2 _ _ g oL cM (fI.1 ho) (.inl hg))
  ·intro a b g hr hg;have ry:=RT a b hr;have hg:(φ id2).g=some g:=by simpa[q,ry]using hg
   refine⟨fun h=>?_,fun a' b' ru _=>by have:=RT a' b' ru;omega⟩;simp only[q,Option.some.injEq]at h;have:=(hM.dG id2 _ cM).BJ (.inl hg);omega
  ·show aX E.P μ (fun i=>if i=site then q else φ i) (w.alloc (.cells yx.cells e)) site (aU E.P e) e [p];unfold aX;simp only[if_true];refine⟨rfl,rfl,trivial,dK,fun i e' RU=>?_,by simp[q,maxLen],yx.cells,fJ w _,by simp[q,x1],by simp[q],fun i e' b p' x' RU qq JI=>?_,fun i x' _ JI=>x2 i x' JI⟩
   ·cases i with
    |zero=>simp at RU;subst RU;rw[Pt,A6]
    |succ i=>simp at RU
   ·cases i with
    |succ i=>simp at RU
    |zero=>
     simp only[List.getElem?_cons_zero,Option.some.injEq]at RU;subst RU;rw[Pt]at qq;rw[Nat.zero_mul,Nat.zero_add]at JI;by_cases hbl:b=l
     ·subst hbl;rw[iQ]at qq;simp only[Option.some.injEq]at qq;subst qq;rw[Vh]at JI;simp only[Option.some.injEq]at JI;subst JI;have:q.row 0 b=(φ id2).tozP:=by simp[q]
      rw[this];refine eI.cE ⟨⟨Hc,YB.up⟩,JT hvz⟩ (fun _ _ h=>h) fun g hg=>hold g ((hM.dG id2 _ cM).BJ (.inl hg))
     ·exact .pure (x3 b p' x' hbl qq JI)
 refine⟨_,_,_,mo,qN,?_,?_⟩
 ·exact(hF.forget id2).mono (fun _ _ h=>h) fun k hk=>⟨by simp[JG k hk],by show(au (bh (bB id2 m) id2) site _ k).isSome=true;rw[av (JG k hk)];exact hk⟩
 ·have:=ai.os (P:=E.P) (μ:=μ) (φ:=fun i=>if i=site then q else φ i) (id:=site) (g:=w.heap.size) (by simp[q]);simpa[q]using this
theorem RV{k v v':PV}:∀{es:List (PV×PV)}{j:Nat},(eM k v es)[j]?=some (k,v)→(ko k es=some j∨(ko k es=none∧j=es.length))→(eM k v es).set j (k,v')=eM k v' es:=by
 intro es j hj hp;rw[ll,ll];rcases hp with hp|⟨hp,rfl⟩
 ·rw[hp];simp
 ·rw[hp];simp
variable{es:List (PV×PV)}
theorem az.Vo{P:Program}{μ:Ro}{m:Mem}(hM:az P G w0 μ φ m w){id i s2:Nat}{kt:TypeId}{k:PV}{rs:List PV}{x:Value}(cQ:id2≠id)(hm:m id=some (.e8 kt e es))(cM:m id2=some (.arr s2 e rs))(he:es[i]?=some (k,.bad))(hx:∀g en clock,(φ id).g=some g→w.heap[g]?=some (.map en clock)→∃e0,en[i]?=some e0∧e0.val=x)(hv:ai P μ φ (.os id2) x):az P G w0 μ (fun j=>if j=id then jj (φ id) i 0 (φ id2).tozP else φ j) (au (eU id (bh (bB id2 m) id2)) id (.e8 kt e (es.set i (k,.cK s2 rs)))) w:=by
 have rI:=(hM.forget id2).sE id;obtain⟨g0,en,clock,kk,hN⟩:=rM.1 (hM.dG id _ hm);have YB:aL P μ φ w id2 s2 e rs:=hM.dG id2 _ cM;have iQ:∀a b,(bL.e8 kt e (es.set i (k,.cK s2 rs))).rowAt a b=true→(a=i∧b=0)∨((bL.e8 kt e es).rowAt a b=true∧¬(a=i∧b=0)):=by
  intro a b hr;by_cases ry:a=i∧b=0
  ·exact .inl ry
  ·refine .inr ⟨?_,ry⟩;rcases iT hr with⟨_,_,_,_,_,_,fV,_⟩|⟨_,_,_,k',s',rs',fV,rfl,h'⟩
   ·cases fV
   ·simp only[bL.e8.injEq]at fV;obtain⟨rfl,rfl,rfl⟩:=fV;rcases ek h' with⟨rfl,_⟩|⟨RG,h'⟩
    ·exact absurd ⟨rfl,rfl⟩ ry
    ·rw[iS h'];rfl
 refine hM.NR (fun _ k=>if k=id2 then id else k) (fun j b' hj=>?_) (fun j b' g hj ho=>?_) (fun j b' hj=>?_) (fun j cs k hj hk=>?_) (fun j st hj=>?_)
 ·rcases fh hj with⟨rfl,rfl⟩|⟨h1,h2,c,hc,rfl⟩
  ·refine rM.2 ⟨g0,en,clock,kk,by simp[jj,hN.pl],hN.heap,by simp[hN.size],hN.yy,fun a k' v' h'=>?_,hN.born,fun a k' v' e' h' RU=>?_⟩
   ·rcases ek h' with⟨rfl,hq⟩|⟨_,h'⟩
    ·simp only[Prod.mk.injEq]at hq;rw[hq.1];exact hN.key a k _ he
    ·exact hN.key a k' v' h'
   ·simp only[if_true];rcases ek h' with⟨rfl,hq⟩|⟨RG,h'⟩
    ·simp only[Prod.mk.injEq]at hq;obtain⟨rfl,rfl⟩:=hq;refine⟨(hN.rep a _ _ e' he RU).1,?_⟩;rw[fP];obtain⟨e1,he1,hxe⟩:=hx g0 en clock hN.pl hN.heap;rw[RU]at he1;simp only[Option.some.injEq]at he1;subst he1;rw[hxe];exact⟨YB.up,JT hv⟩
    ·rw[fX _ _ (fun h=>RG h.1)];exact hN.rep a k' v' e' h' RU
  ·have hb:fW P μ φ w j (dN id (fM id2 c)):=(hM.dG j c hc).kill.vT;exact hb.NS h1 (by simp[jj]) fun k hk=>by simp[hk]
 ·rcases fh hj with⟨rfl,rfl⟩|⟨h1,h2,c,hc,rfl⟩
  ·simp only[if_true]at ho;rcases ho with ho|⟨a,b,hr,ho⟩
   ·exact⟨j,_,hm,.inl ho,fun _=>rfl,by simp[cQ.symm]⟩
   ·rcases iQ a b hr with⟨rfl,rfl⟩|⟨ru,ry⟩
    ·rw[fP]at ho;exact⟨id2,_,cM,.inl ho,fun _=>rfl,by simp⟩
    ·rw[fX _ _ ry]at ho;exact⟨j,_,hm,.inr ⟨a,b,ru,ho⟩,fun _=>rfl,by simp[cQ.symm]⟩
  ·simp only[h1,if_false]at ho;exact⟨j,c,hc,fI.1 (oR.1 ho),fun h=>by rw[wB,vo]at h;exact h,by simp[h2]⟩
 ·rcases fh hj with⟨rfl,rfl⟩|⟨h1,h2,c,hc,rfl⟩
  ·simp only[if_true];have BM:=hM.apart j _ hm;have new:∀g,(φ id2).g=some g→¬(bL.e8 kt e es).owns (φ j) g:=fun g hg ho=>cQ (hM.inj id2 j _ _ g cM hm (.inl hg) ho);intro a b g hr hg;rcases iQ a b hr with⟨rfl,rfl⟩|⟨ru,ry⟩
   ·rw[fP]at hg;refine⟨fun h=>new g hg (.inl h),fun a' b' NT JU=>?_⟩;rcases iQ a' b' NT with h|⟨Vn,JV⟩
    ·exact h
    ·rw[fX _ _ JV]at JU;exact absurd (.inr ⟨a',b',Vn,JU⟩) (new g hg)
   ·rw[fX _ _ ry]at hg;obtain⟨h3,h4⟩:=BM a b g ru hg;refine⟨h3,fun a' b' NT JU=>?_⟩;rcases iQ a' b' NT with⟨rfl,rfl⟩|⟨Vn,JV⟩
    ·rw[fP]at JU;exact absurd (.inr ⟨a,b,ru,hg⟩) (new g JU)
    ·rw[fX _ _ JV]at JU;exact h4 a' b' Vn JU
  ·simp only[h1,if_false];exact tO.2 (sC.2 (hM.apart j c hc))
 ·rcases fh hj with⟨rfl,hb⟩|⟨h1,h2,c,hc,hb⟩
  ·cases hb
  ·have Gz:eU id (bh (bB id2 m) id2) j=some (.box cs):=by rw[av h1]at hj;exact hj
   have:=rI.fp j cs k Gz hk;by_cases e:k=id
   ·subst e;simp
   ·rw[av e];exact this
 ·rcases fh hj with⟨rfl,hb⟩|⟨h1,h2,c,hc,hb⟩
  ·cases hb
  ·cases c<;>first|(simp[dN,fM]at hb;done)|skip
   simp only[dN,fM,bL.loop.injEq]at hb;subst hb;exact⟨hc,by simp[h1]⟩
theorem Pu{t kt et:TypeId}{xk:V}{id s:Nat}{key:PV}{rs:List PV}{m:Mem}(hu:E.P.underlying t=some (.map kt et))(hm:m id=some (.e8 kt e es))(cM:m id2=some (.arr s e rs))(qL:keyOf E kt xk=some key){μ:Ro}{f:Fr}{ya yk yv:Value}(hM:az E.P G w0 μ φ m w)(hF:cm E.P μ φ m f ρ)(ha:ai E.P μ φ (.om id) ya)(hk:ai E.P μ φ xk yk)(hv:ai E.P μ φ (.os id2) yv):∃w' φ',(Instr.mapUpdate t ya yk yv).run E.P w=.ok () w'∧az E.P G w0 μ φ' (rr [(id,.e8 kt e (eM key (.cK s rs) es))] (km [(true,id2),(false,id)] m)) w'∧cm E.P μ φ' (rr [(id,.e8 kt e (eM key (.cK s rs) es))] (km [(true,id2),(false,id)] m)) (kf [(true,id2),(false,id)] f) ρ:=by
 have cQ:id2≠id:=fun h=>by subst h;rw[hm]at cM;cases cM
 obtain⟨ks,k1,k2,k3⟩:=rK qL;obtain⟨g,en,clock,kk,hN⟩:=rM.1 (hM.dG id _ hm);have yS:=hN.yy;rw[k1]at yS;simp only[Option.some.injEq]at yS;subst yS;have Ph:=vt k1;have hkr:=k3 μ φ yk hk;obtain⟨hc,Yw⟩:=kO k2 hkr;obtain⟨res,r1,r2⟩:=j6 (v:=.nM) (z:=.bad) Ph hc w hN.ent;have AO:=Go.MapKept.run_getObj_map (P:=E.P) hN.heap;have h1:(Instr.checkKey false 10000 kt yk).run E.P w=.ok () w:=by rw[Yw];exact gr 8 kt ks Ph 9992 w false key.cells hc
 rw[←Yw]at r1;have bu:g<w.heap.size:=(Array.getElem?_eq_some_iff.1 hN.heap).1;cases ha with
 |om bV=>
  rw[hN.pl]at bV;simp only[Option.some.injEq]at bV;subst bV;have fin:∀(J:Nat)(Jm:Array MapEntry)(ny:Nat),(ko key es=some J∨(ko key es=none∧J=es.length))→(Instr.mapUpdate t (.map (some g)) yk yv).run E.P w=.ok () {w with heap:=w.heap.setIfInBounds g (.map Jm ny)}→kh Jm ny→Jm.size=(eM key .bad es).length→(∃e0,Jm[J]?=some e0∧e0.key=yk∧e0.val=yv)→(∀i e0,i≠J→Jm[i]?=some e0→en[i]?=some e0)→∃w' φ',(Instr.mapUpdate t (.map (some g)) yk yv).run E.P w=.ok () w'∧az E.P G w0 μ φ' (rr [(id,.e8 kt e (eM key (.cK s rs) es))] (km [(true,id2),(false,id)] m)) w'∧cm E.P μ φ' (rr [(id,.e8 kt e (eM key (.cK s rs) es))] (km [(true,id2),(false,id)] m)) (kf [(true,id2),(false,id)] f) ρ:=by
   intro J Jm ny hJ hr s9 k9 hJe AR;obtain⟨eJ,aaE,aeR,aeS⟩:=hJe;have qN:∀i k' v',(eM key .bad es)[i]?=some (k',v')→(i=J∧k'=key∧v'=.bad)∨(i≠J∧es[i]?=some (k',v')):=by
    intro i k' v' h;rw[ll]at h;rcases hJ with hJ|⟨hJ,rfl⟩
    ·rw[hJ]at h;rcases ek h with⟨rfl,hq⟩|⟨RG,h⟩
     ·simp only[Prod.mk.injEq]at hq;exact .inl ⟨rfl,hq.1,hq.2⟩
     ·exact .inr ⟨RG,h⟩
    ·rw[hJ]at h;simp only at h;rw[List.getElem?_append]at h;split at h
     ·rename_i bu;exact .inr ⟨by omega,h⟩
     ·rename_i Dr;cases hd:i-es.length with
      |zero=>rw[hd]at h;simp only[List.getElem?_cons_zero,Option.some.injEq,Prod.mk.injEq]at h;exact .inl ⟨by omega,h.1.symm,h.2.symm⟩
      |succ n=>rw[hd]at h;simp at h
   have hJb:(eM key .bad es)[J]?=some (key,.bad):=by
    rw[ll];rcases hJ with hJ|⟨hJ,rfl⟩
    ·rw[hJ];obtain⟨a,u,hj,_⟩:=A5 hJ;simp[(List.getElem?_eq_some_iff.1 hj).1]
    ·rw[hJ];simp
   have rI:az E.P G w0 μ φ (au m id (.e8 kt e (eM key .bad es))) {w with heap:=w.heap.setIfInBounds g (.map Jm ny)}:=by
    refine hM.write hm rfl hN.pl ⟨⟨rfl,rfl,rfl,by simp,fun k hk=>by simp[Array.getElem?_setIfInBounds_ne (Nat.ne_of_gt hk)]⟩,fun _=>Nat.le_refl _⟩ (by simp) (fun k hk=>by simp[Array.getElem?_setIfInBounds_ne (Ne.symm hk)]) (rM.2 ⟨g,Jm,ny,ks,hN.pl,by simp[bu],k9,k1,fun i k' v' h=>?_,s9,fun i k' v' e0 h Du=>?_⟩) rfl (by simp[bL.names]) (fun st h=>by cases h) fun a b hr=>?_
    ·rcases qN i k' v' h with⟨_,rfl,_⟩|⟨_,h⟩
     ·exact k2
     ·exact hN.key i k' v' h
    ·rcases qN i k' v' h with⟨rfl,rfl,rfl⟩|⟨RG,h⟩
     ·rw[aaE]at Du;simp only[Option.some.injEq]at Du;subst Du;exact⟨by rw[aeR];exact hkr,.pure .bad⟩
     ·obtain⟨q1,q2⟩:=hN.rep i k' v' e0 h (AR i e0 RG Du);refine⟨q1,?_⟩;unfold B0 at q2⊢;split at q2
      ·refine⟨q2.1.cE rfl (fun _ _ h=>h) fun g' bV=>?_,q2.2⟩;have hr:(bL.e8 kt e es).rowAt i 0=true:=by rw[iS h];rfl
       have:=(hM.apart id _ hm i 0 g' hr bV).1;rw[hN.pl]at this;simp only[ne_eq,Option.some.injEq]at this;simp[Array.getElem?_setIfInBounds_ne this]
      ·exact q2
    ·rcases iT hr with⟨_,_,_,_,_,_,fV,_⟩|⟨_,_,_,k',s',rs',fV,rfl,h'⟩
     ·cases fV
     ·simp only[bL.e8.injEq]at fV;obtain⟨rfl,rfl,rfl⟩:=fV;rcases qN a k' _ h' with⟨_,_,h⟩|⟨_,h⟩
      ·cases h
      ·rw[iS h];rfl
   have ry:=az.Vo rI (id:=id) (id2:=id2) (i:=J) (x:=yv) cQ (aN _ _ _) (by rw[av cQ];exact cM) hJb (fun g0 en0 aeT Jk hh0=>by
    rw[hN.pl]at Jk;simp only[Option.some.injEq]at Jk;subst Jk;have:(w.heap.setIfInBounds g (Obj.map Jm ny))[g]?=some (.map Jm ny):=by simp[bu]
    rw[this]at hh0;simp only[Option.some.injEq,Obj.map.injEq]at hh0;obtain⟨rfl,_⟩:=hh0;exact⟨eJ,aaE,aeS⟩) hv
   rw[RV hJb hJ,B5 cQ]at ry;refine⟨_,_,hr,ry,?_⟩;have AP:cm E.P μ φ (au m id (.e8 kt e (eM key .bad es))) f ρ:=hF.lk (fun _ _ h=>h) .set;refine((AP.forget id2).sE id).W0 (by simp[jj]) (fun k hk=>by simp[hk]) fun k hk=>?_;show(au (eU id (bh (bB id2 m) id2)) id _ k).isSome=true;by_cases e1:k=id
   ·subst e1;simp
   ·rw[av e1];rw[mL]at hk⊢;by_cases e2:k=id2
    ·subst e2;simp at hk
    ·rw[eQ e2]at hk⊢;simp only[bB,av e1]at hk⊢;exact hk
  rcases Ef r2 with⟨rfl,hp⟩|⟨j,e0,rfl,Du,hp⟩
  ·have Vi:=Go.MapKept.run_setObj_map (P:=E.P) (.map (en.push {key:=yk,val:=yv,born:=clock}) (clock+1)) hN.heap;refine fin es.length _ _ (.inr ⟨hp,rfl⟩) (by simp only[Instr.mapUpdate,Sem.run_bind,run_underlying hu,AO,h1,r1,Result.andThen_ok];exact Vi) hN.born.push (by rw[ll,hp];simp[hN.size]) ⟨{key:=yk,val:=yv,born:=clock},?_,rfl,rfl⟩ fun i e0 hi h=>?_
   ·rw[←hN.size];simp
   ·rw[Array.getElem?_push]at h;split at h
    ·rename_i h';rw[hN.size]at h';exact absurd h' hi
    ·exact h
  ·have Vp:en[j]?=some e0:=by simpa using Du
   obtain⟨a,u,haj,hpq⟩:=A5 hp;obtain⟨Yx,hva⟩:=kO (hN.key j a u haj) (hN.rep j a u e0 haj Vp).1;have sD:=Fi hc Yx hpq;have Yy:Instr.sameBits 10000 e0.key yk=true:=by rw[hva,Yw,←sD];refine tN (n:=9999) hc (fun ha=>?_);rw[nP hc];exact(vl Ph).2.1 ha
   have Vi:=Go.MapKept.run_setObj_map (P:=E.P) (.map (en.modify j fun e=>{e with key:=yk,val:=yv}) clock) hN.heap;have yz:j<en.size:=(Array.getElem?_eq_some_iff.1 Vp).1;refine fin j _ _ (.inl hp) (by simp only[Instr.mapUpdate,Sem.run_bind,run_underlying hu,AO,h1,r1,Result.andThen_ok];simp only[Nat.zero_add,Vp,Option.map_some,Option.getD_some,Instr.keyThatStays,Yy,if_true,Sem.run_pure,Result.andThen_ok];exact Vi) (hN.born.modify (fun e=>{e with key:=yk,val:=yv}) (fun _=>rfl) _) (by rw[ll,hp];simp[hN.size]) ⟨{e0 with key:=yk,val:=yv},by rw[Array.getElem?_modify,if_pos rfl,Vp];rfl,rfl,rfl⟩ fun i e1 hi h=>?_;rw[Array.getElem?_modify,if_neg (Ne.symm hi)]at h;exact h
end
end Go.Ab
set_option linter.unusedVariables false
namespace Go.Ab
section
variable {P:Program} {G:Nat→Option (List PV)} {w0:bx} {μ μ':Ro} {φ φ':Nat→aG} {m m':Mem} {w w':World}
structure jy(P:Program)(μ:Ro)(rows:Nat→Nat→zP)(w:World)(s:Nat)(es:List PV)(xs:List Value):Prop where
 len:xs.length=es.length*s
 each:∀(i:Nat)e,es[i]?=some e→e.cells.length=s
 rep:∀(i:Nat)e(j:Nat)p x,es[i]?=some e→e.cells[j]?=some p→xs[i*s+j]?=some x→ei P μ (rows i j) w p x
 one:∀(i:Nat)(x:Value),xs[i]?=some x→x.oneCell'=true
variable{rows:Nat→Nat→zP}{es:List PV}{xs:List Value}
theorem jy.append{B6 RW:Nat→Nat→zP}{s:Nat}{es':List PV}{xs':List Value}(h:jy P μ rows w s es xs)(h':jy P μ B6 w s es' xs')(h1:∀i j,i<es.length→RW i j=rows i j)(h2:∀i j,es.length≤i→RW i j=B6 (i-es.length) j):jy P μ RW w s (es++es') (xs++xs'):=by
 refine⟨by simp[h.len,h'.len,Nat.add_mul],fun i e he=>?_,fun i e j p x he hp hx=>?_,fun i x hx=>?_⟩
 ·rw[List.getElem?_append]at he;split at he
  ·exact h.each i e he
  ·exact h'.each _ e he
 ·rw[List.getElem?_append]at he;split at he
  ·rename_i hi;rw[h1 i j hi];have hj:j<s:=by rw[←h.each i e he];exact(List.getElem?_eq_some_iff.1 hp).1
   rw[List.getElem?_append_left (by rw[h.len];exact BQ hi hj)]at hx;exact h.rep i e j p x he hp hx
  ·rename_i hi;rw[h2 i j (by omega)];have e1:i*s+j=es.length*s+((i-es.length)*s+j):=by
    have:i=es.length+(i-es.length):=by omega
    have h3:i*s=es.length*s+(i-es.length)*s:=by rw[←Nat.add_mul,←this]
    omega
   rw[List.getElem?_append_right (by rw[h.len,e1];omega),h.len,show i*s+j-es.length*s=(i-es.length)*s+j by omega]at hx;exact h'.rep _ e j p x he hp hx
 ·rw[List.getElem?_append]at hx;split at hx
  ·exact h.one i x hx
  ·exact h'.one _ x hx
theorem Cells.Fm{s:Nat}(h:Cells P μ s es xs):jy P μ rows w s es xs:=⟨h.len,h.each,fun i e j p x he hp hx=>.pure (h.rep i e j p x he hp hx),h.one⟩
theorem jy.cE{rows:Nat→Nat→zP}{s:Nat}{es:List PV}{xs:List Value}(h:jy P μ rows w s es xs)(hw:∀i e j p g,es[i]?=some e→e.cells[j]?=some p→p.isRow=true→(rows i j).g=some g→w'.heap[g]?=w.heap[g]?):jy P μ rows w' s es xs:=⟨h.len,h.each,fun i e j p x he hp hx=>(h.rep i e j p x he hp hx).cE (fun _ _ h=>h) fun hr g hg=>hw i e j p g he hp hr hg,h.one⟩
theorem aX.Fm{id sz:Nat}{et:TypeId}(h:aX P μ φ w id sz et es){g:Nat}(hg:(φ id).g=some g):∃c:Array Value,w.heap[g]?=some (.cells c et (0,0))∧(φ id).cap*sz≤c.size∧es.length≤(φ id).cap∧jy P μ (φ id).row w sz es (c.toList.take (es.length*sz)):=by obtain⟨a1,a2,a3,a4,a5,a6,a7⟩:=h;rw[hg]at a7;obtain⟨c,c1,c2,c3,c4,c5⟩:=a7;have hle:es.length*sz≤c.size:=Nat.le_trans (Nat.mul_le_mul_right _ c3) c2;refine⟨c,c1,c2,c3,by simp;omega,a5,fun i e j p x he hp hx=>c4 i e j p x he hp (by simpa using(ep hx).2),fun i x hx=>?_⟩;have:=ep hx;exact c5 i x this.1 (by simpa using this.2)
theorem jy.nest{id g sz:Nat}{et:TypeId}{c:Array Value}(Vc:(φ id).tozP=⟨some g,(φ id).cap,es.length,sz⟩)(k9:sz=aU P et)(dK:0<sz)(nr:(φ id).cap≤maxLen)(hh:w.heap[g]?=some (.cells c et (0,0)))(hc:(φ id).cap*sz≤c.size)(hle:es.length≤(φ id).cap)(hC:jy P μ (φ id).row w sz es (c.toList.take (es.length*sz))):aX P μ φ w id sz et es:=by
 have e1:(φ id).g=some g:=by rw[Vc]
 refine⟨by rw[Vc],by rw[Vc],k9,dK,hC.each,nr,?_⟩;rw[e1];have yz:∀(i:Nat)e(j:Nat)p,es[i]?=some e→e.cells[j]?=some p→i*sz+j<es.length*sz:=fun i e j p hi hj=>BQ (List.getElem?_eq_some_iff.1 hi).1 (by rw[←hC.each i e hi];exact(List.getElem?_eq_some_iff.1 hj).1);refine⟨c,hh,hc,hle,fun i e j p x hi hj hx=>?_,fun i x hi hx=>?_⟩
 ·exact hC.rep i e j p x hi hj (by rw[List.getElem?_take_of_lt (yz i e j p hi hj)];simpa using hx)
 ·exact hC.one i x (by rw[List.getElem?_take_of_lt hi];simpa using hx)
end
section
variable {R:Type} {E:Env}
def NU(src:Option Nat)(m:Mem):Mem:=match src with|some id2=>bh (bB id2 m) id2|none=>m
def kfS(src:Option Nat)(f:Fr):Fr:=match src with|some id2=>eP id2 f|none=>f
variable{src:Option Nat}
theorem RX{m:Mem}{j:Nat}{b:bL}(h:NU src m j=some b):src≠some j∧∃b',m j=some b'∧b.rowAt=b'.rowAt:=by
 cases src with
 |none=>exact⟨by simp,b,h,rfl⟩
 |some id2=>obtain⟨h1,b',h2,rfl⟩:=eL h;exact⟨fun e=>h1 (by simpa using e.symm),b',h2,sB _ _⟩
theorem Pv{t e ty:TypeId}{x:V}{id s:Nat}{es new:List PV}{rd:bq}{m:Mem}(hu:E.P.underlying t=some (.slice e))(hm:m id=some (.nest s e es))(hs:s=aU E.P e)(hz:(dg E e).isSome=true)(dK:0<aU E.P e)(hby:0<Dm E.P e)(df:(es++new).length*Dm E.P e≤aa)(wy:(∃id2,src=some id2∧id2≠id∧x=.os id2∧m id2=some (.nest s e new))∨(src=none∧eG m s x=some (new,rd))){G:Nat→Option (List PV)}{w0:bx}{μ:Ro}{φ:Nat→aG}{w:World}{f:Fr}{ρ:Nat→Value}{ys yx:Value}(hM:az E.P G w0 μ φ m w)(hF:cm E.P μ φ m f ρ)(ha:ai E.P μ φ (.os id) ys)(hx:ai E.P μ φ x yx):∃w' y φ',(Builtin.append_ #[t,t] ty #[ys,yx]).run E.P w=.ok y w'∧az E.P G w0 μ φ' (au (bh (bB id (NU src m)) id) id (.nest s e (es++new))) w'∧cm E.P μ φ' (au (bh (bB id (NU src m)) id) id (.nest s e (es++new))) (eP id (kfS src f)) ρ∧ai E.P μ φ' (.os id) y:=by
 obtain⟨zc,QW⟩:=Option.isSome_iff_exists.1 hz;obtain⟨i,zv,hi,hzv,WX,_,G4,_,_,_⟩:=eD QW;have hN:aX E.P μ φ w id s e es:=hM.dG id _ hm;have G6:(es++new).length=es.length+new.length:=by simp
 have il:0<s:=by omega
 obtain⟨B6,ru⟩:∃B6:Nat→Nat→zP,B6=match src with|some id2=>(φ id2).row|none=>fun _ _=>default:=⟨_,rfl⟩
 obtain⟨os,Yq,hC⟩:∃os,((ys=.slice none 0 0∧es.length=0∧os=[])∨∃(g cap:Nat)(c:Array Value),ys=.slice (some ⟨g,0,none⟩) es.length cap∧w.heap[g]?=some (.cells c e (0,0))∧cap*s≤c.size∧es.length≤cap∧cap≤maxLen∧os=c.toList.take (es.length*s))∧jy E.P μ (φ id).row w s es os:=by
  cases ha with
  |pZ hg=>have a7:=hN.2.2.2.2.2.2;rw[hg]at a7;rw[a7.1];exact⟨[],.inl ⟨rfl,rfl,rfl⟩,by simp,by simp,fun i e j p x he=>by simp at he,by simp⟩
  | @os _ g hg=>obtain⟨c,c1,c2,c3,c4⟩:=hN.Fm hg;exact⟨_,.inr ⟨g,(φ id).cap,c,by rw[hN.1],c1,c2,c3,hN.2.2.2.2.2.1,rfl⟩,c4⟩
 obtain⟨xs,G5,hCx⟩:∃xs,((yx=.slice none 0 0∧new.length=0∧xs=[])∨∃(a:Addr)(cx:Nat),yx=.slice (some a) new.length cx∧xs.length=new.length*s∧(∀(j:Nat)v,xs[j]?=some v→w.cell? (a.add j)=some v)∧(∀v∈xs,v.oneCell'=true)∧new.length≤cx∧cx≤maxLen)∧jy E.P μ B6 w s new xs:=by
  rcases wy with⟨id2,rfl,cQ,rfl,cM⟩|⟨rfl,yQ⟩
  ·have hN2:aX E.P μ φ w id2 s e new:=hM.dG id2 _ cM;simp only at ru;subst ru;cases hx with
   |pZ hg=>have a7:=hN2.2.2.2.2.2.2;rw[hg]at a7;rw[a7.1];exact⟨[],.inl ⟨rfl,rfl,rfl⟩,by simp,by simp,fun i e j p x he=>by simp at he,by simp⟩
   | @os _ g hg=>
    obtain⟨c,c1,c2,c3,c4⟩:=hN2.Fm hg;refine⟨_,.inr ⟨⟨g,0,none⟩,(φ id2).cap,by rw[hN2.1],c4.len,fun j v hj=>?_,fun v hv=>?_,c3,hN2.2.2.2.2.2.1⟩,c4⟩
    ·rw[Addr.add_mid,dL c1];simpa using(ep hj).2
    ·obtain⟨j,hj⟩:=List.getElem?_of_mem hv;exact c4.one j v hj
  ·obtain⟨_,_,hsr⟩:=mr yQ;have:=hsr _ _ _ _ _ _ _ hM hx;cases this with
   |none hn=>subst hn;exact⟨[],.inl ⟨rfl,rfl,rfl⟩,by simp,by simp,fun i e j p x he=>by simp at he,by simp⟩
   | @some a cx xs hC G5 WY RH=>exact⟨xs,.inr ⟨a,cx,rfl,hC.len,G5,fun u hu=>by obtain⟨j,hj⟩:=List.getElem?_of_mem hu;exact hC.one j u hj,WY,RH⟩,hC.Fm⟩
 obtain⟨w',y,hr,RI⟩:=BR (ty:=ty) hu hi hzv (by rw[G4,hs]) hs dK hby (by rw[←G6];exact df) Yq G5;let lq:Nat→Nat→zP:=fun a b=>if a<es.length then(φ id).row a b else B6 (a-es.length) b;have hCC:jy E.P μ lq w s (es++new) (os++xs):=hC.append hCx (fun a b h=>by simp only[lq,h,if_true]) (fun a b h=>by simp only[lq,Nat.not_lt.2 h,if_false]);have iQ:∀a b g,(bL.nest s e (es++new)).rowAt a b=true→(lq a b).g=some g→(a<es.length∧(bL.nest s e es).rowAt a b=true∧((φ id).row a b).g=some g)∨(es.length≤a∧∃id2,src=some id2∧id2≠id∧m id2=some (.nest s e new)∧(bL.nest s e new).rowAt (a-es.length) b=true∧((φ id2).row (a-es.length) b).g=some g):=by
  intro a b g AL hg;rcases iT AL with⟨_,_,_,e',s',rs',fV,h',qq⟩|⟨_,_,_,_,_,_,fV,_⟩
  ·simp only[bL.nest.injEq]at fV;obtain⟨rfl,rfl,rfl⟩:=fV;by_cases bu:a<es.length
   ·rw[List.getElem?_append_left bu]at h';exact .inl ⟨bu,by rw[dx h' qq];rfl,by simpa[lq,bu]using hg⟩
   ·rw[List.getElem?_append_right (by omega)]at h';simp only[lq,bu,if_false]at hg;rcases wy with⟨id2,rfl,cQ,rfl,cM⟩|⟨rfl,yQ⟩
    ·simp only at ru;subst ru;exact .inr ⟨by omega,id2,rfl,cQ,cM,by rw[dx h' qq];rfl,hg⟩
    ·exfalso;obtain⟨_,_,hsr⟩:=mr yQ;have h3:=hsr _ _ _ _ _ _ _ hM hx;cases h3 with
     |none hn=>subst hn;simp at h'
     | @some a2 cx xs2 hC2 ahu WY RH=>
      have hj:(a-es.length)*s+b<xs2.length:=by rw[hC2.len];exact BQ (List.getElem?_eq_some_iff.1 h').1 (by rw[←hC2.each _ _ h'];exact(List.getElem?_eq_some_iff.1 qq).1)
      exact absurd (hC2.rep _ _ _ _ _ h' qq (List.getElem?_eq_getElem hj)).A3 (by simp[PV.isRow])
  ·cases fV
 have RY:∀j,(bh (bB id (NU src m)) id j).isSome=true→j≠id:=fun j hj e=>by subst e;simp at hj
 have bO:∀j b',bh (bB id (NU src m)) id j=some b'→j≠id∧src≠some j∧∃b,m j=some b∧b'.rowAt=b.rowAt:=by intro j b' hj;obtain⟨h1,b1,h2,rfl⟩:=eL hj;obtain⟨h3,b2,h4,h5⟩:=RX h2;exact⟨h1,h3,b2,h4,by rw[sB,h5]⟩
 have JZ:∀{j b' b g},b'.rowAt=b.rowAt→bL.owns b' (φ j) g→bL.owns b (φ j) g:=fun h ho=>by unfold bL.owns at*;rw[←h];exact ho
 have hM0:az E.P G w0 μ φ (NU src m) w:=by
  cases src with
  |none=>exact hM
  |some id2=>exact hM.forget id2
 have hF0:cm E.P μ φ (NU src m) (kfS src f) ρ:=by
  cases src with
  |none=>exact hF
  |some id2=>exact hF.forget id2
 have rI:=hM0.forget id;have AP:=hF0.forget id;have Fo:∀a b g,(bL.nest s e (es++new)).rowAt a b=true→(lq a b).g=some g→w0.heap.size≤g∧μ g=none∧g<w.heap.size∧∀j b',bh (bB id (NU src m)) id j=some b'→¬b'.owns (φ j) g:=by
  intro a b g AL hg;rcases iQ a b g AL hg with⟨_,h2,h3⟩|⟨_,id2,rfl,cQ,cM,h2,h3⟩
  ·obtain⟨o1,o2⟩:=hM.own id _ g hm (.inr ⟨a,b,h2,h3⟩);refine⟨o1,o2 rfl,(hM.dG id _ hm).BJ (.inr ⟨a,b,h2,h3⟩),fun j b' hj ho=>?_⟩;obtain⟨k1,_,b2,k3,k4⟩:=bO j b' hj;exact k1 (hM.inj j id _ _ g k3 hm (JZ k4 ho) (.inr ⟨a,b,h2,h3⟩))
  ·obtain⟨o1,o2⟩:=hM.own id2 _ g cM (.inr ⟨_,b,h2,h3⟩);refine⟨o1,o2 rfl,(hM.dG id2 _ cM).BJ (.inr ⟨_,b,h2,h3⟩),fun j b' hj ho=>?_⟩;obtain⟨_,k1,b2,k3,k4⟩:=bO j b' hj;exact k1 (by rw[hM.inj j id2 _ _ g k3 cM (JZ k4 ho) (.inr ⟨_,b,h2,h3⟩)])
 have Pw:∀a b a' b' g,(bL.nest s e (es++new)).rowAt a b=true→(lq a b).g=some g→(bL.nest s e (es++new)).rowAt a' b'=true→(lq a' b').g=some g→a'=a∧b'=b:=by
  intro a b a' b' g h1 h2 h3 h4;rcases iQ a b g h1 h2 with⟨u1,u2,u3⟩|⟨u1,i2,u0,une,um,u2,u3⟩<;>rcases iQ a' b' g h3 h4 with⟨v1,v2,v3⟩|⟨v1,i3,v0,vne,vm,v2,v3⟩
  ·exact(hM.apart id _ hm a b g u2 u3).2 a' b' v2 v3
  ·exact absurd (hM.inj i3 id _ _ g vm hm (.inr ⟨_,_,v2,v3⟩) (.inr ⟨_,_,u2,u3⟩)) vne
  ·exact absurd (hM.inj i2 id _ _ g um hm (.inr ⟨_,_,u2,u3⟩) (.inr ⟨_,_,v2,v3⟩)) une
  ·rw[u0]at v0;simp only[Option.some.injEq]at v0;subst v0;obtain⟨h5,h6⟩:=(hM.apart i2 _ um (a-es.length) b g u2 u3).2 (a'-es.length) b' v2 v3;exact⟨by omega,h6⟩
 have fin:∀(q:aG)(w1:World),q.row=lq→jG w0.heap.size w w1→(∀k o,μ k=some o→w1.heap[k]?=some o)→(∀j b' g,bh (bB id (NU src m)) id j=some b'→b'.owns (φ j) g→w1.heap[g]?=w.heap[g]?)→(∀g,q.g=some g→w0.heap.size≤g∧μ g=none∧(∀j b',bh (bB id (NU src m)) id j=some b'→¬b'.owns (φ j) g)∧∀a b,(bL.nest s e (es++new)).rowAt a b=true→(lq a b).g≠some g)→(aX E.P μ (fun k=>if k=id then q else φ k) w1 id s e (es++new))→az E.P G w0 μ (fun k=>if k=id then q else φ k) (au (bh (bB id (NU src m)) id) id (.nest s e (es++new))) w1∧cm E.P μ (fun k=>if k=id then q else φ k) (au (bh (bB id (NU src m)) id) id (.nest s e (es++new))) (eP id (kfS src f)) ρ:=by
  intro q w1 hq JF la hold su jf;refine⟨rI.put (by simp) JF la hold (fun g hg=>?_) (fun a b g AL hg=>?_) jf (by simp[bL.names]) (fun st h=>by cases h),AP.mono (fun _ _ h=>h) fun j hj=>⟨by simp[RY j hj],by rw[av (RY j hj)];exact hj⟩⟩
  ·rcases hg with hg|⟨a,b,AL,hg⟩
   ·obtain⟨o1,o2,o3,_⟩:=su g hg;exact⟨o1,o2,o3⟩
   ·rw[hq]at hg;obtain⟨o1,o2,_,o3⟩:=Fo a b g AL hg;exact⟨o1,o2,o3⟩
  ·rw[hq]at hg;refine⟨fun h=>(su g h).2.2.2 a b AL hg,fun a' b' aeU bV=>?_⟩;rw[hq]at bV;exact Pw a b a' b' g AL hg aeU bV
 rcases RI with⟨rfl,rfl,h1,h2⟩|⟨g',AM,c',rfl,b1,b2,b3,b4,b5,b6⟩
 ·have h1:es=[]:=List.eq_nil_of_length_eq_zero h1;have h2:new=[]:=List.eq_nil_of_length_eq_zero h2;obtain⟨k1,k2⟩:=fin {g:=none,cap:=0,len:=0,sz:=s,row:=lq} w' rfl (jG.refl _ _) hM.ro (fun _ _ _ _ _=>rfl) (fun g hg=>by cases hg) ⟨by simp[h1,h2],by simp,hs,il,by simp[h1,h2],by simp[maxLen],by simp[h1,h2]⟩;exact⟨w',_,_,hr,k1,k2,.pZ (by simp)⟩
 ·have hq:∀(w1:World),w1.heap[g']?=some (.cells c' e (0,0))→jy E.P μ lq w1 s (es++new) (os++xs)→aX E.P μ (fun k=>if k=id then({g:=some g',cap:=AM,len:=(es++new).length,sz:=s,row:=lq}:aG)else φ k) w1 id s e (es++new):=fun w1 hh hC1=>jy.nest (g:=g') (c:=c') (by simp) hs il (by simpa using b4) hh (by simpa using b2) (by simpa[G6]using b3) (by rw[G6,b5];simpa using hC1);have W2:ai E.P μ (fun k=>if k=id then({g:=some g',cap:=AM,len:=(es++new).length,sz:=s,row:=lq}:aG)else φ k) (.os id) (.slice (some ⟨g',0,none⟩) (es.length+new.length) AM):=by have:=ai.os (P:=E.P) (μ:=μ) (φ:=fun k=>if k=id then({g:=some g',cap:=AM,len:=(es++new).length,sz:=s,row:=lq}:aG)else φ k) (id:=id) (g:=g') (by simp);simp only[if_true]at this;rw[←G6];exact this
  rcases b6 with⟨Ve,hys,b6,b7⟩|⟨rfl,rfl⟩
  ·have bV:(φ id).g=some g':=by
    have key:∀z,ai E.P μ φ (.os id) z→z=.slice (some ⟨g',0,none⟩) es.length Ve→(φ id).g=some g':=by
     intro z hz he;cases hz with
     |pZ _=>cases he
     |os hg=>simp only[Value.slice.injEq,Option.some.injEq,Addr.mk.injEq]at he;rw[←he.1.1];exact hg
    exact key _ ha hys
   obtain⟨o1,o2⟩:=hM.own id _ g' hm (.inl bV);have G2:∀a b,(bL.nest s e (es++new)).rowAt a b=true→(lq a b).g≠some g':=by
    intro a b AL hg;rcases iQ a b g' AL hg with⟨u1,u2,u3⟩|⟨u1,i2,u0,une,um,u2,u3⟩
    ·exact(hM.apart id _ hm a b g' u2 u3).1 bV
    ·exact une (hM.inj i2 id _ _ g' um hm (.inr ⟨_,_,u2,u3⟩) (.inl bV))
   have AR:∀j b',bh (bB id (NU src m)) id j=some b'→¬b'.owns (φ j) g':=fun j b' hj ho=>by obtain⟨k1,_,b2,k3,k4⟩:=bO j b' hj;exact k1 (hM.inj j id _ _ g' k3 hm (JZ k4 ho) (.inl bV))
   obtain⟨k1,k2⟩:=fin {g:=some g',cap:=AM,len:=(es++new).length,sz:=s,row:=lq} w' rfl (b6.mono o1) (fun k o hk=>by rw[b7 k (fun e=>by subst e;rw[o2 rfl]at hk;cases hk)];exact hM.ro k o hk) (fun j b' g hj ho=>b7 g fun e=>by subst e;exact AR j b' hj ho) (fun g hg=>by
     simp only[Option.some.injEq]at hg;subst hg;exact⟨o1,o2 rfl,AR,G2⟩)
    (hq w' b1 (hCC.cE fun a e1 b p1 g he hp AL hg=>b7 g fun e=>by subst e;exact G2 a b (by rw[dx he hp];exact AL) hg))
   exact⟨w',_,_,hr,k1,k2,W2⟩
  ·have hold:∀k,k<w.heap.size→(w.drew.alloc (.cells c' e)).heap[k]?=w.heap[k]?:=fun k hk=>jG.heap_alloc w.drew _ k hk;obtain⟨k1,k2⟩:=fin {g:=some w.heap.size,cap:=AM,len:=(es++new).length,sz:=s,row:=lq} (w.drew.alloc (.cells c' e)) rfl ((jG.refl _ w).drew.alloc hM.below.size _) (fun k o hk=>by
     have:=hM.ro k o hk;rw[hold k (Array.getElem?_eq_some_iff.1 this).1];exact this)
    (fun j b' g hj ho=>hold g ((rI.dG j b' hj).BJ ho)) (fun g hg=>by
     simp only[Option.some.injEq]at hg;subst hg;refine⟨hM.below.size,?_,fun j b' hj ho=>?_,fun a b AL hg=>?_⟩
     ·cases hq:μ w.heap.size with
      |none=>rfl
      |some o'=>have:=hM.ro _ _ hq;simp at this
     ·have:=(rI.dG j b' hj).BJ ho;omega
     ·have:=(Fo a b _ AL hg).2.2.1;omega)
    (hq _ b1 (hCC.cE fun a e1 b p1 g he hp AL hg=>hold g (Fo a b g (by rw[dx he hp];exact AL) hg).2.2.1))
   exact⟨_,_,_,hr,k1,k2,W2⟩
theorem B7{m:Mem}:∀{cs:List V}{j0:Nat}{ps:List PV},jF m j0 cs=some (ps,none)→∀m2:Mem,jF m2 j0 cs=some (ps,none)
 |[],j0,ps,h,m2=>h
 |v::r,j0,ps,h,m2=>by
  unfold jF at h;split at h
  ·rename_i heq;cases heq
  ·rename_i j id r' heq;split at h
   ·split at h
    ·simp at h
    ·cases h
   ·cases h
  ·rename_i j v' r' cQ heq;simp only[List.cons.injEq]at heq;obtain⟨rfl,rfl⟩:=heq;unfold jF;split
   ·rename_i heq;cases heq
   ·rename_i j id r' heq;simp only[List.cons.injEq]at heq;exact absurd heq.1 (cQ id)
   ·rename_i j v' r' cQ heq;simp only[List.cons.injEq]at heq;obtain⟨rfl,rfl⟩:=heq;split at h
    ·rename_i p hp;split at h
     ·rename_i ps' t ht;simp only[Option.some.injEq,Prod.mk.injEq]at h;obtain⟨rfl,rfl⟩:=h;rw[B7 ht m2]
     ·cases h
    ·cases h
theorem tP{m m2:Mem}{j id2:Nat}(hm:m2 id2=m id2):∀{cs:List V}{j0:Nat}{ps:List PV},jF m j0 cs=some (ps,some (j,id2))→jF m2 j0 cs=some (ps,some (j,id2))
 |[],j0,ps,h=>by simp[jF]at h
 |v::r,j0,ps,h=>by
  unfold jF at h;split at h
  ·rename_i heq;cases heq
  ·rename_i j id r' heq;simp only[List.cons.injEq]at heq;obtain⟨rfl,rfl⟩:=heq;split at h
   ·rename_i s et es NV;split at h
    ·rename_i ps' ht;simp only[Option.some.injEq,Prod.mk.injEq]at h;obtain⟨rfl,rfl,rfl⟩:=h;simp only[jF,hm,NV,B7 ht m2]
    ·cases h
   ·cases h
  ·rename_i j v' r' cQ heq;simp only[List.cons.injEq]at heq;obtain⟨rfl,rfl⟩:=heq;unfold jF;split
   ·rename_i heq;cases heq
   ·rename_i j id r' heq;simp only[List.cons.injEq]at heq;exact absurd heq.1 (cQ id)
   ·rename_i j v' r' cQ heq;simp only[List.cons.injEq]at heq;obtain⟨rfl,rfl⟩:=heq;split at h
    ·rename_i p hp;split at h
     ·rename_i ps' t ht;simp only[Option.some.injEq,Prod.mk.injEq]at h;obtain⟨rfl,rfl⟩:=h;rw[tP hm ht]
     ·cases h
    ·cases h
theorem J0{site:Nat}{o:Oper}{f f2:Fr}{m m2:Mem}{sp:Sp}(h:wo E site o f m=some sp)(hf:∀x∈o.op.operands,bA E f2 x=bA E f x)(hm:∀x∈(sp.info site).2,m2 x.2=m x.2):wo E site o f2 m2=some sp:=by
 obtain⟨dst,op,type,pos,after,guard⟩:=o;unfold wo at h⊢;cases op;case store t a x=>
  simp only at h⊢;rw[hf a (by simp[Op.operands]),hf x (by simp[Op.operands])];split at h
  ·rename_i id i off ha;split at h
   ·rename_i s et es NV;split at h
    ·rename_i cs hc;split at h
     ·rename_i ps j id2 ht;split at h
      ·rename_i iV;simp only[Option.some.injEq]at h;subst h;have h1:m2 id=m id:=hm (true,id) (by simp[Sp.info]);have h2:m2 id2=m id2:=hm (true,id2) (by simp[Sp.info]);simp only[ha,h1,NV,hc,tP h2 ht,iV,if_true]
      ·cases h
     ·cases h
    ·cases h
   ·cases h
  ·cases h
 case buildSlice t len parts=>
  simp only at h⊢;have Pt:(parts.toList.map fun(x:Nat×Operand)=>(x.1,bA E f2 x.2))=parts.toList.map fun(x:Nat×Operand)=>(x.1,bA E f x.2):=List.map_congr_left fun x hx=>by rw[hf x.2 (by simp only[Op.operands,List.mem_toArray,List.mem_map];exact⟨x,hx,rfl⟩)]
  rw[Pt];split at h
  ·rename_i e v hu hp;split at h
   ·rename_i cs hc;split at h
    ·rename_i ps j id2 ht hs;split at h
     ·rename_i p Dv;split at h
      ·rename_i iV;simp only[Option.some.injEq]at h;subst h;have h1:m2 site=m site:=hm (true,site) (by simp[Sp.info]);have h2:m2 id2=m id2:=hm (true,id2) (by simp[Sp.info]);simp only[hu,hp,hc,tP h2 ht,h1,hs,Dv,iV,if_true]
      ·cases h
     ·cases h
    ·cases h
   ·cases h
  ·cases h
 case call c=>
  obtain⟨callee,args,argTypes⟩:=c;simp only at h⊢;have jK:args.toList.map (bA E f2)=args.toList.map (bA E f):=List.map_congr_left fun x hx=>hf x (by simp only[Op.operands,Call.operands];cases callee<;>simp[Array.mem_toList_iff.1 hx]);rw[jK];split at h
  ·rename_i id x t t' ha YE;split at h
   ·rename_i e s et es hu NV;split at h
    ·rename_i iV;have plain:∀{new:List PV}{rd:bq},eG m s x=some (new,rd)→x.has id=false→sp=.app id s et es new none rd→eG m2 s x=some (new,rd):=by intro new rd yQ YF il;subst il;obtain⟨e1,_,_⟩:=mr yQ;exact e1 m2 fun y hy=>hm y (by simp[Sp.info,hy])
     split at h
     ·rename_i nN;split at h
      ·rename_i s' Bn new UH;split at h
       ·rename_i BB;simp only[Option.some.injEq]at h;subst h;have h1:m2 id=m id:=hm (true,id) (by simp[Sp.info]);have h2:m2 nN=m nN:=hm (true,nN) (by simp[Sp.info]);simp only[ha,YE,hu,h1,NV,iV,if_true,h2,UH,BB]
       ·cases h
      ·rename_i hnn;split at h
       ·rename_i new rd yQ;split at h
        ·cases h
        ·rename_i YF;simp only[Option.some.injEq]at h;have RZ:=plain yQ (by simpa using YF) h.symm;subst h;have h1:m2 id=m id:=hm (true,id) (by simp[Sp.info]);simp only[ha,YE,hu,h1,NV,iV,if_true,RZ];split
         ·rename_i s' Bn ahv cM;exfalso;simp only[eG,cM]at RZ;cases RZ
         ·rw[if_neg YF]
       ·cases h
     ·rename_i ahw;split at h
      ·rename_i new rd yQ;split at h
       ·cases h
       ·rename_i YF;simp only[Option.some.injEq]at h;have RZ:=plain yQ (by simpa using YF) h.symm;subst h;have h1:m2 id=m id:=hm (true,id) (by simp[Sp.info]);simp only[ha,YE,hu,h1,NV,iV,if_true,RZ];try rw[if_neg YF]
      ·cases h
    ·cases h
   ·cases h
  ·cases h
 case mapUpdate t x key v=>
  simp only at h⊢;rw[hf x (by simp[Op.operands]),hf key (by simp[Op.operands]),hf v (by simp[Op.operands])];split at h
  ·rename_i kt et id id2 hu hx hv;split at h
   ·rename_i tn e es s e' rs kp h1 h2 hk;split at h
    ·rename_i iV;simp only[Option.some.injEq]at h;subst h;have h3:m2 id=m id:=hm (true,id) (by simp[Sp.info]);have h4:m2 id2=m id2:=hm (true,id2) (by simp[Sp.info]);simp only[hu,hx,hv,h3,h4,h1,h2,hk,iV,if_true]
    ·cases h
   ·cases h
  ·cases h
 all_goals (cases h)
end
end Go.Ab
