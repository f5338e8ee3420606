import Derived.Test.YtcmhmlnkhmefbaaAbP4
import Derived.RangeFuncRecord
import Derived.Laws.IdiomRangeMap
set_option linter.unusedVariables false
namespace Go.Ab
section
variable {P:Program} {G:Nat→Option (List PV)} {w0:bg} {μ:Ro} {φ:Nat→aw} {m:Mem} {w:World}
theorem al.VV(hM:al P G w0 μ φ m w){g:Nat}(hB:w0.heap.size≤g)(VW:∀id b,m id=some b→¬b.owns (φ id) g):al P G w0 (lP μ w (some g)) φ m w:=by
 have mono:=jd hM (some g);refine⟨hM.below,fun b o hb=>?_,fun g' cs hg=>(hM.ax g' cs hg).mono mono,fun j c hj=>(hM.dq j c hj).cj (fun _ _=>rfl) rfl mono (fun _ _=>rfl),fun j c g' hj bF=>?_,hM.inj,hM.apart,hM.eT,fun b o hb ba=>?_,fun b o hb=>mono b o (hM.dt b o hb),hM.wB⟩
 ·unfold lP at hb;split at hb
  ·exact hb
  ·exact hM.ro b o hb
 ·obtain⟨h1,h2⟩:=hM.own j c g' hj bF;refine⟨h1,fun yF=>?_⟩;unfold lP;split
  ·rename_i he;simp only[Option.some.injEq]at he;subst he;exact absurd bF (VW j c hj)
  ·exact h2 yF
 ·unfold lP at hb;split at hb
  ·rename_i he;simp only[Option.some.injEq]at he;omega
  ·exact hM.base b o hb ba
theorem FW(w:World)(g:Nat)(o:Obj):iJ g w (w.putObj g o):=⟨⟨rfl,rfl,rfl,by simp,fun k hk=>World.putObj_heap_other (by omega)⟩,fun _=>Nat.le_refl _⟩
theorem uh{A:Type}(f:A→Nat):∀{l:List A}{i:Nat}{e:A},l[i]?=some e→(∀(j:Nat)x,l[j]?=some x→f x=f e→j=i)→l.filter (fun x=> !(f x==f e))=l.eraseIdx i
 |[],i,e,h,_=>by simp at h
 |y::l,0,e,h,inj=>by simp only[List.getElem?_cons_zero,Option.some.injEq]at h;subst h;simp only[List.filter_cons,BEq.rfl,Bool.not_true,Bool.false_eq_true,if_false,List.eraseIdx_cons_zero];rw[List.filter_eq_self];intro x hx;obtain⟨j,hj⟩:=List.mem_iff_getElem?.1 hx;simp only[Bool.not_eq_true',beq_eq_false_iff_ne];intro e;have:=inj (j+1) x (by simpa using hj) e;omega
 |y::l,i+1,e,h,inj=>by
  have h':l[i]?=some e:=by simpa using h
  have cq:¬f y=f e:=fun e'=>by have:=inj 0 y rfl e';omega
  have hb:(f y==f e)=false:=by simpa using cq
  simp only[List.filter_cons,hb,Bool.not_false,if_true,List.eraseIdx_cons_succ];rw[uh f h' (fun j x hj e'=>by have:=inj (j+1) x (by simpa using hj) e';omega)]
theorem Bh(en:Array MapEntry):iN en #[]=en.toList:=by unfold iN;rw[List.filter_eq_self];intro x _;simp
variable{en:Array MapEntry}{clock:Nat}{seen:Array Nat}{e:MapEntry}
theorem yS(hb:jc en clock){i:Nat}(hi:(iN en seen)[i]?=some e):iN en (seen.push e.born)=(iN en seen).eraseIdx i:=by
 have h1:iN en (seen.push e.born)=(iN en seen).filter (fun x=> !(x.born==e.born)):=by unfold iN;rw[List.filter_filter];congr 1;funext x;simp only[Array.contains_push,Bool.not_or];rw[Bool.and_comm]
 rw[h1];refine uh (fun x=>x.born) hi fun j x hj e'=>?_;have PA:(iN en seen).Pairwise fun a b=>a.born≠b.born:=by
  unfold iN;refine List.Pairwise.filter _ ?_;rw[List.pairwise_iff_getElem];intro a b ha fl oH he;have h2:en[a]?=some en.toList[a]:=by rw[←Array.getElem?_toList];exact List.getElem?_eq_getElem ha
  have h3:en[b]?=some en.toList[b]:=by rw[←Array.getElem?_toList];exact List.getElem?_eq_getElem fl
  have:=(hb b _ h3).2 a _ h2 he;omega
 have u9:j<(iN en seen).length:=(List.getElem?_eq_some_iff.1 hj).1;have LX:i<(iN en seen).length:=(List.getElem?_eq_some_iff.1 hi).1;rw[List.getElem?_eq_getElem u9]at hj;rw[List.getElem?_eq_getElem LX]at hi;simp only[Option.some.injEq]at hj hi;rw[List.pairwise_iff_getElem]at PA;rcases Nat.lt_trichotomy j i with h|h|h
 ·exact absurd (by rw[hj,hi];exact e') (PA j i u9 LX h)
 ·exact h
 ·exact absurd (by rw[hj,hi];exact e'.symm) (PA i j LX u9 h)
theorem Ky(h:e∈iN en seen):∃i:Nat,en[i]?=some e:=by unfold iN at h;have:=(List.mem_filter.1 h).1;obtain⟨i,hi⟩:=List.mem_iff_getElem?.1 this;exact⟨i,by rw[←Array.getElem?_toList];exact hi⟩
theorem Kz{w:World}{g mg:Nat}(hg:w.heap[g]?=some (.mapIter (some mg) clock seen clock))(hm:w.heap[mg]?=some (.map en clock))(hb:jc en clock)(ty:TypeId):(iN en seen=[]∧(Instr.next (.pointer (some ⟨g,0,none⟩)) false ty).run P w=.ok (.tuple #[.bool false]) w)∨∃(j:Nat)(e:MapEntry)(w1:World),(iN en seen)[j]?=some e∧(w1=w∨w1=w.drew)∧(Instr.next (.pointer (some ⟨g,0,none⟩)) false ty).run P w=.ok (.tuple #[.bool true,e.key,e.val]) (w1.putObj g (.mapIter (some mg) clock (seen.push e.born) clock)):=by
 have hold:∀x∈en.toList,x.born<clock:=fun x hx=>by obtain⟨i,hi⟩:=List.mem_iff_getElem?.1 hx;exact(hb i x (by rw[←Array.getElem?_toList];exact hi)).1
 simp only[Instr.next,getObj,Sem.run_bind,Sem.run,hg,hm,Result.andThen,next_test_false seen en clock clock hold (Nat.le_refl _),Bool.false_eq_true,if_false];have hL:(Array.filter (fun e=> !seen.contains e.born) en).toList=iN en seen:=by simp[iN]
 have cQ:∀x∈(Array.filter (fun e=> !seen.contains e.born) en).toList,x.born<clock:=fun x hx=>hold x (by simp at hx⊢;exact hx.1);generalize Array.filter (fun e=> !seen.contains e.born) en=L at cQ hL⊢;have e1:L.filter (fun x=>decide (x.born<clock))=L:=Array.filter_eq_self.2 (fun x hx=>by simpa using cQ x (by simpa using hx));have e2:L.filter (fun x=>decide (x.born≥clock))= #[]:=by rw[Array.filter_eq_empty_iff];intro x hx;have:=cQ x (by simpa using hx);simp;omega
 simp only[e1,e2,Array.append_empty];rw[←hL];by_cases h0:L.size=0
 ·left;have:L= #[]:=Array.eq_empty_of_size_eq_zero h0;subst this;refine⟨rfl,?_⟩;simp[choose,Sem.run,Question.forced]
 ·right;have cq:L.isEmpty=false:=by simp[Array.isEmpty,h0]
  simp only[cq,Bool.false_eq_true,if_false,Array.empty_append,Array.size_map];have hch:∃(j:Nat)(w1:World),j<L.size∧(w1=w∨w1=w.drew)∧(choose (Question.mapNext L.size)).run P w=.ok j w1:=by
   by_cases hf:L.size≤1
   ·exact⟨0,w,by omega,.inl rfl,by simp[choose,Sem.run,Question.forced,hf]⟩
   ·exact⟨_,w.drew,Nat.mod_lt _ (by omega),.inr rfl,by simp only[choose,Sem.run,Question.forced,decide_eq_true_eq,hf,if_false,Question.cut];rfl⟩
  obtain⟨j,w1,hj,Kq,lC⟩:=hch;refine⟨j,L[j],w1,by rw[Array.getElem?_toList,Array.getElem?_eq_getElem hj],Kq,?_⟩;have hg1:w1.heap[g]?=some (.mapIter (some mg) clock seen clock):=by rcases Kq with rfl|rfl<;>exact hg
  have oT:(setObj g (.mapIter (some mg) clock (seen.push L[j].born) clock)).run P w1=.ok () (w1.putObj g (.mapIter (some mg) clock (seen.push L[j].born) clock)):=by simp only[setObj,Sem.run,hg1];rfl
  simp only[lC,Array.getElem?_map,Array.getElem?_eq_getElem hj,Option.map_some,Sem.run_bind,oT,Result.andThen];rfl
theorem FX{w:World}{g mg:Nat}{i:Nat}(hg:w.heap[g]?=some (.mapIter (some mg) clock seen clock))(hm:w.heap[mg]?=some (.map en clock))(hb:jc en clock)(hi:en[i]?=some e)(hs:seen.back? =some e.born):(Instr.entry (.pointer (some ⟨g,0,none⟩))).run P w=.ok (.tuple #[e.key,e.val]) w:=by
 have hf:en.find? (·.born==e.born)=some e:=by
  rw[←Array.find?_toList];refine find_born e en.toList ?_ (by rw[Array.mem_toList_iff];exact Array.mem_of_getElem? hi);rw[List.Nodup,List.pairwise_map,List.pairwise_iff_getElem];intro a b ha fl oH he;have h2:en[a]?=some en.toList[a]:=by rw[←Array.getElem?_toList];exact List.getElem?_eq_getElem ha
  have h3:en[b]?=some en.toList[b]:=by rw[←Array.getElem?_toList];exact List.getElem?_eq_getElem fl
  have:=(hb b _ h3).2 a _ h2 he;omega
 simp only[Instr.entry,getObj,Sem.run_bind,Sem.run,hg,hm,Result.andThen,hs,bne_self_eq_false,Bool.false_eq_true,if_false,hf];rfl
end
section
variable {R:Type} {E:Env}
variable{g:Nat→Option R}{r:R}
theorem FY{n:Nat}(h:nD n g=some r)(i:Nat)(hi:i<n):g i=some r:=by
 unfold nD at h;split at h
 ·rename_i hh;simp only[Option.some.injEq]at h;subst h;exact Classical.choose_spec hh i hi
 ·cases h
theorem yT{n:Nat}(h0:0<n)(h:∀i,i<n→g i=some r):nD n g=some r:=by unfold nD;have hh:∃r,∀i,i<n→g i=some r:=⟨r,h⟩;rw[dif_pos hh];have:=Classical.choose_spec hh 0 h0;rw[h 0 h0]at this;exact this.symm
variable{k:V→Fr→Mem→Option R}
theorem KA{site:Nat}{t:TypeId}{x:V}{f:Fr}{m:Mem}(h:FD E site t x f m k=some r):∃f' m',k (.it site) f' m'=some r∧(m' site).isSome=true∧∀(G:Nat→Option (List PV))(w0:bg)(μ:Ro)(φ:Nat→aw)(w:World)(ρ:Nat→Value)(y:Value),al E.P G w0 μ φ m w→bJ E.P μ φ m f ρ→ab E.P μ φ x y→∃w' y' μ' φ',(Instr.range t y).run E.P w=.ok y' w'∧al E.P G w0 μ' φ' m' w'∧bJ E.P μ' φ' m' f' ρ∧ab E.P μ' φ' (.it site) y':=by
 unfold FD at h;split at h
 ·rename_i kt et hu;split at h
  ·rename_i id;split at h
   ·rename_i qp es hm;split at h
    ·obtain⟨f',m',hn,sx,qz,sw,qq⟩:=bR h;refine⟨f',m',sx,by simp[qz],fun G w0 μ φ w ρ y hM hF hx=>?_⟩;obtain⟨g,en,clock,kk,hg,hh,hs,vz,yE,pY,hv⟩:=hM.dq id _ hm;obtain⟨o1,o2⟩:=hM.own id _ g hm (.inl hg);cases hx with
     |om bF=>
      rw[hg]at bF;simp only[Option.some.injEq]at bF;subst bF;have oS:=hM.forget id;have UJ:=oS.VV o1 (fun j b hj e=>by obtain⟨cq,b',fl,rfl⟩:=ey hj;exact cq (hM.inj j id b' _ g fl hm (fa.1 e) (.inl hg)));have Bi:=jd oS (some g);have xy:bJ E.P (lP μ w (some g)) φ (aQ (bk id m) id) (eB id f) ρ:=(hF.forget id).mono Bi fun j hj=>⟨rfl,hj⟩;have ib:∀φ':Nat→aw,φ' site=(xt (some w.heap.size) 0 0 0)→(∀j,(bn.iter t es none).names j=true→φ' j=φ j)→fm E.P (lP μ w (some g)) φ' (w.alloc (.mapIter (some g) clock #[] clock)) site (.iter t es none):=fun φ' hp _=>by
       refine⟨w.heap.size,g,en,clock,#[],by rw[hp],eQ w _,by simp[lP,hh],pY,(by rw[Bh,Array.length_toList,hs]),fun i k v e h1 h2=>?_,fun k v h=>by cases h⟩;have Kv:en[i]?=some e:=by rw[←Array.getElem?_toList,←Bh en];exact h2
       exact⟨(hv i k v e h1 Kv).1.mono Bi,(hv i k v e h1 Kv).2.mono Bi⟩
      obtain⟨φ',a1,a2,a3⟩:=qq E.P G w0 _ φ w (w.alloc (.mapIter (some g) clock #[] clock)) ρ (xt (some w.heap.size) 0 0 0) UJ xy (iD.alloc (o:=.mapIter (some g) clock #[] clock) UJ rfl ib (by simp[bn.names]));exact⟨_,_,_,φ',run_range_map w t kt et g en clock hu hh,a2,a3,.it (by rw[a1])⟩
    ·cases h
   ·cases h
  ·cases h
 ·cases h
theorem ui{A:Type}{l:List A}{i j:Nat}{x:A}(h:(l.eraseIdx i)[j]?=some x):l[if j<i then j else j+1]?=some x:=by
 rw[List.getElem?_eraseIdx]at h;split at h
 ·rename_i ba;rw[if_pos ba];exact h
 ·rename_i ba;rw[if_neg ba];exact h
theorem MQ{x:V}{f:Fr}{m:Mem}(h:Mj E x f m k=some r)(G:Nat→Option (List PV))(w0:bg)(μ:Ro)(φ:Nat→aw)(w:World)(y:Value)(ty:TypeId)(hM:al E.P G w0 μ φ m w)(hx:ab E.P μ φ x y):∃v m' y' w',k v f m'=some r∧(∀id,v.has id=false)∧gU m m'∧(Instr.next y false ty).run E.P w=.ok y' w'∧al E.P G w0 μ φ m' w'∧ab E.P μ φ v y':=by
 unfold Mj at h;split at h
 ·rename_i id;split at h
  ·rename_i t es cur hm;split at h
   ·rename_i kt et hu;obtain⟨g,mg,en,clock,seen,hg,hh,yF,pY,vq,hv,_⟩:=hM.dq id _ hm;obtain⟨o1,o2⟩:=hM.own id _ g hm (.inl hg);cases hx with
    |it bF=>
     rw[hg]at bF;simp only[Option.some.injEq]at bF;subst bF;have hmg:=hM.ro _ _ yF;rcases Kz (P:=E.P) hh hmg pY ty with⟨Qa,lC⟩|⟨j,e,w1,hj,I7,lC⟩
     ·have:es=[]:=by rw[Qa]at vq;exact List.eq_nil_of_length_eq_zero vq.symm
      subst this;simp only[List.isEmpty_nil,if_true]at h;refine⟨_,m,_,w,h,by simp[V.has,bO],gU.refl m,lC,hM,.bA rfl fun i p x hp hx=>?_⟩;cases i with
      |zero=>simp at hp hx;subst hp;subst hx;exact .pv .bool
      |succ i=>simp at hp
     ·have u9:j<(iN en seen).length:=(List.getElem?_eq_some_iff.1 hj).1;have cq:¬es.isEmpty=true:=by
       have dQ:0<es.length:=by omega
       intro e';rw[List.isEmpty_iff]at e';rw[e']at dQ;exact absurd dQ (Nat.lt_irrefl 0)
      rw[if_neg cq]at h;have h:=FY h j (by omega);obtain⟨e0,Dh,h⟩:=Option.bind_eq_some_iff.1 h;obtain⟨qa,_,ha,ra,_⟩:=iV h;obtain⟨qb,_,hb,rb,_⟩:=iV ha;obtain⟨rk,rv⟩:=hv j e0.1 e0.2 e Dh hj;refine⟨_,_,_,_,hb,by simp[V.has,bO],.set,lC,?_,.bA rfl fun i p x hp hx=>?_⟩
      ·have oS:al E.P G w0 μ φ m w1:=by rcases I7 with rfl|rfl;exact hM;exact hM.drew
       have ba:g<w1.heap.size:=by have:g<w.heap.size:=(Array.getElem?_eq_some_iff.1 hh).1;rcases I7 with rfl|rfl<;>exact this
       refine oS.write hm rfl hg (FW w1 g _) World.putObj_size (fun k hk=>World.putObj_heap_other hk) ?_ rfl (by simp[bn.names]);refine⟨g,mg,en,clock,seen.push e.born,hg,World.putObj_heap_same ba,yF,pY,?_,fun i k v e' h1 h2=>?_,fun k v hc=>?_⟩
       ·rw[yS pY hj,List.length_eraseIdx,List.length_eraseIdx,vq]
       ·rw[yS pY hj]at h2;exact hv _ k v e' (ui h1) (ui h2)
       ·simp only[Option.some.injEq,Prod.mk.injEq]at hc;obtain⟨rfl,rfl⟩:=hc;obtain⟨i,hi⟩:=Ky (List.mem_of_getElem? hj);exact⟨i,e,hi,by simp,ra _ _ _ rk,rb _ _ _ rv⟩
      ·match i with
       |0=>simp at hp hx;subst hp;subst hx;exact .pv .bool
       |1=>simp at hp hx;subst hp;subst hx;exact .pv (ra _ _ _ rk)
       |2=>simp at hp hx;subst hp;subst hx;exact .pv (rb _ _ _ rv)
       |i+3=>simp at hp
   ·cases h
  ·cases h
 ·cases h
theorem KB{x:V}{m:Mem}{k:V→Mem→Option R}(h:FE x m k=some r)(P:Program)(G:Nat→Option (List PV))(w0:bg)(μ:Ro)(φ:Nat→aw)(w:World)(y:Value)(hM:al P G w0 μ φ m w)(hx:ab P μ φ x y):∃v m' y',k v m'=some r∧(∀id,v.has id=false)∧gU m m'∧(Instr.entry y).run P w=.ok y' w∧al P G w0 μ φ m' w∧ab P μ φ v y':=by
 unfold FE at h;split at h
 ·rename_i id;split at h
  ·rename_i t es a b hm;obtain⟨g,mg,en,clock,seen,hg,hh,yF,pY,vq,hv,Vw⟩:=hM.dq id _ hm;obtain⟨i,e,hi,hs,ra,rb⟩:=Vw a b rfl;cases hx with
   |it bF=>
    rw[hg]at bF;simp only[Option.some.injEq]at bF;subst bF;refine⟨_,_,_,h,by simp[V.has,bO],.set,FX hh (hM.ro _ _ yF) pY hi hs,?_,.bA rfl fun i p x hp hx=>?_⟩
    ·exact hM.write hm rfl hg (iJ.refl _ _) rfl (fun _ _=>rfl) ⟨g,mg,en,clock,seen,hg,hh,yF,pY,vq,hv,fun k v h=>by cases h⟩ rfl (by simp[bn.names])
    match i with
    |0=>simp at hp hx;subst hp;subst hx;exact .pv ra
    |1=>simp at hp hx;subst hp;subst hx;exact .pv rb
    |i+2=>simp at hp
  ·cases h
 ·cases h
end
end Go.Ab
set_option linter.unusedVariables false
namespace Go.Ab
section
variable {P:Program} {G:Nat→Option (List PV)} {w0:bg} {μ μ':Ro} {φ φ':Nat→aw} {m m':Mem} {w w':World}
variable{id j:Nat}{b:bn}
theorem fQ(h:eE id m j=some b):∃b',m j=some b'∧b=dE id b':=by
 unfold eE at h;cases hm:m j with
 |none=>rw[hm]at h;cases h
 |some b'=>rw[hm]at h;simp only[Option.some.injEq]at h;exact⟨b',rfl,h.symm⟩
theorem kX:(eE id m j).isSome=(m j).isSome:=by unfold eE;cases m j<;>rfl
theorem wO(id:Nat)(b:bn):(dE id b).rowAt=b.rowAt:=by cases b<;>rfl
theorem mK{p:aw}{g:Nat}:(dE id b).owns p g↔b.owns p g:=by unfold bn.owns;rw[wO]
theorem qR{p:aw}:(dE id b).apart p↔b.apart p:=by unfold bn.apart;rw[wO]
theorem ti(id:Nat)(b:bn):(dE id b).gF=b.gF:=by cases b<;>rfl
theorem FZ{cs:List V}(h:bO j (cs.map (kG id))=true):bO j cs=true:=by obtain⟨v,hv,hh⟩:=cw.1 h;obtain⟨u,hu,rfl⟩:=List.mem_map.1 hv;exact bw hu (rS hh).1
theorem fm.sG{id j:Nat}{b:bn}(h:fm P μ φ w j b):fm P μ φ w j (dE id b):=by
 cases b with
 |box cs=>obtain⟨g,c,T,hg,hh,hs,hv,h1,vq⟩:=h;refine⟨g,c,T,hg,hh,by simpa using hs,fun i v x hi hx=>?_,h1,by simpa using vq⟩;simp only[List.getElem?_map,Option.map_eq_some_iff]at hi;obtain⟨u,hu,rfl⟩:=hi;exact(hv i u x hu hx).sG id
 |_=>exact h
theorem al.pA(hM:al P G w0 μ φ m w)(id:Nat):al P G w0 μ φ (eE id m) w:=by
 refine⟨hM.below,hM.ro,hM.ax,fun j b h=>?_,fun j b g h hg=>?_,fun i j b1 b2 g h1 h2 g1 g2=>?_,fun j b h=>?_,fun j cs i h hh=>?_,hM.base,hM.dt,fun j st h=>?_⟩
 ·obtain⟨b',hb,rfl⟩:=fQ h;exact(hM.dq j b' hb).sG
 ·obtain⟨b',hb,rfl⟩:=fQ h;rw[ti];exact hM.own j b' g hb (mK.1 hg)
 ·obtain⟨Vy,Px,rfl⟩:=fQ h1;obtain⟨Vz,nq,rfl⟩:=fQ h2;exact hM.inj i j Vy Vz g Px nq (mK.1 g1) (mK.1 g2)
 ·obtain⟨b',hb,rfl⟩:=fQ h;exact qR.2 (hM.apart j b' hb)
 ·obtain⟨b',hb,e⟩:=fQ h;cases b' with
  |box A6=>simp only[dE,bn.box.injEq]at e;subst e;rw[kX];exact hM.eT j A6 i hb (FZ hh)
  |_=>simp[dE]at e
 ·obtain⟨b',hb,e⟩:=fQ h;cases b' with
  |loop st'=>simp only[dE,bn.loop.injEq]at e;subst e;exact hM.wB j st hb
  |_=>simp[dE]at e
variable{ρ:Nat→Value}
theorem bJ.pA{f:Fr}(h:bJ P μ φ m f ρ)(id:Nat):bJ P μ φ (eE id m) (fH id f) ρ:=⟨fun t=>(h.fr t).sG id,fun t j hj=>by rw[kX];exact h.live t j (rS hj).1⟩
theorem al.km:∀{kl:Kl}{m:Mem},al P G w0 μ φ m w→al P G w0 μ φ (Go.Ab.km kl m) w
 |[],_,h=>h
 |(true,id)::r,m,h=>(al.km (kl:=r) (m:=aQ (bk id m) id) (h.forget id):)
 |(false,id)::r,m,h=>(al.km (kl:=r) (m:=eE id m) (h.pA id):)
theorem bJ.km{ρ:Nat→Value}:∀{kl:Kl}{m:Mem}{f:Fr},bJ P μ φ m f ρ→bJ P μ φ (Go.Ab.km kl m) (kf kl f) ρ
 |[],_,_,h=>h
 |(true,id)::r,m,f,h=>(bJ.km (kl:=r) (m:=aQ (bk id m) id) (f:=eB id f) (h.forget id):)
 |(false,id)::r,m,f,h=>(bJ.km (kl:=r) (m:=eE id m) (f:=fH id f) (h.pA id):)
theorem al.I8(hM:al P G w0 μ φ m w)(nw:Nat→Nat→Nat)(hblk:∀j b',m' j=some b'→fm P μ φ' w j b')(tg:∀j b' g,m' j=some b'→b'.owns (φ' j) g→∃k b,m k=some b∧b.owns (φ k) g∧(b'.gF=true→b.gF=true)∧j=nw g k)(Cl:∀j b',m' j=some b'→b'.apart (φ' j))(wA:∀j cs id,m' j=some (.box cs)→bO id cs=true→(m' id).isSome=true)(aan:∀j st,m' j=some (.loop st)→m j=some (.loop st)∧(φ' j).g=(φ j).g):al P G w0 μ φ' m' w:=by
 refine⟨hM.below,hM.ro,hM.ax,hblk,fun j b' g h hg=>?_,fun i j b1 b2 g h1 h2 g1 g2=>?_,Cl,wA,hM.base,hM.dt,fun j st h=>?_⟩
 ·obtain⟨k,b,hk,ho,yF,_⟩:=tg j b' g h hg;obtain⟨o1,o2⟩:=hM.own k b g hk ho;exact⟨o1,fun h=>o2 (yF h)⟩
 ·obtain⟨k1,c1,KC,UM,_,e1⟩:=tg i b1 g h1 g1;obtain⟨k2,c2,Qb,ho2,_,e2⟩:=tg j b2 g h2 g2;rw[e1,e2,hM.inj k1 k2 c1 c2 g KC Qb UM ho2]
 ·obtain⟨h1,h2⟩:=aan j st h;obtain⟨g,rc,r1,r2,r3⟩:=hM.wB j st h1;exact⟨g,rc,by rw[h2];exact r1,r2,r3⟩
def im(p:aw)(i off:Nat)(r:wC):aw:={p with row:=fun a b=>if a=i∧b=off then r else p.row a b}
theorem fh(p:aw)(i off:Nat)(r:wC):(im p i off r).row i off=r:=by simp[im]
theorem fo(p:aw){i off a b:Nat}(r:wC)(h:¬(a=i∧b=off)):(im p i off r).row a b=p.row a b:=by simp[im,h]
theorem fm.I9(h:fm P μ φ w j (dE id b))(hj:j≠id)(h0:(φ' id).towC=(φ id).towC)(hφ:∀k,k≠id→φ' k=φ k):fm P μ φ' w j (dE id b):=by
 have e:=hφ j hj;cases b with
 |box cs=>
  obtain⟨g,c,T,hg,hh,hs,hv,h1,vq⟩:=h;refine⟨g,c,T,by rw[e];exact hg,hh,hs,fun i v x hi hx=>?_,h1,by rw[e];exact vq⟩;refine(hv i v x hi hx).Rr (fun _ _ h=>h) fun k hk=>?_;by_cases UN:k=id
  ·subst UN;refine⟨h0,fun h2=>?_⟩;simp only[List.getElem?_map,Option.map_eq_some_iff]at hi;obtain⟨u,hu,rfl⟩:=hi;rw[(rS hk).2]at h2;cases h2
  ·rw[hφ k UN];exact⟨rfl,fun _=>rfl⟩
 |arr sz et es=>exact fm.cj h (fun k hk=>by simp[bn.names,dE]at hk) e (fun _ _ h=>h) (fun _ _=>rfl)
 |l6 sz et es=>exact fm.cj h (fun k hk=>by simp[bn.names,dE]at hk) e (fun _ _ h=>h) (fun _ _=>rfl)
 |map kt es=>exact fm.cj h (fun k hk=>by simp[bn.names,dE]at hk) e (fun _ _ h=>h) (fun _ _=>rfl)
 |nest sz et es=>exact fm.cj h (fun k hk=>by simp[bn.names,dE]at hk) e (fun _ _ h=>h) (fun _ _=>rfl)
 |eG kt e0 es=>exact fm.cj h (fun k hk=>by simp[bn.names,dE]at hk) e (fun _ _ h=>h) (fun _ _=>rfl)
 |loop st=>exact fm.cj h (fun k hk=>by simp[bn.names,dE]at hk) e (fun _ _ h=>h) (fun _ _=>rfl)
 |iter t es cur=>exact fm.cj h (fun k hk=>by simp[bn.names,dE]at hk) e (fun _ _ h=>h) (fun _ _=>rfl)
theorem bJ.RD{f:Fr}(h:bJ P μ φ m (fH id f) ρ)(h0:(φ' id).towC=(φ id).towC)(hφ:∀k,k≠id→φ' k=φ k)(hl:∀j,(m j).isSome=true→(m' j).isSome=true):bJ P μ φ' m' (fH id f) ρ:=by
 refine⟨fun t=>(h.fr t).Rr (fun _ _ h=>h) fun k hk=>?_,fun t j hj=>hl j (h.live t j hj)⟩;by_cases UN:k=id
 ·subst UN;refine⟨h0,fun h2=>?_⟩;have:=(rS (show(kG k (f t)).has k=true from hk)).2;rw[show fH k f t=kG k (f t)from rfl,this]at h2;cases h2
 ·rw[hφ k UN];exact⟨rfl,fun _=>rfl⟩
theorem eM{id2:Nat}{b':bn}(h:ai (eE id (aQ (bk id2 m) id2)) id b j=some b'):(j=id∧b'=b)∨(j≠id∧j≠id2∧∃c,m j=some c∧b'=dE id (ff id2 c)):=by
 by_cases e:j=id
 ·subst e;rw[aD]at h;simp only[Option.some.injEq]at h;exact .inl ⟨rfl,h.symm⟩
 ·rw[ak e]at h;obtain⟨c1,h1,rfl⟩:=fQ h;obtain⟨cq,c,hc,rfl⟩:=ey h1;exact .inr ⟨e,cq,c,hc,rfl⟩
theorem F0{x:Value}(h:ab P μ φ (.os id) x):ab P μ (fun _=>((φ id).towC).up) (.os 0) x:=by
 cases h with
 |np h=>exact .np h
 |os h=>exact .os (id:=0) (φ:=fun _=>((φ id).towC).up) h
theorem ay.up{sz:Nat}{et:TypeId}{es:List PV}(h:ay P μ φ w id sz et es):ay P μ (fun _=>((φ id).towC).up) w 0 sz et es:=h
theorem al.Te(hM:al P G w0 μ φ m w){id2 i off s s2:Nat}{et DT:TypeId}{es rs:List PV}{e q:PV}{x:Value}(cq:id2≠id)(hm:m id=some (.nest s et es))(bY:m id2=some (.arr s2 DT rs))(he:es[i]?=some e)(sN:e.cells[off]?=some .bad)(hx:∀g c T,(φ id).g=some g→w.heap[g]?=some (.cells c T (0,0))→c[i*s+off]?=some x)(hv:ab P μ φ (.os id2) x)(hq:q.cells=e.cells.set off (.gC s2 rs)):al P G w0 μ (fun j=>if j=id then im (φ id) i off (φ id2).towC else φ j) (ai (eE id (aQ (bk id2 m) id2)) id (.nest s et (es.set i q))) w:=by
 have oS:=(hM.forget id2).pA id;have hN:aL P μ φ w id s et es:=hM.dq id _ hm;have Td:ay P μ φ w id2 s2 DT rs:=hM.dq id2 _ bY;have LX:i<es.length:=(List.getElem?_eq_some_iff.1 he).1;have UO:off<e.cells.length:=(List.getElem?_eq_some_iff.1 sN).1;have gQ:∀a b,(bn.nest s et (es.set i q)).rowAt a b=true→(a=i∧b=off)∨((bn.nest s et es).rowAt a b=true∧¬(a=i∧b=off)):=by
  intro a b hr;by_cases oH:a=i∧b=off
  ·exact .inl oH
  ·refine .inr ⟨?_,oH⟩;rcases gT hr with⟨_,_,_,e',s',VD,fl,h',nF⟩|⟨_,_,_,_,_,_,fl,_⟩
   ·simp only[bn.nest.injEq]at fl;obtain⟨rfl,rfl,rfl⟩:=fl;rcases dX h' with⟨rfl,rfl⟩|⟨MI,h'⟩
    ·rw[hq]at nF;rcases dX nF with⟨rfl,_⟩|⟨Z2,nF⟩
     ·exact absurd ⟨rfl,rfl⟩ oH
     ·rw[dm he nF];rfl
    ·rw[dm h' nF];rfl
   ·cases fl
 refine hM.I8 (fun _ k=>if k=id2 then id else k) (fun j b' hj=>?_) (fun j b' g hj ho=>?_) (fun j b' hj=>?_) (fun j cs k hj hk=>?_) (fun j st hj=>?_)
 ·rcases eM hj with⟨rfl,rfl⟩|⟨h1,h2,c,hc,rfl⟩
  ·show aL P μ (fun k=>if k=j then im (φ j) i off (φ id2).towC else φ k) w j s et (es.set i q);refine aL.change (μ':=μ) (w':=w) (es':=es.set i q) hN (by simp) (fun i' e' h'=>?_) (by simp[im]) (fun _ _=>rfl) (fun i' e' j' p' g c T x' h' nF hg hc DL hold=>?_)
   ·rcases dX h' with⟨_,rfl⟩|⟨_,h'⟩
    ·rw[hq,List.length_set];exact hN.2.2.2.2.1 i e he
    ·exact hN.2.2.2.2.1 i' e' h'
   ·simp only[if_true];by_cases oH:i'=i∧j'=off
    ·obtain⟨rfl,rfl⟩:=oH;rw[fh];have e1:e'=q:=by
      rcases dX h' with⟨_,h⟩|⟨h,_⟩
      ·exact h
      ·exact absurd rfl h
     subst e1;rw[hq]at nF;have e2:p'=.gC s2 rs:=by
      rcases dX nF with⟨_,h⟩|⟨h,_⟩
      ·exact h
      ·exact absurd rfl h
     subst e2;have e3:x'=x:=by have:=hx g c _ hg hc;rw[DL]at this;simpa using this
     subst e3;exact⟨⟨DT,Td.up⟩,F0 hv⟩
    ·rw[fo _ _ oH];rcases dX h' with⟨rfl,rfl⟩|⟨MI,h'⟩
     ·rw[hq]at nF;rcases dX nF with⟨rfl,_⟩|⟨Z2,nF⟩
      ·exact absurd ⟨rfl,rfl⟩ oH
      ·exact hold e p' he nF
     ·exact hold e' p' h' nF
  ·have hb:fm P μ φ w j (dE id (ff id2 c)):=(hM.dq j c hc).kill.sG;exact hb.I9 h1 (by simp[im]) fun k hk=>by simp[hk]
 ·rcases eM hj with⟨rfl,rfl⟩|⟨h1,h2,c,hc,rfl⟩
  ·simp only[if_true]at ho;rcases ho with ho|⟨a,b,hr,ho⟩
   ·exact⟨j,_,hm,.inl ho,fun _=>rfl,by simp[cq.symm]⟩
   ·rcases gQ a b hr with⟨rfl,rfl⟩|⟨oQ,oH⟩
    ·rw[fh]at ho;exact⟨id2,_,bY,.inl ho,fun _=>rfl,by simp⟩
    ·rw[fo _ _ oH]at ho;exact⟨j,_,hm,.inr ⟨a,b,oQ,ho⟩,fun _=>rfl,by simp[cq.symm]⟩
  ·simp only[h1,if_false]at ho;exact⟨j,c,hc,fa.1 (mK.1 ho),fun h=>by rw[ti,rX]at h;exact h,by simp[h2]⟩
 ·rcases eM hj with⟨rfl,rfl⟩|⟨h1,h2,c,hc,rfl⟩
  ·simp only[if_true];have Cl:=hM.apart j _ hm;have new:∀g,(φ id2).g=some g→¬(bn.nest s et es).owns (φ j) g:=fun g hg ho=>cq (hM.inj id2 j _ _ g bY hm (.inl hg) ho);intro a b g hr hg;rcases gQ a b hr with⟨rfl,rfl⟩|⟨oQ,oH⟩
   ·rw[fh]at hg;refine⟨fun h=>new g hg (.inl h),fun a' b' Qc F1=>?_⟩;rcases gQ a' b' Qc with h|⟨Qd,F2⟩
    ·exact h
    ·rw[fo _ _ F2]at F1;exact absurd (.inr ⟨a',b',Qd,F1⟩) (new g hg)
   ·rw[fo _ _ oH]at hg;obtain⟨h3,h4⟩:=Cl a b g oQ hg;refine⟨h3,fun a' b' Qc F1=>?_⟩;rcases gQ a' b' Qc with⟨rfl,rfl⟩|⟨Qd,F2⟩
    ·rw[fh]at F1;exact absurd (.inr ⟨a,b,oQ,hg⟩) (new g F1)
    ·rw[fo _ _ F2]at F1;exact h4 a' b' Qd F1
  ·simp only[h1,if_false];exact qR.2 (px.2 (hM.apart j c hc))
 ·rcases eM hj with⟨rfl,hb⟩|⟨h1,h2,c,hc,hb⟩
  ·cases hb
  ·have LY:eE id (aQ (bk id2 m) id2) j=some (.box cs):=by rw[ak h1]at hj;exact hj
   have:=oS.eT j cs k LY hk;by_cases e:k=id
   ·subst e;simp
   ·rw[ak e];exact this
 ·rcases eM hj with⟨rfl,hb⟩|⟨h1,h2,c,hc,hb⟩
  ·cases hb
  ·cases c<;>first|(simp[dE,ff]at hb;done)|skip
   simp only[dE,ff,bn.loop.injEq]at hb;subst hb;exact⟨hc,by simp[h1]⟩
end
end Go.Ab
set_option linter.unusedVariables false
namespace Go.Ab
def jf(k:PV):List (PV×PV)→Option Nat
 |[]=>none
 |(a,_)::r=>if cA k.cells a.cells then some 0 else(jf k r).map (·+1)
def gG(es:List (PV×PV)):List (PV×PV):=es.map fun x=>(x.1,.bad)
theorem yU(k:PV):∀es,jf k (gG es)=jf k es
 |[]=>rfl
 |(a,u)::r=>by simp only[gG,List.map_cons,jf];rw[←yU k r];rfl
theorem xL{k:PV}:∀{es:List (PV×PV)}{j:Nat},jf k es=some j→∃a u,es[j]?=some (a,u)∧cA k.cells a.cells=true
 |(a,u)::r,j,h=>by
  simp only[jf]at h;split at h
  ·rename_i hp;simp only[Option.some.injEq]at h;subst h;exact⟨a,u,rfl,hp⟩
  ·obtain⟨i,hi,rfl⟩:=Option.map_eq_some_iff.1 h;simpa using xL hi
theorem jS(k v:PV):∀es,eA k v es=match jf k es with|some j=>es.set j (k,v)|none=>es++[(k,v)]
 |[]=>rfl
 |(a,u)::r=>by
  simp only[eA,jf];split
  ·rfl
  ·rw[jS k v r];cases jf k r<;>rfl
theorem oV(k:PV):∀es,nA k es=match jf k es with|some j=>es.modify j fun x=>(x.1,.bad)|none=>es
 |[]=>rfl
 |(a,u)::r=>by
  simp only[nA,jf];split
  ·rfl
  ·rw[oV k r];cases jf k r<;>simp
theorem DU(sz:Nat)(k:PV):∀es,Dl sz k es=match jf k es with|some j=>(es[j]?).bind fun x=>bj sz x.2|none=>some []
 |[]=>rfl
 |(a,u)::r=>by
  simp only[Dl,jf];split
  ·simp
  ·rw[DU sz k r];cases jf k r<;>simp
theorem Bj{k z:PV}{l:List (PV×PV)}{es:List MapEntry}{i:Nat}{r:Option (Nat×Value)}(h:Found k .lS z (gG l) es i r):(r=none∧jf k l=none)∨∃j e,r=some (i+j,e.val)∧es[j]?=some e∧jf k l=some j:=by
 cases h with
 |none h1 h2 h3=>
  refine .inl ⟨rfl,?_⟩;rw[jS]at h3;rw[←yU];cases hp:jf k (gG l)with
  |none=>rfl
  |some j=>rw[hp]at h3;have:=congrArg List.length h3;simp at this
 | @some j a u e h1 h2 h3 h4 h5 h6=>
  refine .inr ⟨j,e,rfl,h2,?_⟩;rw[jS]at h6;rw[←yU];have ba:j<(gG l).length:=(List.getElem?_eq_some_iff.1 h1).1;cases hp:jf k (gG l)with
  |none=>rw[hp]at h6;have:=congrArg List.length h6;simp at this
  |some j'=>
   rw[hp]at h6;simp only at h6;obtain⟨a',u',LY,_⟩:=xL hp;have aao:j'<(gG l).length:=(List.getElem?_eq_some_iff.1 LY).1;have e1:((gG l).set j (k,.lS))[j']?=some (k,.lS):=by rw[←h6];simp[aao]
   rw[List.getElem?_set]at e1;split at e1
   ·rename_i h;rw[h]
   ·exfalso;simp only[gG,List.getElem?_map,Option.map_eq_some_iff]at e1;obtain⟨x,_,hx⟩:=e1;simp at hx
section
variable {P:Program} {G:Nat→Option (List PV)} {w0:bg} {μ μ':Ro} {φ φ':Nat→aw} {m m':Mem} {w w':World}
def yV(P:Program)(μ:Ro)(R:wC)(w:World)(e0:TypeId)(v:PV)(x:Value):Prop:=match v with
 |.gC s rs=>ay P μ (fun _=>R.up) w 0 s e0 rs∧ab P μ (fun _=>R.up) (.os 0) x
 |v=>af P μ v x
variable{e0:TypeId}
theorem yV.pure{R:wC}{v:PV}{x:Value}(h:af P μ v x):yV P μ R w e0 v x:=by
 unfold yV;split
 ·cases h
 ·exact h
structure F3(P:Program)(μ:Ro)(p:aw)(w:World)(kt e0:TypeId)(es:List (PV×PV))(g:Nat)(en:Array MapEntry)(clock:Nat)(kk:List Kd):Prop where
 pl:p.g=some g
 heap:w.heap[g]?=some (.map en clock)
 size:en.size=es.length
 uZ:nB P kt=some kk
 key:∀(i:Nat)k v,es[i]?=some (k,v)→pU P kt kk k=true
 born:jc en clock
 rep:∀(i:Nat)k v e,es[i]?=some (k,v)→en[i]?=some e→af P μ k e.key∧yV P μ (p.row i 0) w e0 v e.val
variable{kt:TypeId}{es:List (PV×PV)}
theorem oW{id:Nat}:fm P μ φ w id (.eG kt e0 es)↔∃g en clock kk,F3 P μ (φ id) w kt e0 es g en clock kk:=by
 constructor
 ·rintro⟨g,en,clock,kk,h1,h2,h3,h4,h5,h6,h7⟩;exact⟨g,en,clock,kk,h1,h2,h3,h4,h5,h6,fun i k v e a b=>h7 i k v e a b⟩
 ·rintro⟨g,en,clock,kk,h1,h2,h3,h4,h5,h6,h7⟩;exact⟨g,en,clock,kk,h1,h2,h3,h4,h5,h6,fun i k v e a b=>h7 i k v e a b⟩
variable{en:Array MapEntry}
theorem F3.ent{p:aw}{g:Nat}{clock:Nat}{kk:List Kd}(h:F3 P μ p w kt e0 es g en clock kk):qP P μ kt kk (gG es) en.toList:=by
 refine⟨by simp[gG,h.size],fun i k v hi=>?_,fun i k v e hi he=>?_⟩
 ·simp only[gG,List.getElem?_map,Option.map_eq_some_iff]at hi;obtain⟨⟨a,u⟩,hq,hx⟩:=hi;simp only[Prod.mk.injEq]at hx;obtain⟨rfl,rfl⟩:=hx;exact h.key i a u hq
 ·simp only[gG,List.getElem?_map,Option.map_eq_some_iff]at hi;obtain⟨⟨a,u⟩,hq,hx⟩:=hi;simp only[Prod.mk.injEq]at hx;obtain⟨rfl,rfl⟩:=hx;exact⟨(h.rep i a u e hq (by simpa using he)).1,.bad⟩
theorem yW{t et:TypeId}{ks:List Kd}{key:PV}{zv yi:Value}{g clock:Nat}{l:List (PV×PV)}(hu:P.underlying t=some (.map kt et))(hk:nB P kt=some ks)(oa:pU P kt ks key=true)(hyi:af P μ key yi)(hg:w.heap[g]?=some (.map en clock))(hE:qP P μ kt ks (gG l) en.toList)(hz:(zeroValue et).run P w=.ok zv w):(jf key l=none∧(Instr.lookup t (.map (some g)) yi false).run P w=.ok zv w)∨∃j e,jf key l=some j∧en[j]?=some e∧(Instr.lookup t (.map (some g)) yi false).run P w=.ok e.val w:=by
 have Ku:=sc hk;obtain⟨hc,hv⟩:=jB oa hyi;obtain⟨r,r1,r2⟩:=iY (v:=.lS) (z:=.bad) Ku hc w hE;have h1:=fK 8 kt ks Ku 9992 w en.isEmpty key.cells hc;have xx:=Go.MapKept.run_getObj_map (P:=P) hg;have I5:(Instr.checkKey en.isEmpty 10000 kt (ev P kt key.cells)).run P w=.ok () w:=h1;rw[hv];unfold Instr.lookup;simp only[Sem.run_bind,run_underlying hu,Result.andThen_ok,Sem.run_pure,xx];rcases Bj r2 with⟨rfl,h⟩|⟨j,e,rfl,he,h⟩
 ·exact .inl ⟨h,by simp[I5,r1,hz]⟩
 ·exact .inr ⟨j,e,h,by simpa using he,by simp[I5,r1]⟩
end
section
variable {R:Type} {E:Env}
theorem F4{t:TypeId}(h:zeroV E.P t=some .aX)(w:World):(zeroValue t).run E.P w=.ok (.slice none 0 0) w:=by unfold zeroV at h;obtain⟨c,hc,h⟩:=Option.map_eq_some_iff.1 h;obtain⟨i,hi,hz⟩:=Option.bind_eq_some_iff.1 hc;have:=oN (P:=E.P) (μ:=fun _=>none) (φ:=fun _=>default) c;rw[h]at this;cases this;exact kW hi hz
theorem MR{site:Nat}{t:TypeId}{x ix:V}{m:Mem}{k:V→Mem→aY→Option R}{r:R}(h:Dq E site t x ix m k=some r):∃id b1 b2 m',m'=oG [(id,b1),(site,b2)] m∧k (.os site) m' [(true,id),(true,site)]=some r∧m site=none∧b2.names=(fun _=>false)∧b1.names=(fun _=>false)∧(m id).isSome=true∧(∀m2:Mem,m2 id=m id→m2 site=none→∀(R':Type)(k':V→Mem→aY→Option R'),Dq E site t x ix m2 k'=k' (.os site) (oG [(id,b1),(site,b2)] m2) [(true,id),(true,site)])∧∀(G:Nat→Option (List PV))(w0:bg)(μ:Ro)(φ:Nat→aw)(w:World)(f:Fr)(ρ:Nat→Value)(y yi:Value),al E.P G w0 μ φ m w→bJ E.P μ φ m f ρ→ab E.P μ φ x y→ab E.P μ φ ix yi→∃u φ',(Instr.lookup t y yi false).run E.P w=.ok u w∧al E.P G w0 μ φ' m' w∧bJ E.P μ φ' m' f ρ∧ab E.P μ φ' (.os site) u:=by
 unfold Dq at h;split at h
 ·rename_i kt et hu;split at h
  ·rename_i e hue;split at h
   ·rename_i id hz;split at h
    ·rename_i qp e' es hm hs;split at h
     ·rename_i hc;obtain⟨rfl,rfl,dQ⟩:=hc;obtain⟨key,oa,h⟩:=Option.bind_eq_some_iff.1 h;obtain⟨rs,Tf,h⟩:=Option.bind_eq_some_iff.1 h;obtain⟨ks,k1,k2,k3⟩:=oU oa;have cq:site≠id:=fun e=>by subst e;rw[hs]at hm;cases hm
      refine⟨id,.eG qp e' (nA key es),.arr (aH E.P e') e' rs,_,rfl,h,hs,rfl,rfl,by rw[hm];rfl,fun m2 h1 h2 R' k'=>?_,fun G w0 μ φ w f ρ y yi hM hF hx hi=>?_⟩
      ·simp only[Dq,hu,hue,hz,h1,h2,hm,oa,Tf,Option.bind_some,dQ,and_self,if_true];rfl
      ·obtain⟨g,en,clock,kk,hN⟩:=oW.1 (hM.dq id _ hm);have vz:=hN.uZ;rw[k1]at vz;simp only[Option.some.injEq]at vz;subst vz;cases hx with
       |om bF=>
        rw[hN.pl]at bF;simp only[Option.some.injEq]at bF;subst bF;have Qe:=yW hu k1 k2 (k3 μ φ yi hi) hN.heap hN.ent (F4 hz w);have KD:∀i off,(bn.eG qp e' (nA key es)).rowAt i off=true→(bn.eG qp e' es).rowAt i off=true∧jf key es≠some i:=by
         intro i off hr;rcases gT hr with⟨_,_,_,_,_,_,hb,_⟩|⟨_,_,_,k0,s0,rs0,hb,rfl,he⟩
         ·cases hb
         ·simp only[bn.eG.injEq]at hb;obtain⟨rfl,rfl,rfl⟩:=hb;rw[oV]at he;cases hp:jf key es with
          |none=>rw[hp]at he;simp only at he;exact⟨by rw[gS he];rfl,by simp⟩
          |some j=>
           rw[hp]at he;simp only[List.getElem?_modify]at he;split at he
           ·rename_i LZ;exfalso;obtain⟨x0,_,FN⟩:=Option.map_eq_some_iff.1 he;simp at FN
           ·rename_i LZ;have he:es[i]?=some (k0,PV.gC s0 rs0):=by simpa using he
            exact⟨by rw[gS he];rfl,fun h=>LZ (by simpa using h)⟩
        have oS:al E.P G w0 μ φ (ai m id (.eG qp e' (nA key es))) w:=by
         refine hM.write hm rfl hN.pl (iJ.refl _ _) rfl (fun _ _=>rfl) (oW.2 ⟨g,en,clock,ks,hN.pl,hN.heap,?_,k1,fun i k0 v0 h0=>?_,hN.born,fun i k0 v0 e0 h0 Dh=>?_⟩) rfl (by simp[bn.names]) (fun st h=>by cases h) (fun i off hr=>(KD i off hr).1)
         ·rw[hN.size,oV];cases jf key es<;>simp
         ·rw[oV]at h0;cases hp:jf key es with
          |none=>rw[hp]at h0;exact hN.key i k0 v0 h0
          |some j=>
           rw[hp]at h0;simp only[List.getElem?_modify]at h0;obtain⟨x0,FN,hq⟩:=Option.map_eq_some_iff.1 h0;obtain⟨xa,xu⟩:=x0;split at hq
           ·simp only[Prod.mk.injEq]at hq;rw[←hq.1];exact hN.key i xa xu FN
           ·simp only[id_eq,Prod.mk.injEq]at hq;rw[←hq.1];exact hN.key i xa xu FN
         ·rw[oV]at h0;cases hp:jf key es with
          |none=>rw[hp]at h0;exact hN.rep i k0 v0 e0 h0 Dh
          |some j=>
           rw[hp]at h0;simp only[List.getElem?_modify]at h0;obtain⟨x0,FN,hq⟩:=Option.map_eq_some_iff.1 h0;obtain⟨xa,xu⟩:=x0;obtain⟨q1,q2⟩:=hN.rep i xa xu e0 FN Dh;split at hq
           ·simp only[Prod.mk.injEq]at hq;obtain⟨rfl,rfl⟩:=hq;exact⟨q1,.pure .bad⟩
           ·simp only[id_eq,Prod.mk.injEq]at hq;obtain⟨rfl,rfl⟩:=hq;exact⟨q1,q2⟩
        have VX:∀(ph:aw)(u:Value),ay E.P μ (fun _=>ph) w 0 (aH E.P e') e' rs→ab E.P μ (fun _=>ph) (.os 0) u→(∀g',ph.g=some g'→∃j,jf key es=some j∧(bn.eG qp e' es).rowAt j 0=true∧((φ id).row j 0).g=some g')→∃φ',al E.P G w0 μ φ' (oG [(id,.eG qp e' (nA key es)),(site,.arr (aH E.P e') e' rs)] m) w∧bJ E.P μ φ' (oG [(id,.eG qp e' (nA key es)),(site,.arr (aH E.P e') e' rs)] m) f ρ∧ab E.P μ φ' (.os site) u:=by
         intro ph u hA hV xx;have A8:∀j,(m j).isSome=true→j≠site:=fun j hj e=>by subst e;rw[hs]at hj;cases hj
         refine⟨fun i=>if i=site then ph else φ i,?_,?_,?_⟩
         ·refine oS.put (by rw[ak cq];exact hs) (iJ.refl _ _) hM.ro (fun _ _ _ _ _=>rfl) (fun g' bF=>?_) (mF l7) ?_ (by simp[bn.names]) (fun st h=>by cases h)
          ·have bF:=kV l7 bF;obtain⟨j,hj,hr,hjg⟩:=xx g' bF;obtain⟨o1,o2⟩:=hM.own id _ g' hm (.inr ⟨j,0,hr,hjg⟩);refine⟨o1,o2 rfl,fun i b' hi ho=>?_⟩;by_cases Fs:i=id
           ·subst Fs;rw[aD]at hi;simp only[Option.some.injEq]at hi;subst hi;obtain⟨a1,a2⟩:=hM.apart i _ hm j 0 g' hr hjg;rcases ho with ho|⟨i',nS,oQ,ho⟩
            ·exact a1 ho
            ·obtain⟨h3,h4⟩:=KD i' nS oQ;exact h4 (by rw[hj,(a2 i' nS h3 ho).1])
           ·rw[ak Fs]at hi;exact Fs (hM.inj i id _ _ g' hi hm ho (.inr ⟨j,0,hr,hjg⟩))
          ·exact ay.move (φ':=fun i=>if i=site then ph else φ i) (j:=site) hA (by simp) (fun _ _ h=>h)
         ·refine hF.mono (fun _ _ h=>h) fun j hj=>⟨by simp[A8 j hj],?_⟩;show(ai (ai m id _) site _ j).isSome=true;rw[ak (A8 j hj)];by_cases LZ:j=id
          ·subst LZ;simp
          ·rw[ak LZ];exact hj
         ·cases hV with
          |np h=>exact .np (by simpa using h)
          | @os _ g0 h=>have:=ab.os (P:=E.P) (μ:=μ) (φ:=fun i=>if i=site then ph else φ i) (id:=site) (g:=g0) (by simpa using h);simpa using this
        rw[DU]at Tf;rcases Qe with⟨hp,lC⟩|⟨j,en0,hp,hen,lC⟩
        ·rw[hp]at Tf;simp only[Option.some.injEq]at Tf;subst Tf;obtain⟨φ',a1,a2,a3⟩:=VX (xt none 0 0 (aH E.P e')) (.slice none 0 0) ⟨rfl,rfl,rfl,dQ,by simp,by simp[maxLen],⟨rfl,rfl⟩⟩ (.np rfl) (fun g' bF=>by cases bF);exact⟨_,φ',lC,a1,a2,a3⟩
        ·rw[hp]at Tf;obtain⟨x0,FN,gQ⟩:=Option.bind_eq_some_iff.1 Tf;obtain⟨xa,xu⟩:=x0;have hxu:=DE gQ;simp only at hxu;subst hxu;obtain⟨_,q2⟩:=hN.rep j xa _ en0 FN hen;obtain⟨φ',a1,a2,a3⟩:=VX ((φ id).row j 0).up en0.val q2.1 q2.2 (fun g' bF=>⟨j,hp,by rw[gS FN];rfl,bF⟩);exact⟨_,φ',lC,a1,a2,a3⟩
     ·cases h
    ·cases h
   ·cases h
  ·cases h
 ·cases h
end
end Go.Ab
set_option linter.unusedVariables false
namespace Go.Ab
theorem yX{m:Mem}:∀{cs:List V}{j0:Nat}{ps:List PV}{tk:Option (Nat×Nat)},iM m j0 cs=some (ps,tk)→ps.length=cs.length∧(tk=none→∀(i:Nat)p,ps[i]?=some p→∃v,cs[i]?=some v∧iB cO 1 v=some p)∧∀j id2,tk=some (j,id2)→∃l s2 DT rs,cs[l]?=some (.os id2)∧m id2=some (.arr s2 DT rs)∧ps[l]?=some (.gC s2 rs)∧∀(i:Nat)p,i≠l→ps[i]?=some p→∃v,cs[i]?=some v∧iB cO 1 v=some p
 |[],j0,ps,tk,h=>by simp only[iM,Option.some.injEq,Prod.mk.injEq]at h;obtain⟨rfl,rfl⟩:=h;exact⟨rfl,fun _ i p hp=>by simp at hp,fun j id2 h=>by cases h⟩
 |v::r,j0,ps,tk,h=>by
  have plain:∀{p:PV},iB cO 1 v=some p→(match iM m (j0+1) r with
   |some (ps,t)=>some (p::ps,t)
   |none=>none)=some (ps,tk)→ps.length=(v::r).length∧
   (tk=none→∀(i:Nat)p,ps[i]?=some p→∃u,(v::r)[i]?=some u∧iB cO 1 u=some p)∧
   ∀j id2,tk=some (j,id2)→∃l s2 DT rs,(v::r)[l]?=some (.os id2)∧m id2=some (.arr s2 DT rs)∧ps[l]?=some (.gC s2 rs)∧∀(i:Nat)p,i≠l→ps[i]?=some p→∃u,(v::r)[i]?=some u∧iB cO 1 u=some p:=by
   intro p hp h
   split at h
   ·rename_i Vq t ht;simp only[Option.some.injEq,Prod.mk.injEq]at h;obtain⟨rfl,rfl⟩:=h;obtain⟨h1,h2,h3⟩:=yX ht;refine⟨by simp[h1],fun hn i q hq=>?_,fun j id2 hj=>?_⟩
    ·cases i with
     |zero=>simp at hq;subst hq;exact⟨v,rfl,hp⟩
     |succ i=>simpa using h2 hn i q (by simpa using hq)
    ·obtain⟨l,s2,DT,rs,a1,a2,a3,a4⟩:=h3 j id2 hj;refine⟨l+1,s2,DT,rs,by simpa using a1,a2,by simpa using a3,fun i q hi hq=>?_⟩;cases i with
     |zero=>simp at hq;subst hq;exact⟨v,rfl,hp⟩
     |succ i=>simpa using a4 i q (by omega) (by simpa using hq)
   ·cases h
  unfold iM at h;split at h
  ·rename_i heq;cases heq
  ·rename_i j id r' heq;simp only[List.cons.injEq]at heq;obtain⟨rfl,rfl⟩:=heq;split at h
   ·rename_i s et es hm;split at h
    ·rename_i Vq ht;simp only[Option.some.injEq,Prod.mk.injEq]at h;obtain⟨rfl,rfl⟩:=h;obtain⟨h1,h2,_⟩:=yX ht;refine⟨by simp[h1],fun hn=>(nomatch hn),fun j id2 hj=>?_⟩;simp only[Option.some.injEq,Prod.mk.injEq]at hj;obtain⟨rfl,rfl⟩:=hj;refine⟨0,s,et,es,rfl,hm,rfl,fun i q hi hq=>?_⟩;cases i with
     |zero=>exact absurd rfl hi
     |succ i=>simpa using h2 rfl i q (by simpa using hq)
    ·cases h
   ·cases h
  ·rename_i j v' r' _ heq;simp only[List.cons.injEq]at heq;obtain⟨rfl,rfl⟩:=heq;split at h
   ·rename_i p hp;exact plain hp h
   ·cases h
section
variable {P:Program} {G:Nat→Option (List PV)} {w0:bg} {μ μ':Ro} {φ φ':Nat→aw} {m m':Mem} {w w':World}
theorem yY{v:V}{n j id2:Nat}{cs:List V}{ps:List PV}(hc:toCells n v=some cs)(h:iM m 0 cs=some (ps,some (j,id2))):∃l s2 DT rs,m id2=some (.arr s2 DT rs)∧ps[l]?=some (.gC s2 rs)∧ps.length=n∧v.has id2=true∧∀(P:Program)(μ:Ro)(φ:Nat→aw)(x:Value),ab P μ φ v x→x.cells.size=n∧(∀(i:Nat)(y:Value),x.cells[i]?=some y→y.oneCell'=true)∧(∀(i:Nat)p y,i≠l→ps[i]?=some p→x.cells[i]?=some y→af P μ p y)∧∃y,x.cells[l]?=some y∧ab P μ φ (.os id2) y:=by
 obtain⟨t1,_,t3⟩:=yX h;obtain⟨l,s2,DT,rs,a1,a2,a3,a4⟩:=t3 j id2 rfl;obtain⟨n1,n2,n3⟩:=toCells_ok hc;refine⟨l,s2,DT,rs,a2,a3,by rw[t1,n1],n2 id2 (bw (List.mem_of_getElem? a1) (by simp[V.has])),fun P μ φ x hx=>?_⟩;obtain⟨x1,x2,x3⟩:=n3 P μ φ x hx;refine⟨x1,x3,fun i p y hi hp hy=>?_,?_⟩
 ·obtain⟨u,hu,hf⟩:=a4 i p hi hp;exact oP 1 hf (x2 i u y hu hy)
 ·have hl:l<x.cells.size:=by rw[x1,←n1];exact(List.getElem?_eq_some_iff.1 a1).1
  exact⟨x.cells[l],Array.getElem?_eq_getElem hl,x2 l _ _ a1 (Array.getElem?_eq_getElem hl)⟩
theorem wP{s off n:Nat}{e:PV}{ps:List PV}(hn:ps.length=n)(hb:off+n≤s)(h0:0<n)(ha:s=1→∀p,ps.head? =some p→∀cs,p≠.agg cs):(if s=1 then ps.headD .bad else PV.agg (bu (aA s e) off ps)).cells=bu (aA s e) off ps:=by
 split
 ·rename_i h1;subst h1;have e1:off=0:=by omega
  have e2:n=1:=by omega
  subst e1;subst e2;match ps,hn with
  |[p],_=>
   have:=ha rfl p rfl;have hp:p.cells=[p]:=by cases p<;>first|rfl|exact absurd rfl (this _)
   simp only[List.headD_cons,hp,dr,List.take_zero,List.nil_append,List.length_cons,List.length_nil];rw[List.drop_of_length_le (by rw[aN];exact Nat.le_refl _)];rfl
 ·rfl
theorem yZ{T:Type}{cs ps:List T}{off l:Nat}{x:T}(hl:l<ps.length)(hb:off+ps.length≤cs.length):bu cs off (ps.set l x)=(bu cs off ps).set (off+l) x:=by
 have hto:(cs.take off).length=off:=by simp;omega
 rw[dr,dr,List.length_set,List.append_assoc,List.append_assoc,List.set_append,if_neg (by omega),List.set_append,if_pos (by omega)];rw[show off+l-(cs.take off).length=l by omega]
theorem y0{id id2:Nat}{B X:bn}(cq:id2≠id):ai (eE id (aQ (bk id2 (ai m id B)) id2)) id X=ai (eE id (aQ (bk id2 m) id2)) id X:=by
 funext t;by_cases h:t=id
 ·subst h;simp
 ·rw[ak h,ak h];unfold eE;by_cases h2:t=id2
  ·subst h2;simp
  ·rw[eC h2,eC h2];unfold bk;rw[ak h]
end
section
variable {R:Type} {E:Env}
theorem MS{t:TypeId}{v:V}{id i off s id2 j:Nat}{et:TypeId}{es ps:List PV}{cs:List V}{e:PV}{m:Mem}(hm:m id=some (.nest s et es))(hc:toCells (aH E.P t) v=some cs)(ht:iM m 0 cs=some (ps,some (j,id2)))(hb:off+aH E.P t≤s)(h0:0<aH E.P t)(cq:id2≠id)(he:es[i]?=some e){G:Nat→Option (List PV)}{w0:bg}{μ:Ro}{φ:Nat→aw}{w:World}{f:Fr}{ρ:Nat→Value}{ya yx:Value}(hM:al E.P G w0 μ φ m w)(hF:bJ E.P μ φ m f ρ)(ha:ab E.P μ φ (.oe id i off) ya)(hx:ab E.P μ φ v yx):∃w' φ',(Instr.storeAt t ya yx).run E.P w=.ok () w'∧al E.P G w0 μ φ' (oG [(id,.nest s et (es.set i (if s=1 then ps.headD .bad else .agg (bu (aA s e) off ps))))] (km [(true,id2),(false,id)] m)) w'∧bJ E.P μ φ' (oG [(id,.nest s et (es.set i (if s=1 then ps.headD .bad else .agg (bu (aA s e) off ps))))] (km [(true,id2),(false,id)] m)) (kf [(true,id2),(false,id)] f) ρ:=by
 obtain⟨l,s2,DT,rs,bY,gQ,xM,aap,ib⟩:=yY hc ht;obtain⟨x1,x2,x3,y,hy,P6⟩:=ib E.P μ φ yx hx;have DN:l<ps.length:=(List.getElem?_eq_some_iff.1 gQ).1;have hN:aL E.P μ φ w id s et es:=hM.dq id _ hm;have vu:=hN.2.2.2.2.1 i e he;have wJ:(aA s e).length=s:=aN _ _;have kx:ps=(ps.set l .bad).set l (.gC s2 rs):=by
  rw[List.set_set];apply List.ext_getElem?;intro a;rw[List.getElem?_set];split
  ·rename_i e1;subst e1;first|exact gQ|(rw[if_pos DN];exact gQ)
  ·rfl
 have oT:∀(a:Nat)p,(ps.set l .bad)[a]?=some p→(a=l∧p=.bad)∨(a≠l∧ps[a]?=some p):=fun a p h=>dX h;have hE:nX E.P μ (aH E.P t) (.agg (ps.set l .bad)) yx:=by
  refine⟨by simp[PV.cells,xM],x1,fun a p z hp hz=>?_,x2⟩;rcases oT a p (by simpa[PV.cells]using hp)with⟨_,rfl⟩|⟨h1,h2⟩
  ·exact .bad
  ·exact x3 a p z h1 h2 hz
 have one:s=1→ps.length=1:=fun h=>by omega
 have hq:(if s=1 then ps.headD .bad else PV.agg (bu (aA s e) off ps)).cells=bu (aA s e) off ps:=wP xM hb h0 fun h1 p hp A6=>by
  have Ft:l=0:=by have:=one h1;omega
  subst Ft;rw[List.head?_eq_getElem?,gQ]at hp;simp only[Option.some.injEq]at hp;subst hp;simp
 have Kp:(if s=1 then(ps.set l .bad).headD .bad else PV.agg (bu (aA s e) off (ps.set l .bad))).cells=bu (aA s e) off (ps.set l .bad):=wP (by simpa using xM) hb h0 fun h1 p hp A6=>by
  have Ft:l=0:=by have:=one h1;omega
  subst Ft;rw[List.head?_eq_getElem?,List.getElem?_set,if_pos rfl,if_pos DN]at hp;simp only[Option.some.injEq]at hp;subst hp;simp
 generalize (if s=1 then ps.headD .bad else PV.agg (bu (aA s e) off ps))=q at hq⊢;generalize (if s=1 then(ps.set l .bad).headD .bad else PV.agg (bu (aA s e) off (ps.set l .bad)))=q' at Kp;cases ha with
 | @oe _ _ _ g hg=>
  obtain⟨c,T,hh,lf,qy,VB⟩:=aL.set (q:=q') hN (hM.apart id _ hm) hg he hE hb (by rw[Kp];rfl);have jF:(φ id).sz=s:=hN.2.1;have hi:=ik (P:=E.P) (t:=t) (by omega);have oS:al E.P G w0 μ φ (ai m id (.nest s et (es.set i q'))) (w.setRow g (bu c.toList (i*s+off) yx.cells.toList).toArray):=hM.write hm rfl hg (iJ.setRow (Nat.le_refl _)) setRow_size (fun k hk=>bL hk) qy rfl (fun j hj=>by simp[bn.names]at hj) (fun st h=>by cases h) VB;have LX:i<es.length:=(List.getElem?_eq_some_iff.1 he).1;have VY:q.cells=q'.cells.set (off+l) (.gC s2 rs):=by rw[hq,Kp,←yZ (by simpa using DN) (by simp[wJ,xM];omega),←kx]
  have sN:q'.cells[off+l]?=some .bad:=by rw[Kp,yZ DN (by rw[wJ,xM];exact hb),List.getElem?_set,if_pos rfl,if_pos];rw[bN (by rw[wJ,xM];exact hb),wJ];omega
  have oH:=al.Te oS (id:=id) (id2:=id2) (i:=i) (off:=off+l) (e:=q') (q:=q) (x:=y) cq (aD _ _ _) (by rw[ak cq];exact bY) (by simp[LX]) sN (fun g0 c0 _ Fq Py=>by
   rw[hg]at Fq;simp only[Option.some.injEq]at Fq;subst Fq;rw[setRow_heap w g c _ T (0,0) hh]at Py;simp only[Option.some.injEq,Obj.cells.injEq]at Py;obtain⟨rfl,_⟩:=Py;rw[List.getElem?_toArray,dr];have ba:(c.toList.take (i*s+off)).length=i*s+off:=by simp;omega
   have Ba:l<yx.cells.toList.length:=by simp only[Array.length_toList];rw[x1];omega
   rw[List.append_assoc,List.getElem?_append_right (by omega),ba,show i*s+(off+l)-(i*s+off)=l by omega,List.getElem?_append_left Ba];simpa using hy) P6 VY
  rw[List.set_set,y0 cq]at oH;refine⟨_,_,by rw[jF];exact fb hE.size hi hh lf hE.one,oH,?_⟩;have xy:bJ E.P μ φ (ai m id (.nest s et (es.set i q'))) f ρ:=hF.jR (fun _ _ h=>h) .set;have P9:=(xy.forget id2).pA id;refine P9.RD (by simp[im]) (fun k hk=>by simp[hk]) fun k hk=>?_;show(ai (eE id (aQ (bk id2 m) id2)) id _ k).isSome=true;by_cases e1:k=id
  ·subst e1;simp
  ·rw[ak e1];rw[kX]at hk⊢;by_cases e2:k=id2
   ·subst e2;simp at hk
   ·rw[eC e2]at hk⊢;simp only[bk,ak e1]at hk⊢;exact hk
end
end Go.Ab
set_option linter.unusedVariables false
namespace Go.Ab
section
variable {R:Type} {E:Env}
variable{e:TypeId}{id2:Nat}{G:Nat→Option (List PV)}{w0:bg}{φ:Nat→aw}{w:World}{ρ:Nat→Value}
theorem KE{t:TypeId}{v:V}{j site:Nat}{cs:List V}{ps:List PV}{p:PV}{m:Mem}(hu:E.P.underlying t=some (.slice e))(hc:toCells (aH E.P e) v=some cs)(ht:iM m 0 cs=some (ps,some (j,id2)))(hs:m site=none)(hp:elemOf (aq E.P e) ps=some p)(dQ:0<aH E.P e)(vA:aH E.P e≤16777216)(hz:(cT E e).isSome=true){μ:Ro}{f:Fr}{yx:Value}(hM:al E.P G w0 μ φ m w)(hF:bJ E.P μ φ m f ρ)(hx:ab E.P μ φ v yx):∃y w' φ',(Instr.buildSlice t 1 #[(0,yx)]).run E.P w=.ok y w'∧al E.P G w0 μ φ' (oG [(site,.nest (aH E.P e) e [p])] (km [(true,id2)] m)) w'∧bJ E.P μ φ' (oG [(site,.nest (aH E.P e) e [p])] (km [(true,id2)] m)) (kf [(true,id2)] f) ρ∧ab E.P μ φ' (.os site) y:=by
 obtain⟨l,s2,DT,rs,bY,gQ,xM,aap,ib⟩:=yY hc ht;obtain⟨x1,x2,x3,z,P7,hvz⟩:=ib E.P μ φ yx hx;obtain⟨zc,LV⟩:=Option.isSome_iff_exists.1 hz;obtain⟨iz,zv,i1,i2,i3,_⟩:=eh LV;have cq:id2≠site:=fun e=>by subst e;rw[hs]at bY;cases bY
 have KF:p.cells=ps:=by
  unfold elemOf at hp;split at hp
  ·simp only[Option.some.injEq]at hp;subst hp;rfl
  ·split at hp
   ·rename_i q;simp only[Option.some.injEq]at hp;subst hp;have Ft:l=0:=by have:=(List.getElem?_eq_some_iff.1 gQ).1;simp at this;exact this
    subst Ft;simp only[List.getElem?_cons_zero,Option.some.injEq]at gQ;subst gQ;rfl
   ·cases hp
 have Td:ay E.P μ φ w id2 s2 DT rs:=hM.dq id2 _ bY;have VZ:Instr.fill (fun i=>some (i*aH E.P e,aH E.P e)) ((Array.range (1*aH E.P e)).map (zv.cells[·%zv.cells.size]!)) [(0,yx)]=some yx.cells:=by
  have Fx:((Array.range (1*aH E.P e)).map (zv.cells[·%zv.cells.size]!)).size=aH E.P e:=by simp
  rw[rZ (off:=0) (size:=aH E.P e) (by simp) x1 (by rw[Fx];omega)];simp only[Instr.fill,Option.some.injEq];apply Array.ext';simp only[dr,List.take_zero,List.nil_append,Nat.zero_add];rw[List.drop_of_length_le (by simp only[Array.length_toList];rw[Fx,x1];exact Nat.le_refl _),List.append_nil]
 have lC:=run_buildSlice (P:=E.P) w t e 1 #[(0,yx)] yx.cells iz zv hu i1 i2 (by rw[i3];omega) (by rw[i3];omega) (by rw[i3];exact VZ);let q:aw:={g:=some w.heap.size,cap:=1,len:=1,sz:=aH E.P e,row:=fun a b=>if a=0∧b=l then(φ id2).towC else default};have A8:∀k,(aQ (bk id2 m) id2 k).isSome=true→k≠site:=fun k hk e=>by subst e;rw[eC (Ne.symm cq)]at hk;simp[bk,hs]at hk
 have MT:∀a b,(bn.nest (aH E.P e) e [p]).rowAt a b=true→a=0∧b=l:=by
  intro a b hr;rcases gT hr with⟨_,_,_,e',s',VD,fl,h',nF⟩|⟨_,_,_,_,_,_,fl,_⟩
  ·simp only[bn.nest.injEq]at fl;obtain⟨rfl,rfl,rfl⟩:=fl;cases a with
   |succ a=>simp at h'
   |zero=>
    simp only[List.getElem?_cons_zero,Option.some.injEq]at h';subst h';rw[KF]at nF;refine⟨rfl,?_⟩;by_cases MU:b=l
    ·exact MU
    ·exfalso;have ba:b<yx.cells.size:=by rw[x1,←xM];exact(List.getElem?_eq_some_iff.1 nF).1
     exact absurd (x3 b _ _ MU nF (Array.getElem?_eq_getElem ba)).xK (by simp[PV.isRow])
  ·cases fl
 have oS:=hM.forget id2;have oc:al E.P G w0 μ (fun i=>if i=site then q else φ i) (ai (aQ (bk id2 m) id2) site (.nest (aH E.P e) e [p])) (w.alloc (.cells yx.cells e)):=by
  have hold:∀k,k<w.heap.size→(w.alloc (.cells yx.cells e)).heap[k]?=w.heap[k]?:=fun k hk=>iJ.heap_alloc w _ k hk;refine oS.put (by rw[eC (Ne.symm cq)];simp[bk,hs]) ((iJ.refl _ w).alloc hM.below.size _) (fun k o hk=>?_) (fun id b' g hid hg=>hold g ((oS.dq id b' hid).yG hg)) (fun g hg=>?_) ?_ ?_ (by simp[bn.names]) (fun st h=>by cases h)
  ·have:=hM.ro k o hk;rw[hold k (Array.getElem?_eq_some_iff.1 this).1];exact this
  ·rcases hg with hg|⟨a,b,hr,hg⟩
   ·simp only[q,Option.some.injEq]at hg;subst hg;refine⟨hM.below.size,?_,fun id b' hid ho=>?_⟩
    ·cases hq:μ w.heap.size with
     |none=>rfl
     |some o'=>have:=hM.ro _ _ hq;simp at this
    ·have:=(oS.dq id b' hid).yG ho;omega
   ·have oH:=MT a b hr;have hg:(φ id2).g=some g:=by simpa[q,oH]using hg
    obtain⟨o1,o2⟩:=hM.own id2 _ g bY (.inl hg);refine⟨o1,o2 rfl,fun id b' hid ho=>?_⟩;obtain⟨h1,b2,nq,rfl⟩:=ey hid;exact h1 (hM.inj id id2 _ _ g nq bY (fa.1 ho) (.inl hg))
  ·intro a b g hr hg;have oH:=MT a b hr;have hg:(φ id2).g=some g:=by simpa[q,oH]using hg
   refine⟨fun h=>?_,fun a' b' oQ _=>by have:=MT a' b' oQ;omega⟩;simp only[q,Option.some.injEq]at h;have:=(hM.dq id2 _ bY).yG (.inl hg);omega
  ·show aL E.P μ (fun i=>if i=site then q else φ i) (w.alloc (.cells yx.cells e)) site (aH E.P e) e [p];unfold aL;simp only[if_true];refine⟨rfl,rfl,trivial,dQ,fun i e' KG=>?_,by simp[q,maxLen],yx.cells,e,eQ w _,by simp[q,x1],by simp[q],fun i e' b p' x' KG nF DL=>?_,fun i x' _ DL=>x2 i x' DL⟩
   ·cases i with
    |zero=>simp at KG;subst KG;rw[KF,xM]
    |succ i=>simp at KG
   ·cases i with
    |succ i=>simp at KG
    |zero=>
     simp only[List.getElem?_cons_zero,Option.some.injEq]at KG;subst KG;rw[KF]at nF;rw[Nat.zero_mul,Nat.zero_add]at DL;by_cases MU:b=l
     ·subst MU;rw[gQ]at nF;simp only[Option.some.injEq]at nF;subst nF;rw[P7]at DL;simp only[Option.some.injEq]at DL;subst DL;have:q.row 0 b=(φ id2).towC:=by simp[q]
      rw[this];refine eu.cj ⟨⟨DT,Td.up⟩,F0 hvz⟩ (fun _ _ h=>h) fun g hg=>hold g ((hM.dq id2 _ bY).yG (.inl hg))
     ·exact .pure (x3 b p' x' MU nF DL)
 refine⟨_,_,_,lC,oc,?_,?_⟩
 ·exact(hF.forget id2).mono (fun _ _ h=>h) fun k hk=>⟨by simp[A8 k hk],by show(ai (aQ (bk id2 m) id2) site _ k).isSome=true;rw[ak (A8 k hk)];exact hk⟩
 ·have:=ab.os (P:=E.P) (μ:=μ) (φ:=fun i=>if i=site then q else φ i) (id:=site) (g:=w.heap.size) (by simp[q]);simpa[q]using this
theorem MV{k v v':PV}:∀{es:List (PV×PV)}{j:Nat},(eA k v es)[j]?=some (k,v)→(jf k es=some j∨(jf k es=none∧j=es.length))→(eA k v es).set j (k,v')=eA k v' es:=by
 intro es j hj hp;rw[jS,jS];rcases hp with hp|⟨hp,rfl⟩
 ·rw[hp];simp
 ·rw[hp];simp
variable{es:List (PV×PV)}
theorem al.Qf{P:Program}{μ:Ro}{m:Mem}(hM:al P G w0 μ φ m w){id i s2:Nat}{kt:TypeId}{k:PV}{rs:List PV}{x:Value}(cq:id2≠id)(hm:m id=some (.eG kt e es))(bY:m id2=some (.arr s2 e rs))(he:es[i]?=some (k,.bad))(hx:∀g en clock,(φ id).g=some g→w.heap[g]?=some (.map en clock)→∃e0,en[i]?=some e0∧e0.val=x)(hv:ab P μ φ (.os id2) x):al P G w0 μ (fun j=>if j=id then im (φ id) i 0 (φ id2).towC else φ j) (ai (eE id (aQ (bk id2 m) id2)) id (.eG kt e (es.set i (k,.gC s2 rs)))) w:=by
 have oS:=(hM.forget id2).pA id;obtain⟨g0,en,clock,kk,hN⟩:=oW.1 (hM.dq id _ hm);have Td:ay P μ φ w id2 s2 e rs:=hM.dq id2 _ bY;have gQ:∀a b,(bn.eG kt e (es.set i (k,.gC s2 rs))).rowAt a b=true→(a=i∧b=0)∨((bn.eG kt e es).rowAt a b=true∧¬(a=i∧b=0)):=by
  intro a b hr;by_cases oH:a=i∧b=0
  ·exact .inl oH
  ·refine .inr ⟨?_,oH⟩;rcases gT hr with⟨_,_,_,_,_,_,fl,_⟩|⟨_,_,_,k',s',VD,fl,rfl,h'⟩
   ·cases fl
   ·simp only[bn.eG.injEq]at fl;obtain⟨rfl,rfl,rfl⟩:=fl;rcases dX h' with⟨rfl,_⟩|⟨MI,h'⟩
    ·exact absurd ⟨rfl,rfl⟩ oH
    ·rw[gS h'];rfl
 refine hM.I8 (fun _ k=>if k=id2 then id else k) (fun j b' hj=>?_) (fun j b' g hj ho=>?_) (fun j b' hj=>?_) (fun j cs k hj hk=>?_) (fun j st hj=>?_)
 ·rcases eM hj with⟨rfl,rfl⟩|⟨h1,h2,c,hc,rfl⟩
  ·refine oW.2 ⟨g0,en,clock,kk,by simp[im,hN.pl],hN.heap,by simp[hN.size],hN.uZ,fun a k' v' h'=>?_,hN.born,fun a k' v' e' h' KG=>?_⟩
   ·rcases dX h' with⟨rfl,hq⟩|⟨_,h'⟩
    ·simp only[Prod.mk.injEq]at hq;rw[hq.1];exact hN.key a k _ he
    ·exact hN.key a k' v' h'
   ·simp only[if_true];rcases dX h' with⟨rfl,hq⟩|⟨MI,h'⟩
    ·simp only[Prod.mk.injEq]at hq;obtain⟨rfl,rfl⟩:=hq;refine⟨(hN.rep a _ _ e' he KG).1,?_⟩;rw[fh];obtain⟨e1,V0,hxe⟩:=hx g0 en clock hN.pl hN.heap;rw[KG]at V0;simp only[Option.some.injEq]at V0;subst V0;rw[hxe];exact⟨Td.up,F0 hv⟩
    ·rw[fo _ _ (fun h=>MI h.1)];exact hN.rep a k' v' e' h' KG
  ·have hb:fm P μ φ w j (dE id (ff id2 c)):=(hM.dq j c hc).kill.sG;exact hb.I9 h1 (by simp[im]) fun k hk=>by simp[hk]
 ·rcases eM hj with⟨rfl,rfl⟩|⟨h1,h2,c,hc,rfl⟩
  ·simp only[if_true]at ho;rcases ho with ho|⟨a,b,hr,ho⟩
   ·exact⟨j,_,hm,.inl ho,fun _=>rfl,by simp[cq.symm]⟩
   ·rcases gQ a b hr with⟨rfl,rfl⟩|⟨oQ,oH⟩
    ·rw[fh]at ho;exact⟨id2,_,bY,.inl ho,fun _=>rfl,by simp⟩
    ·rw[fo _ _ oH]at ho;exact⟨j,_,hm,.inr ⟨a,b,oQ,ho⟩,fun _=>rfl,by simp[cq.symm]⟩
  ·simp only[h1,if_false]at ho;exact⟨j,c,hc,fa.1 (mK.1 ho),fun h=>by rw[ti,rX]at h;exact h,by simp[h2]⟩
 ·rcases eM hj with⟨rfl,rfl⟩|⟨h1,h2,c,hc,rfl⟩
  ·simp only[if_true];have Cl:=hM.apart j _ hm;have new:∀g,(φ id2).g=some g→¬(bn.eG kt e es).owns (φ j) g:=fun g hg ho=>cq (hM.inj id2 j _ _ g bY hm (.inl hg) ho);intro a b g hr hg;rcases gQ a b hr with⟨rfl,rfl⟩|⟨oQ,oH⟩
   ·rw[fh]at hg;refine⟨fun h=>new g hg (.inl h),fun a' b' Qc F1=>?_⟩;rcases gQ a' b' Qc with h|⟨Qd,F2⟩
    ·exact h
    ·rw[fo _ _ F2]at F1;exact absurd (.inr ⟨a',b',Qd,F1⟩) (new g hg)
   ·rw[fo _ _ oH]at hg;obtain⟨h3,h4⟩:=Cl a b g oQ hg;refine⟨h3,fun a' b' Qc F1=>?_⟩;rcases gQ a' b' Qc with⟨rfl,rfl⟩|⟨Qd,F2⟩
    ·rw[fh]at F1;exact absurd (.inr ⟨a,b,oQ,hg⟩) (new g F1)
    ·rw[fo _ _ F2]at F1;exact h4 a' b' Qd F1
  ·simp only[h1,if_false];exact qR.2 (px.2 (hM.apart j c hc))
 ·rcases eM hj with⟨rfl,hb⟩|⟨h1,h2,c,hc,hb⟩
  ·cases hb
  ·have LY:eE id (aQ (bk id2 m) id2) j=some (.box cs):=by rw[ak h1]at hj;exact hj
   have:=oS.eT j cs k LY hk;by_cases e:k=id
   ·subst e;simp
   ·rw[ak e];exact this
 ·rcases eM hj with⟨rfl,hb⟩|⟨h1,h2,c,hc,hb⟩
  ·cases hb
  ·cases c<;>first|(simp[dE,ff]at hb;done)|skip
   simp only[dE,ff,bn.loop.injEq]at hb;subst hb;exact⟨hc,by simp[h1]⟩
theorem KH{t kt et:TypeId}{xk:V}{id s:Nat}{key:PV}{rs:List PV}{m:Mem}(hu:E.P.underlying t=some (.map kt et))(hm:m id=some (.eG kt e es))(bY:m id2=some (.arr s e rs))(oa:keyOf E kt xk=some key){μ:Ro}{f:Fr}{ya yk yv:Value}(hM:al E.P G w0 μ φ m w)(hF:bJ E.P μ φ m f ρ)(ha:ab E.P μ φ (.om id) ya)(hk:ab E.P μ φ xk yk)(hv:ab E.P μ φ (.os id2) yv):∃w' φ',(Instr.mapUpdate t ya yk yv).run E.P w=.ok () w'∧al E.P G w0 μ φ' (oG [(id,.eG kt e (eA key (.gC s rs) es))] (km [(true,id2),(false,id)] m)) w'∧bJ E.P μ φ' (oG [(id,.eG kt e (eA key (.gC s rs) es))] (km [(true,id2),(false,id)] m)) (kf [(true,id2),(false,id)] f) ρ:=by
 have cq:id2≠id:=fun h=>by subst h;rw[hm]at bY;cases bY
 obtain⟨ks,k1,k2,k3⟩:=oU oa;obtain⟨g,en,clock,kk,hN⟩:=oW.1 (hM.dq id _ hm);have vz:=hN.uZ;rw[k1]at vz;simp only[Option.some.injEq]at vz;subst vz;have Ku:=sc k1;have UK:=k3 μ φ yk hk;obtain⟨hc,Ta⟩:=jB k2 UK;obtain⟨res,r1,r2⟩:=iY (v:=.lS) (z:=.bad) Ku hc w hN.ent;have xx:=Go.MapKept.run_getObj_map (P:=E.P) hN.heap;have h1:(Instr.checkKey false 10000 kt yk).run E.P w=.ok () w:=by rw[Ta];exact fK 8 kt ks Ku 9992 w false key.cells hc
 rw[←Ta]at r1;have ba:g<w.heap.size:=(Array.getElem?_eq_some_iff.1 hN.heap).1;cases ha with
 |om bF=>
  rw[hN.pl]at bF;simp only[Option.some.injEq]at bF;subst bF;have fin:∀(J:Nat)(Fu:Array MapEntry)(lH:Nat),(jf key es=some J∨(jf key es=none∧J=es.length))→(Instr.mapUpdate t (.map (some g)) yk yv).run E.P w=.ok () {w with heap:=w.heap.setIfInBounds g (.map Fu lH)}→jc Fu lH→Fu.size=(eA key .bad es).length→(∃e0,Fu[J]?=some e0∧e0.key=yk∧e0.val=yv)→(∀i e0,i≠J→Fu[i]?=some e0→en[i]?=some e0)→∃w' φ',(Instr.mapUpdate t (.map (some g)) yk yv).run E.P w=.ok () w'∧al E.P G w0 μ φ' (oG [(id,.eG kt e (eA key (.gC s rs) es))] (km [(true,id2),(false,id)] m)) w'∧bJ E.P μ φ' (oG [(id,.eG kt e (eA key (.gC s rs) es))] (km [(true,id2),(false,id)] m)) (kf [(true,id2),(false,id)] f) ρ:=by
   intro J Fu lH hJ hr pY jF hJe xA;obtain⟨eJ,V1,aaq,aar⟩:=hJe;have oc:∀i k' v',(eA key .bad es)[i]?=some (k',v')→(i=J∧k'=key∧v'=.bad)∨(i≠J∧es[i]?=some (k',v')):=by
    intro i k' v' h;rw[jS]at h;rcases hJ with hJ|⟨hJ,rfl⟩
    ·rw[hJ]at h;rcases dX h with⟨rfl,hq⟩|⟨MI,h⟩
     ·simp only[Prod.mk.injEq]at hq;exact .inl ⟨rfl,hq.1,hq.2⟩
     ·exact .inr ⟨MI,h⟩
    ·rw[hJ]at h;simp only at h;rw[List.getElem?_append]at h;split at h
     ·rename_i ba;exact .inr ⟨by omega,h⟩
     ·rename_i Cq;cases hd:i-es.length with
      |zero=>rw[hd]at h;simp only[List.getElem?_cons_zero,Option.some.injEq,Prod.mk.injEq]at h;exact .inl ⟨by omega,h.1.symm,h.2.symm⟩
      |succ n=>rw[hd]at h;simp at h
   have hJb:(eA key .bad es)[J]?=some (key,.bad):=by
    rw[jS];rcases hJ with hJ|⟨hJ,rfl⟩
    ·rw[hJ];obtain⟨a,u,hj,_⟩:=xL hJ;simp[(List.getElem?_eq_some_iff.1 hj).1]
    ·rw[hJ];simp
   have oS:al E.P G w0 μ φ (ai m id (.eG kt e (eA key .bad es))) {w with heap:=w.heap.setIfInBounds g (.map Fu lH)}:=by
    refine hM.write hm rfl hN.pl ⟨⟨rfl,rfl,rfl,by simp,fun k hk=>by simp[Array.getElem?_setIfInBounds_ne (Nat.ne_of_gt hk)]⟩,fun _=>Nat.le_refl _⟩ (by simp) (fun k hk=>by simp[Array.getElem?_setIfInBounds_ne (Ne.symm hk)]) (oW.2 ⟨g,Fu,lH,ks,hN.pl,by simp[ba],jF,k1,fun i k' v' h=>?_,pY,fun i k' v' e0 h Dh=>?_⟩) rfl (by simp[bn.names]) (fun st h=>by cases h) fun a b hr=>?_
    ·rcases oc i k' v' h with⟨_,rfl,_⟩|⟨_,h⟩
     ·exact k2
     ·exact hN.key i k' v' h
    ·rcases oc i k' v' h with⟨rfl,rfl,rfl⟩|⟨MI,h⟩
     ·rw[V1]at Dh;simp only[Option.some.injEq]at Dh;subst Dh;exact⟨by rw[aaq];exact UK,.pure .bad⟩
     ·obtain⟨q1,q2⟩:=hN.rep i k' v' e0 h (xA i e0 MI Dh);refine⟨q1,?_⟩;unfold yV at q2⊢;split at q2
      ·refine⟨q2.1.cj rfl (fun _ _ h=>h) fun g' bF=>?_,q2.2⟩;have hr:(bn.eG kt e es).rowAt i 0=true:=by rw[gS h];rfl
       have:=(hM.apart id _ hm i 0 g' hr bF).1;rw[hN.pl]at this;simp only[ne_eq,Option.some.injEq]at this;simp[Array.getElem?_setIfInBounds_ne this]
      ·exact q2
    ·rcases gT hr with⟨_,_,_,_,_,_,fl,_⟩|⟨_,_,_,k',s',VD,fl,rfl,h'⟩
     ·cases fl
     ·simp only[bn.eG.injEq]at fl;obtain⟨rfl,rfl,rfl⟩:=fl;rcases oc a k' _ h' with⟨_,_,h⟩|⟨_,h⟩
      ·cases h
      ·rw[gS h];rfl
   have oH:=al.Qf oS (id:=id) (id2:=id2) (i:=J) (x:=yv) cq (aD _ _ _) (by rw[ak cq];exact bY) hJb (fun g0 en0 aas Fq hh0=>by
    rw[hN.pl]at Fq;simp only[Option.some.injEq]at Fq;subst Fq;have:(w.heap.setIfInBounds g (Obj.map Fu lH))[g]?=some (.map Fu lH):=by simp[ba]
    rw[this]at hh0;simp only[Option.some.injEq,Obj.map.injEq]at hh0;obtain⟨rfl,_⟩:=hh0;exact⟨eJ,V1,aar⟩) hv
   rw[MV hJb hJ,y0 cq]at oH;refine⟨_,_,hr,oH,?_⟩;have xy:bJ E.P μ φ (ai m id (.eG kt e (eA key .bad es))) f ρ:=hF.jR (fun _ _ h=>h) .set;refine((xy.forget id2).pA id).RD (by simp[im]) (fun k hk=>by simp[hk]) fun k hk=>?_;show(ai (eE id (aQ (bk id2 m) id2)) id _ k).isSome=true;by_cases e1:k=id
   ·subst e1;simp
   ·rw[ak e1];rw[kX]at hk⊢;by_cases e2:k=id2
    ·subst e2;simp at hk
    ·rw[eC e2]at hk⊢;simp only[bk,ak e1]at hk⊢;exact hk
  rcases Bj r2 with⟨rfl,hp⟩|⟨j,e0,rfl,Dh,hp⟩
  ·have P8:=Go.MapKept.run_setObj_map (P:=E.P) (.map (en.push {key:=yk,val:=yv,born:=clock}) (clock+1)) hN.heap;refine fin es.length _ _ (.inr ⟨hp,rfl⟩) (by simp only[Instr.mapUpdate,Sem.run_bind,run_underlying hu,xx,h1,r1,Result.andThen_ok];exact P8) hN.born.push (by rw[jS,hp];simp[hN.size]) ⟨{key:=yk,val:=yv,born:=clock},?_,rfl,rfl⟩ fun i e0 hi h=>?_
   ·rw[←hN.size];simp
   ·rw[Array.getElem?_push]at h;split at h
    ·rename_i h';rw[hN.size]at h';exact absurd h' hi
    ·exact h
  ·have Qg:en[j]?=some e0:=by simpa using Dh
   obtain⟨a,u,haj,V2⟩:=xL hp;obtain⟨VQ,hva⟩:=jB (hN.key j a u haj) (hN.rep j a u e0 haj Qg).1;have pz:=Cs hc VQ V2;have VR:Instr.sameBits 10000 e0.key yk=true:=by rw[hva,Ta,←pz];refine qQ (n:=9999) hc (fun ha=>?_);rw[lW hc];exact(rV Ku).2.1 ha
   have P8:=Go.MapKept.run_setObj_map (P:=E.P) (.map (en.modify j fun e=>{e with key:=yk,val:=yv}) clock) hN.heap;have u9:j<en.size:=(Array.getElem?_eq_some_iff.1 Qg).1;refine fin j _ _ (.inl hp) (by simp only[Instr.mapUpdate,Sem.run_bind,run_underlying hu,xx,h1,r1,Result.andThen_ok];simp only[Nat.zero_add,Qg,Option.map_some,Option.getD_some,Instr.keyThatStays,VR,if_true,Sem.run_pure,Result.andThen_ok];exact P8) (hN.born.modify (fun e=>{e with key:=yk,val:=yv}) (fun _=>rfl) _) (by rw[jS,hp];simp[hN.size]) ⟨{e0 with key:=yk,val:=yv},by rw[Array.getElem?_modify,if_pos rfl,Qg];rfl,rfl,rfl⟩ fun i e1 hi h=>?_;rw[Array.getElem?_modify,if_neg (Ne.symm hi)]at h;exact h
end
end Go.Ab
set_option linter.unusedVariables false
namespace Go.Ab
section
variable {P:Program} {G:Nat→Option (List PV)} {w0:bg} {μ μ':Ro} {φ φ':Nat→aw} {m m':Mem} {w w':World}
structure iF(P:Program)(μ:Ro)(rows:Nat→Nat→wC)(w:World)(s:Nat)(es:List PV)(xs:List Value):Prop where
 len:xs.length=es.length*s
 each:∀(i:Nat)e,es[i]?=some e→e.cells.length=s
 rep:∀(i:Nat)e(j:Nat)p x,es[i]?=some e→e.cells[j]?=some p→xs[i*s+j]?=some x→dW P μ (rows i j) w p x
 one:∀(i:Nat)(x:Value),xs[i]?=some x→x.oneCell'=true
variable{rows:Nat→Nat→wC}{es:List PV}{xs:List Value}
theorem iF.append{y4 MW:Nat→Nat→wC}{s:Nat}{es':List PV}{VE:List Value}(h:iF P μ rows w s es xs)(h':iF P μ y4 w s es' VE)(h1:∀i j,i<es.length→MW i j=rows i j)(h2:∀i j,es.length≤i→MW i j=y4 (i-es.length) j):iF P μ MW w s (es++es') (xs++VE):=by
 refine⟨by simp[h.len,h'.len,Nat.add_mul],fun i e he=>?_,fun i e j p x he hp hx=>?_,fun i x hx=>?_⟩
 ·rw[List.getElem?_append]at he;split at he
  ·exact h.each i e he
  ·exact h'.each _ e he
 ·rw[List.getElem?_append]at he;split at he
  ·rename_i hi;rw[h1 i j hi];have hj:j<s:=by rw[←h.each i e he];exact(List.getElem?_eq_some_iff.1 hp).1
   rw[List.getElem?_append_left (by rw[h.len];exact yM hi hj)]at hx;exact h.rep i e j p x he hp hx
  ·rename_i hi;rw[h2 i j (by omega)];have e1:i*s+j=es.length*s+((i-es.length)*s+j):=by
    have:i=es.length+(i-es.length):=by omega
    have h3:i*s=es.length*s+(i-es.length)*s:=by rw[←Nat.add_mul,←this]
    omega
   rw[List.getElem?_append_right (by rw[h.len,e1];omega),h.len,show i*s+j-es.length*s=(i-es.length)*s+j by omega]at hx;exact h'.rep _ e j p x he hp hx
 ·rw[List.getElem?_append]at hx;split at hx
  ·exact h.one i x hx
  ·exact h'.one _ x hx
theorem Cells.Cw{s:Nat}(h:Cells P μ s es xs):iF P μ rows w s es xs:=⟨h.len,h.each,fun i e j p x he hp hx=>.pure (h.rep i e j p x he hp hx),h.one⟩
theorem iF.cj{rows:Nat→Nat→wC}{s:Nat}{es:List PV}{xs:List Value}(h:iF P μ rows w s es xs)(hw:∀i e j p g,es[i]?=some e→e.cells[j]?=some p→p.isRow=true→(rows i j).g=some g→w'.heap[g]?=w.heap[g]?):iF P μ rows w' s es xs:=⟨h.len,h.each,fun i e j p x he hp hx=>(h.rep i e j p x he hp hx).cj (fun _ _ h=>h) fun hr g hg=>hw i e j p g he hp hr hg,h.one⟩
theorem aL.Cw{id sz:Nat}{et:TypeId}(h:aL P μ φ w id sz et es){g:Nat}(hg:(φ id).g=some g):∃(c:Array Value)(T:TypeId),w.heap[g]?=some (.cells c T (0,0))∧(φ id).cap*sz≤c.size∧es.length≤(φ id).cap∧iF P μ (φ id).row w sz es (c.toList.take (es.length*sz)):=by obtain⟨a1,a2,a3,a4,a5,a6,a7⟩:=h;rw[hg]at a7;obtain⟨c,T,c1,c2,c3,c4,c5⟩:=a7;have hle:es.length*sz≤c.size:=Nat.le_trans (Nat.mul_le_mul_right _ c3) c2;refine⟨c,T,c1,c2,c3,by simp;omega,a5,fun i e j p x he hp hx=>c4 i e j p x he hp (by simpa using(du hx).2),fun i x hx=>?_⟩;have:=du hx;exact c5 i x this.1 (by simpa using this.2)
theorem iF.nest{id g sz:Nat}{et T:TypeId}{c:Array Value}(P1:(φ id).towC=⟨some g,(φ id).cap,es.length,sz⟩)(jF:sz=aH P et)(dQ:0<sz)(lE:(φ id).cap≤maxLen)(hh:w.heap[g]?=some (.cells c T (0,0)))(hc:(φ id).cap*sz≤c.size)(hle:es.length≤(φ id).cap)(hC:iF P μ (φ id).row w sz es (c.toList.take (es.length*sz))):aL P μ φ w id sz et es:=by
 have e1:(φ id).g=some g:=by rw[P1]
 refine⟨by rw[P1],by rw[P1],jF,dQ,hC.each,lE,?_⟩;rw[e1];have u9:∀(i:Nat)e(j:Nat)p,es[i]?=some e→e.cells[j]?=some p→i*sz+j<es.length*sz:=fun i e j p hi hj=>yM (List.getElem?_eq_some_iff.1 hi).1 (by rw[←hC.each i e hi];exact(List.getElem?_eq_some_iff.1 hj).1);refine⟨c,T,hh,hc,hle,fun i e j p x hi hj hx=>?_,fun i x hi hx=>?_⟩
 ·exact hC.rep i e j p x hi hj (by rw[List.getElem?_take_of_lt (u9 i e j p hi hj)];simpa using hx)
 ·exact hC.one i x (by rw[List.getElem?_take_of_lt hi];simpa using hx)
end
section
variable {R:Type} {E:Env}
def Ja(src:Option Nat)(m:Mem):Mem:=match src with|some id2=>aQ (bk id2 m) id2|none=>m
def Z4(src:Option Nat)(f:Fr):Fr:=match src with|some id2=>eB id2 f|none=>f
variable{src:Option Nat}
theorem MX{m:Mem}{j:Nat}{b:bn}(h:Ja src m j=some b):src≠some j∧∃b',m j=some b'∧b.rowAt=b'.rowAt:=by
 cases src with
 |none=>exact⟨by simp,b,h,rfl⟩
 |some id2=>obtain⟨h1,b',h2,rfl⟩:=ey h;exact⟨fun e=>h1 (by simpa using e.symm),b',h2,pw _ _⟩
theorem KI{t e ty:TypeId}{x:V}{id s:Nat}{es new:List PV}{rd:aY}{m:Mem}(hu:E.P.underlying t=some (.slice e))(hm:m id=some (.nest s e es))(hs:s=aH E.P e)(hz:(cT E e).isSome=true)(dQ:0<aH E.P e)(VG:0<Au E.P e)(dc:(es++new).length*Au E.P e≤aa)(tg:(∃id2,src=some id2∧id2≠id∧x=.os id2∧m id2=some (.nest s e new))∨(src=none∧eo m s x=some (new,rd))){G:Nat→Option (List PV)}{w0:bg}{μ:Ro}{φ:Nat→aw}{w:World}{f:Fr}{ρ:Nat→Value}{ys yx:Value}(hM:al E.P G w0 μ φ m w)(hF:bJ E.P μ φ m f ρ)(ha:ab E.P μ φ (.os id) ys)(hx:ab E.P μ φ x yx):∃w' y φ',(Builtin.append_ #[t,t] ty #[ys,yx]).run E.P w=.ok y w'∧al E.P G w0 μ φ' (ai (aQ (bk id (Ja src m)) id) id (.nest s e (es++new))) w'∧bJ E.P μ φ' (ai (aQ (bk id (Ja src m)) id) id (.nest s e (es++new))) (eB id (Z4 src f)) ρ∧ab E.P μ φ' (.os id) y:=by
 obtain⟨zc,LV⟩:=Option.isSome_iff_exists.1 hz;obtain⟨i,zv,hi,UG,RA,_,DM,_,_,_⟩:=eh LV;have hN:aL E.P μ φ w id s e es:=hM.dq id _ hm;have DN:(es++new).length=es.length+new.length:=by simp
 have il:0<s:=by omega
 obtain⟨y4,oQ⟩:∃y4:Nat→Nat→wC,y4=match src with|some id2=>(φ id2).row|none=>fun _ _=>default:=⟨_,rfl⟩
 obtain⟨os,S5,hC⟩:∃os,((ys=.slice none 0 0∧es.length=0∧os=[])∨∃(g cap:Nat)(c:Array Value)(T:TypeId),ys=.slice (some ⟨g,0,none⟩) es.length cap∧w.heap[g]?=some (.cells c T (0,0))∧cap*s≤c.size∧es.length≤cap∧cap≤maxLen∧os=c.toList.take (es.length*s))∧iF E.P μ (φ id).row w s es os:=by
  cases ha with
  |np hg=>have a7:=hN.2.2.2.2.2.2;rw[hg]at a7;rw[a7.1];exact⟨[],.inl ⟨rfl,rfl,rfl⟩,by simp,by simp,fun i e j p x he=>by simp at he,by simp⟩
  | @os _ g hg=>obtain⟨c,T,c1,c2,c3,c4⟩:=hN.Cw hg;exact⟨_,.inr ⟨g,(φ id).cap,c,T,by rw[hN.1],c1,c2,c3,hN.2.2.2.2.2.1,rfl⟩,c4⟩
 obtain⟨xs,Co,hCx⟩:∃xs,((yx=.slice none 0 0∧new.length=0∧xs=[])∨∃(a:Addr)(cx:Nat),yx=.slice (some a) new.length cx∧xs.length=new.length*s∧(∀(j:Nat)v,xs[j]?=some v→w.cell? (a.add j)=some v)∧(∀v∈xs,v.oneCell'=true)∧new.length≤cx∧cx≤maxLen)∧iF E.P μ y4 w s new xs:=by
  rcases tg with⟨id2,rfl,cq,rfl,bY⟩|⟨rfl,vu⟩
  ·have Z5:aL E.P μ φ w id2 s e new:=hM.dq id2 _ bY;simp only at oQ;subst oQ;cases hx with
   |np hg=>have a7:=Z5.2.2.2.2.2.2;rw[hg]at a7;rw[a7.1];exact⟨[],.inl ⟨rfl,rfl,rfl⟩,by simp,by simp,fun i e j p x he=>by simp at he,by simp⟩
   | @os _ g hg=>
    obtain⟨c,_,c1,c2,c3,c4⟩:=Z5.Cw hg;refine⟨_,.inr ⟨⟨g,0,none⟩,(φ id2).cap,by rw[Z5.1],c4.len,fun j v hj=>?_,fun v hv=>?_,c3,Z5.2.2.2.2.2.1⟩,c4⟩
    ·rw[Addr.add_mid,db c1];simpa using(du hj).2
    ·obtain⟨j,hj⟩:=List.getElem?_of_mem hv;exact c4.one j v hj
  ·obtain⟨_,_,hsr⟩:=kJ vu;have:=hsr _ _ _ _ _ _ _ hM hx;cases this with
   |none hn=>subst hn;exact⟨[],.inl ⟨rfl,rfl,rfl⟩,by simp,by simp,fun i e j p x he=>by simp at he,by simp⟩
   | @some a cx xs hC Co RB MJ=>exact⟨xs,.inr ⟨a,cx,rfl,hC.len,Co,fun u hu=>by obtain⟨j,hj⟩:=List.getElem?_of_mem hu;exact hC.one j u hj,RB,MJ⟩,hC.Cw⟩
 obtain⟨w',y,hr,MK⟩:=yN (ty:=ty) hu hi UG (by rw[DM,hs]) hs dQ VG (by rw[←DN];exact dc) S5 Co;let jT:Nat→Nat→wC:=fun a b=>if a<es.length then(φ id).row a b else y4 (a-es.length) b;have VI:iF E.P μ jT w s (es++new) (os++xs):=hC.append hCx (fun a b h=>by simp only[jT,h,if_true]) (fun a b h=>by simp only[jT,Nat.not_lt.2 h,if_false]);have gQ:∀a b g,(bn.nest s e (es++new)).rowAt a b=true→(jT a b).g=some g→(a<es.length∧(bn.nest s e es).rowAt a b=true∧((φ id).row a b).g=some g)∨(es.length≤a∧∃id2,src=some id2∧id2≠id∧m id2=some (.nest s e new)∧(bn.nest s e new).rowAt (a-es.length) b=true∧((φ id2).row (a-es.length) b).g=some g):=by
  intro a b g Ap hg;rcases gT Ap with⟨_,_,_,e',s',VD,fl,h',nF⟩|⟨_,_,_,_,_,_,fl,_⟩
  ·simp only[bn.nest.injEq]at fl;obtain⟨rfl,rfl,rfl⟩:=fl;by_cases ba:a<es.length
   ·rw[List.getElem?_append_left ba]at h';exact .inl ⟨ba,by rw[dm h' nF];rfl,by simpa[jT,ba]using hg⟩
   ·rw[List.getElem?_append_right (by omega)]at h';simp only[jT,ba,if_false]at hg;rcases tg with⟨id2,rfl,cq,rfl,bY⟩|⟨rfl,vu⟩
    ·simp only at oQ;subst oQ;exact .inr ⟨by omega,id2,rfl,cq,bY,by rw[dm h' nF];rfl,hg⟩
    ·exfalso;obtain⟨_,_,hsr⟩:=kJ vu;have h3:=hsr _ _ _ _ _ _ _ hM hx;cases h3 with
     |none hn=>subst hn;simp at h'
     | @some a2 cx xs2 hC2 acI RB MJ=>
      have hj:(a-es.length)*s+b<xs2.length:=by rw[hC2.len];exact yM (List.getElem?_eq_some_iff.1 h').1 (by rw[←hC2.each _ _ h'];exact(List.getElem?_eq_some_iff.1 nF).1)
      exact absurd (hC2.rep _ _ _ _ _ h' nF (List.getElem?_eq_getElem hj)).xK (by simp[PV.isRow])
  ·cases fl
 have MY:∀j,(aQ (bk id (Ja src m)) id j).isSome=true→j≠id:=fun j hj e=>by subst e;simp at hj
 have cQ:∀j b',aQ (bk id (Ja src m)) id j=some b'→j≠id∧src≠some j∧∃b,m j=some b∧b'.rowAt=b.rowAt:=by intro j b' hj;obtain⟨h1,b1,h2,rfl⟩:=ey hj;obtain⟨h3,b2,h4,h5⟩:=MX h2;exact⟨h1,h3,b2,h4,by rw[pw,h5]⟩
 have F5:∀{j b' b g},b'.rowAt=b.rowAt→bn.owns b' (φ j) g→bn.owns b (φ j) g:=fun h ho=>by unfold bn.owns at*;rw[←h];exact ho
 have ZV:al E.P G w0 μ φ (Ja src m) w:=by
  cases src with
  |none=>exact hM
  |some id2=>exact hM.forget id2
 have V3:bJ E.P μ φ (Ja src m) (Z4 src f) ρ:=by
  cases src with
  |none=>exact hF
  |some id2=>exact hF.forget id2
 have oS:=ZV.forget id;have xy:=V3.forget id;have Cx:∀a b g,(bn.nest s e (es++new)).rowAt a b=true→(jT a b).g=some g→w0.heap.size≤g∧μ g=none∧g<w.heap.size∧∀j b',aQ (bk id (Ja src m)) id j=some b'→¬b'.owns (φ j) g:=by
  intro a b g Ap hg;rcases gQ a b g Ap hg with⟨_,h2,h3⟩|⟨_,id2,rfl,cq,bY,h2,h3⟩
  ·obtain⟨o1,o2⟩:=hM.own id _ g hm (.inr ⟨a,b,h2,h3⟩);refine⟨o1,o2 rfl,(hM.dq id _ hm).yG (.inr ⟨a,b,h2,h3⟩),fun j b' hj ho=>?_⟩;obtain⟨k1,_,b2,k3,k4⟩:=cQ j b' hj;exact k1 (hM.inj j id _ _ g k3 hm (F5 k4 ho) (.inr ⟨a,b,h2,h3⟩))
  ·obtain⟨o1,o2⟩:=hM.own id2 _ g bY (.inr ⟨_,b,h2,h3⟩);refine⟨o1,o2 rfl,(hM.dq id2 _ bY).yG (.inr ⟨_,b,h2,h3⟩),fun j b' hj ho=>?_⟩;obtain⟨_,k1,b2,k3,k4⟩:=cQ j b' hj;exact k1 (by rw[hM.inj j id2 _ _ g k3 bY (F5 k4 ho) (.inr ⟨_,b,h2,h3⟩)])
 have KJ:∀a b a' b' g,(bn.nest s e (es++new)).rowAt a b=true→(jT a b).g=some g→(bn.nest s e (es++new)).rowAt a' b'=true→(jT a' b').g=some g→a'=a∧b'=b:=by
  intro a b a' b' g h1 h2 h3 h4;rcases gQ a b g h1 h2 with⟨u1,u2,u3⟩|⟨u1,i2,u0,une,um,u2,u3⟩<;>rcases gQ a' b' g h3 h4 with⟨v1,v2,v3⟩|⟨v1,i3,v0,vne,vm,v2,v3⟩
  ·exact(hM.apart id _ hm a b g u2 u3).2 a' b' v2 v3
  ·exact absurd (hM.inj i3 id _ _ g vm hm (.inr ⟨_,_,v2,v3⟩) (.inr ⟨_,_,u2,u3⟩)) vne
  ·exact absurd (hM.inj i2 id _ _ g um hm (.inr ⟨_,_,u2,u3⟩) (.inr ⟨_,_,v2,v3⟩)) une
  ·rw[u0]at v0;simp only[Option.some.injEq]at v0;subst v0;obtain⟨h5,h6⟩:=(hM.apart i2 _ um (a-es.length) b g u2 u3).2 (a'-es.length) b' v2 v3;exact⟨by omega,h6⟩
 have fin:∀(q:aw)(w1:World),q.row=jT→iJ w0.heap.size w w1→(∀k o,μ k=some o→w1.heap[k]?=some o)→(∀j b' g,aQ (bk id (Ja src m)) id j=some b'→b'.owns (φ j) g→w1.heap[g]?=w.heap[g]?)→(∀g,q.g=some g→w0.heap.size≤g∧μ g=none∧(∀j b',aQ (bk id (Ja src m)) id j=some b'→¬b'.owns (φ j) g)∧∀a b,(bn.nest s e (es++new)).rowAt a b=true→(jT a b).g≠some g)→(aL E.P μ (fun k=>if k=id then q else φ k) w1 id s e (es++new))→al E.P G w0 μ (fun k=>if k=id then q else φ k) (ai (aQ (bk id (Ja src m)) id) id (.nest s e (es++new))) w1∧bJ E.P μ (fun k=>if k=id then q else φ k) (ai (aQ (bk id (Ja src m)) id) id (.nest s e (es++new))) (eB id (Z4 src f)) ρ:=by
  intro q w1 hq FL kU hold pk ib;refine⟨oS.put (by simp) FL kU hold (fun g hg=>?_) (fun a b g Ap hg=>?_) ib (by simp[bn.names]) (fun st h=>by cases h),xy.mono (fun _ _ h=>h) fun j hj=>⟨by simp[MY j hj],by rw[ak (MY j hj)];exact hj⟩⟩
  ·rcases hg with hg|⟨a,b,Ap,hg⟩
   ·obtain⟨o1,o2,o3,_⟩:=pk g hg;exact⟨o1,o2,o3⟩
   ·rw[hq]at hg;obtain⟨o1,o2,_,o3⟩:=Cx a b g Ap hg;exact⟨o1,o2,o3⟩
  ·rw[hq]at hg;refine⟨fun h=>(pk g h).2.2.2 a b Ap hg,fun a' b' aat bF=>?_⟩;rw[hq]at bF;exact KJ a b a' b' g Ap hg aat bF
 rcases MK with⟨rfl,rfl,h1,h2⟩|⟨g',xw,c',T',rfl,b1,b2,b3,b4,b5,b6⟩
 ·have h1:es=[]:=List.eq_nil_of_length_eq_zero h1;have h2:new=[]:=List.eq_nil_of_length_eq_zero h2;obtain⟨k1,k2⟩:=fin {g:=none,cap:=0,len:=0,sz:=s,row:=jT} w' rfl (iJ.refl _ _) hM.ro (fun _ _ _ _ _=>rfl) (fun g hg=>by cases hg) ⟨by simp[h1,h2],by simp,hs,il,by simp[h1,h2],by simp[maxLen],by simp[h1,h2]⟩;exact⟨w',_,_,hr,k1,k2,.np (by simp)⟩
 ·have hq:∀(w1:World)(T:TypeId),w1.heap[g']?=some (.cells c' T (0,0))→iF E.P μ jT w1 s (es++new) (os++xs)→aL E.P μ (fun k=>if k=id then({g:=some g',cap:=xw,len:=(es++new).length,sz:=s,row:=jT}:aw)else φ k) w1 id s e (es++new):=fun w1 T hh hC1=>iF.nest (g:=g') (c:=c') (by simp) hs il (by simpa using b4) hh (by simpa using b2) (by simpa[DN]using b3) (by rw[DN,b5];simpa using hC1);have RE:ab E.P μ (fun k=>if k=id then({g:=some g',cap:=xw,len:=(es++new).length,sz:=s,row:=jT}:aw)else φ k) (.os id) (.slice (some ⟨g',0,none⟩) (es.length+new.length) xw):=by have:=ab.os (P:=E.P) (μ:=μ) (φ:=fun k=>if k=id then({g:=some g',cap:=xw,len:=(es++new).length,sz:=s,row:=jT}:aw)else φ k) (id:=id) (g:=g') (by simp);simp only[if_true]at this;rw[←DN];exact this
  rcases b6 with⟨P4,UI,b6,b7⟩|⟨rfl,rfl⟩
  ·have bF:(φ id).g=some g':=by
    have key:∀z,ab E.P μ φ (.os id) z→z=.slice (some ⟨g',0,none⟩) es.length P4→(φ id).g=some g':=by
     intro z hz he;cases hz with
     |np _=>cases he
     |os hg=>simp only[Value.slice.injEq,Option.some.injEq,Addr.mk.injEq]at he;rw[←he.1.1];exact hg
    exact key _ ha UI
   obtain⟨o1,o2⟩:=hM.own id _ g' hm (.inl bF);have DJ:∀a b,(bn.nest s e (es++new)).rowAt a b=true→(jT a b).g≠some g':=by
    intro a b Ap hg;rcases gQ a b g' Ap hg with⟨u1,u2,u3⟩|⟨u1,i2,u0,une,um,u2,u3⟩
    ·exact(hM.apart id _ hm a b g' u2 u3).1 bF
    ·exact une (hM.inj i2 id _ _ g' um hm (.inr ⟨_,_,u2,u3⟩) (.inl bF))
   have xA:∀j b',aQ (bk id (Ja src m)) id j=some b'→¬b'.owns (φ j) g':=fun j b' hj ho=>by obtain⟨k1,_,b2,k3,k4⟩:=cQ j b' hj;exact k1 (hM.inj j id _ _ g' k3 hm (F5 k4 ho) (.inl bF))
   obtain⟨k1,k2⟩:=fin {g:=some g',cap:=xw,len:=(es++new).length,sz:=s,row:=jT} w' rfl (b6.mono o1) (fun k o hk=>by rw[b7 k (fun e=>by subst e;rw[o2 rfl]at hk;cases hk)];exact hM.ro k o hk) (fun j b' g hj ho=>b7 g fun e=>by subst e;exact xA j b' hj ho) (fun g hg=>by
     simp only[Option.some.injEq]at hg;subst hg;exact⟨o1,o2 rfl,xA,DJ⟩)
    (hq w' _ b1 (VI.cj fun a e1 b p1 g he hp Ap hg=>b7 g fun e=>by subst e;exact DJ a b (by rw[dm he hp];exact Ap) hg))
   exact⟨w',_,_,hr,k1,k2,RE⟩
  ·have hold:∀k,k<w.heap.size→(w.drew.alloc (.cells c' e)).heap[k]?=w.heap[k]?:=fun k hk=>iJ.heap_alloc w.drew _ k hk;obtain⟨k1,k2⟩:=fin {g:=some w.heap.size,cap:=xw,len:=(es++new).length,sz:=s,row:=jT} (w.drew.alloc (.cells c' e)) rfl ((iJ.refl _ w).drew.alloc hM.below.size _) (fun k o hk=>by
     have:=hM.ro k o hk;rw[hold k (Array.getElem?_eq_some_iff.1 this).1];exact this)
    (fun j b' g hj ho=>hold g ((oS.dq j b' hj).yG ho)) (fun g hg=>by
     simp only[Option.some.injEq]at hg;subst hg;refine⟨hM.below.size,?_,fun j b' hj ho=>?_,fun a b Ap hg=>?_⟩
     ·cases hq:μ w.heap.size with
      |none=>rfl
      |some o'=>have:=hM.ro _ _ hq;simp at this
     ·have:=(oS.dq j b' hj).yG ho;omega
     ·have:=(Cx a b _ Ap hg).2.2.1;omega)
    (hq _ _ b1 (VI.cj fun a e1 b p1 g he hp Ap hg=>hold g (Cx a b g (by rw[dm he hp];exact Ap) hg).2.2.1))
   exact⟨_,_,_,hr,k1,k2,RE⟩
theorem y5{m:Mem}:∀{cs:List V}{j0:Nat}{ps:List PV},iM m j0 cs=some (ps,none)→∀m2:Mem,iM m2 j0 cs=some (ps,none)
 |[],j0,ps,h,m2=>h
 |v::r,j0,ps,h,m2=>by
  unfold iM at h;split at h
  ·rename_i heq;cases heq
  ·rename_i j id r' heq;split at h
   ·split at h
    ·simp at h
    ·cases h
   ·cases h
  ·rename_i j v' r' cq heq;simp only[List.cons.injEq]at heq;obtain⟨rfl,rfl⟩:=heq;unfold iM;split
   ·rename_i heq;cases heq
   ·rename_i j id r' heq;simp only[List.cons.injEq]at heq;exact absurd heq.1 (cq id)
   ·rename_i j v' r' cq heq;simp only[List.cons.injEq]at heq;obtain⟨rfl,rfl⟩:=heq;split at h
    ·rename_i p hp;split at h
     ·rename_i Vq t ht;simp only[Option.some.injEq,Prod.mk.injEq]at h;obtain⟨rfl,rfl⟩:=h;rw[y5 ht m2]
     ·cases h
    ·cases h
theorem qS{m m2:Mem}{j id2:Nat}(hm:m2 id2=m id2):∀{cs:List V}{j0:Nat}{ps:List PV},iM m j0 cs=some (ps,some (j,id2))→iM m2 j0 cs=some (ps,some (j,id2))
 |[],j0,ps,h=>by simp[iM]at h
 |v::r,j0,ps,h=>by
  unfold iM at h;split at h
  ·rename_i heq;cases heq
  ·rename_i j id r' heq;simp only[List.cons.injEq]at heq;obtain⟨rfl,rfl⟩:=heq;split at h
   ·rename_i s et es Jb;split at h
    ·rename_i Vq ht;simp only[Option.some.injEq,Prod.mk.injEq]at h;obtain⟨rfl,rfl,rfl⟩:=h;simp only[iM,hm,Jb,y5 ht m2]
    ·cases h
   ·cases h
  ·rename_i j v' r' cq heq;simp only[List.cons.injEq]at heq;obtain⟨rfl,rfl⟩:=heq;unfold iM;split
   ·rename_i heq;cases heq
   ·rename_i j id r' heq;simp only[List.cons.injEq]at heq;exact absurd heq.1 (cq id)
   ·rename_i j v' r' cq heq;simp only[List.cons.injEq]at heq;obtain⟨rfl,rfl⟩:=heq;split at h
    ·rename_i p hp;split at h
     ·rename_i Vq t ht;simp only[Option.some.injEq,Prod.mk.injEq]at h;obtain⟨rfl,rfl⟩:=h;rw[qS hm ht]
     ·cases h
    ·cases h
theorem F6{site:Nat}{o:Oper}{f f2:Fr}{m m2:Mem}{sp:Sp}(h:s9 E site o f m=some sp)(hf:∀x∈o.op.operands,bh E f2 x=bh E f x)(hm:∀x∈(sp.info site).2,m2 x.2=m x.2):s9 E site o f2 m2=some sp:=by
 obtain⟨dst,op,type,pos,after,guard⟩:=o;unfold s9 at h⊢;cases op;case store t a x=>
  simp only at h⊢;rw[hf a (by simp[Op.operands]),hf x (by simp[Op.operands])];split at h
  ·rename_i id i off ha;split at h
   ·rename_i s et es Jb;split at h
    ·rename_i cs hc;split at h
     ·rename_i ps j id2 ht;split at h
      ·rename_i gV;simp only[Option.some.injEq]at h;subst h;have h1:m2 id=m id:=hm (true,id) (by simp[Sp.info]);have h2:m2 id2=m id2:=hm (true,id2) (by simp[Sp.info]);simp only[ha,h1,Jb,hc,qS h2 ht,gV,if_true]
      ·cases h
     ·cases h
    ·cases h
   ·cases h
  ·cases h
 case buildSlice t len parts=>
  simp only at h⊢;have KF:(parts.toList.map fun(x:Nat×Operand)=>(x.1,bh E f2 x.2))=parts.toList.map fun(x:Nat×Operand)=>(x.1,bh E f x.2):=List.map_congr_left fun x hx=>by rw[hf x.2 (by simp only[Op.operands,List.mem_toArray,List.mem_map];exact⟨x,hx,rfl⟩)]
  rw[KF];split at h
  ·rename_i e v hu hp;split at h
   ·rename_i cs hc;split at h
    ·rename_i ps j id2 ht hs;split at h
     ·rename_i p AA;split at h
      ·rename_i gV;simp only[Option.some.injEq]at h;subst h;have h1:m2 site=m site:=hm (true,site) (by simp[Sp.info]);have h2:m2 id2=m id2:=hm (true,id2) (by simp[Sp.info]);simp only[hu,hp,hc,qS h2 ht,h1,hs,AA,gV,if_true]
      ·cases h
     ·cases h
    ·cases h
   ·cases h
  ·cases h
 case call c=>
  obtain⟨callee,args,argTypes⟩:=c;simp only at h⊢;have iO:args.toList.map (bh E f2)=args.toList.map (bh E f):=List.map_congr_left fun x hx=>hf x (by simp only[Op.operands,Call.operands];cases callee<;>simp[Array.mem_toList_iff.1 hx]);rw[iO];split at h
  ·rename_i id x t t' ha Tg;split at h
   ·rename_i e s et es hu Jb;split at h
    ·rename_i gV;have plain:∀{new:List PV}{rd:aY},eo m s x=some (new,rd)→x.has id=false→sp=.app id s et es new none rd→eo m2 s x=some (new,rd):=by intro new rd vu Th il;subst il;obtain⟨e1,_,_⟩:=kJ vu;exact e1 m2 fun y hy=>hm y (by simp[Sp.info,hy])
     split at h
     ·rename_i lU;split at h
      ·rename_i s' ye new PB;split at h
       ·rename_i Ay;simp only[Option.some.injEq]at h;subst h;have h1:m2 id=m id:=hm (true,id) (by simp[Sp.info]);have h2:m2 lU=m lU:=hm (true,lU) (by simp[Sp.info]);simp only[ha,Tg,hu,h1,Jb,gV,if_true,h2,PB,Ay]
       ·cases h
      ·rename_i hnn;split at h
       ·rename_i new rd vu;split at h
        ·cases h
        ·rename_i Th;simp only[Option.some.injEq]at h;have MZ:=plain vu (by simpa using Th) h.symm;subst h;have h1:m2 id=m id:=hm (true,id) (by simp[Sp.info]);simp only[ha,Tg,hu,h1,Jb,gV,if_true,MZ];split
         ·rename_i s' ye acJ bY;exfalso;simp only[eo,bY]at MZ;cases MZ
         ·rw[if_neg Th]
       ·cases h
     ·rename_i acK;split at h
      ·rename_i new rd vu;split at h
       ·cases h
       ·rename_i Th;simp only[Option.some.injEq]at h;have MZ:=plain vu (by simpa using Th) h.symm;subst h;have h1:m2 id=m id:=hm (true,id) (by simp[Sp.info]);simp only[ha,Tg,hu,h1,Jb,gV,if_true,MZ];try rw[if_neg Th]
      ·cases h
    ·cases h
   ·cases h
  ·cases h
 case mapUpdate t x key v=>
  simp only at h⊢;rw[hf x (by simp[Op.operands]),hf key (by simp[Op.operands]),hf v (by simp[Op.operands])];split at h
  ·rename_i kt et id id2 hu hx hv;split at h
   ·rename_i qp e es s e' rs kp h1 h2 hk;split at h
    ·rename_i gV;simp only[Option.some.injEq]at h;subst h;have h3:m2 id=m id:=hm (true,id) (by simp[Sp.info]);have h4:m2 id2=m id2:=hm (true,id2) (by simp[Sp.info]);simp only[hu,hx,hv,h3,h4,h1,h2,hk,gV,if_true]
    ·cases h
   ·cases h
  ·cases h
 all_goals (cases h)
end
end Go.Ab
