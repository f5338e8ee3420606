import Derived.Test.YtanikidijjaohaaGreatAbSort
import Derived.Shelf.SlSortCmp.NoneTotal
set_option linter.unusedVariables false
namespace Go.Ab
open Go.Proofs Go.Shelf
set_option maxRecDepth 100000
section
variable {P:Program} {G:Nat→Option (List PV)} {w0:br} {μ:Ro} {φ:Nat→aA} {m:Mem} {w w':World}
theorem U1(h:kG w.heap.size w w'):∃q os',w'=Go.Sort.grow (w.drewN q) os':=by
 refine⟨w'.drawn-w.drawn,w'.heap.extract w.heap.size w'.heap.size,?_⟩;have hd:=h.drawn rfl;have hs:=h.size;obtain⟨h1,t1,d1,o1,u1⟩:=w;obtain⟨h2,t2,d2,o2,u2⟩:=w';have e1:=h.os;have e2:=h.tape;have e3:=h.output;have e4:=h.block;simp only at hd hs e1 e2 e3 e4;subst e1;subst e2;subst e3;unfold Go.Sort.grow World.drewN;simp only[World.mk.injEq,and_true,true_and];refine⟨?_,by omega⟩;apply Array.ext
 ·simp;omega
 ·intro i hi1 hi2;rw[Array.getElem_append];split
  ·rename_i bm;have:=e4 i bm;rw[Array.getElem?_eq_getElem hi1,Array.getElem?_eq_getElem bm]at this;simpa using this
  ·rename_i Fo;simp only[Array.getElem_extract];congr 1;omega
theorem av.later(hM:av P G w0 μ φ m w)(hb:kG w.heap.size w w'):av P G w0 μ φ m w':=by
 refine⟨hM.below.trans (hb.mono hM.below.size),fun b o h=>?_,hM.aD,fun id b h=>?_,hM.own,hM.inj,hM.apart,hM.fJ,hM.base,hM.dA,fun id st h=>?_⟩
 rotate_right
 ·obtain⟨g,rc,h1,h2,h3⟩:=hM.BD id st h;exact⟨g,rc,h1,h2,by rw[hb.block g (Array.getElem?_eq_some_iff.1 h3).1];exact h3⟩
 ·have:=hM.ro b o h;rw[hb.block b (Array.getElem?_eq_some_iff.1 this).1];exact this
 ·have hR:=hM.dy id b h;exact hR.cD (fun _ _=>rfl) rfl (fun _ _ h=>h) (fun g hg=>hb.block g (hR.Dp hg))
theorem av.row{α:Type}[Inhabited α](enc:α→Value)(val:α→Int)(XI:∀x,enc x=.int .i64 (val x))(zi:∀x,(Lit.int .i64 (val x)).wf=true)(hM:av P G w0 μ φ m w){id g:Nat}{et:TypeId}{es:List PV}(hm:m id=some (.arr 1 et es))(hg:(φ id).g=some g)(mm:Nat)(os:Array Obj)(dk:Array α)(hd:dk.size=es.length):av P G w0 μ φ (ak m id (.arr 1 et (ints (dk.toList.map val)))) (sortWorld enc w g 0 mm dk os):=by
 have hA:=hM.dy id _ hm;have hA:aF P μ φ w id 1 et es:=hA;obtain⟨a1,a2,a3,a4,a5,a6,a7⟩:=hA;rw[hg]at a7;obtain⟨c,T,c1,c2,c3,c4,c5⟩:=a7;have afG:g<w.heap.size:=(Array.getElem?_eq_some_iff.1 c1).1;have Ek:∀k,(Go.Sort.putRow enc (Go.Sort.ahead w mm) g 0 dk).heap[k]?=if k=g then some (.cells (Go.Sort.putCells enc 0 dk c) T (0,0))else w.heap[k]?:=fun k=>by
  unfold Go.Sort.putRow Go.Sort.mapBlock Go.Sort.ahead;simp only[Array.getElem?_modify];by_cases e:g=k
  ·subst e;simp[c1,Go.Sort.onCells]
  ·rw[if_neg e,if_neg fun h=>e h.symm]
 have Qc:(Go.Sort.putCells enc 0 dk c).size=c.size:=by simp[Go.Sort.putCells]
 have xB:∀k,k<dk.size→(Go.Sort.putCells enc 0 dk c)[k]?=some (enc dk[k]!):=fun k hk=>by
  unfold Go.Sort.putCells;rw[Array.getElem?_mapIdx];have hkc:k<c.size:=by omega
  rw[Array.getElem?_eq_getElem hkc];simp[hk]
 have hlen:(ints (dk.toList.map val)).length=es.length:=by simp[ints,hd]
 have er:∀(i:Nat)e,(ints (dk.toList.map val))[i]?=some e→i<dk.size∧e=.int .i64 (val dk[i]!):=fun i e he=>by
  simp only[ints,List.map_map,List.getElem?_map,Option.map_eq_some_iff]at he;obtain⟨x,hx,rfl⟩:=he;have hi:i<dk.size:=by have:=(List.getElem?_eq_some_iff.1 hx).1;simpa using this
  refine⟨hi,?_⟩;have:dk[i]! =x:=by rw[getElem!_pos dk i hi];simpa[hi]using hx
  rw[this];rfl
 have h1:av P G w0 μ φ (ak m id (.arr 1 et (ints (dk.toList.map val)))) (Go.Sort.putRow enc (Go.Sort.ahead w mm) g 0 dk):=by
  refine hM.write hm rfl hg ⟨⟨rfl,rfl,rfl,?_,fun k hk=>?_⟩,?_⟩ ?_ (fun k hk=>?_) ?_ rfl (by simp[bE.names])
  ·simp[Go.Sort.putRow,Go.Sort.mapBlock,Go.Sort.ahead]
  ·rw[Ek k,if_neg (by omega)]
  ·simp[Go.Sort.putRow,Go.Sort.mapBlock,Go.Sort.ahead]
  ·simp[Go.Sort.putRow,Go.Sort.mapBlock,Go.Sort.ahead]
  ·rw[Ek k,if_neg hk]
  ·show aF P μ φ _ id 1 et _;refine⟨by rw[a1,hlen],a2,a3,a4,fun i e he=>?_,a6,?_⟩
   ·obtain⟨_,rfl⟩:=er i e he;rfl
   ·rw[hg];refine⟨_,T,by rw[Ek g,if_pos rfl],by rw[Qc];exact c2,by rw[hlen];exact c3,fun i e j p x he hp hx=>?_,fun i x hi hx=>?_⟩
    ·obtain⟨hi,rfl⟩:=er i e he;have hj:j=0∧p=.int .i64 (val dk[i]!):=by
      cases j with
      |zero=>simp[PV.cells]at hp;exact⟨rfl,hp.symm⟩
      |succ j=>simp[PV.cells]at hp
     obtain⟨rfl,rfl⟩:=hj;rw[Nat.mul_one,Nat.add_zero,xB i hi]at hx;simp only[Option.some.injEq]at hx;subst hx;rw[XI];exact .int (zi _)
    ·rw[hlen,Nat.mul_one]at hi;rw[xB i (by omega)]at hx;simp only[Option.some.injEq]at hx;subst hx;rw[XI];rfl
 refine h1.later ?_;refine⟨⟨rfl,rfl,rfl,?_,fun k hk=>?_⟩,fun _=>Nat.le_refl _⟩
 ·simp[sortWorld,Go.Sort.grow]
 ·unfold sortWorld Go.Sort.grow;rw[Array.getElem?_append_left hk]
end
theorem JU{m:Mem}{id:Nat}{b:bE}(h:m id=some b):ak m id b=m:=by
 funext j;by_cases e:j=id
 ·subst e;rw[aK,h]
 ·rw[al e]
end Go.Ab
