import Derived.Test.YtmbihgjlollbeaaGreatAbSort
import Derived.Shelf.SlSortCmp.NoneTotal
set_option linter.unusedVariables false
set_option linter.unusedSimpArgs false
namespace Go.Ab
open Go.Proofs Go.Shelf
set_option maxRecDepth 100000
section
variable {P:Program} {G:Nat→Option (List PV)} {w0:bw} {μ:Ro} {φ:Nat→aA} {m:Mem} {w w':World}
theorem Ve(h:jS w.heap.size w w'):∃q os',w'=Go.Sort.grow (w.drewN q) os':=by
 refine⟨w'.drawn-w.drawn,w'.heap.extract w.heap.size w'.heap.size,?_⟩;have hd:=h.drawn rfl;have hs:=h.size;obtain⟨h1,t1,d1,o1,u1⟩:=w;obtain⟨h2,t2,d2,o2,u2⟩:=w';have e1:=h.os;have e2:=h.tape;have e3:=h.output;have e4:=h.block;simp only at hd hs e1 e2 e3 e4;subst e1;subst e2;subst e3;unfold Go.Sort.grow World.drewN;simp only[World.mk.injEq,and_true,true_and];refine⟨?_,by omega⟩;apply Array.ext
 ·simp;omega
 ·intro i hi1 hi2;rw[Array.getElem_append];split
  ·rename_i bT;have:=e4 i bT;rw[IN hi1,IN bT]at this;simpa using this
  ·rename_i Fi;simp only[Array.getElem_extract];congr 1;omega
theorem av.later(hM:av P G w0 μ φ m w)(hb:jS w.heap.size w w'):av P G w0 μ φ m w':=by
 refine⟨hM.below.trans (hb.mono hM.below.size),fun b o h=>?_,hM.aF,fun id b h=>?_,hM.own,hM.inj,hM.apart,hM.fu,hM.base,hM.dy,fun id st h=>?_⟩
 rotate_right
 ·obtain⟨g,rc,h1,h2,h3⟩:=hM.BH id st h;exact⟨g,rc,h1,h2,by rw[hb.block g (OF.1 h3).1];exact h3⟩
 ·have:=hM.ro b o h;rw[hb.block b (OF.1 this).1];exact this
 ·have hR:=hM.dw id b h;exact hR.cn (fun _ _=>rfl) rfl (fun _ _ h=>h) (fun g hg=>hb.block g (hR.Dl hg))
theorem av.row{α:Type}[Inhabited α](enc:α→Value)(val:α→Int)(XO:∀x,enc x=.int .i64 (val x))(zi:∀x,(Lit.int .i64 (val x)).wf=true)(hM:av P G w0 μ φ m w){id g:Nat}{et:TypeId}{es:List PV}(hm:m id=some (.arr 1 et es))(hg:(φ id).g=some g)(mm:Nat)(os:Array Obj)(dk:Array α)(hd:dk.size=es.length):av P G w0 μ φ (al m id (.arr 1 et (ints (dk.toList.map val)))) (sortWorld enc w g 0 mm dk os):=by
 have hA:=hM.dw id _ hm;have hA:aH P μ φ w id 1 et es:=hA;obtain⟨a1,a2,a3,a4,a5,a6,a7⟩:=hA;rw[hg]at a7;obtain⟨c,T,c1,c2,c3,c4,c5⟩:=a7;have agS:g<w.heap.size:=(OF.1 c1).1;have Eg:∀k,(Go.Sort.putRow enc (Go.Sort.ahead w mm) g 0 dk).heap[k]?=if k=g then some (.cells (Go.Sort.putCells enc 0 dk c) T (0,0))else w.heap[k]?:=fun k=>by
  unfold Go.Sort.putRow Go.Sort.mapBlock Go.Sort.ahead;simp only[ajR];by_cases e:g=k
  ·subst e;simp[c1,Go.Sort.onCells]
  ·rw[By e,By fun h=>e h.symm]
 have Tz:(Go.Sort.putCells enc 0 dk c).size=c.size:=by simp[Go.Sort.putCells]
 have xx:∀k,k<dk.size→(Go.Sort.putCells enc 0 dk c)[k]?=some (enc dk[k]!):=fun k hk=>by
  unfold Go.Sort.putCells;rw[alb];have hkc:k<c.size:=by omega
  rw[IN hkc];simp[hk]
 have hlen:(ints (dk.toList.map val)).length=es.length:=by simp[ints,hd]
 have fh:∀(i:Nat)e,(ints (dk.toList.map val))[i]?=some e→i<dk.size∧e=.int .i64 (val dk[i]!):=fun i e he=>by
  simp only[ints,akt,GP,Yo]at he;obtain⟨x,hx,rfl⟩:=he;have hi:i<dk.size:=by have:=(AT.1 hx).1;simpa using this
  refine⟨hi,?_⟩;have:dk[i]! =x:=by rw[getElem!_pos dk i hi];simpa[hi]using hx
  rw[this];rfl
 have h1:av P G w0 μ φ (al m id (.arr 1 et (ints (dk.toList.map val)))) (Go.Sort.putRow enc (Go.Sort.ahead w mm) g 0 dk):=by
  refine hM.write hm rfl hg ⟨⟨rfl,rfl,rfl,?_,fun k hk=>?_⟩,?_⟩ ?_ (fun k hk=>?_) ?_ rfl (by simp[bF.names])
  ·simp[Go.Sort.putRow,Go.Sort.mapBlock,Go.Sort.ahead]
  ·rw[Eg k,By (by omega)]
  ·simp[Go.Sort.putRow,Go.Sort.mapBlock,Go.Sort.ahead]
  ·simp[Go.Sort.putRow,Go.Sort.mapBlock,Go.Sort.ahead]
  ·rw[Eg k,By hk]
  ·show aH P μ φ _ id 1 et _;refine⟨by rw[a1,hlen],a2,a3,a4,fun i e he=>?_,a6,?_⟩
   ·obtain⟨_,rfl⟩:=fh i e he;rfl
   ·rw[hg];refine⟨_,T,by rw[Eg g,AI rfl],by rw[Tz];exact c2,by rw[hlen];exact c3,fun i e j p x he hp hx=>?_,fun i x hi hx=>?_⟩
    ·obtain⟨hi,rfl⟩:=fh i e he;have hj:j=0∧p=.int .i64 (val dk[i]!):=by
      cases j with
      |zero=>simp[PV.cells]at hp;exact⟨rfl,hp.symm⟩
      |succ j=>simp[PV.cells]at hp
     obtain⟨rfl,rfl⟩:=hj;rw[Nat.mul_one,akj,xx i hi]at hx;simp only[cN]at hx;subst hx;rw[XO];exact .int (zi _)
    ·rw[hlen,Nat.mul_one]at hi;rw[xx i (by omega)]at hx;simp only[cN]at hx;subst hx;rw[XO];rfl
 refine h1.later ?_;refine⟨⟨rfl,rfl,rfl,?_,fun k hk=>?_⟩,fun _=>aiJ _⟩
 ·simp[sortWorld,Go.Sort.grow]
 ·unfold sortWorld Go.Sort.grow;rw[ajA hk]
end
theorem Kj{m:Mem}{id:Nat}{b:bF}(h:m id=some b):al m id b=m:=by
 funext j;by_cases e:j=id
 ·subst e;rw[bm,h]
 ·rw[ao e]
end Go.Ab
