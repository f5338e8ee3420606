import Derived.Test.YteddgaennnfacaaGreatAbSort
import Derived.Shelf.SlSortCmp.NoneTotal
set_option linter.all false
namespace Go.Ab
open Go.Proofs Go.Shelf
set_option maxRecDepth 100000
section
variable {P:Program} {G:Nat→Option (List PV)} {w0:bE} {μ:Ro} {φ:Nat→aI} {m:Mem} {w w':World}
theorem Yi(h:lL w.heap.size w w'):∃q os',w'=Go.Sort.grow (w.drewN q) os':=by refine⟨w'.drawn-w.drawn,w'.heap.extract w.heap.size w'.heap.size,?_⟩;have hd:=h.drawn rfl;have hs:=h.size;obtain⟨h1,t1,d1,o1,u1⟩:=w;obtain⟨h2,t2,d2,o2,u2⟩:=w';have e1:=h.os;have e2:=h.tape;have e3:=h.output;have e4:=h.block;simp only at hd hs e1 e2 e3 e4;subst e1;subst e2;subst e3;unfold Go.Sort.grow World.drewN;simp only[World.mk.injEq,aot,true_and];grind
theorem aA.later(hM:aA P G w0 μ φ m w)(hb:lL w.heap.size w w'):aA P G w0 μ φ m w':=by
 refine⟨hM.below.trans (hb.mono hM.below.size),fun b o h=>?_,hM.aM,fun id b h=>?_,hM.own,hM.inj,hM.apart,hM.fT,hM.base,hM.dK,fun id st h=>?_⟩
 rotate_right
 ·obtain⟨g,rc,h1,h2,h3⟩:=hM.Gd id st h;exact⟨g,rc,h1,h2,by rw[hb.block g (alm.1 h3).1];omega⟩
 ·have:=hM.ro b o h;rw[hb.block b (alm.1 this).1];omega
 ·have hR:=hM.dJ id b h;exact hR.cz (fun _ _=>rfl) rfl (fun _ _ h=>h) (fun g hg=>hb.block g (hR.HP hg))
theorem aA.row{α:Type}[Inhabited α](enc:α→Value)(val:α→Int)(ad9:∀x,enc x=.int .i64 (val x))(KA:∀x,(Lit.int .i64 (val x)).wf=true)(hM:aA P G w0 μ φ m w){id g:Nat}{et:TypeId}{es:List PV}(hm:m id=some (.arr 1 et es))(hg:(φ id).g=some g)(mm:Nat)(os:Array Obj)(dk:Array α)(hd:dk.size=es.length):aA P G w0 μ φ (aw m id (.arr 1 et (ints (dk.toList.map val)))) (sortWorld enc w g 0 mm dk os):=by
 have hA:=hM.dJ id _ hm;have hA:aN P μ φ w id 1 et es:=hA;obtain⟨a1,a2,a3,a4,a5,a6,a7⟩:=hA;rw[hg]at a7;obtain⟨c,T,c1,c2,c3,c4,c5⟩:=a7;have ajQ:g<w.heap.size:=(alm.1 c1).1;have N8:∀k,(Go.Sort.putRow enc (Go.Sort.ahead w mm) g 0 dk).heap[k]?=if k=g then some (.cells (Go.Sort.putCells enc 0 dk c) T (0,0))else w.heap[k]?:=fun k=>by
  unfold Go.Sort.putRow Go.Sort.mapBlock Go.Sort.ahead;simp only[amQ];by_cases e:g=k
  ·simp_all[Go.Sort.onCells]
  grind
 have JZ:(Go.Sort.putCells enc 0 dk c).size=c.size:=by simp[Go.Sort.putCells]
 have D2:∀k,k<dk.size→(Go.Sort.putCells enc 0 dk c)[k]?=some (enc dk[k]!):=fun k hk=>by grind [Go.Sort.putCells,Array.getElem?_eq_getElem]
 have hlen:(ints (dk.toList.map val)).length=es.length:=by simp[ints,hd]
 have fo:∀(i:Nat)e,(ints (dk.toList.map val))[i]?=some e→i<dk.size∧e=.int .i64 (val dk[i]!):=fun i e he=>by simp only[ints,am0,IS,alg]at he;grind
 have h1:aA P G w0 μ φ (aw m id (.arr 1 et (ints (dk.toList.map val)))) (Go.Sort.putRow enc (Go.Sort.ahead w mm) g 0 dk):=by
  refine hM.write hm rfl hg ⟨⟨rfl,rfl,rfl,?_,fun k hk=>?_⟩,?_⟩ ?_ (fun k hk=>?_) ?_ rfl (by simp[bK.names])
  ·simp_all
  ·grind
  ·simp_all
  ·simp_all
  ·rw[N8 k,acB hk]
  ·show aN P μ φ _ id 1 et _;refine⟨by omega,a2,a3,a4,fun i e he=>?_,a6,?_⟩
   ·obtain⟨_,rfl⟩:=fo i e he;rfl
   ·rw[hg];refine⟨_,T,by rw[N8 g,T0 rfl],by omega,by omega,fun i e j p x he hp hx=>?_,fun i x hi hx=>?_⟩
    ·obtain⟨hi,rfl⟩:=fo i e he;have hj:j=0∧p=.int .i64 (val dk[i]!):=by
      cases j with
      |zero=>simp[PV.cells]at hp;exact⟨rfl,hp.symm⟩
      |succ j=>simp[PV.cells]at hp
     obtain⟨rfl,rfl⟩:=hj;rw[Nat.mul_one,am1,D2 i hi]at hx;simp only[By]at hx;subst hx;rw[ad9];exact .int (KA _)
    ·rw[hlen,Nat.mul_one]at hi;rw[D2 i (by omega)]at hx;simp only[By]at hx;subst hx;rw[ad9];rfl
 refine h1.later ?_;refine⟨⟨rfl,rfl,rfl,?_,fun k hk=>?_⟩,fun _=>alz _⟩
 ·simp[sortWorld,Go.Sort.grow]
 simp_all[sortWorld,Go.Sort.grow,amy]
end
theorem N9{m:Mem}{id:Nat}{b:bK}(h:m id=some b):aw m id b=m:=by funext j;grind [id,bW,ax]
end Go.Ab
