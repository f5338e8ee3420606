import Derived.Test.YtoaknfoobjnjgaaGreatAbSort
import Derived.Shelf.SlSortCmp.NoneTotal
set_option linter.all false
namespace Go.Ab
open Go.Proofs Go.Shelf
set_option maxRecDepth 100000
section
variable {P:Program} {G:Nat→Option (List PV)} {w0:bl} {μ:Ro} {φ:Nat→aK} {m:Mem} {w w':World}
theorem Yp(h:lr w.heap.size w w'):∃q os',w'=Go.Sort.grow (w.drewN q) os':=by refine⟨w'.drawn-w.drawn,w'.heap.extract w.heap.size w'.heap.size,?_⟩;have hd:=h.drawn rfl;have hs:=h.size;obtain⟨h1,t1,d1,o1,u1⟩:=w;obtain⟨h2,t2,d2,o2,u2⟩:=w';have e1:=h.os;have e2:=h.tape;have e3:=h.output;have e4:=h.block;simp only at hd hs e1 e2 e3 e4;subst e1;subst e2;subst e3;unfold Go.Sort.grow World.drewN;simp only[World.mk.injEq,aqX,true_and];grind
theorem aG.later(hM:aG P G w0 μ φ m w)(hb:lr w.heap.size w w'):aG P G w0 μ φ m w':=by
 refine⟨hM.below.trans (hb.mono hM.below.size),fun b o h=>?_,hM.aF,fun id b h=>?_,hM.own,hM.inj,hM.apart,hM.fJ,hM.base,hM.dG,fun id st h=>?_,fun k o h=>⟨by rw[hb.block k (adW.1 (hM.hid k o h).1).1];exact(hM.hid k o h).1,(hM.hid k o h).2⟩⟩
 rotate_right
 ·obtain⟨g,rc,h1,h2,h3⟩:=hM.DL id st h;exact⟨g,rc,h1,h2,by rw[hb.block g (adW.1 h3).1];omega⟩
 ·have:=hM.ro b o h;rw[hb.block b (adW.1 this).1];omega
 ·have hR:=hM.dF id b h;exact hR.cG (fun _ _=>rfl) rfl (fun _ _ h=>h) (fun g hg=>hb.block g (hR.FU hg))
theorem aG.row{α:Type}[Inhabited α](enc:α→Value)(val:α→Int)(afL:∀x,enc x=.int .i64 (val x))(JU:∀x,(Lit.int .i64 (val x)).wf=true)(hM:aG P G w0 μ φ m w){id g:Nat}{et:TypeId}{es:List PV}(hm:m id=some (.arr 1 et es))(hg:(φ id).g=some g)(mm:Nat)(os:Array Obj)(dk:Array α)(hd:dk.size=es.length):aG P G w0 μ φ (aB m id (.arr 1 et (ints (dk.toList.map val)))) (sortWorld enc w g 0 mm dk os):=by
 have hA:=hM.dF id _ hm;have hA:aP P μ φ w id 1 et es:=hA;obtain⟨a1,a2,a3,a4,a5,a6,a7⟩:=hA;rw[hg]at a7;obtain⟨c,T,c1,c2,c3,c4,c5⟩:=a7;have alQ:g<w.heap.size:=(adW.1 c1).1;have Ol:∀k,(Go.Sort.putRow enc (Go.Sort.ahead w mm) g 0 dk).heap[k]?=if k=g then some (.cells (Go.Sort.putCells enc 0 dk c) T (0,0))else w.heap[k]?:=fun k=>by
  unfold Go.Sort.putRow Go.Sort.mapBlock Go.Sort.ahead;simp only[ao0];by_cases e:g=k
  ·simp_all[Go.Sort.onCells]
  grind
 have Jk:(Go.Sort.putCells enc 0 dk c).size=c.size:=by simp[Go.Sort.putCells]
 have CM:∀k,k<dk.size→(Go.Sort.putCells enc 0 dk c)[k]?=some (enc dk[k]!):=fun k hk=>by grind [Go.Sort.putCells,Array.getElem?_eq_getElem]
 have hlen:(ints (dk.toList.map val)).length=es.length:=by simp[ints,hd]
 have eE:∀(i:Nat)e,(ints (dk.toList.map val))[i]?=some e→i<dk.size∧e=.int .i64 (val dk[i]!):=fun i e he=>by simp only[ints,ao8,AT,ae0]at he;grind
 have h1:aG P G w0 μ φ (aB m id (.arr 1 et (ints (dk.toList.map val)))) (Go.Sort.putRow enc (Go.Sort.ahead w mm) g 0 dk):=by
  refine hM.write hm rfl hg ⟨⟨rfl,rfl,rfl,?_,fun k hk=>?_⟩,?_⟩ ?_ (fun k hk=>?_) ?_ rfl (by simp[bI.names])
  ·simp_all
  ·grind
  ·simp_all
  ·simp_all
  ·rw[Ol k,IT hk]
  ·show aP P μ φ _ id 1 et _;refine⟨by omega,a2,a3,a4,fun i e he=>?_,a6,?_⟩
   ·obtain⟨_,rfl⟩:=eE i e he;rfl
   ·rw[hg];refine⟨_,T,by rw[Ol g,BY rfl],by omega,by omega,fun i e j p x he hp hx=>?_,fun i x hi hx=>?_⟩
    ·obtain⟨hi,rfl⟩:=eE i e he;have hj:j=0∧p=.int .i64 (val dk[i]!):=by
      cases j with
      |zero=>simp[PV.cells]at hp;exact⟨rfl,hp.symm⟩
      |succ j=>simp[PV.cells]at hp
     obtain⟨rfl,rfl⟩:=hj;rw[Nat.mul_one,apn,CM i hi]at hx;simp only[tb]at hx;subst hx;rw[afL];exact .int (JU _)
    ·rw[hlen,Nat.mul_one]at hi;rw[CM i (by omega)]at hx;simp only[tb]at hx;subst hx;rw[afL];rfl
 refine h1.later ?_;refine⟨⟨rfl,rfl,rfl,?_,fun k hk=>?_⟩,fun _=>anz _⟩
 ·simp[sortWorld,Go.Sort.grow]
 simp_all[sortWorld,Go.Sort.grow,aoJ]
end
theorem Om{m:Mem}{id:Nat}{b:bI}(h:m id=some b):aB m id b=m:=by funext j;grind [id,bB,aA]
end Go.Ab
