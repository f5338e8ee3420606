import Derived.Test.YtanikidijjaohaaGreatAbSort
import Derived.Shelf.SlSortCmp.NoneTotal
set_option linter.unusedVariables false
set_option linter.unusedSimpArgs false
namespace Go.Ab
open Go.Proofs Go.Shelf
set_option maxRecDepth 100000
section
variable {P:Program} {G:Nat→Option (List PV)} {w0:bu} {μ:Ro} {φ:Nat→aA} {m:Mem} {w w':World}
theorem TS(h:kv w.heap.size w w'):∃q os',w'=Go.Sort.grow (w.drewN q) os':=by
 refine⟨w'.drawn-w.drawn,w'.heap.extract w.heap.size w'.heap.size,?_⟩;have hd:=h.drawn rfl;have hs:=h.size;obtain⟨h1,t1,d1,o1,u1⟩:=w;obtain⟨h2,t2,d2,o2,u2⟩:=w';have e1:=h.os;have e2:=h.tape;have e3:=h.output;have e4:=h.block;simp only at hd hs e1 e2 e3 e4;subst e1;subst e2;subst e3;unfold Go.Sort.grow World.drewN;simp only[World.mk.injEq,ajZ,true_and];refine⟨?_,by omega⟩;apply Array.ext
 ·simp;omega
 ·intro i ZR hi2;rw[Array.getElem_append];split
  ·rename_i bS;have:=e4 i bS;rw[OF ZR,OF bS]at this;simpa using this
  ·rename_i EF;simp only[Array.getElem_extract];congr 1;omega
theorem aw.Yl(hM:aw P G w0 μ φ m w)(hb:kv w.heap.size w w'):aw P G w0 μ φ m w':=by
 refine⟨hM.below.trans (hb.mono hM.below.size),fun b o h=>?_,hM.aH,fun id b h=>?_,hM.own,hM.inj,hM.apart,hM.fy,hM.base,hM.dx,fun id st h=>?_⟩
 rotate_right
 ·obtain⟨g,rc,h1,h2,h3⟩:=hM.A5 id st h;exact⟨g,rc,h1,h2,by rw[hb.block g (YH.1 h3).1];exact h3⟩
 ·have:=hM.ro b o h;rw[hb.block b (YH.1 this).1];exact this
 ·have hR:=hM.du id b h;exact hR.cr (fun _ _=>rfl) rfl (fun _ _ h=>h) (fun g hg=>hb.block g (hR.CH hg))
theorem aw.row{α:Type}[Inhabited α](enc:α→Value)(val:α→Int)(WB:∀x,enc x=.int .i64 (val x))(yV:∀x,(Lit.int .i64 (val x)).wf=true)(hM:aw P G w0 μ φ m w){id g:Nat}{et:TypeId}{es:List PV}(hm:m id=some (.arr 1 et es))(hg:(φ id).g=some g)(mm:Nat)(os:Array Obj)(dk:Array α)(hd:dk.size=es.length):aw P G w0 μ φ (al m id (.arr 1 et (ints (dk.toList.map val)))) (sortWorld enc w g 0 mm dk os):=by
 have hA:=hM.du id _ hm;have hA:aK P μ φ w id 1 et es:=hA;obtain⟨a1,a2,a3,a4,a5,a6,a7⟩:=hA;rw[hg]at a7;obtain⟨c,T,c1,c2,c3,c4,c5⟩:=a7;have aeU:g<w.heap.size:=(YH.1 c1).1;have Dy:∀k,(Go.Sort.putRow enc (Go.Sort.ahead w mm) g 0 dk).heap[k]?=if k=g then some (.cells (Go.Sort.putCells enc 0 dk c) T (0,0))else w.heap[k]?:=fun k=>by
  unfold Go.Sort.putRow Go.Sort.mapBlock Go.Sort.ahead;simp only[aia];by_cases e:g=k
  ·subst e;simp[c1,Go.Sort.onCells]
  ·rw[IN e,IN fun h=>e h.symm]
 have Sf:(Go.Sort.putCells enc 0 dk c).size=c.size:=by simp[Go.Sort.putCells]
 have xh:∀k,k<dk.size→(Go.Sort.putCells enc 0 dk c)[k]?=some (enc dk[k]!):=fun k hk=>by
  unfold Go.Sort.putCells;rw[ajE];have hkc:k<c.size:=by omega
  rw[OF hkc];simp[hk]
 have hlen:(ints (dk.toList.map val)).length=es.length:=by simp[ints,hd]
 have eH:∀(i:Nat)e,(ints (dk.toList.map val))[i]?=some e→i<dk.size∧e=.int .i64 (val dk[i]!):=fun i e he=>by
  simp only[ints,aiK,IS,aaO]at he;obtain⟨x,hx,rfl⟩:=he;have hi:i<dk.size:=by have:=(HO.1 hx).1;simpa using this
  refine⟨hi,?_⟩;have:dk[i]! =x:=by rw[getElem!_pos dk i hi];simpa[hi]using hx
  rw[this];rfl
 have h1:aw P G w0 μ φ (al m id (.arr 1 et (ints (dk.toList.map val)))) (Go.Sort.putRow enc (Go.Sort.ahead w mm) g 0 dk):=by
  refine hM.write hm rfl hg ⟨⟨rfl,rfl,rfl,?_,fun k hk=>?_⟩,?_⟩ ?_ (fun k hk=>?_) ?_ rfl (by simp[bF.names])
  ·simp[Go.Sort.putRow,Go.Sort.mapBlock,Go.Sort.ahead]
  ·rw[Dy k,IN (by omega)]
  ·simp[Go.Sort.putRow,Go.Sort.mapBlock,Go.Sort.ahead]
  ·simp[Go.Sort.putRow,Go.Sort.mapBlock,Go.Sort.ahead]
  ·rw[Dy k,IN hk]
  ·show aK P μ φ _ id 1 et _;refine⟨by rw[a1,hlen],a2,a3,a4,fun i e he=>?_,a6,?_⟩
   ·obtain⟨_,rfl⟩:=eH i e he;rfl
   ·rw[hg];refine⟨_,T,by rw[Dy g,BY rfl],by rw[Sf];exact c2,by rw[hlen];exact c3,fun i e j p x he hp hx=>?_,fun i x hi hx=>?_⟩
    ·obtain⟨hi,rfl⟩:=eH i e he;have hj:j=0∧p=.int .i64 (val dk[i]!):=by
      cases j with
      |zero=>simp[PV.cells]at hp;exact⟨rfl,hp.symm⟩
      |succ j=>simp[PV.cells]at hp
     obtain⟨rfl,rfl⟩:=hj;rw[Nat.mul_one,ahL,xh i hi]at hx;simp only[AI]at hx;subst hx;rw[WB];exact .int (yV _)
    ·rw[hlen,Nat.mul_one]at hi;rw[xh i (by omega)]at hx;simp only[AI]at hx;subst hx;rw[WB];rfl
 refine h1.Yl ?_;refine⟨⟨rfl,rfl,rfl,?_,fun k hk=>?_⟩,fun _=>agM _⟩
 ·simp[sortWorld,Go.Sort.grow]
 ·unfold sortWorld Go.Sort.grow;rw[ahO hk]
end
theorem I3{m:Mem}{id:Nat}{b:bF}(h:m id=some b):al m id b=m:=by
 funext j;by_cases e:j=id
 ·subst e;rw[bm,h]
 ·rw[ao e]
end Go.Ab
