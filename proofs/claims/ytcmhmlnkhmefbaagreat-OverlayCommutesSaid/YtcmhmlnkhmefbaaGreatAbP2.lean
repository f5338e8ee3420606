import Derived.Test.YtcmhmlnkhmefbaaGreatAbP1
import Derived.Laws.StructEq
import Derived.ChangeKeysEq
set_option linter.unusedVariables false
namespace Go.Ab
open Go.RowKit (Below)
section
variable {P:Program} {G:Nat→Option (List PV)} {w0:bx} {μ:Ro} {φ:Nat→aF} {m:Mem} {w:World}
theorem toCells_ok{n:Nat}{v:V}{cs:List V}(h:toCells n v=some cs):cs.length=n∧(∀id,cq id cs=true→v.has id=true)∧∀(P:Program)(μ:Ro)(φ:Nat→aF)(x:Value),ai P μ φ v x→x.cells.size=n∧(∀(i:Nat)u y,cs[i]?=some u→x.cells[i]?=some y→ai P μ φ u y)∧(∀(i:Nat)(y:Value),x.cells[i]?=some y→y.oneCell'=true):=by
 have one:∀(v:V),(∀(P:Program)(μ:Ro)(φ:Nat→aF)(x:Value),ai P μ φ v x→x.oneCell'=true∧x.cells= #[x])→(if n=1 then some [v]else none)=some cs→cs.length=n∧(∀id,cq id cs=true→v.has id=true)∧∀(P:Program)(μ:Ro)(φ:Nat→aF)(x:Value),ai P μ φ v x→x.cells.size=n∧(∀(i:Nat)u y,cs[i]?=some u→x.cells[i]?=some y→ai P μ φ u y)∧(∀(i:Nat)(y:Value),x.cells[i]?=some y→y.oneCell'=true):=by
  intro v h1 h;split at h
  ·rename_i hn;simp only[Option.some.injEq]at h;subst h;subst hn;refine⟨rfl,fun id hid=>by simpa[cq]using hid,fun P μ φ x hx=>?_⟩;obtain⟨h2,h3⟩:=h1 _ _ _ _ hx;rw[h3];refine⟨rfl,fun i u y hu hy=>?_,fun i y hy=>?_⟩
   ·cases i with
    |zero=>simp at hu hy;subst hu;subst hy;exact hx
    |succ i=>simp at hu
   ·cases i with
    |zero=>simp at hy;subst hy;exact h2
    |succ i=>simp at hy
  ·cases h
 have W2:∀x:Value,x.oneCell'=true→x.cells= #[x]:=by intro x hx;cases x<;>first|rfl|(simp[Value.oneCell']at hx)
 unfold toCells at h;split at h
 ·rename_i ps;split at h
  ·rename_i hn;simp only[Option.some.injEq]at h;subst h;refine⟨by simpa using hn,fun id hid=>(by rw[Ms]at hid;cases hid),fun P μ φ x hx=>?_⟩;cases hx with
   |pv hx=>cases hx with
    |agg h1 h2 h3=>refine⟨by simp only[Value.cells];omega,fun i u y hu hy=>?_,h3⟩;simp only[List.getElem?_map,Option.map_eq_some_iff]at hu;obtain⟨q,hq,rfl⟩:=hu;exact .pv (h2 i q y hq hy)
  ·cases h
 ·split at h
  ·rename_i hn;simp only[Option.some.injEq]at h;subst h;refine⟨hn,fun id hid=>by simpa[V.has]using hid,fun P μ φ x hx=>?_⟩;cases hx with
   |agg h1 h2 h3=>exact⟨by simp only[Value.cells];omega,h2,h3⟩
  ·cases h
 ·cases h
 ·cases h
 ·cases h
 ·cases h
 ·rename_i h1 h2 h3 h4 h5 h6;refine one v (fun P μ φ x hx=>?_) h;have:x.oneCell'=true:=by
   cases hx with
   |pv hp=>exact hp.one (fun cs e=>h1 cs (by rw[e])) (fun cs e=>h5 cs (by rw[e])) (fun e=>h6 (by rw[e]))
   |agg=>exact absurd rfl (h2 _)
   |bm=>exact absurd rfl (h4 _)
   |top=>exact absurd rfl h3
   |_=>rfl
  exact⟨this,W2 x this⟩
theorem qU:∀(d:Nat){v:V}{p:PV}{x:Value},jj dd d v=some p→ai P μ φ v x→aj P μ p x
 |0,v,p,x,h,_=>by simp[jj]at h
 |d+1,v,p,x,h,hx=>by
  have ih:=fun{v p x}=> @qU d v p x;cases v with
  |pv q=>simp[jj]at h;subst h;cases hx with|pv hx=>exact hx
  |bj=>simp[jj]at h;subst h;cases hx;exact .jl
  |agg cs=>
   simp only[jj]at h;obtain⟨ps,lZ,h⟩:=Option.bind_eq_some_iff.1 h;simp only[Option.some.injEq]at h;subst h;obtain⟨h1,h2⟩:=gD lZ;cases hx with
   |agg g1 g2 g3=>refine .agg (by omega) (fun i q y hq hy=>?_) g3;obtain⟨u,hu,hg⟩:=h2 i q hq;exact ih hg (g2 i u y hu hy)
  |bm cs=>
   simp only[jj]at h;obtain⟨ps,lZ,h⟩:=Option.bind_eq_some_iff.1 h;simp only[Option.some.injEq]at h;subst h;obtain⟨h1,h2⟩:=gD lZ;cases hx with
   |bm g1 g2=>refine .bm (by omega) (fun i q y hq hy=>?_);obtain⟨u,hu,hg⟩:=h2 i q hq;exact ih hg (g2 i u y hu hy)
  |op id off=>simp[jj,dd]at h
  |oe id i off=>simp[jj,dd]at h
  |os id=>simp[jj,dd]at h
  |fg id lo len=>simp[jj,dd]at h
  |sY id i off=>simp[jj,dd]at h
  |wC id i off s j off2=>simp[jj]at h
  |om id=>simp[jj,dd]at h
  |fn f cs=>
   simp only[jj]at h;obtain⟨ps,lZ,h⟩:=Option.bind_eq_some_iff.1 h;simp only[Option.some.injEq]at h;subst h;obtain⟨h1,h2⟩:=gD lZ;cases hx with
   |fn g1 g2=>refine .fn (by omega) (fun i q y hq hy=>?_);obtain⟨u,hu,hg⟩:=h2 i q hq;exact ih hg (g2 i u y hu hy)
  |yl id=>simp[jj]at h
  |it id=>simp[jj]at h
  |top=>simp[jj]at h
def iL(w:World):Ro:=fun b=>w.heap[b]?
theorem ax.uH(hM:ax P G w0 μ φ m w):∀b o,μ b=some o→iL w b=some o:=hM.ro
variable{id s:Nat}{et:TypeId}{es:List PV}{ν:Ro}
theorem aL.Et(hA:aL P μ φ w id s et es){g:Nat}(hg:(φ id).g=some g){lo len:Nat}(hl:lo+len≤es.length){cap:Nat}(mY:cap≤(φ id).cap-lo)(ZN:len≤cap)(hν:∀b o,μ b=some o→ν b=some o)(A8:ν g=w.heap[g]?):aj P ν (.rs s ((es.drop lo).take len)) (.slice (some ⟨g,lo*s,none⟩) len cap):=by
 have hle:=hA.mB;obtain⟨a1,a2,a3,a4,a5,a6,a7⟩:=hA;rw[hg]at a7;obtain⟨c,c1,c2,c3,c4,c5⟩:=a7;have eI:∀(i:Nat)e,((es.drop lo).take len)[i]?=some e→i<len∧es[lo+i]?=some e:=fun i e hi=>dN hi;have hlen:((es.drop lo).take len).length=len:=by simp;omega
 have hb:∀(i:Nat)e(j:Nat)p,((es.drop lo).take len)[i]?=some e→e.cells[j]?=some p→(lo+i)*s+j<es.length*s:=by intro i e j p hi hj;obtain⟨_,hi⟩:=eI i e hi;have h1:=(List.getElem?_eq_some_iff.1 hi).1;have h2:=(List.getElem?_eq_some_iff.1 hj).1;have h3:=a5 _ e hi;have:(lo+i+1)*s≤es.length*s:=Nat.mul_le_mul_right _ (by omega);rw[Nat.add_mul _ 1]at this;omega
 have hc:∀(i:Nat)e(j:Nat)p,((es.drop lo).take len)[i]?=some e→e.cells[j]?=some p→c[(lo+i)*s+j]?=some (c.getD ((lo+i)*s+j) undef):=by
  intro i e j p hi hj;obtain⟨_,hi⟩:=eI i e hi;have h1:=(List.getElem?_eq_some_iff.1 hi).1;have h2:=(List.getElem?_eq_some_iff.1 hj).1;have h3:=a5 _ e hi;have:(lo+i+1)*s≤(φ id).cap*s:=Nat.mul_le_mul_right _ (by omega);rw[Nat.add_mul _ 1]at this;have br:(lo+i)*s+j<c.size:=by omega
  rw[Array.getElem?_eq_getElem br];simp[Array.getD,br]
 have:=aj.rs (P:=P) (μ:=ν) (sz:=s) (es:=(es.drop lo).take len) (b:=g) (o:=lo*s) (cap:=cap) (fun i j=>c.getD ((lo+i)*s+j) undef) (by omega) (by omega) (fun i e hi=>a5 _ e (eI i e hi).2) (fun i e j p hi hj=>by have:=hc i e j p hi hj;unfold cellAt;rw[A8,c1];simp only;rw[←this,Nat.add_mul]) (fun i e j p hi hj=>((c4 _ e j p _ (eI i e hi).2 hj (hc i e j p hi hj)).mono hν)) (fun i e j p hi hj=>c5 _ _ (hb i e j p hi hj) (hc i e j p hi hj));rw[hlen]at this;exact this
theorem aL.slice(hM:ax P G w0 μ φ m w)(hA:aL P μ φ w id s et es){g:Nat}(hg:(φ id).g=some g){lo len:Nat}(hl:lo+len≤es.length)(hν:∀b o,μ b=some o→ν b=some o)(A8:ν g=w.heap[g]?):aj P ν (.rs s ((es.drop lo).take len)) (.slice (some ⟨g,lo*s,none⟩) len ((φ id).cap-lo)):=hA.Et hg hl (Nat.le_refl _) (by have:=hA.mB;omega) hν A8
variable{x:Value}
theorem aL.Dg(hA:aL P μ φ w id s et es)(hx:ai P μ φ (.os id) x)(hν:∀b o,μ b=some o→ν b=some o)(A8:∀g,(φ id).g=some g→ν g=w.heap[g]?):aj P ν (.rs s es) x:=by
 have sT:=hA;obtain⟨a1,a2,a3,a4,a5,a6,a7⟩:=hA;cases hx with
 |pA hg=>rw[hg]at a7;rw[a7.1];exact .jl
 | @os _ g hg=>have hle:=sT.mB;have:=sT.Et hg (lo:=0) (len:=es.length) (by omega) (cap:=(φ id).cap) (by omega) hle.1 hν (A8 g hg);rw[a1];simpa using this
theorem aL.full(hM:ax P G w0 μ φ m w)(hA:aL P μ φ w id s et es)(hx:ai P μ φ (.os id) x)(hν:∀b o,μ b=some o→ν b=some o)(A8:∀g,(φ id).g=some g→ν g=w.heap[g]?):aj P ν (.rs s es) x:=hA.Dg hx hν A8
theorem eK.full{R:y9}{rs:List PV}(h:eK P μ R w s rs x)(hν:∀b o,μ b=some o→ν b=some o)(A8:∀g,R.g=some g→ν g=w.heap[g]?):aj P ν (.rs s rs) x:=by obtain⟨⟨et,hA⟩,hV⟩:=h;exact hA.Dg hV hν A8
theorem zf(e:PV):e.strip.cells=e.cells.map PV.lV:=by cases e<;>rfl
theorem aV.strip{sz:Nat}(h:aV P μ φ w id sz et es)(hν:∀b o,μ b=some o→ν b=some o)(A8:∀i off g,(bJ.nest sz et es).rowAt i off=true→((φ id).row i off).g=some g→ν g=w.heap[g]?):aL P ν φ w id sz et (es.map PV.strip):=by
 obtain⟨a1,a2,a3,a4,a5,a6,a7⟩:=h;refine⟨by simpa using a1,a2,a3,a4,fun i e he=>?_,a6,?_⟩
 ·rw[List.getElem?_map,Option.map_eq_some_iff]at he;obtain⟨e0,h0,rfl⟩:=he;rw[zf,List.length_map];exact a5 i e0 h0
 ·cases hg:(φ id).g with
  |none=>rw[hg]at a7;simp[a7.1,a7.2]
  |some g=>
   rw[hg]at a7;obtain⟨c,c1,c2,c3,c4,c5⟩:=a7;refine⟨c,c1,c2,by simpa using c3,fun i e j p x he hp hx=>?_,fun i x hi hx=>c5 i x (by simpa using hi) hx⟩;rw[List.getElem?_map,Option.map_eq_some_iff]at he;obtain⟨e0,h0,rfl⟩:=he;rw[zf,List.getElem?_map,Option.map_eq_some_iff]at hp;obtain⟨p0,CF,rfl⟩:=hp;have hc:=c4 i e0 j p0 x h0 CF hx;cases hr:p0.isRow with
   |false=>
    have:p0.lV=p0:=by cases p0<;>first|rfl|cases hr
    rw[this];exact(hc.Mr hr).mono hν
   |true=>
    cases p0<;>first|(cases hr;done)|skip
    rename_i s rs;exact eK.full (show eK P μ _ w s rs x from hc) hν fun g' bV=>A8 i j g' (by simp[bJ.rowAt,h0,CF,PV.isRow]) bV
theorem N5{g o:Nat}{c:Array Value}{T:TypeId}{fz:Nat×Nat}{y:Value}(hν:ν g=w.heap[g]?)(h:w.heap[g]?=some (.cells c T fz))(hy:c[o]?=some y):cellAt ν g o=some y:=by simp[cellAt,hν,h,hy]
theorem qQ(hM:ax P G w0 μ φ m w){ν:Ro}(ro:∀b o,μ b=some o→ν b=some o)(own:∀id b g,m id=some b→b.owns (φ id) g→ν g=w.heap[g]?):∀(d:Nat){v:V}{p:PV}{x:Value},jj m d v=some p→ai P μ φ v x→aj P ν p x
 |0,v,p,x,h,_=>by simp[jj]at h
 |d+1,v,p,x,h,hx=>by
  have ih:=fun{v p x}=> @qQ hM ν ro own d v p x;cases v with
  |pv q=>simp[jj]at h;subst h;cases hx with|pv hx=>exact hx.mono ro
  |bj=>simp[jj]at h;subst h;cases hx;exact .jl
  |agg cs=>
   simp only[jj]at h;obtain⟨ps,lZ,h⟩:=Option.bind_eq_some_iff.1 h;simp only[Option.some.injEq]at h;subst h;obtain⟨h1,h2⟩:=gD lZ;cases hx with
   |agg g1 g2 g3=>refine .agg (by omega) (fun i q y hq hy=>?_) g3;obtain⟨u,hu,hg⟩:=h2 i q hq;exact ih hg (g2 i u y hu hy)
  |bm cs=>
   simp only[jj]at h;obtain⟨ps,lZ,h⟩:=Option.bind_eq_some_iff.1 h;simp only[Option.some.injEq]at h;subst h;obtain⟨h1,h2⟩:=gD lZ;cases hx with
   |bm g1 g2=>refine .bm (by omega) (fun i q y hq hy=>?_);obtain⟨u,hu,hg⟩:=h2 i q hq;exact ih hg (g2 i u y hu hy)
  |op id off=>
   simp only[jj]at h;split at h
   ·rename_i cs hm;obtain⟨ps,lZ,h⟩:=Option.bind_eq_some_iff.1 h;simp only[Option.some.injEq]at h;subst h;obtain⟨h1,h2⟩:=gD lZ;obtain⟨g,c,T,hg,hh,hs,hv,qT,xZ⟩:=hM.dI id _ hm;cases hx with
    |op bV=>
     rw[hg]at bV;simp only[Option.some.injEq]at bV;subst bV;have eI:∀(i:Nat)p,ps[i]?=some p→c[off+i]?=some (c.getD (off+i) undef):=by
      intro i p hi;have:=(List.getElem?_eq_some_iff.1 hi).1;rw[h1]at this;simp at this;have br:off+i<c.size:=by omega
      rw[Array.getElem?_eq_getElem br];simp[Array.getD,br]
     refine .rp (fun i=>c.getD (off+i) undef) (fun i p hi=>N5 (own _ _ _ hm (.inl hg)) hh (eI i p hi)) (fun i p hi=>?_) (fun i hi=>?_)
     ·obtain⟨u,hu,hgu⟩:=h2 i p hi;exact ih hgu (hv (off+i) u _ (kP hu) (eI i p hi))
     ·exact qT _ _ (eI i _ (List.getElem?_eq_getElem hi))
   ·cases h
  |oe id i off=>
   have key:∀(s:Nat)(et:TypeId)(es:List PV),(m id=some (.arr s et es)∨m id=some (.nM s et es))→((es[i]?).bind fun e=>some (PV.rp ((aK s e).drop off)))=some p→aj P ν p x:=by
    intro s et es hm h;obtain⟨e,he,h⟩:=Option.bind_eq_some_iff.1 h;simp only[Option.some.injEq]at h;subst h;have hA:=hM.arr hm;have sT:=hA;have W3:∀g,(φ id).g=some g→ν g=w.heap[g]?:=fun g hg=>by rcases hm with hm|hm<;>exact own _ _ _ hm (.inl hg)
    obtain⟨a1,a2,a3,a4,a5,a6,a7⟩:=hA;cases hx with
    | @oe _ _ _ g hg=>
     rw[a2];have A9:=sT.slice hM hg (lo:=0) (len:=es.length) (by omega) ro (W3 _ hg);have adX:aj P ν (.rs s es) (.slice (some ⟨g,0,none⟩) es.length (φ id).cap):=by simpa using A9
     obtain⟨b,o,cap,e1,hr⟩:=adX.Mt he;simp only[Value.slice.injEq,Option.some.injEq,Addr.mk.injEq]at e1;obtain⟨⟨rfl,rfl,_⟩,_⟩:=e1;have:=hr.Es off;simpa using this
   simp only[jj]at h;split at h
   ·rename_i s et es hm;exact key s et es (.inl hm) h
   ·rename_i s et es hm;exact key s et es (.inr hm) h
   ·cases h
  |os id=>
   simp only[jj]at h;split at h
   ·rename_i s et es hm;simp only[Option.some.injEq]at h;subst h;exact(hM.arr (.inl hm)).full hM hx ro (fun g hg=>own _ _ _ hm (.inl hg))
   ·rename_i s et es hm;simp only[Option.some.injEq]at h;subst h;exact(hM.arr (.inr hm)).full hM hx ro (fun g hg=>own _ _ _ hm (.inl hg))
   ·rename_i s et es hm;simp only[Option.some.injEq]at h;subst h;have hN:aV P μ φ w id s et es:=hM.dI id _ hm;exact(hN.strip ro fun i off g hr hg=>own _ _ _ hm (.inr ⟨i,off,hr,hg⟩)).Dg (hx.vn ro) (fun _ _ h=>h) fun g hg=>own _ _ _ hm (.inl hg)
   ·cases h
  |wC id i off s j off2=>simp[jj]at h
  |sY id i off=>
   simp only[jj]at h;split at h
   ·rename_i s et es hm;obtain⟨e,he,h⟩:=Option.bind_eq_some_iff.1 h;unfold NV at h;split at h
    ·rename_i s' rs hc;simp only[Option.some.injEq]at h;subst h;have hN:aV P μ φ w id s et es:=hM.dI id _ hm;obtain⟨_,_,_,_,⟨⟨AP,hA⟩,_⟩,ZO⟩:=hN.row (s:=s') (rs:=rs) he (by rw[hc];simp[aY]);exact hA.Dg (hx.IZ (ν:=μ)) ro fun g hg=>own _ _ _ hm (.inr ⟨i,off,by simp[bJ.rowAt,he,ZO,PV.isRow],hg⟩)
    ·cases h
   ·cases h
  |fg id lo len=>
   have key:∀(s:Nat)(et:TypeId)(es:List PV),(m id=some (.arr s et es)∨m id=some (.nM s et es))→aj P ν (.rs s ((es.drop lo).take len)) x:=by
    intro s et es hm;have hA:=hM.arr hm;have sT:=hA;have W3:∀g,(φ id).g=some g→ν g=w.heap[g]?:=fun g hg=>by rcases hm with hm|hm<;>exact own _ _ _ hm (.inl hg)
    have hle:=hA.mB;obtain⟨a1,a2,a3,a4,a5,a6,a7⟩:=hA;cases hx with
    |oh hg=>simp;exact .jl
    | @fg _ _ _ cap g a hg hl ha Tw A3=>
     rw[a1]at hl;rcases ha with rfl|⟨ha,_⟩
     ·rw[a2];exact sT.Et hg hl (by omega) Tw ro (W3 _ hg)
     ·have h0:len=0:=by omega
      subst h0;simp only[List.take_zero];exact .FX (by omega)
   simp only[jj]at h;split at h
   ·rename_i s et es hm;simp only[Option.some.injEq]at h;subst h;exact key s et es (.inl hm)
   ·rename_i s et es hm;simp only[Option.some.injEq]at h;subst h;exact key s et es (.inr hm)
   ·cases h
  |om id=>
   simp only[jj]at h;split at h
   ·rename_i kt es hm;simp only[Option.some.injEq]at h;subst h;obtain⟨g,en,clock,kk,hg,hh,hs,hk,Ba,_,hv⟩:=hM.dI id _ hm;cases hx with
    |om bV=>
     rw[hg]at bV;simp only[Option.some.injEq]at bV;subst bV;refine .rm (show ν g=_ from(own _ _ _ hm (.inl hg)).trans hh) (by simp[hs]) (by simp) hk (fun i k hi=>?_) (fun i k e hi he=>?_) (fun i v e hi he=>?_)
     ·simp only[List.getElem?_map,Option.map_eq_some_iff]at hi;obtain⟨⟨a,b⟩,hq,rfl⟩:=hi;exact Ba i a b hq
     ·simp only[List.getElem?_map,Option.map_eq_some_iff]at hi;obtain⟨⟨a,b⟩,hq,rfl⟩:=hi;exact(hv i a b e hq he).1.mono ro
     ·simp only[List.getElem?_map,Option.map_eq_some_iff]at hi;obtain⟨⟨a,b⟩,hq,rfl⟩:=hi;exact(hv i a b e hq he).2.mono ro
   ·rename_i kt e0 es hm;simp only[Option.some.injEq]at h;subst h;obtain⟨g,en,clock,kk,hg,hh,hs,hk,Ba,_,hv⟩:=hM.dI id _ hm;cases hx with
    |om bV=>
     rw[hg]at bV;simp only[Option.some.injEq]at bV;subst bV;refine .rm (show ν g=_ from(own _ _ _ hm (.inl hg)).trans hh) (by simp[hs]) (by simp) hk (fun i k hi=>?_) (fun i k e hi he=>?_) (fun i v e hi he=>?_)
     ·simp only[List.getElem?_map,Option.map_eq_some_iff]at hi;obtain⟨⟨a,b⟩,hq,rfl⟩:=hi;exact Ba i a b hq
     ·simp only[List.getElem?_map,Option.map_eq_some_iff]at hi;obtain⟨⟨a,b⟩,hq,rfl⟩:=hi;exact(hv i a b e hq he).1.mono ro
     ·simp only[List.getElem?_map,Option.map_eq_some_iff]at hi;obtain⟨⟨a,b⟩,hq,rfl⟩:=hi;have h2:=(hv i a b e hq he).2;cases hr:b.isRow with
      |false=>
       have e1:b.lV=b:=by cases b<;>first|rfl|cases hr
       simp only[e1];split at h2
       ·cases hr
       ·exact h2.mono ro
      |true=>
       cases b<;>first|(cases hr;done)|skip
       exact h2.1.Dg h2.2 ro fun g' bV=>own _ _ _ hm (.inr ⟨i,0,by simp[bJ.rowAt,hq,PV.isRow],bV⟩)
   ·cases h
  |fn f cs=>
   simp only[jj]at h;obtain⟨ps,lZ,h⟩:=Option.bind_eq_some_iff.1 h;simp only[Option.some.injEq]at h;subst h;obtain⟨h1,h2⟩:=gD lZ;cases hx with
   |fn g1 g2=>refine .fn (by omega) (fun i q y hq hy=>?_);obtain⟨u,hu,hg⟩:=h2 i q hq;exact ih hg (g2 i u y hu hy)
  |yl id=>simp[jj]at h
  |it id=>simp[jj]at h
  |top=>simp[jj]at h
end
end Go.Ab
set_option linter.unusedVariables false
namespace Go.Ab
open Go.RowKit (Below)
section
variable {P:Program} {w:World}
def valOf:PV→Value
 |.int k n=>.int k n
 |.bool b=>.bool b
 |.str s=>.string ⟨s.toArray⟩
 |_=>undef
def eL(P:Program)(t:TypeId)(ps:List PV):Value:=if aD P t then .agg (ps.map valOf).toArray else valOf (ps.headD .bad)
theorem Dh{μ:Ro}{k:Kd}{p:PV}{y:Value}(h:qN k p=true)(hy:aj P μ p y):y=valOf p:=by cases k<;>cases p<;>simp[qN]at h<;>cases hy<;>rfl
theorem nC:∀{ks:List Kd}{ps:List PV},gQ ks ps=true→ps.length=ks.length
 |[],[],_=>rfl
 |[],_::_,h=>by simp[gQ]at h
 |_::_,[],h=>by simp[gQ]at h
 |k::ks,p::ps,h=>by simp[gQ]at h;simp[nC h.2]
theorem Mv:∀{ks:List Kd}{ps:List PV},gQ ks ps=true→∀(i:Nat)p,ps[i]?=some p→∃k,ks[i]?=some k∧qN k p=true
 |[],[],_,i,p,hi=>by simp at hi
 |[],_::_,h,_,_,_=>by simp[gQ]at h
 |_::_,[],h,_,_,_=>by simp[gQ]at h
 |k::ks,q::ps,h,i,p,hi=>by
  simp[gQ]at h;cases i with
  |zero=>simp at hi;subst hi;exact⟨k,by simp,h.1⟩
  |succ i=>simp at hi;simpa using Mv h.2 i p hi
theorem oq:∀(a b:List Kd)(ps:List PV),gQ (a++b) ps=true↔gQ a (ps.take a.length)=true∧gQ b (ps.drop a.length)=true
 |[],b,ps=>by simp[gQ]
 |k::a,b,[]=>by simp[gQ]
 |k::a,b,p::ps=>by simp[gQ,oq a b ps,Bool.and_eq_true,and_assoc]
theorem tn:∀(n:Nat)(ps qs:List PV),n≤ps.length→n≤qs.length→cA ps qs=(cA (ps.take n) (qs.take n)&&cA (ps.drop n) (qs.drop n))
 |0,ps,qs,_,_=>by simp[cA]
 |n+1,[],_,h,_=>by simp at h
 |n+1,_::_,[],_,h=>by simp at h
 |n+1,p::ps,q::qs,h1,h2=>by simp only[List.length_cons,Nat.add_le_add_iff_right]at h1 h2;simp only[cA,List.take_succ_cons,List.drop_succ_cons,tn n ps qs h1 h2,Bool.and_assoc]
variable{ks:List Kd}{ps:List PV}
theorem qk{μ:Ro}{xs:Array Value}(hk:gQ ks ps=true)(hl:xs.size=ps.length)(hv:∀(i:Nat)p y,ps[i]?=some p→xs[i]?=some y→aj P μ p y):xs=(ps.map valOf).toArray:=by
 apply Array.ext';apply List.ext_getElem?;intro i;by_cases hi:i<ps.length
 ·have h1:ps[i]?=some ps[i]:=List.getElem?_eq_getElem hi;have h2:xs[i]?=some xs[i]:=Array.getElem?_eq_getElem (by omega);obtain⟨k,_,hk⟩:=Mv hk i _ h1;have:=Dh hk (hv i _ _ h1 h2);simp only[Array.getElem?_toList,h2,List.getElem?_map,h1,Option.map_some,this]
 ·simp[hi,hl]
theorem vq(a:List Kd):∀n,(nY a n).length=n*a.length
 |0=>by simp[nY]
 |n+1=>by simp[nY,vq a n,Nat.add_mul];omega
theorem kQ{k:Kd}(h:gQ [k] ps=true):∃p,ps=[p]∧qN k p=true:=by
 cases ps with
 |nil=>simp[gQ]at h
 |cons p r=>cases r with
  |nil=>exact⟨p,rfl,by simpa[gQ]using h⟩
  |cons q r=>simp[gQ]at h
theorem uI{d:Nat}{t:TypeId}(h:xI P d t=some ks):(aD P t=true→ks.length=aS P t)∧(aD P t=false→ks.length=1)∧∃de,P.underlying t=some de:=by
 cases d with
 |zero=>simp[xI]at h
 |succ d=>
  unfold xI at h;split at h
  ·rename_i q hu;simp at h;subst h;exact⟨by simp[aD,hu],by simp,_,hu⟩
  ·rename_i hu;simp at h;subst h;exact⟨by simp[aD,hu],by simp,_,hu⟩
  ·rename_i hu;simp at h;subst h;exact⟨by simp[aD,hu],by simp,_,hu⟩
  ·rename_i fs hu;split at h
   ·cases h
   ·obtain⟨a,ha,h⟩:=Option.bind_eq_some_iff.1 h;split at h
    ·rename_i hl;simp at h;subst h;exact⟨fun _=>hl,by simp[aD,hu],_,hu⟩
    ·cases h
  ·rename_i n e hu;obtain⟨a,ha,h⟩:=Option.bind_eq_some_iff.1 h;split at h
   ·rename_i hl;simp at h;subst h;refine⟨fun _=>?_,by simp[aD,hu],_,hu⟩;rw[←hl.2,vq]
   ·cases h
  ·cases h
theorem iZ{d:Nat}{t:TypeId}{off:Nat}(h:xI P d t=some ks)(hl:off+ks.length≤ps.length):(part t (ps.map valOf).toArray off).run P w=.ok (eL P t ((ps.drop off).take ks.length)) w:=by
 obtain⟨h1,h2,de,hu⟩:=uI h;cases ha:aD P t with
 |true=>rw[wM ha];congr 1;simp only[eL,ha,if_true];congr 1;rw[←h1 ha];simp[List.map_drop,List.map_take,List.extract_eq_take_drop]
 |false=>
  have hk:=h2 ha;rw[hk]at hl⊢;have br:off<ps.length:=by omega
  rw[wN hu ha (y:=valOf ps[off]) (by simp[br])];congr 1;simp only[eL,ha,Bool.false_eq_true,if_false];rw[List.drop_eq_getElem_cons br];rfl
theorem mZ:∀(d:Nat)(t:TypeId)(ks:List Kd),xI P d t=some ks→∀(D:Nat)(w:World)(ps qs:List PV),gQ ks ps=true→gQ ks qs=true→(Op.equalIn (D+d) t (eL P t ps) (eL P t qs)).run P w=.ok (cA ps qs) w
 |0,t,ks,h,_,_,_,_,_,_=>by simp[xI]at h
 |d+1,t,ks,h,D,w,ps,qs,hp,hq=>by
  have ih:=mZ d;have h0:=h;unfold xI at h;split at h
  ·rename_i q hu;simp only[Option.some.injEq]at h;subst h;have ha:aD P t=false:=by simp[aD,hu]
   obtain⟨p,rfl,PY⟩:=kQ hp;obtain⟨q',rfl,Y3⟩:=kQ hq;clear hp hq;cases p<;>simp[qN]at PY;cases q'<;>simp[qN]at Y3;subst PY;subst Y3;simp[eL,ha,valOf,cA,peq,←Nat.add_assoc,Op.equalIn,run_underlying hu]
  ·rename_i hu;simp only[Option.some.injEq]at h;subst h;have ha:aD P t=false:=by simp[aD,hu]
   obtain⟨p,rfl,PY⟩:=kQ hp;obtain⟨q',rfl,Y3⟩:=kQ hq;clear hp hq;cases p<;>simp[qN]at PY;cases q'<;>simp[qN]at Y3;simp[eL,ha,valOf,cA,peq,←Nat.add_assoc,Op.equalIn,run_underlying hu]
  ·rename_i hu;simp only[Option.some.injEq]at h;subst h;have ha:aD P t=false:=by simp[aD,hu]
   obtain⟨p,rfl,PY⟩:=kQ hp;obtain⟨q',rfl,Y3⟩:=kQ hq;clear hp hq;cases p<;>simp[qN]at PY;cases q'<;>simp[qN]at Y3;simp only[eL,ha,valOf,cA,peq,←Nat.add_assoc,Bool.false_eq_true,if_false,List.headD_cons,Bool.and_true];rw[run_equalIn_string w _ _ _ _ hu,ByteArray.toList_eq,ByteArray.toList_eq]
  ·rename_i fs hu;split at h
   ·cases h
   ·rename_i sU;obtain⟨a,ha,h⟩:=Option.bind_eq_some_iff.1 h;split at h
    ·rename_i hlen;simp only[Option.some.injEq]at h;subst h;have Qx:aD P t=true:=by simp[aD,hu]
     have hfo:P.fieldsOf t=fs:=by simp[Program.fieldsOf,hu]
     simp only[eL,Qx,if_true,←Nat.add_assoc];rw[run_equalIn_struct w (D+d) t _ _ (by rw[hfo];exact hu) (by simpa using sU),hfo];have key:∀(L:List Field)(off:Nat)(b:List Kd)(w:World),nX (xI P d) L off=some b→off≤ps.length→off≤qs.length→gQ b (ps.drop off)=true→gQ b (qs.drop off)=true→(Op.eqFields (D+d) (ps.map valOf).toArray (qs.map valOf).toArray L).run P w=.ok (cA (ps.drop off) (qs.drop off)) w:=by
      intro L;induction L with
      |nil=>
       intro off b w hb o1 o2 h1 h2;simp only[nX,Option.some.injEq]at hb;subst hb;have e1:ps.drop off=[]:=by cases hh:ps.drop off with|nil=>rfl|cons x r=>rw[hh]at h1;simp[gQ]at h1
       have e2:qs.drop off=[]:=by cases hh:qs.drop off with|nil=>rfl|cons x r=>rw[hh]at h2;simp[gQ]at h2
       simp[Op.eqFields,e1,e2,cA]
      |cons f L ihL=>
       intro off b w hb o1 o2 h1 h2;simp only[nX]at hb;split at hb
       ·rename_i hf;obtain⟨c,hc,hb⟩:=Option.bind_eq_some_iff.1 hb;obtain⟨b',fQ,hb⟩:=Option.bind_eq_some_iff.1 hb;simp only[Option.some.injEq]at hb;subst hb;rw[oq]at h1 h2;have l1:=nC h1.1;have l2:=nC h2.1;simp only[List.length_take,List.length_drop]at l1 l2;have p1:=iZ (w:=w) (ps:=ps) (off:=off) hc (by omega);have p2:=iZ (w:=w) (ps:=qs) (off:=off) hc (by omega);have p3:=ih f.type c hc D w _ _ h1.1 h2.1;have p4:=ihL (off+c.length) b' w fQ (by omega) (by omega) (by rw[←List.drop_drop];exact h1.2) (by rw[←List.drop_drop];exact h2.2);simp only[Op.eqFields,hf.2,ne_eq,not_false_eq_true,if_true,Sem.run_bind,hf.1,p1,p2,p3,Result.andThen_ok];rw[tn c.length (ps.drop off) (qs.drop off) (by simp;omega) (by simp;omega),List.drop_drop,List.drop_drop];cases hr:cA ((ps.drop off).take c.length) ((qs.drop off).take c.length)with
        |false=>simp
        |true=>simpa using p4
       ·cases hb
     simpa using key fs.toList 0 a w ha (by simp) (by simp) (by simpa using hp) (by simpa using hq)
    ·cases h
  ·rename_i n e hu;obtain⟨a,ha,h⟩:=Option.bind_eq_some_iff.1 h;split at h
   ·rename_i hlen;simp only[Option.some.injEq]at h;subst h;have Qx:aD P t=true:=by simp[aD,hu]
    obtain⟨_,_,de,hde⟩:=uI ha;obtain⟨i,hi⟩:∃i,P.info? e=some i:=by
     unfold Program.underlying at hde;cases hq:P.info? e with
     |none=>simp[hq]at hde
     |some i=>exact⟨i,rfl⟩
    have kM:P.cellsOf e=a.length:=hlen.1.symm;simp only[eL,Qx,if_true,←Nat.add_assoc];rw[run_equalIn_array w (D+d) _ _ hu hi,kM];have key:∀(k j:Nat)(w:World),j+k=n→j*a.length≤ps.length→j*a.length≤qs.length→gQ (nY a k) (ps.drop (j*a.length))=true→gQ (nY a k) (qs.drop (j*a.length))=true→(Op.eqItems (D+d) e a.length (ps.map valOf).toArray (qs.map valOf).toArray (List.range' j k)).run P w=.ok (cA (ps.drop (j*a.length)) (qs.drop (j*a.length))) w:=by
     intro k;induction k with
     |zero=>
      intro j w _ _ _ h1 h2;simp only[nY]at h1 h2;have e1:ps.drop (j*a.length)=[]:=by cases hh:ps.drop (j*a.length)with|nil=>rfl|cons x r=>rw[hh]at h1;simp[gQ]at h1
      have e2:qs.drop (j*a.length)=[]:=by cases hh:qs.drop (j*a.length)with|nil=>rfl|cons x r=>rw[hh]at h2;simp[gQ]at h2
      simp[Op.eqItems,e1,e2,cA]
     |succ k W4=>
      intro j w hj o1 o2 h1 h2;simp only[nY]at h1 h2;rw[oq]at h1 h2;have l1:=nC h1.1;have l2:=nC h2.1;simp only[List.length_take,List.length_drop]at l1 l2;have p1:=iZ (w:=w) (ps:=ps) (off:=j*a.length) ha (by omega);have p2:=iZ (w:=w) (ps:=qs) (off:=j*a.length) ha (by omega);have p3:=ih e a ha D w _ _ h1.1 h2.1;have ej:(j+1)*a.length=j*a.length+a.length:=by rw[Nat.add_mul];omega
      have p4:=W4 (j+1) w (by omega) (by omega) (by omega) (by rw[ej,←List.drop_drop];exact h1.2) (by rw[ej,←List.drop_drop];exact h2.2);rw[List.range'_succ];simp only[Op.eqItems,Sem.run_bind,p1,p2,p3,Result.andThen_ok];rw[tn a.length (ps.drop (j*a.length)) (qs.drop (j*a.length)) (by simp;omega) (by simp;omega),List.drop_drop,List.drop_drop,←ej];cases hr:cA ((ps.drop (j*a.length)).take a.length) ((qs.drop (j*a.length)).take a.length)with
      |false=>simp
      |true=>simpa using p4
    have:=key n 0 w (by omega) (by simp) (by simp) (by simpa using hp) (by simpa using hq);rw[List.range_eq_range'];simpa using this
   ·cases h
  ·cases h
end
end Go.Ab
set_option linter.unusedVariables false
namespace Go.Ab
open Go.RowKit (Below)
section
variable {R:Type} {E:Env}
theorem T9{k:IntKind}{x y:Int}(hx:(Lit.int k x).wf=true):(Lit.int k (x.tmod y)).wf=true:=by
 rw[rS]at*;have h0:k.min≤0∧0≤k.max:=by cases k<;>simp[IntKind.min,IntKind.max,IntKind.signed,IntKind.bits]
 rcases Int.le_total 0 x with h|h
 ·have h1:=Int.tmod_nonneg y h;have h2:x.tmod y≤x:=by have:=Int.natAbs_tmod x y;have h3:x.natAbs%y.natAbs≤x.natAbs:=Nat.mod_le _ _;omega
  omega
 ·have h1:x.tmod y= -((-x).tmod y):=by rw[Int.neg_tmod];omega
  have h2:=Int.tmod_nonneg y (show 0≤-x by omega);have h3:(-x).tmod y≤-x:=by have:=Int.natAbs_tmod (-x) y;have h3:(-x).natAbs%y.natAbs≤(-x).natAbs:=Nat.mod_le _ _;omega
  omega
theorem Ua{k:IntKind}{x:Int}(n:Nat)(hx:(Lit.int k x).wf=true):(Lit.int k (x.fdiv (2^n))).wf=true:=by
 rw[rS]at*;have h0:k.min≤0∧0≤k.max:=by cases k<;>simp[IntKind.min,IntKind.max,IntKind.signed,IntKind.bits]
 have hp:(0:Int)<2^n:=Int.pow_pos (by omega);rw[Int.fdiv_eq_ediv_of_nonneg _ (by omega)];rcases Int.le_total 0 x with h|h
 ·have h1:=Int.ediv_nonneg h (Int.le_of_lt hp);have h2:=Int.ediv_le_self (2^n) h;omega
 ·have h1:x/2^n≤0:=Int.ediv_nonpos_of_nonpos_of_neg h hp;have h2:x≤x/2^n:=by rw[Int.le_ediv_iff_mul_le hp];have:x*2^n≤x*1:=Int.mul_le_mul_of_nonpos_left h (by omega);omega
  omega
variable{P:Program}{t:TypeId}
theorem Di{ps:List PV}(ha:aD P t=true):eL P t ps=.agg (ps.map valOf).toArray:=by simp[eL,ha]
def Dj(P:Program)(t:TypeId):Bool:=P.eqGuardType P.depth t
def qm(op:BinOp)(t:TypeId)(ox oy:Operand)(x y:Value):Sem Value:=do eqGuard op t ox oy x y;binOp op t x y
variable{x y:Value}{w:World}
theorem gF{b:Bool}(hb:binOp .eql t x y=(do pure (.bool (←Op.equal t x y))))(h:(Op.equalIn 10000 t x y).run P w=.ok b w):(binOp .eql t x y).run P w=.ok (.bool b) w:=by rw[hb];simp only[Op.equal,Op.maxDepth,Sem.run_bind,h,Result.andThen_ok,Sem.run_pure]
theorem gG{b:Bool}(hb:binOp .neq t x y=(do pure (.bool (!(←Op.equal t x y)))))(h:(Op.equalIn 10000 t x y).run P w=.ok b w):(binOp .neq t x y).run P w=.ok (.bool (!b)) w:=by rw[hb];simp only[Op.equal,Op.maxDepth,Sem.run_bind,h,Result.andThen_ok,Sem.run_pure]
theorem cd{op:BinOp}{ox oy:Operand}{z:Value}(h1:(eqGuard op t ox oy x y).run P w=.ok () w)(h2:(binOp op t x y).run P w=.ok z w):(qm op t ox oy x y).run P w=.ok z w:=by simp only[qm,Sem.run_bind,h1,h2,Result.andThen_ok]
theorem ky{e:TypeId}(hu:P.underlying t=some (.pointer e))(a:Option Addr):(Op.equalIn 10000 t (.pointer a) (.pointer none)).run P w=.ok a.isNone w:=by show(Op.equalIn (9999+1) t (.pointer a) (.pointer none)).run P w=.ok a.isNone w;cases a<;>(unfold Op.equalIn;simp only[Sem.run_bind,run_underlying hu,Result.andThen_ok];rfl)
theorem rU{a b:Array TypeId}{c:Bool}(hu:P.underlying t=some (.func a b c))(f:Fn)(xs ys:Array Value):(Op.equalIn 10000 t (.func f xs ys) .nilFunc).run P w=.ok false w:=by show(Op.equalIn (9999+1) t (.func f xs ys) .nilFunc).run P w=.ok false w;unfold Op.equalIn;simp only[Sem.run_bind,run_underlying hu,Result.andThen_ok];rfl
variable{k:PV→Option R}{a:V}{r:R}
theorem Ub{op:BinOp}{b:V}(h:kE E op t a b k=some r):∃q,(∀(R':Type)(k':PV→Option R'),kE E op t a b k'=k' q)∧k q=some r∧∀(μ:Ro)(φ:Nat→aF)(w:World)(ox oy:Operand)(x y:Value),ai E.P μ φ a x→ai E.P μ φ b y→∃z,(qm op t ox oy x y).run E.P w=.ok z w∧aj E.P μ q z:=by
 unfold kE at h;split at h
 ·rename_i q x q' y;have ints:∀(μ:Ro)(φ:Nat→aF)(u v:Value),ai E.P μ φ (.pv (.int q x)) u→ai E.P μ φ (.pv (.int q' y)) v→u=.int q x∧v=.int q' y∧(Lit.int q x).wf=true:=by intro μ φ u v hu hv;cases hu with|pv hu=>cases hu with|int h1=>cases hv with|pv hv=>cases hv with|int h2=>exact⟨rfl,rfl,h1⟩
  cases op;case shl=>
   simp only at h;split at h
   ·cases h
   ·rename_i hy;refine⟨_,fun R' k'=>by simp[kE,hy],h,fun μ φ w ox oy u v hu hv=>?_⟩;obtain⟨rfl,rfl,_⟩:=ints μ φ u v hu hv;exact⟨_,by simp[qm,eqGuard,binOp,Op.shift,hy],.int (wf_wrap _ _)⟩
  case shr=>
   simp only at h;split at h
   ·cases h
   ·rename_i hy;refine⟨_,fun R' k'=>by simp[kE,hy],h,fun μ φ w ox oy u v hu hv=>?_⟩;obtain⟨rfl,rfl,hw⟩:=ints μ φ u v hu hv;exact⟨_,by simp[qm,eqGuard,binOp,Op.shift,hy],.int (Ua _ hw)⟩
  case quo=>
   simp only at h;split at h
   ·rename_i hq;subst hq;split at h
    ·cases h
    ·rename_i hy;refine⟨_,fun R' k'=>by simp[kE,hy],h,fun μ φ w ox oy u v hu hv=>?_⟩;obtain⟨rfl,rfl,_⟩:=ints μ φ u v hu hv;exact⟨_,by simp[qm,eqGuard,binOp,Op.intDiv,hy],.int (wf_wrap _ _)⟩
   ·cases h
  case rem=>
   simp only at h;split at h
   ·rename_i hq;subst hq;split at h
    ·cases h
    ·rename_i hy;refine⟨_,fun R' k'=>by simp[kE,hy],h,fun μ φ w ox oy u v hu hv=>?_⟩;obtain⟨rfl,rfl,hw⟩:=ints μ φ u v hu hv;exact⟨_,by simp[qm,eqGuard,binOp,Op.intDiv,hy],.int (T9 hw)⟩
   ·cases h
  case eql|neq|lss|leq|gtr|geq=>
   simp only at h;split at h
   ·rename_i hq;subst hq;refine⟨_,fun R' k'=>by simp[kE],h,fun μ φ w ox oy u v hu hv=>?_⟩;obtain⟨rfl,rfl,_⟩:=ints μ φ u v hu hv;refine⟨_,cd (by rw[eqGuard_at_int];rfl) ?_,.bool⟩;first|rw[binOp_eql]|rw[binOp_neq]|rw[binOp_lss]|rw[binOp_leq]|rw[binOp_gtr]|rw[binOp_geq]
    rfl
   ·cases h
  all_goals
   simp only at h;split at h
   ·rename_i hq;subst hq;refine⟨_,fun R' k'=>by simp[kE],h,fun μ φ w ox oy u v hu hv=>?_⟩;obtain⟨rfl,rfl,_⟩:=ints μ φ u v hu hv;refine⟨_,cd (by rw[eqGuard_at_int];rfl) ?_,.int (wf_wrap _ _)⟩;first|rw[binOp_add]|rw[binOp_sub]|rw[binOp_mul]|rw[binOp_and]|rw[binOp_or]|rw[binOp_xor]|rw[binOp_andNot]
    rfl
   ·cases h
 ·rename_i x y;have strs:∀(μ:Ro)(φ:Nat→aF)(u v:Value),ai E.P μ φ (.pv (.str x)) u→ai E.P μ φ (.pv (.str y)) v→u=.string ⟨x.toArray⟩∧v=.string ⟨y.toArray⟩:=by intro μ φ u v hu hv;cases hu with|pv hu=>cases hu with|str h1=>cases hv with|pv hv=>cases hv with|str h2=>exact⟨rfl,rfl⟩
  cases op;case add=>
   simp only at h;split at h
   ·rename_i ep;have hy:¬((x.length+y.length:Nat):Int)>IntKind.i64.max:=by have:=E.lp.rM _ ep;omega
    refine⟨_,fun R' k'=>by simp only[kE];rw[if_pos ep],h,fun μ φ w ox oy u v hu hv=>?_⟩;obtain⟨rfl,rfl⟩:=strs μ φ u v hu hv;refine⟨.string ⟨(x++y).toArray⟩,?_,.str ?_⟩
    ·simp only[qm,eqGuard,binOp,Op.stringOp,Sem.run_bind];have e:(⟨x.toArray⟩++⟨y.toArray⟩:ByteArray)=⟨(x++y).toArray⟩:=by apply ByteArray.ext;simp
     simp only[A4,e];rw[if_neg hy];simp
    ·simp only[maxLen];simp only[IntKind.max_i64]at hy;simp;omega
   ·cases h
  case eql|neq|lss|leq|gtr|geq=>simp only at h;refine⟨_,fun R' k'=>by simp only[kE],h,fun μ φ w ox oy u v hu hv=>?_⟩;obtain⟨rfl,rfl⟩:=strs μ φ u v hu hv;refine⟨_,cd (by rw[eqGuard_at_string];rfl) ?_,.bool⟩;simp only[binOp,Op.stringOp,ByteArray.toList_eq];rfl
  all_goals (simp only at h;cases h)
 ·rename_i x y;have VL:∀(μ:Ro)(φ:Nat→aF)(u v:Value),ai E.P μ φ (.pv (.bool x)) u→ai E.P μ φ (.pv (.bool y)) v→u=.bool x∧v=.bool y:=by intro μ φ u v hu hv;cases hu with|pv hu=>cases hu with|bool=>cases hv with|pv hv=>cases hv with|bool=>exact⟨rfl,rfl⟩
  split at h
  ·rename_i ot;refine⟨_,fun R' k'=>by simp only[kE,ot],h,fun μ φ w ox oy u v hu hv=>?_⟩;obtain⟨rfl,rfl⟩:=VL μ φ u v hu hv;exact⟨_,cd (by rw[eqGuard_at_bool];rfl) (gF rfl (run_equalIn_bool w _ _ _ _ ot)),.bool⟩
  ·rename_i ot;refine⟨_,fun R' k'=>by simp only[kE,ot],h,fun μ φ w ox oy u v hu hv=>?_⟩;obtain⟨rfl,rfl⟩:=VL μ φ u v hu hv;exact⟨_,cd (by rw[eqGuard_at_bool];rfl) (gG rfl (run_equalIn_bool w _ _ _ _ ot)),.bool⟩
  ·cases h
 ·split at h
  ·rename_i ot;refine⟨_,fun R' k'=>by simp only[kE,ot],h,fun μ φ w ox oy u v hu hv=>?_⟩;cases hu with|pv hu=>cases hu;cases hv with|pv hv=>cases hv;exact⟨_,cd (by rw[eqGuard_at_pointer];rfl) (gF rfl (ky ot none)),.bool⟩
  ·rename_i ot;refine⟨_,fun R' k'=>by simp only[kE,ot],h,fun μ φ w ox oy u v hu hv=>?_⟩;cases hu with|pv hu=>cases hu;cases hv with|pv hv=>cases hv;exact⟨_,cd (by rw[eqGuard_at_pointer];rfl) (gG rfl (ky ot none)),.bool⟩
  ·cases h
 ·split at h
  ·rename_i ot;refine⟨_,fun R' k'=>by simp only[kE,ot],h,fun μ φ w ox oy u v hu hv=>?_⟩;cases hu with|fn=>cases hv with|pv hv=>cases hv;exact⟨_,cd (by rw[eqGuard_at_func];rfl) (gF rfl (rU ot _ _ _)),.bool⟩
  ·rename_i ot;refine⟨_,fun R' k'=>by simp only[kE,ot],h,fun μ φ w ox oy u v hu hv=>?_⟩;cases hu with|fn=>cases hv with|pv hv=>cases hv;exact⟨_,cd (by rw[eqGuard_at_func];rfl) (gG rfl (rU ot _ _ _)),.bool⟩
  ·cases h
 ·split at h
  ·rename_i ot;refine⟨_,fun R' k'=>by simp only[kE,ot],h,fun μ φ w ox oy u v hu hv=>?_⟩;cases hu with|pv hu=>cases hu;cases hv with|pv hv=>cases hv;exact⟨_,cd (by rw[eqGuard_at_func];rfl) (gF rfl (rU ot _ _ _)),.bool⟩
  ·rename_i ot;refine⟨_,fun R' k'=>by simp only[kE,ot],h,fun μ φ w ox oy u v hu hv=>?_⟩;cases hu with|pv hu=>cases hu;cases hv with|pv hv=>cases hv;exact⟨_,cd (by rw[eqGuard_at_func];rfl) (gG rfl (rU ot _ _ _)),.bool⟩
  ·cases h
 ·split at h
  ·rename_i ot;refine⟨_,fun R' k'=>by simp only[kE,ot],h,fun μ φ w ox oy u v hu hv=>?_⟩;cases hu with|pv hu=>cases hu;cases hv with|pv hv=>cases hv;exact⟨_,cd (by rw[eqGuard_at_pointer];rfl) (gF rfl (ky ot _)),.bool⟩
  ·rename_i ot;refine⟨_,fun R' k'=>by simp only[kE,ot],h,fun μ φ w ox oy u v hu hv=>?_⟩;cases hu with|pv hu=>cases hu;cases hv with|pv hv=>cases hv;exact⟨_,cd (by rw[eqGuard_at_pointer];rfl) (gG rfl (ky ot _)),.bool⟩
  ·cases h
 ·split at h
  ·rename_i ot;refine⟨_,fun R' k'=>by simp only[kE,ot],h,fun μ φ w ox oy u v hu hv=>?_⟩;cases hu with|op hg=>cases hv with|pv hv=>cases hv;exact⟨_,cd (by rw[eqGuard_at_pointer];rfl) (gF rfl (ky ot _)),.bool⟩
  ·rename_i ot;refine⟨_,fun R' k'=>by simp only[kE,ot],h,fun μ φ w ox oy u v hu hv=>?_⟩;cases hu with|op hg=>cases hv with|pv hv=>cases hv;exact⟨_,cd (by rw[eqGuard_at_pointer];rfl) (gG rfl (ky ot _)),.bool⟩
  ·cases h
 ·split at h
  ·rename_i ot;refine⟨_,fun R' k'=>by simp only[kE,ot],h,fun μ φ w ox oy u v hu hv=>?_⟩;cases hu with|oe hg=>cases hv with|pv hv=>cases hv;exact⟨_,cd (by rw[eqGuard_at_pointer];rfl) (gF rfl (ky ot _)),.bool⟩
  ·rename_i ot;refine⟨_,fun R' k'=>by simp only[kE,ot],h,fun μ φ w ox oy u v hu hv=>?_⟩;cases hu with|oe hg=>cases hv with|pv hv=>cases hv;exact⟨_,cd (by rw[eqGuard_at_pointer];rfl) (gG rfl (ky ot _)),.bool⟩
  ·cases h
 ·rename_i n1 n2 n3 n4 m1 m2 n5 n6 n7;split at h
  ·rename_i ha;split at h
   ·rename_i ks as bs Qy has hbs;split at h
    ·rename_i ps qs lZ hqs;split at h
     ·rename_i hc;have hE:Dj E.P t=false∧xI E.P 8 t=some ks:=by
       unfold pL at Qy;split at Qy
       ·cases Qy
       ·rename_i hg;exact⟨by simpa[Dj]using hg,Qy⟩
      have key:∀(μ:Ro)(φ:Nat→aF)(w:World)(x y:Value),ai E.P μ φ a x→ai E.P μ φ b y→∃xs ys,x=.agg xs∧y=.agg ys∧(Op.equalIn 10000 t x y).run E.P w=.ok (cA ps qs) w:=by intro μ φ w x y hx hy;obtain⟨xs,rfl,g1,g2,g3⟩:=(mA has).2 _ _ _ _ hx;obtain⟨ys,rfl,g4,g5,g6⟩:=(mA hbs).2 _ _ _ _ hy;obtain⟨l1,l2⟩:=gD lZ;obtain⟨l3,l4⟩:=gD hqs;have e1:=qk (P:=E.P) (μ:=μ) (xs:=xs) hc.1 (by omega) (fun i p z hi hz=>by obtain⟨v,hv,hg⟩:=l2 i p hi;exact qU 1 hg (g2 i v z hv hz));have e2:=qk (P:=E.P) (μ:=μ) (xs:=ys) hc.2 (by omega) (fun i p z hi hz=>by obtain⟨v,hv,hg⟩:=l4 i p hi;exact qU 1 hg (g5 i v z hv hz));refine⟨xs,ys,rfl,rfl,?_⟩;have:=mZ 8 t ks hE.2 9992 w ps qs hc.1 hc.2;rw[Di ha,Di ha,←e1,←e2]at this;exact this
      have adY:∀(R':Type)(k':PV→Option R'),kE E .eql t a b k'=k' (.bool (cA ps qs)):=by
       intro R' k';unfold kE;split
       ·exact(n1 _ _ _ _ rfl rfl).elim
       ·exact(n2 _ _ rfl rfl).elim
       ·exact(n3 _ _ rfl rfl).elim
       ·exact(n4 rfl rfl).elim
       ·exact(m1 _ _ rfl rfl).elim
       ·exact(m2 _ _ rfl rfl).elim
       ·exact(n5 _ rfl rfl).elim
       ·exact(n6 _ _ rfl rfl).elim
       ·exact(n7 _ _ _ rfl rfl).elim
       ·rw[if_pos ha,Qy,has,hbs];simp only[lZ,hqs];rw[if_pos hc]
      have adZ:∀(R':Type)(k':PV→Option R'),kE E .neq t a b k'=k' (.bool (!(cA ps qs))):=by
       intro R' k';unfold kE;split
       ·exact(n1 _ _ _ _ rfl rfl).elim
       ·exact(n2 _ _ rfl rfl).elim
       ·exact(n3 _ _ rfl rfl).elim
       ·exact(n4 rfl rfl).elim
       ·exact(m1 _ _ rfl rfl).elim
       ·exact(m2 _ _ rfl rfl).elim
       ·exact(n5 _ rfl rfl).elim
       ·exact(n6 _ _ rfl rfl).elim
       ·exact(n7 _ _ _ rfl rfl).elim
       ·rw[if_pos ha,Qy,has,hbs];simp only[lZ,hqs];rw[if_pos hc]
      cases op;case eql=>refine⟨_,fun R' k'=>adY R' k',h,fun μ φ w ox oy x y hx hy=>?_⟩;obtain⟨xs,ys,rfl,rfl,hr⟩:=key μ φ w x y hx hy;exact⟨_,cd (run_eqGuard_agg w _ _ _ _ _ _ hE.1) (gF rfl hr),.bool⟩
      case neq=>refine⟨_,fun R' k'=>adZ R' k',h,fun μ φ w ox oy x y hx hy=>?_⟩;obtain⟨xs,ys,rfl,rfl,hr⟩:=key μ φ w x y hx hy;exact⟨_,cd (run_eqGuard_agg w _ _ _ _ _ _ hE.1) (gG rfl hr),.bool⟩
      all_goals (simp only at h;cases h)
     ·cases h
    ·cases h
   ·cases h
  ·cases h
theorem W5{op:UnOp}(h:xun op a k=some r):∃q,(∀(R':Type)(k':PV→Option R'),xun op a k'=k' q)∧k q=some r∧∀(P:Program)(μ:Ro)(φ:Nat→aF)(w:World)(x:Value),ai P μ φ a x→∃z,(Op.unary op x).run P w=.ok z w∧aj P μ q z:=by
 unfold xun at h;split at h
 ·refine⟨_,fun R' k'=>rfl,h,fun P μ φ w x hx=>?_⟩;cases hx with|pv hx=>cases hx;exact⟨_,rfl,.bool⟩
 ·refine⟨_,fun R' k'=>rfl,h,fun P μ φ w x hx=>?_⟩;cases hx with|pv hx=>cases hx;exact⟨_,rfl,.int (wf_wrap _ _)⟩
 ·refine⟨_,fun R' k'=>rfl,h,fun P μ φ w x hx=>?_⟩;cases hx with|pv hx=>cases hx;exact⟨_,rfl,.int (wf_wrap _ _)⟩
 ·cases h
theorem Uc{k:IntKind}{n:Int}(h:(Lit.int k n).wf=true):k.wrap n=n:=by rw[rS]at h;cases k<;>simp only[IntKind.wrap,IntKind.min,IntKind.max,IntKind.signed,IntKind.bits]at* <;>simp at* <;>(try split)<;>omega
theorem Qz{s d:TypeId}(h:AL E s d a k=some r):∃q,(∀(R':Type)(k':PV→Option R'),AL E s d a k'=k' q)∧k q=some r∧∀(μ:Ro)(φ:Nat→aF)(w:World)(x:Value),ai E.P μ φ a x→∃z,(convert s d x).run E.P w=.ok z w∧aj E.P μ q z:=by
 unfold AL at h;split at h
 ·rename_i q q' q'' n hs hd;split at h
  ·rename_i e1;subst e1;split at h
   ·rename_i e2;subst e2;refine⟨_,fun R' k'=>by simp[AL,hs,hd],h,fun μ φ w x hx=>?_⟩;cases hx with|pv hx=>cases hx with|int hw=>exact⟨_,by simp[convert,run_underlying hs,run_underlying hd,Conv.intToInt,Uc hw],.int hw⟩
   ·rename_i e2;refine⟨_,fun R' k'=>by simp[AL,hs,hd,e2],h,fun μ φ w x hx=>?_⟩;cases hx with|pv hx=>cases hx with|int hw=>exact⟨_,by simp[convert,run_underlying hs,run_underlying hd,Conv.intToInt],.int (wf_wrap _ _)⟩
  ·cases h
 ·rename_i hs hd;refine⟨_,fun R' k'=>by simp[AL,hs,hd],h,fun μ φ w x hx=>?_⟩;cases hx with|pv hx=>cases hx with|str hl=>exact⟨_,by simp[convert,run_underlying hs,run_underlying hd],.str hl⟩
 ·cases h
theorem QA{b:V}(h:Gc a b k=some r):∃q,(∀(R':Type)(k':PV→Option R'),Gc a b k'=k' q)∧k q=some r∧∀(P:Program)(μ:Ro)(φ:Nat→aF)(w:World)(x y:Value),ai P μ φ a x→ai P μ φ b y→∃z,(Builtin.min2 x y).run P w=.ok z w∧aj P μ q z:=by
 unfold Gc at h;split at h
 ·split at h
  ·rename_i e;subst e;refine⟨_,fun R' k'=>by simp[Gc],h,fun P μ φ w x y hx hy=>?_⟩;cases hx with|pv hx=>cases hx with|int h1=>cases hy with|pv hy=>cases hy with|int h2=>exact⟨_,rfl,by split<;>exact .int (by assumption)⟩
  ·cases h
 ·cases h
theorem wO{b:V}(h:yZ a b k=some r):∃q,(∀(R':Type)(k':PV→Option R'),yZ a b k'=k' q)∧k q=some r∧∀(P:Program)(μ:Ro)(φ:Nat→aF)(w:World)(x y:Value),ai P μ φ a x→ai P μ φ b y→∃z,(Builtin.max2 x y).run P w=.ok z w∧aj P μ q z:=by
 unfold yZ at h;split at h
 ·split at h
  ·rename_i e;subst e;refine⟨_,fun R' k'=>by simp[yZ],h,fun P μ φ w x y hx hy=>?_⟩;cases hx with|pv hx=>cases hx with|int h1=>cases hy with|pv hy=>cases hy with|int h2=>exact⟨_,rfl,by split<;>exact .int (by assumption)⟩
  ·cases h
 ·cases h
theorem QB{b c d:V}(h:Gd a b c d k=some r):∃q,(∀(R':Type)(k':PV→Option R'),Gd a b c d k'=k' q)∧k q=some r∧∀(P:Program)(μ:Ro)(φ:Nat→aF)(w:World)(x y z u:Value),ai P μ φ a x→ai P μ φ b y→ai P μ φ c z→ai P μ φ d u→∃v1 v2 v3,(Builtin.max2 x y).run P w=.ok v1 w∧(Builtin.max2 v1 z).run P w=.ok v2 w∧(Builtin.max2 v2 u).run P w=.ok v3 w∧aj P μ q v3:=by unfold Gd at h;obtain⟨q1,a1,h,b1⟩:=wO h;obtain⟨q2,a2,h,b2⟩:=wO h;obtain⟨q3,a3,h,b3⟩:=wO h;refine⟨q3,fun R' k'=>by unfold Gd;rw[a1,a2,a3],h,fun P μ φ w x y z u hx hy hz hu=>?_⟩;obtain⟨v1,c1,d1⟩:=b1 P μ φ w x y hx hy;obtain⟨v2,c2,d2⟩:=b2 P μ φ w v1 z (.pv d1) hz;obtain⟨v3,c3,d3⟩:=b3 P μ φ w v2 u (.pv d2) hu;exact⟨v1,v2,v3,c1,c2,c3,d3⟩
end
end Go.Ab
set_option linter.unusedVariables false
namespace Go.Ab
open Go.RowKit (Below)
section
variable {P:Program} {G:Nat→Option (List PV)} {w0:bx} {μ μ':Ro} {φ φ':Nat→aF} {m:Mem} {w w':World}
variable{b:bJ}
@[simp] theorem aM(m:Mem)(d:Nat)(b:bJ):an m d b d=some b:=by simp[an]
theorem ao{m:Mem}{d t:Nat}(h:t≠d):an m d b t=m t:=by simp[an,cond_eq_ite,h]
@[simp] theorem VM(m:Mem)(d:Nat):bf m d d=none:=by simp[bf]
theorem eQ{m:Mem}{d t:Nat}(h:t≠d):bf m d t=m t:=by simp[bf,cond_eq_ite,h]
@[simp] theorem rV(f:Fr)(d:Nat)(v:V):fh f d v d=v:=by simp[fh]
theorem ou{f:Fr}{d t:Nat}{v:V}(h:t≠d):fh f d v t=f t:=by simp[fh,cond_eq_ite,h]
variable{id sz:Nat}{et:TypeId}{es:List PV}
theorem aL.cH(h:aL P μ φ w id sz et es)(hφ:φ' id=φ id)(hμ:∀b o,μ b=some o→μ' b=some o)(hw:∀g,(φ id).g=some g→w'.heap[g]?=w.heap[g]?):aL P μ' φ' w' id sz et es:=by
 obtain⟨a1,a2,a3,a4,a5,a6,a7⟩:=h;unfold aL;rw[hφ];refine⟨a1,a2,a3,a4,a5,a6,?_⟩;cases hg:(φ id).g with
 |none=>rw[hg]at a7;exact a7
 |some g=>rw[hg]at a7;obtain⟨c,c1,c2,c3,c4,c5⟩:=a7;exact⟨c,by rw[hw g hg];exact c1,c2,c3,fun i e j p x h1 h2 h3=>(c4 i e j p x h1 h2 h3).mono hμ,c5⟩
theorem eK.cH{R:y9}{s:Nat}{rs:List PV}{x:Value}(h:eK P μ R w s rs x)(hμ:∀b o,μ b=some o→μ' b=some o)(hw:∀g,R.g=some g→w'.heap[g]?=w.heap[g]?):eK P μ' R w' s rs x:=
 let⟨⟨et,hA⟩,hV⟩:=h
 ⟨⟨et,hA.cH rfl hμ hw⟩,hV.vn hμ⟩
theorem eg.cH{R:y9}{p:PV}{x:Value}(h:eg P μ R w p x)(hμ:∀b o,μ b=some o→μ' b=some o)(hw:p.isRow=true→∀g,R.g=some g→w'.heap[g]?=w.heap[g]?):eg P μ' R w' p x:=by
 unfold eg at*;split at h
 ·exact eK.cH h hμ (hw rfl)
 ·exact h.mono hμ
variable{i j:Nat}
theorem dy{e p:PV}(he:es[i]?=some e)(hp:e.cells[j]?=some p):(bJ.nest sz et es).rowAt i j=p.isRow:=by simp[bJ.rowAt,he,hp]
theorem aV.cH{id sz:Nat}{et:TypeId}{es:List PV}(h:aV P μ φ w id sz et es)(hφ:φ' id=φ id)(hμ:∀b o,μ b=some o→μ' b=some o)(hw:∀g,(bJ.nest sz et es).owns (φ id) g→w'.heap[g]?=w.heap[g]?):aV P μ' φ' w' id sz et es:=by
 obtain⟨a1,a2,a3,a4,a5,a6,a7⟩:=h;unfold aV;rw[hφ];refine⟨a1,a2,a3,a4,a5,a6,?_⟩;cases hg:(φ id).g with
 |none=>rw[hg]at a7;exact a7
 |some g=>rw[hg]at a7;obtain⟨c,c1,c2,c3,c4,c5⟩:=a7;exact⟨c,by rw[hw g (.inl hg)];exact c1,c2,c3,fun i e j p x h1 h2 h3=>(c4 i e j p x h1 h2 h3).cH hμ fun hr g' bV=>hw g' (.inr ⟨i,j,by rw[dy h1 h2];exact hr,bV⟩),c5⟩
theorem iM{kt e:TypeId}{es:List (PV×PV)}{k v:PV}(he:es[i]?=some (k,v)):(bJ.eU kt e es).rowAt i 0=v.isRow:=by simp[bJ.rowAt,he]
theorem fR.cH{id:Nat}{b:bJ}(h:fR P μ φ w id b)(hn:∀j,b.names j=true→φ' j=φ j)(hφ:φ' id=φ id)(hμ:∀b o,μ b=some o→μ' b=some o)(hw:∀g,b.owns (φ id) g→w'.heap[g]?=w.heap[g]?):fR P μ' φ' w' id b:=by
 cases b with
 |nest sz et es=>exact aV.cH h hφ hμ hw
 |eU kt e0 es=>
  obtain⟨g,en,clock,kk,hg,hh,hs,hk,hc,sE,hv⟩:=h;refine⟨g,en,clock,kk,by rw[hφ];exact hg,by rw[hw g (.inl hg)];exact hh,hs,hk,hc,sE,fun i k v e h1 h2=>⟨(hv i k v e h1 h2).1.mono hμ,?_⟩⟩;have h3:=(hv i k v e h1 h2).2;rw[hφ];split at h3
  ·exact⟨h3.1.cH rfl hμ fun g' bV=>hw g' (.inr ⟨i,0,by rw[iM h1];rfl,bV⟩),h3.2.vn hμ⟩
  ·exact h3.mono hμ
 |box cs=>obtain⟨g,c,T,hg,hh,hs,hv,h1,xZ⟩:=h;exact⟨g,c,T,by rw[hφ];exact hg,by rw[hw g (.inl hg)];exact hh,hs,fun i v x hi hx=>(hv i v x hi hx).mono hμ (fun j hj=>hn j (bL (List.mem_of_getElem? hi) hj)),h1,by rw[hφ];exact xZ⟩
 |arr sz et es=>exact aL.cH h hφ hμ fun g hg=>hw g (.inl hg)
 |nM sz et es=>refine⟨aL.cH h.1 hφ hμ fun g hg=>hw g (.inl hg),fun g hg=>?_⟩;rw[hφ]at hg;have:=h.2 g hg;obtain⟨o,ho⟩:=Option.isSome_iff_exists.1 this;rw[hμ _ _ ho];rfl
 |map kt es=>obtain⟨g,en,clock,kk,hg,hh,hs,hk,hc,sE,hv⟩:=h;exact⟨g,en,clock,kk,by rw[hφ];exact hg,by rw[hw g (.inl hg)];exact hh,hs,hk,hc,sE,fun i k v e h1 h2=>⟨(hv i k v e h1 h2).1.mono hμ,(hv i k v e h1 h2).2.mono hμ⟩⟩
 |iter t es cur=>obtain⟨g,mg,en,clock,seen,hg,hh,Bb,sE,xZ,hv,ZP⟩:=h;exact⟨g,mg,en,clock,seen,by rw[hφ];exact hg,by rw[hw g (.inl hg)];exact hh,hμ _ _ Bb,sE,xZ,fun i k v e h1 h2=>⟨(hv i k v e h1 h2).1.mono hμ,(hv i k v e h1 h2).2.mono hμ⟩,fun k v hc=>let⟨i,e,h1,h2,h3,h4⟩:=ZP k v hc;⟨i,e,h1,h2,h3.mono hμ,h4.mono hμ⟩⟩
 |loop st=>obtain⟨g,rc,hg,hh⟩:=h;exact⟨g,rc,by rw[hφ];exact hg,by rw[hw g (.inl hg)];exact hh⟩
variable{g:Nat}
theorem eK.Bc{R:y9}{s:Nat}{rs:List PV}{x:Value}(h:eK P μ R w s rs x)(hg:R.g=some g):g<w.heap.size:=by obtain⟨⟨et,_,_,_,_,_,_,a7⟩,_⟩:=h;have bV:R.up.g=some g:=hg;simp only[bV]at a7;obtain⟨c,c1,_⟩:=a7;exact(Array.getElem?_eq_some_iff.1 c1).1
theorem iN{off:Nat}(h:b.rowAt i off=true):(∃sz et es e s rs,b=.nest sz et es∧es[i]?=some e∧e.cells[off]?=some (.fP s rs))∨∃kt e0 es k s rs,b=.eU kt e0 es∧off=0∧es[i]?=some (k,.fP s rs):=by
 unfold bJ.rowAt at h;split at h
 ·rename_i sz et es i off;split at h
  ·rename_i e he;split at h
   ·rename_i p hp;cases p<;>first|(cases h;done)|skip
    rename_i s rs;exact .inl ⟨_,_,_,e,s,rs,rfl,he,hp⟩
   ·cases h
  ·cases h
 ·rename_i kt e0 es i;split at h
  ·rename_i x hx;obtain⟨k,v⟩:=x;cases v<;>first|(cases h;done)|skip
   rename_i s rs;exact .inr ⟨_,_,_,k,s,rs,rfl,rfl,hx⟩
  ·cases h
 ·cases h
theorem fR.ZQ{off:Nat}(h:fR P μ φ w id b)(hr:b.rowAt i off=true)(hg:((φ id).row i off).g=some g):g<w.heap.size:=by
 rcases iN hr with⟨sz,et,es,e,s,rs,rfl,he,hp⟩|⟨kt,e0,es,k,s,rs,rfl,rfl,he⟩
 ·have hN:aV P μ φ w id sz et es:=h;have hgg:∃g0,(φ id).g=some g0:=by
   cases hq:(φ id).g with
   |some g0=>exact⟨g0,rfl⟩
   |none=>have a7:=hN.2.2.2.2.2.2;rw[hq]at a7;rw[a7.1]at he;simp at he
  obtain⟨g0,IC⟩:=hgg;obtain⟨c,x,_,_,c3,_⟩:=hN.cell IC he hp;exact eK.Bc (show eK P μ _ w s rs x from c3) hg
 ·obtain⟨g0,en,clock,kk,IC,hh,hs,hk,hc,sE,hv⟩:=h;have hi:i<en.size:=by rw[hs];exact(List.getElem?_eq_some_iff.1 he).1
  have h3:=(hv i k _ en[i] he (Array.getElem?_eq_getElem hi)).2;exact eK.Bc (P:=P) (μ:=μ) (R:=(φ id).row i 0) (s:=s) (rs:=rs) (x:=en[i].val) ⟨⟨_,h3.1⟩,h3.2⟩ hg
theorem fR.Bc(h:fR P μ φ w id b)(hg:b.owns (φ id) g):g<w.heap.size:=by
 rcases hg with hg|⟨i,off,hr,hg⟩
 rotate_left
 ·exact h.ZQ hr hg
 have key:∀o,w.heap[g]?=some o→g<w.heap.size:=fun o ho=>(Array.getElem?_eq_some_iff.1 ho).1;cases b with
 |nest sz et es=>obtain⟨_,_,_,_,_,_,a7⟩:=h;rw[hg]at a7;obtain⟨c,c1,_⟩:=a7;exact key _ c1
 |eU kt e0 es=>obtain⟨g',en,clock,kk,bV,hh,_⟩:=h;rw[hg]at bV;simp only[Option.some.injEq]at bV;subst bV;exact key _ hh
 |box cs=>obtain⟨g',c,T,bV,hh,_⟩:=h;rw[hg]at bV;simp only[Option.some.injEq]at bV;subst bV;exact key _ hh
 |arr sz et es=>obtain⟨_,_,_,_,_,_,a7⟩:=h;rw[hg]at a7;obtain⟨c,c1,_⟩:=a7;exact key _ c1
 |nM sz et es=>obtain⟨⟨_,_,_,_,_,_,a7⟩,_⟩:=h;rw[hg]at a7;obtain⟨c,c1,_⟩:=a7;exact key _ c1
 |map kt es=>obtain⟨g',en,clock,kk,bV,hh,_⟩:=h;rw[hg]at bV;simp only[Option.some.injEq]at bV;subst bV;exact key _ hh
 |iter t es cur=>obtain⟨g',mg,en,clock,seen,bV,hh,_⟩:=h;rw[hg]at bV;simp only[Option.some.injEq]at bV;subst bV;exact key _ hh
 |loop st=>obtain⟨g',rc,bV,hh⟩:=h;rw[hg]at bV;simp only[Option.some.injEq]at bV;subst bV;exact key _ hh
theorem ax.I0(hM:ax P G w0 μ φ m w)(hm:m j=some b)(hn:b.names id=true):(m id).isSome=true:=by
 cases b with
 |box cs=>exact hM.fi j cs id hm hn
 |_=>simp[bJ.names]at hn
theorem uJ{cs:List V}(h:cq j (cs.map (pM id))=true):cq j cs=true∧j≠id:=by obtain⟨v,hv,hh⟩:=cT.1 h;obtain⟨u,hu,rfl⟩:=List.mem_map.1 hv;obtain⟨h1,h2⟩:=ti hh;exact⟨bL hu h1,h2⟩
theorem fR.kill{id j:Nat}{b:bJ}(h:fR P μ φ w j b):fR P μ φ w j (fI id b):=by
 cases b with
 |box cs=>obtain⟨g,c,T,hg,hh,hs,hv,h1,xZ⟩:=h;refine⟨g,c,T,hg,hh,by simpa using hs,fun i v x hi hx=>?_,h1,by simpa using xZ⟩;simp only[List.getElem?_map,Option.map_eq_some_iff]at hi;obtain⟨u,hu,rfl⟩:=hi;exact(hv i u x hu hx).kill id
 |_=>exact h
theorem rW(id:Nat)(b:bJ):(fI id b).rowAt=b.rowAt:=by cases b<;>rfl
variable{p:aF}
theorem fD:(fI id b).owns p g↔b.owns p g:=by unfold bJ.owns;rw[rW]
theorem rX:(fI id b).apart p↔b.apart p:=by unfold bJ.apart;rw[rW]
theorem ov(h:∀i off,b.rowAt i off=true→False):b.apart p:=fun i off _ hr=>(h i off hr).elim
theorem mi(h:∀i off,b.rowAt i off=true→False)(ho:b.owns p g):p.g=some g:=by
 rcases ho with h1|⟨i,off,hr,_⟩
 ·exact h1
 ·exact(h i off hr).elim
theorem Bd(h:bC id m j=some b):∃b',m j=some b'∧b=fI id b':=by
 unfold bC at h;cases hm:m j with
 |none=>rw[hm]at h;cases h
 |some b'=>rw[hm]at h;simp only[Option.some.injEq]at h;exact⟨b',rfl,h.symm⟩
theorem uK(id:Nat)(b:bJ):(fI id b).ir=b.ir:=by cases b<;>rfl
theorem ax.forget(hM:ax P G w0 μ φ m w)(id:Nat):ax P G w0 μ φ (bf (bC id m) id) w:=by
 have key:∀j b,bf (bC id m) id j=some b→j≠id∧∃b',m j=some b'∧b=fI id b':=by
  intro j b h;by_cases e:j=id
  ·subst e;simp at h
  ·rw[eQ e]at h;exact⟨e,Bd h⟩
 refine⟨hM.below,hM.ro,hM.aH,fun j b h=>?_,fun j b g h hg=>?_,fun i j b1 b2 g h1 h2 g1 g2=>?_,fun j b h=>?_,fun j cs i h hh=>?_,hM.base,hM.dC,fun j st h=>?_⟩
 rotate_right
 ·obtain⟨_,b',hb,e⟩:=key j _ h;cases b' with
  |loop st'=>simp only[fI,bJ.loop.injEq]at e;subst e;exact hM.y8 j st hb
  |_=>simp[fI]at e
 ·obtain⟨_,b',hb,rfl⟩:=key j b h;exact(hM.dI j b' hb).kill
 ·obtain⟨_,b',hb,rfl⟩:=key j b h;rw[uK];exact hM.own j b' g hb (fD.1 hg)
 ·obtain⟨_,ZR,Tx,rfl⟩:=key i b1 h1;obtain⟨_,ZS,pB,rfl⟩:=key j b2 h2;exact hM.inj i j ZR ZS g Tx pB (fD.1 g1) (fD.1 g2)
 ·obtain⟨_,b',hb,rfl⟩:=key j b h;exact rX.2 (hM.apart j b' hb)
 ·obtain⟨_,b',hb,e⟩:=key j _ h;cases b' with
  |box Dk=>simp only[fI,bJ.box.injEq]at e;subst e;obtain⟨h1,h2⟩:=uJ hh;have:=hM.fi j Dk i hb h1;rw[eQ h2];obtain⟨bb,hbb⟩:=Option.isSome_iff_exists.1 this;simp[bC,hbb]
  |_=>simp[fI]at e
theorem vt(m:Mem)(id:Nat)(b:bJ):an (bf m id) id b=an m id b:=by
 funext t;by_cases h:t=id
 ·subst h;simp
 ·rw[ao h,ao h,eQ h]
variable{b':bJ}
theorem Be(mh:∀i off,b'.rowAt i off=true→b.rowAt i off=true)(h:b'.owns p g):b.owns p g:=by
 rcases h with h|⟨i,off,hr,h⟩
 ·exact .inl h
 ·exact .inr ⟨i,off,mh i off hr,h⟩
theorem N6(mh:∀i off,b'.rowAt i off=true→b.rowAt i off=true)(h:b.apart p):b'.apart p:=fun i off g hr hg=>
 let⟨h1,h2⟩:=h i off g (mh i off hr) hg
 ⟨h1,fun i' qi qL bV=>h2 i' qi (mh i' qi qL) bV⟩
theorem ax.QC(hM:ax P G w0 μ φ m w)(hm:m id=some b)(Gp:b.ir=true)(hg:b.owns (φ id) g)(I1:jw g w w')(Mw:w'.heap.size=w.heap.size)(hw:∀k,k≠g→w'.heap[k]?=w.heap[k]?)(hB:fR P μ φ w' id b')(VN:b'.ir=true)(hn:∀j,b'.names j=true→(m j).isSome=true)(mh:∀i off,b'.rowAt i off=true→b.rowAt i off=true)(VO:∀st,b'=.loop st→∃rc,(φ id).g=some g∧w0.rc id=some (g,rc)∧w'.heap[g]?=some (.loop (st.obj rc)):=by intro st h;cases h):ax P G w0 μ φ (an m id b') w':=by
 obtain⟨rR,hμ⟩:=hM.own id b g hm hg;have hμ:=hμ Gp;refine⟨hM.below.trans (I1.mono rR),fun k o hk=>?_,hM.aH,fun j c hj=>?_,fun j c g' hj bV=>?_,fun i j b1 b2 g' h1 h2 g1 g2=>?_,fun j c hj=>?_,fun j cs i hj hh=>?_,hM.base,hM.dC,fun j st hj=>?_⟩
 rotate_right
 ·by_cases e:j=id
  ·subst e;rw[aM]at hj;simp only[Option.some.injEq]at hj;obtain⟨rc,h0,h1,h2⟩:=VO st hj;exact⟨g,rc,h0,h1,h2⟩
  ·rw[ao e]at hj;obtain⟨g',rc,h1,h2,h3⟩:=hM.y8 j st hj;exact⟨g',rc,h1,h2,by rw[hw g' (fun e'=>by subst e';exact e (hM.inj j id _ b g' hj hm (.inl h1) hg))];exact h3⟩
 ·have:k≠g:=fun e=>by subst e;rw[hμ]at hk;cases hk
  rw[hw k this];exact hM.ro k o hk
 ·by_cases e:j=id
  ·subst e;rw[aM]at hj;simp only[Option.some.injEq]at hj;subst hj;exact hB
  ·rw[ao e]at hj;refine(hM.dI j c hj).cH (fun _ _=>rfl) rfl (fun _ _ h=>h) (fun g' bV=>hw g' (fun e'=>?_));subst e';exact e (hM.inj j id c b g' hj hm bV hg)
 ·by_cases e:j=id
  ·subst e;rw[aM]at hj;simp only[Option.some.injEq]at hj;subst hj;obtain⟨h1,h2⟩:=hM.own j b g' hm (Be mh bV);exact⟨h1,fun _=>h2 Gp⟩
  ·rw[ao e]at hj;exact hM.own j c g' hj bV
 ·have e1:∃c1,m i=some c1∧c1.owns (φ i) g':=by
   by_cases e:i=id
   ·subst e;rw[aM]at h1;simp only[Option.some.injEq]at h1;subst h1;exact⟨b,hm,Be mh g1⟩
   ·rw[ao e]at h1;exact⟨b1,h1,g1⟩
  have e2:∃c2,m j=some c2∧c2.owns (φ j) g':=by
   by_cases e:j=id
   ·subst e;rw[aM]at h2;simp only[Option.some.injEq]at h2;subst h2;exact⟨b,hm,Be mh g2⟩
   ·rw[ao e]at h2;exact⟨b2,h2,g2⟩
  obtain⟨c1,e1,o1⟩:=e1;obtain⟨c2,e2,o2⟩:=e2;exact hM.inj i j c1 c2 g' e1 e2 o1 o2
 ·by_cases e:j=id
  ·subst e;rw[aM]at hj;simp only[Option.some.injEq]at hj;subst hj;exact N6 mh (hM.apart j b hm)
  ·rw[ao e]at hj;exact hM.apart j c hj
 ·have:(m i).isSome=true:=by
   by_cases e:j=id
   ·subst e;rw[aM]at hj;simp only[Option.some.injEq]at hj;subst hj;exact hn i hh
   ·rw[ao e]at hj;exact hM.fi j cs i hj hh
  by_cases e:i=id
  ·subst e;simp
  ·rw[ao e];exact this
theorem ax.write(hM:ax P G w0 μ φ m w)(hm:m id=some b)(Gp:b.ir=true)(hg:(φ id).g=some g)(I1:jw g w w')(Mw:w'.heap.size=w.heap.size)(hw:∀k,k≠g→w'.heap[k]?=w.heap[k]?)(hB:fR P μ φ w' id b')(VN:b'.ir=true)(hn:∀j,b'.names j=true→(m j).isSome=true)(VO:∀st,b'=.loop st→∃rc,w0.rc id=some (g,rc)∧w'.heap[g]?=some (.loop (st.obj rc)):=by intro st h;cases h)(mh:∀i off,b'.rowAt i off=true→b.rowAt i off=true:=by intro i off h;simp[bJ.rowAt]at h):ax P G w0 μ φ (an m id b') w':=hM.QC hm Gp (.inl hg) I1 Mw hw hB VN hn mh fun st h=>let⟨rc,h1,h2⟩:=VO st h;⟨rc,hg,h1,h2⟩
def nr(μ:Ro)(w:World)(g:Option Nat):Ro:=fun b=>if g=some b then w.heap[b]? else μ b
theorem jV(hM:ax P G w0 μ φ m w)(g:Option Nat):∀b o,μ b=some o→nr μ w g b=some o:=by
 intro b o hb;unfold nr;split
 ·exact hM.ro b o hb
 ·exact hb
noncomputable def qV(μ:Ro)(w:World)(S:Nat→Prop):Ro:=fun b=> @ite _ (S b) (Classical.propDecidable _) (w.heap[b]?) (μ b)
theorem ow(hM:ax P G w0 μ φ m w)(S:Nat→Prop):∀b o,μ b=some o→qV μ w S b=some o:=by
 intro b o hb;unfold qV;split
 ·exact hM.ro b o hb
 ·exact hb
theorem ax.My(hM:ax P G w0 μ φ m w)(hm:m id=some b)(VO:∀st,b≠.loop st)(hA:aL P (qV μ w (b.owns (φ id))) φ w id sz et es):ax P G w0 (qV μ w (b.owns (φ id))) φ (an m id (.nM sz et es)) w:=by
 have mono:=ow hM (b.owns (φ id));have Mz:∀i off,(bJ.nM sz et es).rowAt i off=true→False:=fun i off h=>by simp[bJ.rowAt]at h
 refine⟨hM.below,fun k o hb=>?_,fun g cs hg=>(hM.aH g cs hg).mono mono,fun j c hj=>?_,fun j c g' hj bV=>?_,fun i j b1 b2 g' h1 h2 g1 g2=>?_,fun j c hj=>?_,fun j cs i hj hh=>?_,fun k o hb br=>?_,fun b o hb=>mono b o (hM.dC b o hb),fun j st hj=>?_⟩
 rotate_right
 ·by_cases e:j=id
  ·subst e;rw[aM]at hj;cases hj
  ·rw[ao e]at hj;exact hM.y8 j st hj
 rotate_right
 ·unfold qV at hb;split at hb
  ·rename_i he;have:=(hM.own id b k hm he).1;omega
  ·exact hM.base k o hb br
 ·unfold qV at hb;split at hb
  ·exact hb
  ·exact hM.ro k o hb
 ·by_cases e:j=id
  ·subst e;rw[aM]at hj;simp only[Option.some.injEq]at hj;subst hj;refine⟨hA,fun g hg=>?_⟩;have:=fR.Bc (b:=.arr sz et es) hA (.inl hg);unfold qV;rw[if_pos (show b.owns (φ j) g from .inl hg)];simp[this]
  ·rw[ao e]at hj;exact(hM.dI j c hj).cH (fun _ _=>rfl) rfl mono (fun _ _=>rfl)
 ·by_cases e:j=id
  ·subst e;rw[aM]at hj;simp only[Option.some.injEq]at hj;subst hj;exact⟨(hM.own j b g' hm (.inl (mi Mz bV))).1,by simp[bJ.ir]⟩
  ·rw[ao e]at hj;obtain⟨h1,h2⟩:=hM.own j c g' hj bV;refine⟨h1,fun Bb=>?_⟩;unfold qV;split
   ·rename_i he;exact absurd (hM.inj j id c _ g' hj hm bV he) e
   ·exact h2 Bb
 ·have e1:∃c1,m i=some c1∧c1.owns (φ i) g':=by
   by_cases e:i=id
   ·subst e;rw[aM]at h1;simp only[Option.some.injEq]at h1;subst h1;exact⟨b,hm,.inl (mi Mz g1)⟩
   ·rw[ao e]at h1;exact⟨b1,h1,g1⟩
  have e2:∃c2,m j=some c2∧c2.owns (φ j) g':=by
   by_cases e:j=id
   ·subst e;rw[aM]at h2;simp only[Option.some.injEq]at h2;subst h2;exact⟨b,hm,.inl (mi Mz g2)⟩
   ·rw[ao e]at h2;exact⟨b2,h2,g2⟩
  obtain⟨c1,e1,o1⟩:=e1;obtain⟨c2,e2,o2⟩:=e2;exact hM.inj i j c1 c2 g' e1 e2 o1 o2
 ·by_cases e:j=id
  ·subst e;rw[aM]at hj;simp only[Option.some.injEq]at hj;subst hj;exact ov Mz
  ·rw[ao e]at hj;exact hM.apart j c hj
 ·have:(m i).isSome=true:=by
   by_cases e:j=id
   ·subst e;rw[aM]at hj;simp at hj
   ·rw[ao e]at hj;exact hM.fi j cs i hj hh
  by_cases e:i=id
  ·subst e;simp
  ·rw[ao e];exact this
theorem nN:∀i off,(bJ.arr sz et es).rowAt i off=true→False:=fun i off h=>by simp[bJ.rowAt]at h
theorem ax.freeze(hM:ax P G w0 μ φ m w)(hm:m id=some (.arr sz et es)):ax P G w0 (nr μ w (φ id).g) φ (an m id (.nM sz et es)) w:=by
 have e:qV μ w ((bJ.arr sz et es).owns (φ id))=nr μ w (φ id).g:=by
  funext b;unfold qV nr;by_cases h:(φ id).g=some b
  ·rw[if_pos h,if_pos (show(bJ.arr sz et es).owns (φ id) b from .inl h)]
  ·rw[if_neg h,if_neg fun ho=>h (mi nN ho)]
 have:=hM.My (sz:=sz) (et:=et) (es:=es) hm (fun st h=>by cases h) (aL.cH (hM.dI id _ hm) rfl (ow hM _) (fun _ _=>rfl));rwa[e]at this
theorem ax.MA(hM:ax P G w0 μ φ m w)(hm:m id=some (.nest sz et es)):ax P G w0 (qV μ w ((bJ.nest sz et es).owns (φ id))) φ (an m id (.nM sz et (es.map PV.strip))) w:=by have hN:aV P μ φ w id sz et es:=hM.dI id _ hm;refine hM.My hm (fun st h=>by cases h) (hN.strip (ow hM _) fun i off g hr hg=>?_);unfold qV;rw[if_pos (show(bJ.nest sz et es).owns (φ id) g from .inr ⟨i,off,hr,hg⟩)]
def cN(μ:Ro)(w w':World):Ro:=fun b=>if b<w.heap.size then μ b else w'.heap[b]?
theorem ja(hM:ax P G w0 μ φ m w)(w':World):∀b o,μ b=some o→cN μ w w' b=some o:=by intro b o hb;have:=(Array.getElem?_eq_some_iff.1 (hM.ro b o hb)).1;simp[cN,this,hb]
theorem ax.called(hM:ax P G w0 μ φ m w)(hb:jw w.heap.size w w'):ax P G w0 (cN μ w w') φ m w':=by
 have mono:=ja hM w';refine⟨hM.below.trans (hb.mono hM.below.size),fun b o h=>?_,fun g cs hg=>(hM.aH g cs hg).mono mono,fun id b h=>?_,fun id b g h hg=>?_,hM.inj,hM.apart,hM.fi,fun b o h br=>?_,fun b o hb=>mono b o (hM.dC b o hb),fun j st hj=>?_⟩
 rotate_right
 ·obtain⟨g,rc,h1,h2,h3⟩:=hM.y8 j st hj;exact⟨g,rc,h1,h2,by rw[hb.block g (Array.getElem?_eq_some_iff.1 h3).1];exact h3⟩
 rotate_right
 ·have:w0.heap.size≤w.heap.size:=hM.below.size;unfold cN at h;rw[if_pos (by omega)]at h;exact hM.base b o h br
 ·unfold cN at h;split at h
  ·rename_i br;rw[hb.block b br];exact hM.ro b o h
  ·exact h
 ·have hR:=hM.dI id b h;exact hR.cH (fun _ _=>rfl) rfl mono (fun g hg=>hb.block g (hR.Bc hg))
 ·obtain⟨h1,h2⟩:=hM.own id b g h hg;refine⟨h1,fun hm=>?_⟩;have:=(hM.dI id b h).Bc hg;simp[cN,this,h2 hm]
def kN(μ:Ro)(g:Option Nat):Ro:=fun b=>if g=some b then none else μ b
theorem Gq{μ:Ro}{g:Option Nat}{b:Nat}{o:Obj}(h:kN μ g b=some o):μ b=some o:=by
 unfold kN at h;split at h
 ·cases h
 ·exact h
theorem vM(hM:ax P G w0 μ φ m w)(w':World){g:Option Nat}(hg:∀b,g=some b→w.heap.size≤b):∀b o,μ b=some o→kN (cN μ w w') g b=some o:=by intro b o hb;have br:=(Array.getElem?_eq_some_iff.1 (hM.ro b o hb)).1;unfold kN;rw[if_neg fun e=>by have:=hg b e;omega];exact ja hM w' b o hb
theorem ax.Dl(hM:ax P G w0 μ φ m w)(hb:jw w.heap.size w w'){go:Option Nat}(zZ:∀b,go=some b→w.heap.size≤b):ax P G w0 (kN (cN μ w w') go) φ m w':=by
 have mono:=vM hM w' zZ;have hC:=hM.called hb;refine⟨hC.below,fun b o h=>hC.ro b o (Gq h),fun g cs hg=>(hM.aH g cs hg).mono mono,fun id b h=>?_,fun id b g h hg=>?_,hM.inj,hM.apart,hM.fi,fun b o h br=>hC.base b o (Gq h) br,fun b o hb=>mono b o (hM.dC b o hb),hC.y8⟩
 ·have hR:=hM.dI id b h;exact hR.cH (fun _ _=>rfl) rfl mono (fun g hg=>hb.block g (hR.Bc hg))
 ·obtain⟨h1,h2⟩:=hC.own id b g h hg;refine⟨h1,fun hm=>?_⟩;unfold kN;split
  ·rfl
  ·exact h2 hm
theorem ax.drew(hM:ax P G w0 μ φ m w):ax P G w0 μ φ m w.drew:=⟨hM.below.drew,hM.ro,hM.aH,fun id b h=>(hM.dI id b h).cH (fun _ _=>rfl) rfl (fun _ _ h=>h) (fun _ _=>rfl),hM.own,hM.inj,hM.apart,hM.fi,hM.base,hM.dC,hM.y8⟩
end
end Go.Ab
