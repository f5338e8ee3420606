import Derived.Test.YtcmhmlnkhmefbaaGreatAbP1
import Derived.Laws.StructEq
import Derived.ChangeKeysEq
set_option linter.unusedVariables false
namespace Go.Ab
open Go.RowKit (Below)
section
variable {P:Program} {G:Nat→Option (List PV)} {w0:bA} {μ:Ro} {φ:Nat→aG} {m:Mem} {w:World}
theorem toCells_ok{n:Nat}{v:V}{cs:List V}(h:toCells n v=some cs):cs.length=n∧(∀id,cr id cs=true→v.has id=true)∧∀(P:Program)(μ:Ro)(φ:Nat→aG)(x:Value),ai P μ φ v x→x.cells.size=n∧(∀(i:Nat)u y,cs[i]?=some u→x.cells[i]?=some y→ai P μ φ u y)∧(∀(i:Nat)(y:Value),x.cells[i]?=some y→y.oneCell'=true):=by
 have one:∀(v:V),(∀(P:Program)(μ:Ro)(φ:Nat→aG)(x:Value),ai P μ φ v x→x.oneCell'=true∧x.cells= #[x])→(if n=1 then some [v]else none)=some cs→cs.length=n∧(∀id,cr id cs=true→v.has id=true)∧∀(P:Program)(μ:Ro)(φ:Nat→aG)(x:Value),ai P μ φ v x→x.cells.size=n∧(∀(i:Nat)u y,cs[i]?=some u→x.cells[i]?=some y→ai P μ φ u y)∧(∀(i:Nat)(y:Value),x.cells[i]?=some y→y.oneCell'=true):=by
  intro v h1 h;split at h
  ·rename_i hn;simp only[Option.some.injEq]at h;subst h;subst hn;refine⟨rfl,fun id hid=>by simpa[cr]using hid,fun P μ φ x hx=>?_⟩;obtain⟨h2,h3⟩:=h1 _ _ _ _ hx;rw[h3];refine⟨rfl,fun i u y hu hy=>?_,fun i y hy=>?_⟩
   ·cases i with
    |zero=>simp at hu hy;subst hu;subst hy;exact hx
    |succ i=>simp at hu
   ·cases i with
    |zero=>simp at hy;subst hy;exact h2
    |succ i=>simp at hy
  ·cases h
 have WN:∀x:Value,x.oneCell'=true→x.cells= #[x]:=by intro x hx;cases x<;>first|rfl|(simp[Value.oneCell']at hx)
 unfold toCells at h;split at h
 ·rename_i ps;split at h
  ·rename_i hn;simp only[Option.some.injEq]at h;subst h;refine⟨by simpa using hn,fun id hid=>(by rw[Mk]at hid;cases hid),fun P μ φ x hx=>?_⟩;cases hx with
   |pv hx=>cases hx with
    |agg h1 h2 h3=>refine⟨by simp only[Value.cells];omega,fun i u y hu hy=>?_,h3⟩;simp only[List.getElem?_map,Option.map_eq_some_iff]at hu;obtain⟨q,hq,rfl⟩:=hu;exact .pv (h2 i q y hq hy)
  ·cases h
 ·split at h
  ·rename_i hn;simp only[Option.some.injEq]at h;subst h;refine⟨hn,fun id hid=>by simpa[V.has]using hid,fun P μ φ x hx=>?_⟩;cases hx with
   |agg h1 h2 h3=>exact⟨by simp only[Value.cells];omega,h2,h3⟩
  ·cases h
 ·cases h
 ·cases h
 ·cases h
 ·cases h
 ·rename_i h1 h2 h3 h4 h5 h6;refine one v (fun P μ φ x hx=>?_) h;have:x.oneCell'=true:=by
   cases hx with
   |pv hp=>exact hp.one (fun cs e=>h1 cs (by rw[e])) (fun cs e=>h5 cs (by rw[e])) (fun e=>h6 (by rw[e]))
   |agg=>exact absurd rfl (h2 _)
   |bl=>exact absurd rfl (h4 _)
   |top=>exact absurd rfl h3
   |_=>rfl
  exact⟨this,WN x this⟩
theorem qY:∀(d:Nat){v:V}{p:PV}{x:Value},jq dh d v=some p→ai P μ φ v x→ak P μ p x
 |0,v,p,x,h,_=>by simp[jq]at h
 |d+1,v,p,x,h,hx=>by
  have ih:=fun{v p x}=> @qY d v p x;cases v with
  |pv q=>simp[jq]at h;subst h;cases hx with|pv hx=>exact hx
  |bk=>simp[jq]at h;subst h;cases hx;exact .jr
  |agg cs=>
   simp only[jq]at h;obtain⟨ps,l7,h⟩:=Option.bind_eq_some_iff.1 h;simp only[Option.some.injEq]at h;subst h;obtain⟨h1,h2⟩:=gG l7;cases hx with
   |agg g1 g2 g3=>refine .agg (by omega) (fun i q y hq hy=>?_) g3;obtain⟨u,hu,hg⟩:=h2 i q hq;exact ih hg (g2 i u y hu hy)
  |bl cs=>
   simp only[jq]at h;obtain⟨ps,l7,h⟩:=Option.bind_eq_some_iff.1 h;simp only[Option.some.injEq]at h;subst h;obtain⟨h1,h2⟩:=gG l7;cases hx with
   |bl g1 g2=>refine .bl (by omega) (fun i q y hq hy=>?_);obtain⟨u,hu,hg⟩:=h2 i q hq;exact ih hg (g2 i u y hu hy)
  |op id off=>simp[jq,dh]at h
  |oe id i off=>simp[jq,dh]at h
  |os id=>simp[jq,dh]at h
  |fj id lo len=>simp[jq,dh]at h
  |tc id i off=>simp[jq,dh]at h
  |wL id i off s j off2=>simp[jq]at h
  |om id=>simp[jq,dh]at h
  |fn f cs=>
   simp only[jq]at h;obtain⟨ps,l7,h⟩:=Option.bind_eq_some_iff.1 h;simp only[Option.some.injEq]at h;subst h;obtain⟨h1,h2⟩:=gG l7;cases hx with
   |fn g1 g2=>refine .fn (by omega) (fun i q y hq hy=>?_);obtain⟨u,hu,hg⟩:=h2 i q hq;exact ih hg (g2 i u y hu hy)
  |yl id=>simp[jq]at h
  |it id=>simp[jq]at h
  |top=>simp[jq]at h
def iQ(w:World):Ro:=fun b=>w.heap[b]?
theorem ay.uM(hM:ay P G w0 μ φ m w):∀b o,μ b=some o→iQ w b=some o:=hM.ro
variable{id s:Nat}{et:TypeId}{es:List PV}{ν:Ro}
theorem aM.Ew(hA:aM P μ φ w id s et es){g:Nat}(hg:(φ id).g=some g){lo len:Nat}(hl:lo+len≤es.length){cap:Nat}(ng:cap≤(φ id).cap-lo)(ZL:len≤cap)(hν:∀b o,μ b=some o→ν b=some o)(Bd:ν g=w.heap[g]?):ak P ν (.rs s ((es.drop lo).take len)) (.slice (some ⟨g,lo*s,none⟩) len cap):=by
 have hle:=hA.mG;obtain⟨a1,a2,a3,a4,a5,a6,a7⟩:=hA;rw[hg]at a7;obtain⟨c,c1,c2,c3,c4,c5⟩:=a7;have eK:∀(i:Nat)e,((es.drop lo).take len)[i]?=some e→i<len∧es[lo+i]?=some e:=fun i e hi=>dQ hi;have hlen:((es.drop lo).take len).length=len:=by simp;omega
 have hb:∀(i:Nat)e(j:Nat)p,((es.drop lo).take len)[i]?=some e→e.cells[j]?=some p→(lo+i)*s+j<es.length*s:=by intro i e j p hi hj;obtain⟨_,hi⟩:=eK i e hi;have h1:=(List.getElem?_eq_some_iff.1 hi).1;have h2:=(List.getElem?_eq_some_iff.1 hj).1;have h3:=a5 _ e hi;have:(lo+i+1)*s≤es.length*s:=Nat.mul_le_mul_right _ (by omega);rw[Nat.add_mul _ 1]at this;omega
 have hc:∀(i:Nat)e(j:Nat)p,((es.drop lo).take len)[i]?=some e→e.cells[j]?=some p→c[(lo+i)*s+j]?=some (c.getD ((lo+i)*s+j) undef):=by
  intro i e j p hi hj;obtain⟨_,hi⟩:=eK i e hi;have h1:=(List.getElem?_eq_some_iff.1 hi).1;have h2:=(List.getElem?_eq_some_iff.1 hj).1;have h3:=a5 _ e hi;have:(lo+i+1)*s≤(φ id).cap*s:=Nat.mul_le_mul_right _ (by omega);rw[Nat.add_mul _ 1]at this;have bt:(lo+i)*s+j<c.size:=by omega
  rw[Array.getElem?_eq_getElem bt];simp[Array.getD,bt]
 have:=ak.rs (P:=P) (μ:=ν) (sz:=s) (es:=(es.drop lo).take len) (b:=g) (o:=lo*s) (cap:=cap) (fun i j=>c.getD ((lo+i)*s+j) undef) (by omega) (by omega) (fun i e hi=>a5 _ e (eK i e hi).2) (fun i e j p hi hj=>by have:=hc i e j p hi hj;unfold cellAt;rw[Bd,c1];simp only;rw[←this,Nat.add_mul]) (fun i e j p hi hj=>((c4 _ e j p _ (eK i e hi).2 hj (hc i e j p hi hj)).mono hν)) (fun i e j p hi hj=>c5 _ _ (hb i e j p hi hj) (hc i e j p hi hj));rw[hlen]at this;exact this
theorem aM.slice(hM:ay P G w0 μ φ m w)(hA:aM P μ φ w id s et es){g:Nat}(hg:(φ id).g=some g){lo len:Nat}(hl:lo+len≤es.length)(hν:∀b o,μ b=some o→ν b=some o)(Bd:ν g=w.heap[g]?):ak P ν (.rs s ((es.drop lo).take len)) (.slice (some ⟨g,lo*s,none⟩) len ((φ id).cap-lo)):=hA.Ew hg hl (Nat.le_refl _) (by have:=hA.mG;omega) hν Bd
variable{x:Value}
theorem aM.Di(hA:aM P μ φ w id s et es)(hx:ai P μ φ (.os id) x)(hν:∀b o,μ b=some o→ν b=some o)(Bd:∀g,(φ id).g=some g→ν g=w.heap[g]?):ak P ν (.rs s es) x:=by
 have sY:=hA;obtain⟨a1,a2,a3,a4,a5,a6,a7⟩:=hA;cases hx with
 |pB hg=>rw[hg]at a7;rw[a7.1];exact .jr
 | @os _ g hg=>have hle:=sY.mG;have:=sY.Ew hg (lo:=0) (len:=es.length) (by omega) (cap:=(φ id).cap) (by omega) hle.1 hν (Bd g hg);rw[a1];simpa using this
theorem aM.full(hM:ay P G w0 μ φ m w)(hA:aM P μ φ w id s et es)(hx:ai P μ φ (.os id) x)(hν:∀b o,μ b=some o→ν b=some o)(Bd:∀g,(φ id).g=some g→ν g=w.heap[g]?):ak P ν (.rs s es) x:=hA.Di hx hν Bd
theorem eL.full{R:zh}{rs:List PV}(h:eL P μ R w s rs x)(hν:∀b o,μ b=some o→ν b=some o)(Bd:∀g,R.g=some g→ν g=w.heap[g]?):ak P ν (.rs s rs) x:=by obtain⟨⟨et,hA⟩,hV⟩:=h;exact hA.Di hV hν Bd
theorem zm(e:PV):e.strip.cells=e.cells.map PV.lZ:=by cases e<;>rfl
theorem aV.strip{sz:Nat}(h:aV P μ φ w id sz et es)(hν:∀b o,μ b=some o→ν b=some o)(Bd:∀i off g,(bL.nest sz et es).rowAt i off=true→((φ id).row i off).g=some g→ν g=w.heap[g]?):aM P ν φ w id sz et (es.map PV.strip):=by
 obtain⟨a1,a2,a3,a4,a5,a6,a7⟩:=h;refine⟨by simpa using a1,a2,a3,a4,fun i e he=>?_,a6,?_⟩
 ·rw[List.getElem?_map,Option.map_eq_some_iff]at he;obtain⟨e0,h0,rfl⟩:=he;rw[zm,List.length_map];exact a5 i e0 h0
 ·cases hg:(φ id).g with
  |none=>rw[hg]at a7;simp[a7.1,a7.2]
  |some g=>
   rw[hg]at a7;obtain⟨c,c1,c2,c3,c4,c5⟩:=a7;refine⟨c,c1,c2,by simpa using c3,fun i e j p x he hp hx=>?_,fun i x hi hx=>c5 i x (by simpa using hi) hx⟩;rw[List.getElem?_map,Option.map_eq_some_iff]at he;obtain⟨e0,h0,rfl⟩:=he;rw[zm,List.getElem?_map,Option.map_eq_some_iff]at hp;obtain⟨p0,CI,rfl⟩:=hp;have hc:=c4 i e0 j p0 x h0 CI hx;cases hr:p0.isRow with
   |false=>
    have:p0.lZ=p0:=by cases p0<;>first|rfl|cases hr
    rw[this];exact(hc.Mj hr).mono hν
   |true=>
    cases p0<;>first|(cases hr;done)|skip
    rename_i s rs;exact eL.full (show eL P μ _ w s rs x from hc) hν fun g' bY=>Bd i j g' (by simp[bL.rowAt,h0,CI,PV.isRow]) bY
theorem NZ{g o:Nat}{c:Array Value}{T:TypeId}{fz:Nat×Nat}{y:Value}(hν:ν g=w.heap[g]?)(h:w.heap[g]?=some (.cells c T fz))(hy:c[o]?=some y):cellAt ν g o=some y:=by simp[cellAt,hν,h,hy]
theorem qU(hM:ay P G w0 μ φ m w){ν:Ro}(ro:∀b o,μ b=some o→ν b=some o)(own:∀id b g,m id=some b→b.eh (φ id) g→ν g=w.heap[g]?):∀(d:Nat){v:V}{p:PV}{x:Value},jq m d v=some p→ai P μ φ v x→ak P ν p x
 |0,v,p,x,h,_=>by simp[jq]at h
 |d+1,v,p,x,h,hx=>by
  have ih:=fun{v p x}=> @qU hM ν ro own d v p x;cases v with
  |pv q=>simp[jq]at h;subst h;cases hx with|pv hx=>exact hx.mono ro
  |bk=>simp[jq]at h;subst h;cases hx;exact .jr
  |agg cs=>
   simp only[jq]at h;obtain⟨ps,l7,h⟩:=Option.bind_eq_some_iff.1 h;simp only[Option.some.injEq]at h;subst h;obtain⟨h1,h2⟩:=gG l7;cases hx with
   |agg g1 g2 g3=>refine .agg (by omega) (fun i q y hq hy=>?_) g3;obtain⟨u,hu,hg⟩:=h2 i q hq;exact ih hg (g2 i u y hu hy)
  |bl cs=>
   simp only[jq]at h;obtain⟨ps,l7,h⟩:=Option.bind_eq_some_iff.1 h;simp only[Option.some.injEq]at h;subst h;obtain⟨h1,h2⟩:=gG l7;cases hx with
   |bl g1 g2=>refine .bl (by omega) (fun i q y hq hy=>?_);obtain⟨u,hu,hg⟩:=h2 i q hq;exact ih hg (g2 i u y hu hy)
  |op id off=>
   simp only[jq]at h;split at h
   ·rename_i cs hm;obtain⟨ps,l7,h⟩:=Option.bind_eq_some_iff.1 h;simp only[Option.some.injEq]at h;subst h;obtain⟨h1,h2⟩:=gG l7;obtain⟨g,c,T,hg,hh,hs,hv,qX,yp⟩:=hM.dL id _ hm;cases hx with
    |op bY=>
     rw[hg]at bY;simp only[Option.some.injEq]at bY;subst bY;have eK:∀(i:Nat)p,ps[i]?=some p→c[off+i]?=some (c.getD (off+i) undef):=by
      intro i p hi;have:=(List.getElem?_eq_some_iff.1 hi).1;rw[h1]at this;simp at this;have bt:off+i<c.size:=by omega
      rw[Array.getElem?_eq_getElem bt];simp[Array.getD,bt]
     refine .rp (fun i=>c.getD (off+i) undef) (fun i p hi=>NZ (own _ _ _ hm (.inl hg)) hh (eK i p hi)) (fun i p hi=>?_) (fun i hi=>?_)
     ·obtain⟨u,hu,hgu⟩:=h2 i p hi;exact ih hgu (hv (off+i) u _ (kU hu) (eK i p hi))
     ·exact qX _ _ (eK i _ (List.getElem?_eq_getElem hi))
   ·cases h
  |oe id i off=>
   have key:∀(s:Nat)(et:TypeId)(es:List PV),(m id=some (.arr s et es)∨m id=some (.nP s et es))→((es[i]?).bind fun e=>some (PV.rp ((aL s e).drop off)))=some p→ak P ν p x:=by
    intro s et es hm h;obtain⟨e,he,h⟩:=Option.bind_eq_some_iff.1 h;simp only[Option.some.injEq]at h;subst h;have hA:=hM.arr hm;have sY:=hA;have WO:∀g,(φ id).g=some g→ν g=w.heap[g]?:=fun g hg=>by rcases hm with hm|hm<;>exact own _ _ _ hm (.inl hg)
    obtain⟨a1,a2,a3,a4,a5,a6,a7⟩:=hA;cases hx with
    | @oe _ _ _ g hg=>
     rw[a2];have Be:=sY.slice hM hg (lo:=0) (len:=es.length) (by omega) ro (WO _ hg);have adU:ak P ν (.rs s es) (.slice (some ⟨g,0,none⟩) es.length (φ id).cap):=by simpa using Be
     obtain⟨b,o,cap,e1,hr⟩:=adU.Ml he;simp only[Value.slice.injEq,Option.some.injEq,Addr.mk.injEq]at e1;obtain⟨⟨rfl,rfl,_⟩,_⟩:=e1;have:=hr.Ev off;simpa using this
   simp only[jq]at h;split at h
   ·rename_i s et es hm;exact key s et es (.inl hm) h
   ·rename_i s et es hm;exact key s et es (.inr hm) h
   ·cases h
  |os id=>
   simp only[jq]at h;split at h
   ·rename_i s et es hm;simp only[Option.some.injEq]at h;subst h;exact(hM.arr (.inl hm)).full hM hx ro (fun g hg=>own _ _ _ hm (.inl hg))
   ·rename_i s et es hm;simp only[Option.some.injEq]at h;subst h;exact(hM.arr (.inr hm)).full hM hx ro (fun g hg=>own _ _ _ hm (.inl hg))
   ·rename_i s et es hm;simp only[Option.some.injEq]at h;subst h;have hN:aV P μ φ w id s et es:=hM.dL id _ hm;exact(hN.strip ro fun i off g hr hg=>own _ _ _ hm (.inr ⟨i,off,hr,hg⟩)).Di (hx.vv ro) (fun _ _ h=>h) fun g hg=>own _ _ _ hm (.inl hg)
   ·cases h
  |wL id i off s j off2=>simp[jq]at h
  |tc id i off=>
   simp only[jq]at h;split at h
   ·rename_i s et es hm;obtain⟨e,he,h⟩:=Option.bind_eq_some_iff.1 h;unfold NP at h;split at h
    ·rename_i s' rs hc;simp only[Option.some.injEq]at h;subst h;have hN:aV P μ φ w id s et es:=hM.dL id _ hm;obtain⟨_,_,_,_,⟨⟨AW,hA⟩,_⟩,Vw⟩:=hN.row (s:=s') (rs:=rs) he (by rw[hc];simp[aY]);exact hA.Di (hx.IQ (ν:=μ)) ro fun g hg=>own _ _ _ hm (.inr ⟨i,off,by simp[bL.rowAt,he,Vw,PV.isRow],hg⟩)
    ·cases h
   ·cases h
  |fj id lo len=>
   have key:∀(s:Nat)(et:TypeId)(es:List PV),(m id=some (.arr s et es)∨m id=some (.nP s et es))→ak P ν (.rs s ((es.drop lo).take len)) x:=by
    intro s et es hm;have hA:=hM.arr hm;have sY:=hA;have WO:∀g,(φ id).g=some g→ν g=w.heap[g]?:=fun g hg=>by rcases hm with hm|hm<;>exact own _ _ _ hm (.inl hg)
    have hle:=hA.mG;obtain⟨a1,a2,a3,a4,a5,a6,a7⟩:=hA;cases hx with
    |ot hg=>simp;exact .jr
    | @fj _ _ _ cap g a hg hl ha Vu CQ=>
     rw[a1]at hl;rcases ha with rfl|⟨ha,_⟩
     ·rw[a2];exact sY.Ew hg hl (by omega) Vu ro (WO _ hg)
     ·have h0:len=0:=by omega
      subst h0;simp only[List.take_zero];exact .FV (by omega)
   simp only[jq]at h;split at h
   ·rename_i s et es hm;simp only[Option.some.injEq]at h;subst h;exact key s et es (.inl hm)
   ·rename_i s et es hm;simp only[Option.some.injEq]at h;subst h;exact key s et es (.inr hm)
   ·cases h
  |om id=>
   simp only[jq]at h;split at h
   ·rename_i kt es hm;simp only[Option.some.injEq]at h;subst h;obtain⟨g,en,clock,kk,hg,hh,hs,hk,Bf,_,hv⟩:=hM.dL id _ hm;cases hx with
    |om bY=>
     rw[hg]at bY;simp only[Option.some.injEq]at bY;subst bY;refine .rm (show ν g=_ from(own _ _ _ hm (.inl hg)).trans hh) (by simp[hs]) (by simp) hk (fun i k hi=>?_) (fun i k e hi he=>?_) (fun i v e hi he=>?_)
     ·simp only[List.getElem?_map,Option.map_eq_some_iff]at hi;obtain⟨⟨a,b⟩,hq,rfl⟩:=hi;exact Bf i a b hq
     ·simp only[List.getElem?_map,Option.map_eq_some_iff]at hi;obtain⟨⟨a,b⟩,hq,rfl⟩:=hi;exact(hv i a b e hq he).1.mono ro
     ·simp only[List.getElem?_map,Option.map_eq_some_iff]at hi;obtain⟨⟨a,b⟩,hq,rfl⟩:=hi;exact(hv i a b e hq he).2.mono ro
   ·rename_i kt e0 es hm;simp only[Option.some.injEq]at h;subst h;obtain⟨g,en,clock,kk,hg,hh,hs,hk,Bf,_,hv⟩:=hM.dL id _ hm;cases hx with
    |om bY=>
     rw[hg]at bY;simp only[Option.some.injEq]at bY;subst bY;refine .rm (show ν g=_ from(own _ _ _ hm (.inl hg)).trans hh) (by simp[hs]) (by simp) hk (fun i k hi=>?_) (fun i k e hi he=>?_) (fun i v e hi he=>?_)
     ·simp only[List.getElem?_map,Option.map_eq_some_iff]at hi;obtain⟨⟨a,b⟩,hq,rfl⟩:=hi;exact Bf i a b hq
     ·simp only[List.getElem?_map,Option.map_eq_some_iff]at hi;obtain⟨⟨a,b⟩,hq,rfl⟩:=hi;exact(hv i a b e hq he).1.mono ro
     ·simp only[List.getElem?_map,Option.map_eq_some_iff]at hi;obtain⟨⟨a,b⟩,hq,rfl⟩:=hi;have h2:=(hv i a b e hq he).2;cases hr:b.isRow with
      |false=>
       have e1:b.lZ=b:=by cases b<;>first|rfl|cases hr
       simp only[e1];split at h2
       ·cases hr
       ·exact h2.mono ro
      |true=>
       cases b<;>first|(cases hr;done)|skip
       exact h2.1.Di h2.2 ro fun g' bY=>own _ _ _ hm (.inr ⟨i,0,by simp[bL.rowAt,hq,PV.isRow],bY⟩)
   ·cases h
  |fn f cs=>
   simp only[jq]at h;obtain⟨ps,l7,h⟩:=Option.bind_eq_some_iff.1 h;simp only[Option.some.injEq]at h;subst h;obtain⟨h1,h2⟩:=gG l7;cases hx with
   |fn g1 g2=>refine .fn (by omega) (fun i q y hq hy=>?_);obtain⟨u,hu,hg⟩:=h2 i q hq;exact ih hg (g2 i u y hu hy)
  |yl id=>simp[jq]at h
  |it id=>simp[jq]at h
  |top=>simp[jq]at h
end
end Go.Ab
set_option linter.unusedVariables false
namespace Go.Ab
open Go.RowKit (Below)
section
variable {P:Program} {w:World}
def valOf:PV→Value
 |.int k n=>.int k n
 |.bool b=>.bool b
 |.str s=>.string ⟨s.toArray⟩
 |_=>undef
def eM(P:Program)(t:TypeId)(ps:List PV):Value:=if aF P t then .agg (ps.map valOf).toArray else valOf (ps.headD .bad)
theorem Dj{μ:Ro}{k:Kd}{p:PV}{y:Value}(h:qR k p=true)(hy:ak P μ p y):y=valOf p:=by cases k<;>cases p<;>simp[qR]at h<;>cases hy<;>rfl
theorem nG:∀{ks:List Kd}{ps:List PV},gU ks ps=true→ps.length=ks.length
 |[],[],_=>rfl
 |[],_::_,h=>by simp[gU]at h
 |_::_,[],h=>by simp[gU]at h
 |k::ks,p::ps,h=>by simp[gU]at h;simp[nG h.2]
theorem Mn:∀{ks:List Kd}{ps:List PV},gU ks ps=true→∀(i:Nat)p,ps[i]?=some p→∃k,ks[i]?=some k∧qR k p=true
 |[],[],_,i,p,hi=>by simp at hi
 |[],_::_,h,_,_,_=>by simp[gU]at h
 |_::_,[],h,_,_,_=>by simp[gU]at h
 |k::ks,q::ps,h,i,p,hi=>by
  simp[gU]at h;cases i with
  |zero=>simp at hi;subst hi;exact⟨k,by simp,h.1⟩
  |succ i=>simp at hi;simpa using Mn h.2 i p hi
theorem ov:∀(a b:List Kd)(ps:List PV),gU (a++b) ps=true↔gU a (ps.take a.length)=true∧gU b (ps.drop a.length)=true
 |[],b,ps=>by simp[gU]
 |k::a,b,[]=>by simp[gU]
 |k::a,b,p::ps=>by simp[gU,ov a b ps,Bool.and_eq_true,and_assoc]
theorem tu:∀(n:Nat)(ps qs:List PV),n≤ps.length→n≤qs.length→cC ps qs=(cC (ps.take n) (qs.take n)&&cC (ps.drop n) (qs.drop n))
 |0,ps,qs,_,_=>by simp[cC]
 |n+1,[],_,h,_=>by simp at h
 |n+1,_::_,[],_,h=>by simp at h
 |n+1,p::ps,q::qs,h1,h2=>by simp only[List.length_cons,Nat.add_le_add_iff_right]at h1 h2;simp only[cC,List.take_succ_cons,List.drop_succ_cons,tu n ps qs h1 h2,Bool.and_assoc]
variable{ks:List Kd}{ps:List PV}
theorem qn{μ:Ro}{xs:Array Value}(hk:gU ks ps=true)(hl:xs.size=ps.length)(hv:∀(i:Nat)p y,ps[i]?=some p→xs[i]?=some y→ak P μ p y):xs=(ps.map valOf).toArray:=by
 apply Array.ext';apply List.ext_getElem?;intro i;by_cases hi:i<ps.length
 ·have h1:ps[i]?=some ps[i]:=List.getElem?_eq_getElem hi;have h2:xs[i]?=some xs[i]:=Array.getElem?_eq_getElem (by omega);obtain⟨k,_,hk⟩:=Mn hk i _ h1;have:=Dj hk (hv i _ _ h1 h2);simp only[Array.getElem?_toList,h2,List.getElem?_map,h1,Option.map_some,this]
 ·simp[hi,hl]
theorem vA(a:List Kd):∀n,(ob a n).length=n*a.length
 |0=>by simp[ob]
 |n+1=>by simp[ob,vA a n,Nat.add_mul];omega
theorem kV{k:Kd}(h:gU [k] ps=true):∃p,ps=[p]∧qR k p=true:=by
 cases ps with
 |nil=>simp[gU]at h
 |cons p r=>cases r with
  |nil=>exact⟨p,rfl,by simpa[gU]using h⟩
  |cons q r=>simp[gU]at h
theorem uN{d:Nat}{t:TypeId}(h:xQ P d t=some ks):(aF P t=true→ks.length=aT P t)∧(aF P t=false→ks.length=1)∧∃de,P.underlying t=some de:=by
 cases d with
 |zero=>simp[xQ]at h
 |succ d=>
  unfold xQ at h;split at h
  ·rename_i q hu;simp at h;subst h;exact⟨by simp[aF,hu],by simp,_,hu⟩
  ·rename_i hu;simp at h;subst h;exact⟨by simp[aF,hu],by simp,_,hu⟩
  ·rename_i hu;simp at h;subst h;exact⟨by simp[aF,hu],by simp,_,hu⟩
  ·rename_i fs hu;split at h
   ·cases h
   ·obtain⟨a,ha,h⟩:=Option.bind_eq_some_iff.1 h;split at h
    ·rename_i hl;simp at h;subst h;exact⟨fun _=>hl,by simp[aF,hu],_,hu⟩
    ·cases h
  ·rename_i n e hu;obtain⟨a,ha,h⟩:=Option.bind_eq_some_iff.1 h;split at h
   ·rename_i hl;simp at h;subst h;refine⟨fun _=>?_,by simp[aF,hu],_,hu⟩;rw[←hl.2,vA]
   ·cases h
  ·cases h
theorem je{d:Nat}{t:TypeId}{off:Nat}(h:xQ P d t=some ks)(hl:off+ks.length≤ps.length):(part t (ps.map valOf).toArray off).run P w=.ok (eM P t ((ps.drop off).take ks.length)) w:=by
 obtain⟨h1,h2,de,hu⟩:=uN h;cases ha:aF P t with
 |true=>rw[wU ha];congr 1;simp only[eM,ha,if_true];congr 1;rw[←h1 ha];simp[List.map_drop,List.map_take,List.extract_eq_take_drop]
 |false=>
  have hk:=h2 ha;rw[hk]at hl⊢;have bt:off<ps.length:=by omega
  rw[wV hu ha (y:=valOf ps[off]) (by simp[bt])];congr 1;simp only[eM,ha,Bool.false_eq_true,if_false];rw[List.drop_eq_getElem_cons bt];rfl
theorem nh:∀(d:Nat)(t:TypeId)(ks:List Kd),xQ P d t=some ks→∀(D:Nat)(w:World)(ps qs:List PV),gU ks ps=true→gU ks qs=true→(Op.equalIn (D+d) t (eM P t ps) (eM P t qs)).run P w=.ok (cC ps qs) w
 |0,t,ks,h,_,_,_,_,_,_=>by simp[xQ]at h
 |d+1,t,ks,h,D,w,ps,qs,hp,hq=>by
  have ih:=nh d;have h0:=h;unfold xQ at h;split at h
  ·rename_i q hu;simp only[Option.some.injEq]at h;subst h;have ha:aF P t=false:=by simp[aF,hu]
   obtain⟨p,rfl,PY⟩:=kV hp;obtain⟨q',rfl,YZ⟩:=kV hq;clear hp hq;cases p<;>simp[qR]at PY;cases q'<;>simp[qR]at YZ;subst PY;subst YZ;simp[eM,ha,valOf,cC,peq,←Nat.add_assoc,Op.equalIn,run_underlying hu]
  ·rename_i hu;simp only[Option.some.injEq]at h;subst h;have ha:aF P t=false:=by simp[aF,hu]
   obtain⟨p,rfl,PY⟩:=kV hp;obtain⟨q',rfl,YZ⟩:=kV hq;clear hp hq;cases p<;>simp[qR]at PY;cases q'<;>simp[qR]at YZ;simp[eM,ha,valOf,cC,peq,←Nat.add_assoc,Op.equalIn,run_underlying hu]
  ·rename_i hu;simp only[Option.some.injEq]at h;subst h;have ha:aF P t=false:=by simp[aF,hu]
   obtain⟨p,rfl,PY⟩:=kV hp;obtain⟨q',rfl,YZ⟩:=kV hq;clear hp hq;cases p<;>simp[qR]at PY;cases q'<;>simp[qR]at YZ;simp only[eM,ha,valOf,cC,peq,←Nat.add_assoc,Bool.false_eq_true,if_false,List.headD_cons,Bool.and_true];rw[run_equalIn_string w _ _ _ _ hu,ByteArray.toList_eq,ByteArray.toList_eq]
  ·rename_i fs hu;split at h
   ·cases h
   ·rename_i sZ;obtain⟨a,ha,h⟩:=Option.bind_eq_some_iff.1 h;split at h
    ·rename_i hlen;simp only[Option.some.injEq]at h;subst h;have QA:aF P t=true:=by simp[aF,hu]
     have hfo:P.fieldsOf t=fs:=by simp[Program.fieldsOf,hu]
     simp only[eM,QA,if_true,←Nat.add_assoc];rw[run_equalIn_struct w (D+d) t _ _ (by rw[hfo];exact hu) (by simpa using sZ),hfo];have key:∀(L:List Field)(off:Nat)(b:List Kd)(w:World),oa (xQ P d) L off=some b→off≤ps.length→off≤qs.length→gU b (ps.drop off)=true→gU b (qs.drop off)=true→(Op.eqFields (D+d) (ps.map valOf).toArray (qs.map valOf).toArray L).run P w=.ok (cC (ps.drop off) (qs.drop off)) w:=by
      intro L;induction L with
      |nil=>
       intro off b w hb o1 o2 h1 h2;simp only[oa,Option.some.injEq]at hb;subst hb;have e1:ps.drop off=[]:=by cases hh:ps.drop off with|nil=>rfl|cons x r=>rw[hh]at h1;simp[gU]at h1
       have e2:qs.drop off=[]:=by cases hh:qs.drop off with|nil=>rfl|cons x r=>rw[hh]at h2;simp[gU]at h2
       simp[Op.eqFields,e1,e2,cC]
      |cons f L ihL=>
       intro off b w hb o1 o2 h1 h2;simp only[oa]at hb;split at hb
       ·rename_i hf;obtain⟨c,hc,hb⟩:=Option.bind_eq_some_iff.1 hb;obtain⟨b',fR,hb⟩:=Option.bind_eq_some_iff.1 hb;simp only[Option.some.injEq]at hb;subst hb;rw[ov]at h1 h2;have l1:=nG h1.1;have l2:=nG h2.1;simp only[List.length_take,List.length_drop]at l1 l2;have p1:=je (w:=w) (ps:=ps) (off:=off) hc (by omega);have p2:=je (w:=w) (ps:=qs) (off:=off) hc (by omega);have p3:=ih f.type c hc D w _ _ h1.1 h2.1;have p4:=ihL (off+c.length) b' w fR (by omega) (by omega) (by rw[←List.drop_drop];exact h1.2) (by rw[←List.drop_drop];exact h2.2);simp only[Op.eqFields,hf.2,ne_eq,not_false_eq_true,if_true,Sem.run_bind,hf.1,p1,p2,p3,Result.andThen_ok];rw[tu c.length (ps.drop off) (qs.drop off) (by simp;omega) (by simp;omega),List.drop_drop,List.drop_drop];cases hr:cC ((ps.drop off).take c.length) ((qs.drop off).take c.length)with
        |false=>simp
        |true=>simpa using p4
       ·cases hb
     simpa using key fs.toList 0 a w ha (by simp) (by simp) (by simpa using hp) (by simpa using hq)
    ·cases h
  ·rename_i n e hu;obtain⟨a,ha,h⟩:=Option.bind_eq_some_iff.1 h;split at h
   ·rename_i hlen;simp only[Option.some.injEq]at h;subst h;have QA:aF P t=true:=by simp[aF,hu]
    obtain⟨_,_,de,hde⟩:=uN ha;obtain⟨i,hi⟩:∃i,P.info? e=some i:=by
     unfold Program.underlying at hde;cases hq:P.info? e with
     |none=>simp[hq]at hde
     |some i=>exact⟨i,rfl⟩
    have kR:P.cellsOf e=a.length:=hlen.1.symm;simp only[eM,QA,if_true,←Nat.add_assoc];rw[run_equalIn_array w (D+d) _ _ hu hi,kR];have key:∀(k j:Nat)(w:World),j+k=n→j*a.length≤ps.length→j*a.length≤qs.length→gU (ob a k) (ps.drop (j*a.length))=true→gU (ob a k) (qs.drop (j*a.length))=true→(Op.eqItems (D+d) e a.length (ps.map valOf).toArray (qs.map valOf).toArray (List.range' j k)).run P w=.ok (cC (ps.drop (j*a.length)) (qs.drop (j*a.length))) w:=by
     intro k;induction k with
     |zero=>
      intro j w _ _ _ h1 h2;simp only[ob]at h1 h2;have e1:ps.drop (j*a.length)=[]:=by cases hh:ps.drop (j*a.length)with|nil=>rfl|cons x r=>rw[hh]at h1;simp[gU]at h1
      have e2:qs.drop (j*a.length)=[]:=by cases hh:qs.drop (j*a.length)with|nil=>rfl|cons x r=>rw[hh]at h2;simp[gU]at h2
      simp[Op.eqItems,e1,e2,cC]
     |succ k WQ=>
      intro j w hj o1 o2 h1 h2;simp only[ob]at h1 h2;rw[ov]at h1 h2;have l1:=nG h1.1;have l2:=nG h2.1;simp only[List.length_take,List.length_drop]at l1 l2;have p1:=je (w:=w) (ps:=ps) (off:=j*a.length) ha (by omega);have p2:=je (w:=w) (ps:=qs) (off:=j*a.length) ha (by omega);have p3:=ih e a ha D w _ _ h1.1 h2.1;have ej:(j+1)*a.length=j*a.length+a.length:=by rw[Nat.add_mul];omega
      have p4:=WQ (j+1) w (by omega) (by omega) (by omega) (by rw[ej,←List.drop_drop];exact h1.2) (by rw[ej,←List.drop_drop];exact h2.2);rw[List.range'_succ];simp only[Op.eqItems,Sem.run_bind,p1,p2,p3,Result.andThen_ok];rw[tu a.length (ps.drop (j*a.length)) (qs.drop (j*a.length)) (by simp;omega) (by simp;omega),List.drop_drop,List.drop_drop,←ej];cases hr:cC ((ps.drop (j*a.length)).take a.length) ((qs.drop (j*a.length)).take a.length)with
      |false=>simp
      |true=>simpa using p4
    have:=key n 0 w (by omega) (by simp) (by simp) (by simpa using hp) (by simpa using hq);rw[List.range_eq_range'];simpa using this
   ·cases h
  ·cases h
end
end Go.Ab
set_option linter.unusedVariables false
namespace Go.Ab
open Go.RowKit (Below)
section
variable {R:Type} {E:Env}
theorem TU{k:IntKind}{x y:Int}(hx:(Lit.int k x).wf=true):(Lit.int k (x.tmod y)).wf=true:=by
 rw[rW]at*;have h0:k.min≤0∧0≤k.max:=by cases k<;>simp[IntKind.min,IntKind.max,IntKind.signed,IntKind.bits]
 rcases Int.le_total 0 x with h|h
 ·have h1:=Int.tmod_nonneg y h;have h2:x.tmod y≤x:=by have:=Int.natAbs_tmod x y;have h3:x.natAbs%y.natAbs≤x.natAbs:=Nat.mod_le _ _;omega
  omega
 ·have h1:x.tmod y= -((-x).tmod y):=by rw[Int.neg_tmod];omega
  have h2:=Int.tmod_nonneg y (show 0≤-x by omega);have h3:(-x).tmod y≤-x:=by have:=Int.natAbs_tmod (-x) y;have h3:(-x).natAbs%y.natAbs≤(-x).natAbs:=Nat.mod_le _ _;omega
  omega
theorem TV{k:IntKind}{x:Int}(n:Nat)(hx:(Lit.int k x).wf=true):(Lit.int k (x.fdiv (2^n))).wf=true:=by
 rw[rW]at*;have h0:k.min≤0∧0≤k.max:=by cases k<;>simp[IntKind.min,IntKind.max,IntKind.signed,IntKind.bits]
 have hp:(0:Int)<2^n:=Int.pow_pos (by omega);rw[Int.fdiv_eq_ediv_of_nonneg _ (by omega)];rcases Int.le_total 0 x with h|h
 ·have h1:=Int.ediv_nonneg h (Int.le_of_lt hp);have h2:=Int.ediv_le_self (2^n) h;omega
 ·have h1:x/2^n≤0:=Int.ediv_nonpos_of_nonpos_of_neg h hp;have h2:x≤x/2^n:=by rw[Int.le_ediv_iff_mul_le hp];have:x*2^n≤x*1:=Int.mul_le_mul_of_nonpos_left h (by omega);omega
  omega
variable{P:Program}{t:TypeId}
theorem Dk{ps:List PV}(ha:aF P t=true):eM P t ps=.agg (ps.map valOf).toArray:=by simp[eM,ha]
def Dl(P:Program)(t:TypeId):Bool:=P.eqGuardType P.depth t
def qo(op:BinOp)(t:TypeId)(ox oy:Operand)(x y:Value):Sem Value:=do eqGuard op t ox oy x y;binOp op t x y
variable{x y:Value}{w:World}
theorem gI{b:Bool}(hb:binOp .eql t x y=(do pure (.bool (←Op.equal t x y))))(h:(Op.equalIn 10000 t x y).run P w=.ok b w):(binOp .eql t x y).run P w=.ok (.bool b) w:=by rw[hb];simp only[Op.equal,Op.maxDepth,Sem.run_bind,h,Result.andThen_ok,Sem.run_pure]
theorem gJ{b:Bool}(hb:binOp .neq t x y=(do pure (.bool (!(←Op.equal t x y)))))(h:(Op.equalIn 10000 t x y).run P w=.ok b w):(binOp .neq t x y).run P w=.ok (.bool (!b)) w:=by rw[hb];simp only[Op.equal,Op.maxDepth,Sem.run_bind,h,Result.andThen_ok,Sem.run_pure]
theorem cg{op:BinOp}{ox oy:Operand}{z:Value}(h1:(eqGuard op t ox oy x y).run P w=.ok () w)(h2:(binOp op t x y).run P w=.ok z w):(qo op t ox oy x y).run P w=.ok z w:=by simp only[qo,Sem.run_bind,h1,h2,Result.andThen_ok]
theorem kD{e:TypeId}(hu:P.underlying t=some (.pointer e))(a:Option Addr):(Op.equalIn 10000 t (.pointer a) (.pointer none)).run P w=.ok a.isNone w:=by show(Op.equalIn (9999+1) t (.pointer a) (.pointer none)).run P w=.ok a.isNone w;cases a<;>(unfold Op.equalIn;simp only[Sem.run_bind,run_underlying hu,Result.andThen_ok];rfl)
theorem rY{a b:Array TypeId}{c:Bool}(hu:P.underlying t=some (.func a b c))(f:Fn)(xs ys:Array Value):(Op.equalIn 10000 t (.func f xs ys) .nilFunc).run P w=.ok false w:=by show(Op.equalIn (9999+1) t (.func f xs ys) .nilFunc).run P w=.ok false w;unfold Op.equalIn;simp only[Sem.run_bind,run_underlying hu,Result.andThen_ok];rfl
variable{k:PV→Option R}{a:V}{r:R}
theorem TW{op:BinOp}{b:V}(h:kK E op t a b k=some r):∃q,(∀(R':Type)(k':PV→Option R'),kK E op t a b k'=k' q)∧k q=some r∧∀(μ:Ro)(φ:Nat→aG)(w:World)(ox oy:Operand)(x y:Value),ai E.P μ φ a x→ai E.P μ φ b y→∃z,(qo op t ox oy x y).run E.P w=.ok z w∧ak E.P μ q z:=by
 unfold kK at h;split at h
 ·rename_i q x q' y;have ints:∀(μ:Ro)(φ:Nat→aG)(u v:Value),ai E.P μ φ (.pv (.int q x)) u→ai E.P μ φ (.pv (.int q' y)) v→u=.int q x∧v=.int q' y∧(Lit.int q x).wf=true:=by intro μ φ u v hu hv;cases hu with|pv hu=>cases hu with|int h1=>cases hv with|pv hv=>cases hv with|int h2=>exact⟨rfl,rfl,h1⟩
  cases op;case shl=>
   simp only at h;split at h
   ·cases h
   ·rename_i hy;refine⟨_,fun R' k'=>by simp[kK,hy],h,fun μ φ w ox oy u v hu hv=>?_⟩;obtain⟨rfl,rfl,_⟩:=ints μ φ u v hu hv;exact⟨_,by simp[qo,eqGuard,binOp,Op.shift,hy],.int (wf_wrap _ _)⟩
  case shr=>
   simp only at h;split at h
   ·cases h
   ·rename_i hy;refine⟨_,fun R' k'=>by simp[kK,hy],h,fun μ φ w ox oy u v hu hv=>?_⟩;obtain⟨rfl,rfl,hw⟩:=ints μ φ u v hu hv;exact⟨_,by simp[qo,eqGuard,binOp,Op.shift,hy],.int (TV _ hw)⟩
  case quo=>
   simp only at h;split at h
   ·rename_i hq;subst hq;split at h
    ·cases h
    ·rename_i hy;refine⟨_,fun R' k'=>by simp[kK,hy],h,fun μ φ w ox oy u v hu hv=>?_⟩;obtain⟨rfl,rfl,_⟩:=ints μ φ u v hu hv;exact⟨_,by simp[qo,eqGuard,binOp,Op.intDiv,hy],.int (wf_wrap _ _)⟩
   ·cases h
  case rem=>
   simp only at h;split at h
   ·rename_i hq;subst hq;split at h
    ·cases h
    ·rename_i hy;refine⟨_,fun R' k'=>by simp[kK,hy],h,fun μ φ w ox oy u v hu hv=>?_⟩;obtain⟨rfl,rfl,hw⟩:=ints μ φ u v hu hv;exact⟨_,by simp[qo,eqGuard,binOp,Op.intDiv,hy],.int (TU hw)⟩
   ·cases h
  case eql|neq|lss|leq|gtr|geq=>
   simp only at h;split at h
   ·rename_i hq;subst hq;refine⟨_,fun R' k'=>by simp[kK],h,fun μ φ w ox oy u v hu hv=>?_⟩;obtain⟨rfl,rfl,_⟩:=ints μ φ u v hu hv;refine⟨_,cg (by rw[eqGuard_at_int];rfl) ?_,.bool⟩;first|rw[binOp_eql]|rw[binOp_neq]|rw[binOp_lss]|rw[binOp_leq]|rw[binOp_gtr]|rw[binOp_geq]
    rfl
   ·cases h
  all_goals
   simp only at h;split at h
   ·rename_i hq;subst hq;refine⟨_,fun R' k'=>by simp[kK],h,fun μ φ w ox oy u v hu hv=>?_⟩;obtain⟨rfl,rfl,_⟩:=ints μ φ u v hu hv;refine⟨_,cg (by rw[eqGuard_at_int];rfl) ?_,.int (wf_wrap _ _)⟩;first|rw[binOp_add]|rw[binOp_sub]|rw[binOp_mul]|rw[binOp_and]|rw[binOp_or]|rw[binOp_xor]|rw[binOp_andNot]
    rfl
   ·cases h
 ·rename_i x y;have strs:∀(μ:Ro)(φ:Nat→aG)(u v:Value),ai E.P μ φ (.pv (.str x)) u→ai E.P μ φ (.pv (.str y)) v→u=.string ⟨x.toArray⟩∧v=.string ⟨y.toArray⟩:=by intro μ φ u v hu hv;cases hu with|pv hu=>cases hu with|str h1=>cases hv with|pv hv=>cases hv with|str h2=>exact⟨rfl,rfl⟩
  cases op;case add=>
   simp only at h;split at h
   ·rename_i ev;have hy:¬((x.length+y.length:Nat):Int)>IntKind.i64.max:=by have:=E.lp.rQ _ ev;omega
    refine⟨_,fun R' k'=>by simp only[kK];rw[if_pos ev],h,fun μ φ w ox oy u v hu hv=>?_⟩;obtain⟨rfl,rfl⟩:=strs μ φ u v hu hv;refine⟨.string ⟨(x++y).toArray⟩,?_,.str ?_⟩
    ·simp only[qo,eqGuard,binOp,Op.stringOp,Sem.run_bind];have e:(⟨x.toArray⟩++⟨y.toArray⟩:ByteArray)=⟨(x++y).toArray⟩:=by apply ByteArray.ext;simp
     simp only[A9,e];rw[if_neg hy];simp
    ·simp only[maxLen];simp only[IntKind.max_i64]at hy;simp;omega
   ·cases h
  case eql|neq|lss|leq|gtr|geq=>simp only at h;refine⟨_,fun R' k'=>by simp only[kK],h,fun μ φ w ox oy u v hu hv=>?_⟩;obtain⟨rfl,rfl⟩:=strs μ φ u v hu hv;refine⟨_,cg (by rw[eqGuard_at_string];rfl) ?_,.bool⟩;simp only[binOp,Op.stringOp,ByteArray.toList_eq];rfl
  all_goals (simp only at h;cases h)
 ·rename_i x y;have Vx:∀(μ:Ro)(φ:Nat→aG)(u v:Value),ai E.P μ φ (.pv (.bool x)) u→ai E.P μ φ (.pv (.bool y)) v→u=.bool x∧v=.bool y:=by intro μ φ u v hu hv;cases hu with|pv hu=>cases hu with|bool=>cases hv with|pv hv=>cases hv with|bool=>exact⟨rfl,rfl⟩
  split at h
  ·rename_i ow;refine⟨_,fun R' k'=>by simp only[kK,ow],h,fun μ φ w ox oy u v hu hv=>?_⟩;obtain⟨rfl,rfl⟩:=Vx μ φ u v hu hv;exact⟨_,cg (by rw[eqGuard_at_bool];rfl) (gI rfl (run_equalIn_bool w _ _ _ _ ow)),.bool⟩
  ·rename_i ow;refine⟨_,fun R' k'=>by simp only[kK,ow],h,fun μ φ w ox oy u v hu hv=>?_⟩;obtain⟨rfl,rfl⟩:=Vx μ φ u v hu hv;exact⟨_,cg (by rw[eqGuard_at_bool];rfl) (gJ rfl (run_equalIn_bool w _ _ _ _ ow)),.bool⟩
  ·cases h
 ·split at h
  ·rename_i ow;refine⟨_,fun R' k'=>by simp only[kK,ow],h,fun μ φ w ox oy u v hu hv=>?_⟩;cases hu with|pv hu=>cases hu;cases hv with|pv hv=>cases hv;exact⟨_,cg (by rw[eqGuard_at_pointer];rfl) (gI rfl (kD ow none)),.bool⟩
  ·rename_i ow;refine⟨_,fun R' k'=>by simp only[kK,ow],h,fun μ φ w ox oy u v hu hv=>?_⟩;cases hu with|pv hu=>cases hu;cases hv with|pv hv=>cases hv;exact⟨_,cg (by rw[eqGuard_at_pointer];rfl) (gJ rfl (kD ow none)),.bool⟩
  ·cases h
 ·split at h
  ·rename_i ow;refine⟨_,fun R' k'=>by simp only[kK,ow],h,fun μ φ w ox oy u v hu hv=>?_⟩;cases hu with|fn=>cases hv with|pv hv=>cases hv;exact⟨_,cg (by rw[eqGuard_at_func];rfl) (gI rfl (rY ow _ _ _)),.bool⟩
  ·rename_i ow;refine⟨_,fun R' k'=>by simp only[kK,ow],h,fun μ φ w ox oy u v hu hv=>?_⟩;cases hu with|fn=>cases hv with|pv hv=>cases hv;exact⟨_,cg (by rw[eqGuard_at_func];rfl) (gJ rfl (rY ow _ _ _)),.bool⟩
  ·cases h
 ·split at h
  ·rename_i ow;refine⟨_,fun R' k'=>by simp only[kK,ow],h,fun μ φ w ox oy u v hu hv=>?_⟩;cases hu with|pv hu=>cases hu;cases hv with|pv hv=>cases hv;exact⟨_,cg (by rw[eqGuard_at_func];rfl) (gI rfl (rY ow _ _ _)),.bool⟩
  ·rename_i ow;refine⟨_,fun R' k'=>by simp only[kK,ow],h,fun μ φ w ox oy u v hu hv=>?_⟩;cases hu with|pv hu=>cases hu;cases hv with|pv hv=>cases hv;exact⟨_,cg (by rw[eqGuard_at_func];rfl) (gJ rfl (rY ow _ _ _)),.bool⟩
  ·cases h
 ·split at h
  ·rename_i ow;refine⟨_,fun R' k'=>by simp only[kK,ow],h,fun μ φ w ox oy u v hu hv=>?_⟩;cases hu with|pv hu=>cases hu;cases hv with|pv hv=>cases hv;exact⟨_,cg (by rw[eqGuard_at_pointer];rfl) (gI rfl (kD ow _)),.bool⟩
  ·rename_i ow;refine⟨_,fun R' k'=>by simp only[kK,ow],h,fun μ φ w ox oy u v hu hv=>?_⟩;cases hu with|pv hu=>cases hu;cases hv with|pv hv=>cases hv;exact⟨_,cg (by rw[eqGuard_at_pointer];rfl) (gJ rfl (kD ow _)),.bool⟩
  ·cases h
 ·split at h
  ·rename_i ow;refine⟨_,fun R' k'=>by simp only[kK,ow],h,fun μ φ w ox oy u v hu hv=>?_⟩;cases hu with|op hg=>cases hv with|pv hv=>cases hv;exact⟨_,cg (by rw[eqGuard_at_pointer];rfl) (gI rfl (kD ow _)),.bool⟩
  ·rename_i ow;refine⟨_,fun R' k'=>by simp only[kK,ow],h,fun μ φ w ox oy u v hu hv=>?_⟩;cases hu with|op hg=>cases hv with|pv hv=>cases hv;exact⟨_,cg (by rw[eqGuard_at_pointer];rfl) (gJ rfl (kD ow _)),.bool⟩
  ·cases h
 ·split at h
  ·rename_i ow;refine⟨_,fun R' k'=>by simp only[kK,ow],h,fun μ φ w ox oy u v hu hv=>?_⟩;cases hu with|oe hg=>cases hv with|pv hv=>cases hv;exact⟨_,cg (by rw[eqGuard_at_pointer];rfl) (gI rfl (kD ow _)),.bool⟩
  ·rename_i ow;refine⟨_,fun R' k'=>by simp only[kK,ow],h,fun μ φ w ox oy u v hu hv=>?_⟩;cases hu with|oe hg=>cases hv with|pv hv=>cases hv;exact⟨_,cg (by rw[eqGuard_at_pointer];rfl) (gJ rfl (kD ow _)),.bool⟩
  ·cases h
 ·rename_i n1 n2 n3 n4 m1 m2 n5 n6 n7;split at h
  ·rename_i ha;split at h
   ·rename_i ks as bs QB has hbs;split at h
    ·rename_i ps qs l7 hqs;split at h
     ·rename_i hc;have hE:Dl E.P t=false∧xQ E.P 8 t=some ks:=by
       unfold pM at QB;split at QB
       ·cases QB
       ·rename_i hg;exact⟨by simpa[Dl]using hg,QB⟩
      have key:∀(μ:Ro)(φ:Nat→aG)(w:World)(x y:Value),ai E.P μ φ a x→ai E.P μ φ b y→∃xs ys,x=.agg xs∧y=.agg ys∧(Op.equalIn 10000 t x y).run E.P w=.ok (cC ps qs) w:=by intro μ φ w x y hx hy;obtain⟨xs,rfl,g1,g2,g3⟩:=(mF has).2 _ _ _ _ hx;obtain⟨ys,rfl,g4,g5,g6⟩:=(mF hbs).2 _ _ _ _ hy;obtain⟨l1,l2⟩:=gG l7;obtain⟨l3,l4⟩:=gG hqs;have e1:=qn (P:=E.P) (μ:=μ) (xs:=xs) hc.1 (by omega) (fun i p z hi hz=>by obtain⟨v,hv,hg⟩:=l2 i p hi;exact qY 1 hg (g2 i v z hv hz));have e2:=qn (P:=E.P) (μ:=μ) (xs:=ys) hc.2 (by omega) (fun i p z hi hz=>by obtain⟨v,hv,hg⟩:=l4 i p hi;exact qY 1 hg (g5 i v z hv hz));refine⟨xs,ys,rfl,rfl,?_⟩;have:=nh 8 t ks hE.2 9992 w ps qs hc.1 hc.2;rw[Dk ha,Dk ha,←e1,←e2]at this;exact this
      have adV:∀(R':Type)(k':PV→Option R'),kK E .eql t a b k'=k' (.bool (cC ps qs)):=by
       intro R' k';unfold kK;split
       ·exact(n1 _ _ _ _ rfl rfl).elim
       ·exact(n2 _ _ rfl rfl).elim
       ·exact(n3 _ _ rfl rfl).elim
       ·exact(n4 rfl rfl).elim
       ·exact(m1 _ _ rfl rfl).elim
       ·exact(m2 _ _ rfl rfl).elim
       ·exact(n5 _ rfl rfl).elim
       ·exact(n6 _ _ rfl rfl).elim
       ·exact(n7 _ _ _ rfl rfl).elim
       ·rw[if_pos ha,QB,has,hbs];simp only[l7,hqs];rw[if_pos hc]
      have adW:∀(R':Type)(k':PV→Option R'),kK E .neq t a b k'=k' (.bool (!(cC ps qs))):=by
       intro R' k';unfold kK;split
       ·exact(n1 _ _ _ _ rfl rfl).elim
       ·exact(n2 _ _ rfl rfl).elim
       ·exact(n3 _ _ rfl rfl).elim
       ·exact(n4 rfl rfl).elim
       ·exact(m1 _ _ rfl rfl).elim
       ·exact(m2 _ _ rfl rfl).elim
       ·exact(n5 _ rfl rfl).elim
       ·exact(n6 _ _ rfl rfl).elim
       ·exact(n7 _ _ _ rfl rfl).elim
       ·rw[if_pos ha,QB,has,hbs];simp only[l7,hqs];rw[if_pos hc]
      cases op;case eql=>refine⟨_,fun R' k'=>adV R' k',h,fun μ φ w ox oy x y hx hy=>?_⟩;obtain⟨xs,ys,rfl,rfl,hr⟩:=key μ φ w x y hx hy;exact⟨_,cg (run_eqGuard_agg w _ _ _ _ _ _ hE.1) (gI rfl hr),.bool⟩
      case neq=>refine⟨_,fun R' k'=>adW R' k',h,fun μ φ w ox oy x y hx hy=>?_⟩;obtain⟨xs,ys,rfl,rfl,hr⟩:=key μ φ w x y hx hy;exact⟨_,cg (run_eqGuard_agg w _ _ _ _ _ _ hE.1) (gJ rfl hr),.bool⟩
      all_goals (simp only at h;cases h)
     ·cases h
    ·cases h
   ·cases h
  ·cases h
theorem WR{op:UnOp}(h:xun op a k=some r):∃q,(∀(R':Type)(k':PV→Option R'),xun op a k'=k' q)∧k q=some r∧∀(P:Program)(μ:Ro)(φ:Nat→aG)(w:World)(x:Value),ai P μ φ a x→∃z,(Op.unary op x).run P w=.ok z w∧ak P μ q z:=by
 unfold xun at h;split at h
 ·refine⟨_,fun R' k'=>rfl,h,fun P μ φ w x hx=>?_⟩;cases hx with|pv hx=>cases hx;exact⟨_,rfl,.bool⟩
 ·refine⟨_,fun R' k'=>rfl,h,fun P μ φ w x hx=>?_⟩;cases hx with|pv hx=>cases hx;exact⟨_,rfl,.int (wf_wrap _ _)⟩
 ·refine⟨_,fun R' k'=>rfl,h,fun P μ φ w x hx=>?_⟩;cases hx with|pv hx=>cases hx;exact⟨_,rfl,.int (wf_wrap _ _)⟩
 ·cases h
theorem TX{k:IntKind}{n:Int}(h:(Lit.int k n).wf=true):k.wrap n=n:=by rw[rW]at h;cases k<;>simp only[IntKind.wrap,IntKind.min,IntKind.max,IntKind.signed,IntKind.bits]at* <;>simp at* <;>(try split)<;>omega
theorem QC{s d:TypeId}(h:AR E s d a k=some r):∃q,(∀(R':Type)(k':PV→Option R'),AR E s d a k'=k' q)∧k q=some r∧∀(μ:Ro)(φ:Nat→aG)(w:World)(x:Value),ai E.P μ φ a x→∃z,(convert s d x).run E.P w=.ok z w∧ak E.P μ q z:=by
 unfold AR at h;split at h
 ·rename_i q q' q'' n hs hd;split at h
  ·rename_i e1;subst e1;split at h
   ·rename_i e2;subst e2;refine⟨_,fun R' k'=>by simp[AR,hs,hd],h,fun μ φ w x hx=>?_⟩;cases hx with|pv hx=>cases hx with|int hw=>exact⟨_,by simp[convert,run_underlying hs,run_underlying hd,Conv.intToInt,TX hw],.int hw⟩
   ·rename_i e2;refine⟨_,fun R' k'=>by simp[AR,hs,hd,e2],h,fun μ φ w x hx=>?_⟩;cases hx with|pv hx=>cases hx with|int hw=>exact⟨_,by simp[convert,run_underlying hs,run_underlying hd,Conv.intToInt],.int (wf_wrap _ _)⟩
  ·cases h
 ·rename_i hs hd;refine⟨_,fun R' k'=>by simp[AR,hs,hd],h,fun μ φ w x hx=>?_⟩;cases hx with|pv hx=>cases hx with|str hl=>exact⟨_,by simp[convert,run_underlying hs,run_underlying hd],.str hl⟩
 ·cases h
theorem QD{b:V}(h:Gb a b k=some r):∃q,(∀(R':Type)(k':PV→Option R'),Gb a b k'=k' q)∧k q=some r∧∀(P:Program)(μ:Ro)(φ:Nat→aG)(w:World)(x y:Value),ai P μ φ a x→ai P μ φ b y→∃z,(Builtin.min2 x y).run P w=.ok z w∧ak P μ q z:=by
 unfold Gb at h;split at h
 ·split at h
  ·rename_i e;subst e;refine⟨_,fun R' k'=>by simp[Gb],h,fun P μ φ w x y hx hy=>?_⟩;cases hx with|pv hx=>cases hx with|int h1=>cases hy with|pv hy=>cases hy with|int h2=>exact⟨_,rfl,by split<;>exact .int (by assumption)⟩
  ·cases h
 ·cases h
theorem wW{b:V}(h:y9 a b k=some r):∃q,(∀(R':Type)(k':PV→Option R'),y9 a b k'=k' q)∧k q=some r∧∀(P:Program)(μ:Ro)(φ:Nat→aG)(w:World)(x y:Value),ai P μ φ a x→ai P μ φ b y→∃z,(Builtin.max2 x y).run P w=.ok z w∧ak P μ q z:=by
 unfold y9 at h;split at h
 ·split at h
  ·rename_i e;subst e;refine⟨_,fun R' k'=>by simp[y9],h,fun P μ φ w x y hx hy=>?_⟩;cases hx with|pv hx=>cases hx with|int h1=>cases hy with|pv hy=>cases hy with|int h2=>exact⟨_,rfl,by split<;>exact .int (by assumption)⟩
  ·cases h
 ·cases h
theorem QE{b c d:V}(h:Gc a b c d k=some r):∃q,(∀(R':Type)(k':PV→Option R'),Gc a b c d k'=k' q)∧k q=some r∧∀(P:Program)(μ:Ro)(φ:Nat→aG)(w:World)(x y z u:Value),ai P μ φ a x→ai P μ φ b y→ai P μ φ c z→ai P μ φ d u→∃v1 v2 v3,(Builtin.max2 x y).run P w=.ok v1 w∧(Builtin.max2 v1 z).run P w=.ok v2 w∧(Builtin.max2 v2 u).run P w=.ok v3 w∧ak P μ q v3:=by unfold Gc at h;obtain⟨q1,a1,h,b1⟩:=wW h;obtain⟨q2,a2,h,b2⟩:=wW h;obtain⟨q3,a3,h,b3⟩:=wW h;refine⟨q3,fun R' k'=>by unfold Gc;rw[a1,a2,a3],h,fun P μ φ w x y z u hx hy hz hu=>?_⟩;obtain⟨v1,c1,d1⟩:=b1 P μ φ w x y hx hy;obtain⟨v2,c2,d2⟩:=b2 P μ φ w v1 z (.pv d1) hz;obtain⟨v3,c3,d3⟩:=b3 P μ φ w v2 u (.pv d2) hu;exact⟨v1,v2,v3,c1,c2,c3,d3⟩
end
end Go.Ab
set_option linter.unusedVariables false
namespace Go.Ab
open Go.RowKit (Below)
section
variable {P:Program} {G:Nat→Option (List PV)} {w0:bA} {μ μ':Ro} {φ φ':Nat→aG} {m:Mem} {w w':World}
variable{b:bL}
@[simp] theorem aN(m:Mem)(d:Nat)(b:bL):ao m d b d=some b:=by simp[ao]
theorem aq{m:Mem}{d t:Nat}(h:t≠d):ao m d b t=m t:=by simp[ao,cond_eq_ite,h]
@[simp] theorem Vy(m:Mem)(d:Nat):bh m d d=none:=by simp[bh]
theorem eT{m:Mem}{d t:Nat}(h:t≠d):bh m d t=m t:=by simp[bh,cond_eq_ite,h]
@[simp] theorem rZ(f:Fr)(d:Nat)(v:V):fk f d v d=v:=by simp[fk]
theorem oz{f:Fr}{d t:Nat}{v:V}(h:t≠d):fk f d v t=f t:=by simp[fk,cond_eq_ite,h]
variable{id sz:Nat}{et:TypeId}{es:List PV}
theorem aM.cJ(h:aM P μ φ w id sz et es)(hφ:φ' id=φ id)(hμ:∀b o,μ b=some o→μ' b=some o)(hw:∀g,(φ id).g=some g→w'.heap[g]?=w.heap[g]?):aM P μ' φ' w' id sz et es:=by
 obtain⟨a1,a2,a3,a4,a5,a6,a7⟩:=h;unfold aM;rw[hφ];refine⟨a1,a2,a3,a4,a5,a6,?_⟩;cases hg:(φ id).g with
 |none=>rw[hg]at a7;exact a7
 |some g=>rw[hg]at a7;obtain⟨c,c1,c2,c3,c4,c5⟩:=a7;exact⟨c,by rw[hw g hg];exact c1,c2,c3,fun i e j p x h1 h2 h3=>(c4 i e j p x h1 h2 h3).mono hμ,c5⟩
theorem eL.cJ{R:zh}{s:Nat}{rs:List PV}{x:Value}(h:eL P μ R w s rs x)(hμ:∀b o,μ b=some o→μ' b=some o)(hw:∀g,R.g=some g→w'.heap[g]?=w.heap[g]?):eL P μ' R w' s rs x:=
 let⟨⟨et,hA⟩,hV⟩:=h
 ⟨⟨et,hA.cJ rfl hμ hw⟩,hV.vv hμ⟩
theorem ek.cJ{R:zh}{p:PV}{x:Value}(h:ek P μ R w p x)(hμ:∀b o,μ b=some o→μ' b=some o)(hw:p.isRow=true→∀g,R.g=some g→w'.heap[g]?=w.heap[g]?):ek P μ' R w' p x:=by
 unfold ek at*;split at h
 ·exact eL.cJ h hμ (hw rfl)
 ·exact h.mono hμ
variable{i j:Nat}
theorem dA{e p:PV}(he:es[i]?=some e)(hp:e.cells[j]?=some p):(bL.nest sz et es).rowAt i j=p.isRow:=by simp[bL.rowAt,he,hp]
theorem aV.cJ{id sz:Nat}{et:TypeId}{es:List PV}(h:aV P μ φ w id sz et es)(hφ:φ' id=φ id)(hμ:∀b o,μ b=some o→μ' b=some o)(hw:∀g,(bL.nest sz et es).eh (φ id) g→w'.heap[g]?=w.heap[g]?):aV P μ' φ' w' id sz et es:=by
 obtain⟨a1,a2,a3,a4,a5,a6,a7⟩:=h;unfold aV;rw[hφ];refine⟨a1,a2,a3,a4,a5,a6,?_⟩;cases hg:(φ id).g with
 |none=>rw[hg]at a7;exact a7
 |some g=>rw[hg]at a7;obtain⟨c,c1,c2,c3,c4,c5⟩:=a7;exact⟨c,by rw[hw g (.inl hg)];exact c1,c2,c3,fun i e j p x h1 h2 h3=>(c4 i e j p x h1 h2 h3).cJ hμ fun hr g' bY=>hw g' (.inr ⟨i,j,by rw[dA h1 h2];exact hr,bY⟩),c5⟩
theorem iR{kt e:TypeId}{es:List (PV×PV)}{k v:PV}(he:es[i]?=some (k,v)):(bL.eX kt e es).rowAt i 0=v.isRow:=by simp[bL.rowAt,he]
theorem fS.cJ{id:Nat}{b:bL}(h:fS P μ φ w id b)(hn:∀j,b.names j=true→φ' j=φ j)(hφ:φ' id=φ id)(hμ:∀b o,μ b=some o→μ' b=some o)(hw:∀g,b.eh (φ id) g→w'.heap[g]?=w.heap[g]?):fS P μ' φ' w' id b:=by
 cases b with
 |nest sz et es=>exact aV.cJ h hφ hμ hw
 |eX kt e0 es=>
  obtain⟨g,en,clock,kk,hg,hh,hs,hk,hc,sJ,hv⟩:=h;refine⟨g,en,clock,kk,by rw[hφ];exact hg,by rw[hw g (.inl hg)];exact hh,hs,hk,hc,sJ,fun i k v e h1 h2=>⟨(hv i k v e h1 h2).1.mono hμ,?_⟩⟩;have h3:=(hv i k v e h1 h2).2;rw[hφ];split at h3
  ·exact⟨h3.1.cJ rfl hμ fun g' bY=>hw g' (.inr ⟨i,0,by rw[iR h1];rfl,bY⟩),h3.2.vv hμ⟩
  ·exact h3.mono hμ
 |box cs=>obtain⟨g,c,T,hg,hh,hs,hv,h1,yp⟩:=h;exact⟨g,c,T,by rw[hφ];exact hg,by rw[hw g (.inl hg)];exact hh,hs,fun i v x hi hx=>(hv i v x hi hx).mono hμ (fun j hj=>hn j (bN (List.mem_of_getElem? hi) hj)),h1,by rw[hφ];exact yp⟩
 |arr sz et es=>exact aM.cJ h hφ hμ fun g hg=>hw g (.inl hg)
 |nP sz et es=>refine⟨aM.cJ h.1 hφ hμ fun g hg=>hw g (.inl hg),fun g hg=>?_⟩;rw[hφ]at hg;have:=h.2 g hg;obtain⟨o,ho⟩:=Option.isSome_iff_exists.1 this;rw[hμ _ _ ho];rfl
 |map kt es=>obtain⟨g,en,clock,kk,hg,hh,hs,hk,hc,sJ,hv⟩:=h;exact⟨g,en,clock,kk,by rw[hφ];exact hg,by rw[hw g (.inl hg)];exact hh,hs,hk,hc,sJ,fun i k v e h1 h2=>⟨(hv i k v e h1 h2).1.mono hμ,(hv i k v e h1 h2).2.mono hμ⟩⟩
 |iter t es cur=>obtain⟨g,mg,en,clock,seen,hg,hh,Bg,sJ,yp,hv,ZM⟩:=h;exact⟨g,mg,en,clock,seen,by rw[hφ];exact hg,by rw[hw g (.inl hg)];exact hh,hμ _ _ Bg,sJ,yp,fun i k v e h1 h2=>⟨(hv i k v e h1 h2).1.mono hμ,(hv i k v e h1 h2).2.mono hμ⟩,fun k v hc=>let⟨i,e,h1,h2,h3,h4⟩:=ZM k v hc;⟨i,e,h1,h2,h3.mono hμ,h4.mono hμ⟩⟩
 |loop st=>obtain⟨g,rc,hg,hh⟩:=h;exact⟨g,rc,by rw[hφ];exact hg,by rw[hw g (.inl hg)];exact hh⟩
variable{g:Nat}
theorem eL.Bh{R:zh}{s:Nat}{rs:List PV}{x:Value}(h:eL P μ R w s rs x)(hg:R.g=some g):g<w.heap.size:=by obtain⟨⟨et,_,_,_,_,_,_,a7⟩,_⟩:=h;have bY:R.up.g=some g:=hg;simp only[bY]at a7;obtain⟨c,c1,_⟩:=a7;exact(Array.getElem?_eq_some_iff.1 c1).1
theorem iS{off:Nat}(h:b.rowAt i off=true):(∃sz et es e s rs,b=.nest sz et es∧es[i]?=some e∧e.cells[off]?=some (.fQ s rs))∨∃kt e0 es k s rs,b=.eX kt e0 es∧off=0∧es[i]?=some (k,.fQ s rs):=by
 unfold bL.rowAt at h;split at h
 ·rename_i sz et es i off;split at h
  ·rename_i e he;split at h
   ·rename_i p hp;cases p<;>first|(cases h;done)|skip
    rename_i s rs;exact .inl ⟨_,_,_,e,s,rs,rfl,he,hp⟩
   ·cases h
  ·cases h
 ·rename_i kt e0 es i;split at h
  ·rename_i x hx;obtain⟨k,v⟩:=x;cases v<;>first|(cases h;done)|skip
   rename_i s rs;exact .inr ⟨_,_,_,k,s,rs,rfl,rfl,hx⟩
  ·cases h
 ·cases h
theorem fS.ZN{off:Nat}(h:fS P μ φ w id b)(hr:b.rowAt i off=true)(hg:((φ id).row i off).g=some g):g<w.heap.size:=by
 rcases iS hr with⟨sz,et,es,e,s,rs,rfl,he,hp⟩|⟨kt,e0,es,k,s,rs,rfl,rfl,he⟩
 ·have hN:aV P μ φ w id sz et es:=h;have hgg:∃g0,(φ id).g=some g0:=by
   cases hq:(φ id).g with
   |some g0=>exact⟨g0,rfl⟩
   |none=>have a7:=hN.2.2.2.2.2.2;rw[hq]at a7;rw[a7.1]at he;simp at he
  obtain⟨g0,Iz⟩:=hgg;obtain⟨c,x,_,_,c3,_⟩:=hN.cell Iz he hp;exact eL.Bh (show eL P μ _ w s rs x from c3) hg
 ·obtain⟨g0,en,clock,kk,Iz,hh,hs,hk,hc,sJ,hv⟩:=h;have hi:i<en.size:=by rw[hs];exact(List.getElem?_eq_some_iff.1 he).1
  have h3:=(hv i k _ en[i] he (Array.getElem?_eq_getElem hi)).2;exact eL.Bh (P:=P) (μ:=μ) (R:=(φ id).row i 0) (s:=s) (rs:=rs) (x:=en[i].val) ⟨⟨_,h3.1⟩,h3.2⟩ hg
theorem fS.Bh(h:fS P μ φ w id b)(hg:b.eh (φ id) g):g<w.heap.size:=by
 rcases hg with hg|⟨i,off,hr,hg⟩
 rotate_left
 ·exact h.ZN hr hg
 have key:∀o,w.heap[g]?=some o→g<w.heap.size:=fun o ho=>(Array.getElem?_eq_some_iff.1 ho).1;cases b with
 |nest sz et es=>obtain⟨_,_,_,_,_,_,a7⟩:=h;rw[hg]at a7;obtain⟨c,c1,_⟩:=a7;exact key _ c1
 |eX kt e0 es=>obtain⟨g',en,clock,kk,bY,hh,_⟩:=h;rw[hg]at bY;simp only[Option.some.injEq]at bY;subst bY;exact key _ hh
 |box cs=>obtain⟨g',c,T,bY,hh,_⟩:=h;rw[hg]at bY;simp only[Option.some.injEq]at bY;subst bY;exact key _ hh
 |arr sz et es=>obtain⟨_,_,_,_,_,_,a7⟩:=h;rw[hg]at a7;obtain⟨c,c1,_⟩:=a7;exact key _ c1
 |nP sz et es=>obtain⟨⟨_,_,_,_,_,_,a7⟩,_⟩:=h;rw[hg]at a7;obtain⟨c,c1,_⟩:=a7;exact key _ c1
 |map kt es=>obtain⟨g',en,clock,kk,bY,hh,_⟩:=h;rw[hg]at bY;simp only[Option.some.injEq]at bY;subst bY;exact key _ hh
 |iter t es cur=>obtain⟨g',mg,en,clock,seen,bY,hh,_⟩:=h;rw[hg]at bY;simp only[Option.some.injEq]at bY;subst bY;exact key _ hh
 |loop st=>obtain⟨g',rc,bY,hh⟩:=h;rw[hg]at bY;simp only[Option.some.injEq]at bY;subst bY;exact key _ hh
theorem ay.IU(hM:ay P G w0 μ φ m w)(hm:m j=some b)(hn:b.names id=true):(m id).isSome=true:=by
 cases b with
 |box cs=>exact hM.fl j cs id hm hn
 |_=>simp[bL.names]at hn
theorem uO{cs:List V}(h:cr j (cs.map (pN id))=true):cr j cs=true∧j≠id:=by obtain⟨v,hv,hh⟩:=cV.1 h;obtain⟨u,hu,rfl⟩:=List.mem_map.1 hv;obtain⟨h1,h2⟩:=tr hh;exact⟨bN hu h1,h2⟩
theorem fS.kill{id j:Nat}{b:bL}(h:fS P μ φ w j b):fS P μ φ w j (fJ id b):=by
 cases b with
 |box cs=>obtain⟨g,c,T,hg,hh,hs,hv,h1,yp⟩:=h;refine⟨g,c,T,hg,hh,by simpa using hs,fun i v x hi hx=>?_,h1,by simpa using yp⟩;simp only[List.getElem?_map,Option.map_eq_some_iff]at hi;obtain⟨u,hu,rfl⟩:=hi;exact(hv i u x hu hx).kill id
 |_=>exact h
theorem sc(id:Nat)(b:bL):(fJ id b).rowAt=b.rowAt:=by cases b<;>rfl
variable{p:aG}
theorem fF:(fJ id b).eh p g↔b.eh p g:=by unfold bL.eh;rw[sc]
theorem sd:(fJ id b).apart p↔b.apart p:=by unfold bL.apart;rw[sc]
theorem oA(h:∀i off,b.rowAt i off=true→False):b.apart p:=fun i off _ hr=>(h i off hr).elim
theorem mo(h:∀i off,b.rowAt i off=true→False)(ho:b.eh p g):p.g=some g:=by
 rcases ho with h1|⟨i,off,hr,_⟩
 ·exact h1
 ·exact(h i off hr).elim
theorem Bi(h:bE id m j=some b):∃b',m j=some b'∧b=fJ id b':=by
 unfold bE at h;cases hm:m j with
 |none=>rw[hm]at h;cases h
 |some b'=>rw[hm]at h;simp only[Option.some.injEq]at h;exact⟨b',rfl,h.symm⟩
theorem uP(id:Nat)(b:bL):(fJ id b).iA=b.iA:=by cases b<;>rfl
theorem ay.forget(hM:ay P G w0 μ φ m w)(id:Nat):ay P G w0 μ φ (bh (bE id m) id) w:=by
 have key:∀j b,bh (bE id m) id j=some b→j≠id∧∃b',m j=some b'∧b=fJ id b':=by
  intro j b h;by_cases e:j=id
  ·subst e;simp at h
  ·rw[eT e]at h;exact⟨e,Bi h⟩
 refine⟨hM.below,hM.ro,hM.aI,fun j b h=>?_,fun j b g h hg=>?_,fun i j b1 b2 g h1 h2 g1 g2=>?_,fun j b h=>?_,fun j cs i h hh=>?_,hM.base,hM.dG,fun j st h=>?_⟩
 rotate_right
 ·obtain⟨_,b',hb,e⟩:=key j _ h;cases b' with
  |loop st'=>simp only[fJ,bL.loop.injEq]at e;subst e;exact hM.zg j st hb
  |_=>simp[fJ]at e
 ·obtain⟨_,b',hb,rfl⟩:=key j b h;exact(hM.dL j b' hb).kill
 ·obtain⟨_,b',hb,rfl⟩:=key j b h;rw[uP];exact hM.own j b' g hb (fF.1 hg)
 ·obtain⟨_,ZO,To,rfl⟩:=key i b1 h1;obtain⟨_,ZP,pC,rfl⟩:=key j b2 h2;exact hM.inj i j ZO ZP g To pC (fF.1 g1) (fF.1 g2)
 ·obtain⟨_,b',hb,rfl⟩:=key j b h;exact sd.2 (hM.apart j b' hb)
 ·obtain⟨_,b',hb,e⟩:=key j _ h;cases b' with
  |box Dm=>simp only[fJ,bL.box.injEq]at e;subst e;obtain⟨h1,h2⟩:=uO hh;have:=hM.fl j Dm i hb h1;rw[eT h2];obtain⟨bb,hbb⟩:=Option.isSome_iff_exists.1 this;simp[bE,hbb]
  |_=>simp[fJ]at e
theorem vB(m:Mem)(id:Nat)(b:bL):ao (bh m id) id b=ao m id b:=by
 funext t;by_cases h:t=id
 ·subst h;simp
 ·rw[aq h,aq h,eT h]
variable{b':bL}
theorem Bj(mn:∀i off,b'.rowAt i off=true→b.rowAt i off=true)(h:b'.eh p g):b.eh p g:=by
 rcases h with h|⟨i,off,hr,h⟩
 ·exact .inl h
 ·exact .inr ⟨i,off,mn i off hr,h⟩
theorem N0(mn:∀i off,b'.rowAt i off=true→b.rowAt i off=true)(h:b.apart p):b'.apart p:=fun i off g hr hg=>
 let⟨h1,h2⟩:=h i off g (mn i off hr) hg
 ⟨h1,fun i' qk qP bY=>h2 i' qk (mn i' qk qP) bY⟩
theorem ay.QF(hM:ay P G w0 μ φ m w)(hm:m id=some b)(Gn:b.iA=true)(hg:b.eh (φ id) g)(IV:jB g w w')(Mo:w'.heap.size=w.heap.size)(hw:∀k,k≠g→w'.heap[k]?=w.heap[k]?)(hB:fS P μ φ w' id b')(Vz:b'.iA=true)(hn:∀j,b'.names j=true→(m j).isSome=true)(mn:∀i off,b'.rowAt i off=true→b.rowAt i off=true)(VA:∀st,b'=.loop st→∃rc,(φ id).g=some g∧w0.rc id=some (g,rc)∧w'.heap[g]?=some (.loop (st.obj rc)):=by intro st h;cases h):ay P G w0 μ φ (ao m id b') w':=by
 obtain⟨rV,hμ⟩:=hM.own id b g hm hg;have hμ:=hμ Gn;refine⟨hM.below.trans (IV.mono rV),fun k o hk=>?_,hM.aI,fun j c hj=>?_,fun j c g' hj bY=>?_,fun i j b1 b2 g' h1 h2 g1 g2=>?_,fun j c hj=>?_,fun j cs i hj hh=>?_,hM.base,hM.dG,fun j st hj=>?_⟩
 rotate_right
 ·by_cases e:j=id
  ·subst e;rw[aN]at hj;simp only[Option.some.injEq]at hj;obtain⟨rc,h0,h1,h2⟩:=VA st hj;exact⟨g,rc,h0,h1,h2⟩
  ·rw[aq e]at hj;obtain⟨g',rc,h1,h2,h3⟩:=hM.zg j st hj;exact⟨g',rc,h1,h2,by rw[hw g' (fun e'=>by subst e';exact e (hM.inj j id _ b g' hj hm (.inl h1) hg))];exact h3⟩
 ·have:k≠g:=fun e=>by subst e;rw[hμ]at hk;cases hk
  rw[hw k this];exact hM.ro k o hk
 ·by_cases e:j=id
  ·subst e;rw[aN]at hj;simp only[Option.some.injEq]at hj;subst hj;exact hB
  ·rw[aq e]at hj;refine(hM.dL j c hj).cJ (fun _ _=>rfl) rfl (fun _ _ h=>h) (fun g' bY=>hw g' (fun e'=>?_));subst e';exact e (hM.inj j id c b g' hj hm bY hg)
 ·by_cases e:j=id
  ·subst e;rw[aN]at hj;simp only[Option.some.injEq]at hj;subst hj;obtain⟨h1,h2⟩:=hM.own j b g' hm (Bj mn bY);exact⟨h1,fun _=>h2 Gn⟩
  ·rw[aq e]at hj;exact hM.own j c g' hj bY
 ·have e1:∃c1,m i=some c1∧c1.eh (φ i) g':=by
   by_cases e:i=id
   ·subst e;rw[aN]at h1;simp only[Option.some.injEq]at h1;subst h1;exact⟨b,hm,Bj mn g1⟩
   ·rw[aq e]at h1;exact⟨b1,h1,g1⟩
  have e2:∃c2,m j=some c2∧c2.eh (φ j) g':=by
   by_cases e:j=id
   ·subst e;rw[aN]at h2;simp only[Option.some.injEq]at h2;subst h2;exact⟨b,hm,Bj mn g2⟩
   ·rw[aq e]at h2;exact⟨b2,h2,g2⟩
  obtain⟨c1,e1,o1⟩:=e1;obtain⟨c2,e2,o2⟩:=e2;exact hM.inj i j c1 c2 g' e1 e2 o1 o2
 ·by_cases e:j=id
  ·subst e;rw[aN]at hj;simp only[Option.some.injEq]at hj;subst hj;exact N0 mn (hM.apart j b hm)
  ·rw[aq e]at hj;exact hM.apart j c hj
 ·have:(m i).isSome=true:=by
   by_cases e:j=id
   ·subst e;rw[aN]at hj;simp only[Option.some.injEq]at hj;subst hj;exact hn i hh
   ·rw[aq e]at hj;exact hM.fl j cs i hj hh
  by_cases e:i=id
  ·subst e;simp
  ·rw[aq e];exact this
theorem ay.write(hM:ay P G w0 μ φ m w)(hm:m id=some b)(Gn:b.iA=true)(hg:(φ id).g=some g)(IV:jB g w w')(Mo:w'.heap.size=w.heap.size)(hw:∀k,k≠g→w'.heap[k]?=w.heap[k]?)(hB:fS P μ φ w' id b')(Vz:b'.iA=true)(hn:∀j,b'.names j=true→(m j).isSome=true)(VA:∀st,b'=.loop st→∃rc,w0.rc id=some (g,rc)∧w'.heap[g]?=some (.loop (st.obj rc)):=by intro st h;cases h)(mn:∀i off,b'.rowAt i off=true→b.rowAt i off=true:=by intro i off h;simp[bL.rowAt]at h):ay P G w0 μ φ (ao m id b') w':=hM.QF hm Gn (.inl hg) IV Mo hw hB Vz hn mn fun st h=>let⟨rc,h1,h2⟩:=VA st h;⟨rc,hg,h1,h2⟩
def nB(μ:Ro)(w:World)(g:Option Nat):Ro:=fun b=>if g=some b then w.heap[b]? else μ b
theorem j3(hM:ay P G w0 μ φ m w)(g:Option Nat):∀b o,μ b=some o→nB μ w g b=some o:=by
 intro b o hb;unfold nB;split
 ·exact hM.ro b o hb
 ·exact hb
noncomputable def qZ(μ:Ro)(w:World)(S:Nat→Prop):Ro:=fun b=> @ite _ (S b) (Classical.propDecidable _) (w.heap[b]?) (μ b)
theorem oB(hM:ay P G w0 μ φ m w)(S:Nat→Prop):∀b o,μ b=some o→qZ μ w S b=some o:=by
 intro b o hb;unfold qZ;split
 ·exact hM.ro b o hb
 ·exact hb
theorem ay.Mp(hM:ay P G w0 μ φ m w)(hm:m id=some b)(VA:∀st,b≠.loop st)(hA:aM P (qZ μ w (b.eh (φ id))) φ w id sz et es):ay P G w0 (qZ μ w (b.eh (φ id))) φ (ao m id (.nP sz et es)) w:=by
 have mono:=oB hM (b.eh (φ id));have Mq:∀i off,(bL.nP sz et es).rowAt i off=true→False:=fun i off h=>by simp[bL.rowAt]at h
 refine⟨hM.below,fun k o hb=>?_,fun g cs hg=>(hM.aI g cs hg).mono mono,fun j c hj=>?_,fun j c g' hj bY=>?_,fun i j b1 b2 g' h1 h2 g1 g2=>?_,fun j c hj=>?_,fun j cs i hj hh=>?_,fun k o hb bt=>?_,fun b o hb=>mono b o (hM.dG b o hb),fun j st hj=>?_⟩
 rotate_right
 ·by_cases e:j=id
  ·subst e;rw[aN]at hj;cases hj
  ·rw[aq e]at hj;exact hM.zg j st hj
 rotate_right
 ·unfold qZ at hb;split at hb
  ·rename_i he;have:=(hM.own id b k hm he).1;omega
  ·exact hM.base k o hb bt
 ·unfold qZ at hb;split at hb
  ·exact hb
  ·exact hM.ro k o hb
 ·by_cases e:j=id
  ·subst e;rw[aN]at hj;simp only[Option.some.injEq]at hj;subst hj;refine⟨hA,fun g hg=>?_⟩;have:=fS.Bh (b:=.arr sz et es) hA (.inl hg);unfold qZ;rw[if_pos (show b.eh (φ j) g from .inl hg)];simp[this]
  ·rw[aq e]at hj;exact(hM.dL j c hj).cJ (fun _ _=>rfl) rfl mono (fun _ _=>rfl)
 ·by_cases e:j=id
  ·subst e;rw[aN]at hj;simp only[Option.some.injEq]at hj;subst hj;exact⟨(hM.own j b g' hm (.inl (mo Mq bY))).1,by simp[bL.iA]⟩
  ·rw[aq e]at hj;obtain⟨h1,h2⟩:=hM.own j c g' hj bY;refine⟨h1,fun Bg=>?_⟩;unfold qZ;split
   ·rename_i he;exact absurd (hM.inj j id c _ g' hj hm bY he) e
   ·exact h2 Bg
 ·have e1:∃c1,m i=some c1∧c1.eh (φ i) g':=by
   by_cases e:i=id
   ·subst e;rw[aN]at h1;simp only[Option.some.injEq]at h1;subst h1;exact⟨b,hm,.inl (mo Mq g1)⟩
   ·rw[aq e]at h1;exact⟨b1,h1,g1⟩
  have e2:∃c2,m j=some c2∧c2.eh (φ j) g':=by
   by_cases e:j=id
   ·subst e;rw[aN]at h2;simp only[Option.some.injEq]at h2;subst h2;exact⟨b,hm,.inl (mo Mq g2)⟩
   ·rw[aq e]at h2;exact⟨b2,h2,g2⟩
  obtain⟨c1,e1,o1⟩:=e1;obtain⟨c2,e2,o2⟩:=e2;exact hM.inj i j c1 c2 g' e1 e2 o1 o2
 ·by_cases e:j=id
  ·subst e;rw[aN]at hj;simp only[Option.some.injEq]at hj;subst hj;exact oA Mq
  ·rw[aq e]at hj;exact hM.apart j c hj
 ·have:(m i).isSome=true:=by
   by_cases e:j=id
   ·subst e;rw[aN]at hj;simp at hj
   ·rw[aq e]at hj;exact hM.fl j cs i hj hh
  by_cases e:i=id
  ·subst e;simp
  ·rw[aq e];exact this
theorem nQ:∀i off,(bL.arr sz et es).rowAt i off=true→False:=fun i off h=>by simp[bL.rowAt]at h
theorem ay.freeze(hM:ay P G w0 μ φ m w)(hm:m id=some (.arr sz et es)):ay P G w0 (nB μ w (φ id).g) φ (ao m id (.nP sz et es)) w:=by
 have e:qZ μ w ((bL.arr sz et es).eh (φ id))=nB μ w (φ id).g:=by
  funext b;unfold qZ nB;by_cases h:(φ id).g=some b
  ·rw[if_pos h,if_pos (show(bL.arr sz et es).eh (φ id) b from .inl h)]
  ·rw[if_neg h,if_neg fun ho=>h (mo nQ ho)]
 have:=hM.Mp (sz:=sz) (et:=et) (es:=es) hm (fun st h=>by cases h) (aM.cJ (hM.dL id _ hm) rfl (oB hM _) (fun _ _=>rfl));rwa[e]at this
theorem ay.Mr(hM:ay P G w0 μ φ m w)(hm:m id=some (.nest sz et es)):ay P G w0 (qZ μ w ((bL.nest sz et es).eh (φ id))) φ (ao m id (.nP sz et (es.map PV.strip))) w:=by have hN:aV P μ φ w id sz et es:=hM.dL id _ hm;refine hM.Mp hm (fun st h=>by cases h) (hN.strip (oB hM _) fun i off g hr hg=>?_);unfold qZ;rw[if_pos (show(bL.nest sz et es).eh (φ id) g from .inr ⟨i,off,hr,hg⟩)]
def cO(μ:Ro)(w w':World):Ro:=fun b=>if b<w.heap.size then μ b else w'.heap[b]?
theorem jf(hM:ay P G w0 μ φ m w)(w':World):∀b o,μ b=some o→cO μ w w' b=some o:=by intro b o hb;have:=(Array.getElem?_eq_some_iff.1 (hM.ro b o hb)).1;simp[cO,this,hb]
theorem ay.called(hM:ay P G w0 μ φ m w)(hb:jB w.heap.size w w'):ay P G w0 (cO μ w w') φ m w':=by
 have mono:=jf hM w';refine⟨hM.below.trans (hb.mono hM.below.size),fun b o h=>?_,fun g cs hg=>(hM.aI g cs hg).mono mono,fun id b h=>?_,fun id b g h hg=>?_,hM.inj,hM.apart,hM.fl,fun b o h bt=>?_,fun b o hb=>mono b o (hM.dG b o hb),fun j st hj=>?_⟩
 rotate_right
 ·obtain⟨g,rc,h1,h2,h3⟩:=hM.zg j st hj;exact⟨g,rc,h1,h2,by rw[hb.block g (Array.getElem?_eq_some_iff.1 h3).1];exact h3⟩
 rotate_right
 ·have:w0.heap.size≤w.heap.size:=hM.below.size;unfold cO at h;rw[if_pos (by omega)]at h;exact hM.base b o h bt
 ·unfold cO at h;split at h
  ·rename_i bt;rw[hb.block b bt];exact hM.ro b o h
  ·exact h
 ·have hR:=hM.dL id b h;exact hR.cJ (fun _ _=>rfl) rfl mono (fun g hg=>hb.block g (hR.Bh hg))
 ·obtain⟨h1,h2⟩:=hM.own id b g h hg;refine⟨h1,fun hm=>?_⟩;have:=(hM.dL id b h).Bh hg;simp[cO,this,h2 hm]
def kS(μ:Ro)(g:Option Nat):Ro:=fun b=>if g=some b then none else μ b
theorem Gp{μ:Ro}{g:Option Nat}{b:Nat}{o:Obj}(h:kS μ g b=some o):μ b=some o:=by
 unfold kS at h;split at h
 ·cases h
 ·exact h
theorem vT(hM:ay P G w0 μ φ m w)(w':World){g:Option Nat}(hg:∀b,g=some b→w.heap.size≤b):∀b o,μ b=some o→kS (cO μ w w') g b=some o:=by intro b o hb;have bt:=(Array.getElem?_eq_some_iff.1 (hM.ro b o hb)).1;unfold kS;rw[if_neg fun e=>by have:=hg b e;omega];exact jf hM w' b o hb
theorem ay.Dn(hM:ay P G w0 μ φ m w)(hb:jB w.heap.size w w'){go:Option Nat}(Ag:∀b,go=some b→w.heap.size≤b):ay P G w0 (kS (cO μ w w') go) φ m w':=by
 have mono:=vT hM w' Ag;have hC:=hM.called hb;refine⟨hC.below,fun b o h=>hC.ro b o (Gp h),fun g cs hg=>(hM.aI g cs hg).mono mono,fun id b h=>?_,fun id b g h hg=>?_,hM.inj,hM.apart,hM.fl,fun b o h bt=>hC.base b o (Gp h) bt,fun b o hb=>mono b o (hM.dG b o hb),hC.zg⟩
 ·have hR:=hM.dL id b h;exact hR.cJ (fun _ _=>rfl) rfl mono (fun g hg=>hb.block g (hR.Bh hg))
 ·obtain⟨h1,h2⟩:=hC.own id b g h hg;refine⟨h1,fun hm=>?_⟩;unfold kS;split
  ·rfl
  ·exact h2 hm
theorem ay.drew(hM:ay P G w0 μ φ m w):ay P G w0 μ φ m w.drew:=⟨hM.below.drew,hM.ro,hM.aI,fun id b h=>(hM.dL id b h).cJ (fun _ _=>rfl) rfl (fun _ _ h=>h) (fun _ _=>rfl),hM.own,hM.inj,hM.apart,hM.fl,hM.base,hM.dG,hM.zg⟩
end
end Go.Ab
