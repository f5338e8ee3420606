import Derived.Test.YtanikidijjaohaaGreatAbP1
import Derived.Laws.StructEq
import Derived.ChangeKeysEq
set_option linter.unusedVariables false
namespace Go.Ab
open Go.RowKit (Below)
section
variable {P:Program} {G:Nat→Option (List PV)} {w0:br} {μ:Ro} {φ:Nat→aA} {m:Mem} {w:World}
theorem toCells_ok{n:Nat}{v:V}{cs:List V}(h:toCells n v=some cs):cs.length=n∧(∀id,cm id cs=true→v.has id=true)∧∀(P:Program)(μ:Ro)(φ:Nat→aA)(x:Value),ae P μ φ v x→x.cells.size=n∧(∀(i:Nat)u y,cs[i]?=some u→x.cells[i]?=some y→ae P μ φ u y)∧(∀(i:Nat)(y:Value),x.cells[i]?=some y→y.oneCell'=true):=by
 have one:∀(v:V),(∀(P:Program)(μ:Ro)(φ:Nat→aA)(x:Value),ae P μ φ v x→x.oneCell'=true∧x.cells= #[x])→(if n=1 then some [v]else none)=some cs→cs.length=n∧(∀id,cm id cs=true→v.has id=true)∧∀(P:Program)(μ:Ro)(φ:Nat→aA)(x:Value),ae P μ φ v x→x.cells.size=n∧(∀(i:Nat)u y,cs[i]?=some u→x.cells[i]?=some y→ae P μ φ u y)∧(∀(i:Nat)(y:Value),x.cells[i]?=some y→y.oneCell'=true):=by
  intro v h1 h;split at h
  ·rename_i hn;simp only[Option.some.injEq]at h;subst h;subst hn;refine⟨rfl,fun id hid=>by simpa[cm]using hid,fun P μ φ x hx=>?_⟩;obtain⟨h2,h3⟩:=h1 _ _ _ _ hx;rw[h3];refine⟨rfl,fun i u y hu hy=>?_,fun i y hy=>?_⟩
   ·cases i with
    |zero=>simp at hu hy;subst hu;subst hy;exact hx
    |succ i=>simp at hu
   ·cases i with
    |zero=>simp at hy;subst hy;exact h2
    |succ i=>simp at hy
  ·cases h
 have Z9:∀x:Value,x.oneCell'=true→x.cells= #[x]:=by intro x hx;cases x<;>first|rfl|(simp[Value.oneCell']at hx)
 unfold toCells at h;split at h
 ·rename_i ps;split at h
  ·rename_i hn;simp only[Option.some.injEq]at h;subst h;refine⟨by simpa using hn,fun id hid=>(by rw[PW]at hid;cases hid),fun P μ φ x hx=>?_⟩;cases hx with
   |pv hx=>cases hx with
    |agg h1 h2 h3=>refine⟨by simp only[Value.cells];omega,fun i u y hu hy=>?_,h3⟩;simp only[List.getElem?_map,Option.map_eq_some_iff]at hu;obtain⟨q,hq,rfl⟩:=hu;exact .pv (h2 i q y hq hy)
  ·cases h
 ·split at h
  ·rename_i hn;simp only[Option.some.injEq]at h;subst h;refine⟨hn,fun id hid=>by simpa[V.has]using hid,fun P μ φ x hx=>?_⟩;cases hx with
   |agg h1 h2 h3=>exact⟨by simp only[Value.cells];omega,h2,h3⟩
  ·cases h
 ·cases h
 ·cases h
 ·cases h
 ·cases h
 ·rename_i h1 h2 h3 h4 h5 h6;refine one v (fun P μ φ x hx=>?_) h;have:x.oneCell'=true:=by
   cases hx with
   |pv hp=>exact hp.one (fun cs e=>h1 cs (by rw[e])) (fun cs e=>h5 cs (by rw[e])) (fun e=>h6 (by rw[e]))
   |agg=>exact absurd rfl (h2 _)
   |bt=>exact absurd rfl (h4 _)
   |top=>exact absurd rfl h3
   |fn=>exact FU _ _
   |_=>rfl
  exact⟨this,Z9 x this⟩
theorem sY:∀(d:Nat){v:V}{p:PV}{x:Value},kD cW d v=some p→ae P μ φ v x→af P μ p x
 |0,v,p,x,h,_=>by simp[kD]at h
 |d+1,v,p,x,h,hx=>by
  have ih:=fun{v p x}=> @sY d v p x;cases v with
  |pv q=>simp[kD]at h;subst h;cases hx with|pv hx=>exact hx
  |hZ=>simp[kD]at h;subst h;cases hx;exact .kE
  |agg cs=>
   simp only[kD]at h;obtain⟨ps,nd,h⟩:=Option.bind_eq_some_iff.1 h;simp only[Option.some.injEq]at h;subst h;obtain⟨h1,h2⟩:=gV nd;cases hx with
   |agg g1 g2 g3=>refine .agg (by omega) (fun i q y hq hy=>?_) g3;obtain⟨u,hu,hg⟩:=h2 i q hq;exact ih hg (g2 i u y hu hy)
  |bt cs=>
   simp only[kD]at h;obtain⟨ps,nd,h⟩:=Option.bind_eq_some_iff.1 h;simp only[Option.some.injEq]at h;subst h;obtain⟨h1,h2⟩:=gV nd;cases hx with
   |bt g1 g2=>refine .bt (by omega) (fun i q y hq hy=>?_);obtain⟨u,hu,hg⟩:=h2 i q hq;exact ih hg (g2 i u y hu hy)
  |op id off=>simp[kD,cW]at h
  |oe id i off=>simp[kD,cW]at h
  |os id=>simp[kD,cW]at h
  |fH id lo len=>simp[kD,cW]at h
  |vp id i off=>simp[kD,cW]at h
  |y7 id i off s j off2=>simp[kD]at h
  |om id=>simp[kD,cW]at h
  |fn f cs=>
   simp only[kD]at h;obtain⟨ps,nd,h⟩:=Option.bind_eq_some_iff.1 h;simp only[Option.some.injEq]at h;subst h;obtain⟨h1,h2⟩:=gV nd;cases hx with
   |fn g1 g2=>refine .fn (by omega) (fun i q y hq hy=>?_);obtain⟨u,hu,hg⟩:=h2 i q hq;exact ih hg (g2 i u y hu hy)
  |yl id=>simp[kD]at h
  |it id=>simp[kD]at h
  |top=>simp[kD]at h
def e9(w:World):Ro:=fun b=>w.heap[b]?
theorem av.wP(hM:av P G w0 μ φ m w):∀b o,μ b=some o→e9 w b=some o:=hM.ro
variable{id s:Nat}{et:TypeId}{es:List PV}{ν:Ro}
theorem aF.Hs(hA:aF P μ φ w id s et es){g:Nat}(hg:(φ id).g=some g){lo len:Nat}(hl:lo+len≤es.length){cap:Nat}(oR:cap≤(φ id).cap-lo)(hlc:len≤cap)(hν:∀b o,μ b=some o→ν b=some o)(Dm:ν g=w.heap[g]?):af P ν (.rs s ((es.drop lo).take len)) (.slice (some ⟨g,lo*s,none⟩) len cap):=by
 have hle:=hA.ot;obtain⟨a1,a2,a3,a4,a5,a6,a7⟩:=hA;rw[hg]at a7;obtain⟨c,T,c1,c2,c3,c4,c5⟩:=a7;have er:∀(i:Nat)e,((es.drop lo).take len)[i]?=some e→i<len∧es[lo+i]?=some e:=fun i e hi=>dM hi;have hlen:((es.drop lo).take len).length=len:=by simp;omega
 have hb:∀(i:Nat)e(j:Nat)p,((es.drop lo).take len)[i]?=some e→e.cells[j]?=some p→(lo+i)*s+j<es.length*s:=by intro i e j p hi hj;obtain⟨_,hi⟩:=er i e hi;have h1:=(List.getElem?_eq_some_iff.1 hi).1;have h2:=(List.getElem?_eq_some_iff.1 hj).1;have h3:=a5 _ e hi;have:(lo+i+1)*s≤es.length*s:=Nat.mul_le_mul_right _ (by omega);rw[Nat.add_mul _ 1]at this;omega
 have hc:∀(i:Nat)e(j:Nat)p,((es.drop lo).take len)[i]?=some e→e.cells[j]?=some p→c[(lo+i)*s+j]?=some (c.getD ((lo+i)*s+j) undef):=by
  intro i e j p hi hj;obtain⟨_,hi⟩:=er i e hi;have h1:=(List.getElem?_eq_some_iff.1 hi).1;have h2:=(List.getElem?_eq_some_iff.1 hj).1;have h3:=a5 _ e hi;have:(lo+i+1)*s≤(φ id).cap*s:=Nat.mul_le_mul_right _ (by omega);rw[Nat.add_mul _ 1]at this;have bm:(lo+i)*s+j<c.size:=by omega
  rw[Array.getElem?_eq_getElem bm];simp[Array.getD,bm]
 have:=af.rs (P:=P) (μ:=ν) (sz:=s) (es:=(es.drop lo).take len) (b:=g) (o:=lo*s) (cap:=cap) (fun i j=>c.getD ((lo+i)*s+j) undef) (by omega) (by omega) (fun i e hi=>a5 _ e (er i e hi).2) (fun i e j p hi hj=>by have:=hc i e j p hi hj;unfold cellAt;rw[Dm,c1];simp only;rw[←this,Nat.add_mul]) (fun i e j p hi hj=>((c4 _ e j p _ (er i e hi).2 hj (hc i e j p hi hj)).mono hν)) (fun i e j p hi hj=>c5 _ _ (hb i e j p hi hj) (hc i e j p hi hj));rw[hlen]at this;exact this
theorem aF.slice(hM:av P G w0 μ φ m w)(hA:aF P μ φ w id s et es){g:Nat}(hg:(φ id).g=some g){lo len:Nat}(hl:lo+len≤es.length)(hν:∀b o,μ b=some o→ν b=some o)(Dm:ν g=w.heap[g]?):af P ν (.rs s ((es.drop lo).take len)) (.slice (some ⟨g,lo*s,none⟩) len ((φ id).cap-lo)):=hA.Hs hg hl (Nat.le_refl _) (by have:=hA.ot;omega) hν Dm
variable{x:Value}
theorem aF.F2(hA:aF P μ φ w id s et es)(hx:ae P μ φ (.os id) x)(hν:∀b o,μ b=some o→ν b=some o)(Dm:∀g,(φ id).g=some g→ν g=w.heap[g]?):af P ν (.rs s es) x:=by
 have xw:=hA;obtain⟨a1,a2,a3,a4,a5,a6,a7⟩:=hA;cases hx with
 |rL hg=>rw[hg]at a7;rw[a7.1];exact .kE
 | @os _ g hg=>have hle:=xw.ot;have:=xw.Hs hg (lo:=0) (len:=es.length) (by omega) (cap:=(φ id).cap) (by omega) hle.1 hν (Dm g hg);rw[a1];simpa using this
theorem aF.full(hM:av P G w0 μ φ m w)(hA:aF P μ φ w id s et es)(hx:ae P μ φ (.os id) x)(hν:∀b o,μ b=some o→ν b=some o)(Dm:∀g,(φ id).g=some g→ν g=w.heap[g]?):af P ν (.rs s es) x:=hA.F2 hx hν Dm
theorem eN.full{R:BE}{rs:List PV}(h:eN P μ R w s rs x)(hν:∀b o,μ b=some o→ν b=some o)(Dm:∀g,R.g=some g→ν g=w.heap[g]?):af P ν (.rs s rs) x:=by obtain⟨⟨et,hA⟩,hV⟩:=h;exact hA.F2 hV hν Dm
theorem BJ(e:PV):e.strip.cells=e.cells.map PV.np:=by cases e<;>rfl
theorem aV.strip{sz:Nat}(h:aV P μ φ w id sz et es)(hν:∀b o,μ b=some o→ν b=some o)(Dm:∀i off g,(bE.nest sz et es).rowAt i off=true→((φ id).row i off).g=some g→ν g=w.heap[g]?):aF P ν φ w id sz et (es.map PV.strip):=by
 obtain⟨a1,a2,a3,a4,a5,a6,a7⟩:=h;refine⟨by simpa using a1,a2,a3,a4,fun i e he=>?_,a6,?_⟩
 ·rw[List.getElem?_map,Option.map_eq_some_iff]at he;obtain⟨e0,h0,rfl⟩:=he;rw[BJ,List.length_map];exact a5 i e0 h0
 ·cases hg:(φ id).g with
  |none=>rw[hg]at a7;simp[a7.1,a7.2]
  |some g=>
   rw[hg]at a7;obtain⟨c,T,c1,c2,c3,c4,c5⟩:=a7;refine⟨c,T,c1,c2,by simpa using c3,fun i e j p x he hp hx=>?_,fun i x hi hx=>c5 i x (by simpa using hi) hx⟩;rw[List.getElem?_map,Option.map_eq_some_iff]at he;obtain⟨e0,h0,rfl⟩:=he;rw[BJ,List.getElem?_map,Option.map_eq_some_iff]at hp;obtain⟨p0,F1,rfl⟩:=hp;have hc:=c4 i e0 j p0 x h0 F1 hx;cases hr:p0.isRow with
   |false=>
    have:p0.np=p0:=by cases p0<;>first|rfl|cases hr
    rw[this];exact(hc.PU hr).mono hν
   |true=>
    cases p0<;>first|(cases hr;done)|skip
    rename_i s rs;exact eN.full (show eN P μ _ w s rs x from hc) hν fun g' bP=>Dm i j g' (by simp[bE.rowAt,h0,F1,PV.isRow]) bP
theorem Rz{g o:Nat}{c:Array Value}{T:TypeId}{fz:Nat×Nat}{y:Value}(hν:ν g=w.heap[g]?)(h:w.heap[g]?=some (.cells c T fz))(hy:c[o]?=some y):cellAt ν g o=some y:=by simp[cellAt,hν,h,hy]
theorem sU(hM:av P G w0 μ φ m w){ν:Ro}(ro:∀b o,μ b=some o→ν b=some o)(own:∀id b g,m id=some b→b.owns (φ id) g→ν g=w.heap[g]?):∀(d:Nat){v:V}{p:PV}{x:Value},kD m d v=some p→ae P μ φ v x→af P ν p x
 |0,v,p,x,h,_=>by simp[kD]at h
 |d+1,v,p,x,h,hx=>by
  have ih:=fun{v p x}=> @sU hM ν ro own d v p x;cases v with
  |pv q=>simp[kD]at h;subst h;cases hx with|pv hx=>exact hx.mono ro
  |hZ=>simp[kD]at h;subst h;cases hx;exact .kE
  |agg cs=>
   simp only[kD]at h;obtain⟨ps,nd,h⟩:=Option.bind_eq_some_iff.1 h;simp only[Option.some.injEq]at h;subst h;obtain⟨h1,h2⟩:=gV nd;cases hx with
   |agg g1 g2 g3=>refine .agg (by omega) (fun i q y hq hy=>?_) g3;obtain⟨u,hu,hg⟩:=h2 i q hq;exact ih hg (g2 i u y hu hy)
  |bt cs=>
   simp only[kD]at h;obtain⟨ps,nd,h⟩:=Option.bind_eq_some_iff.1 h;simp only[Option.some.injEq]at h;subst h;obtain⟨h1,h2⟩:=gV nd;cases hx with
   |bt g1 g2=>refine .bt (by omega) (fun i q y hq hy=>?_);obtain⟨u,hu,hg⟩:=h2 i q hq;exact ih hg (g2 i u y hu hy)
  |op id off=>
   simp only[kD]at h;split at h
   ·rename_i cs hm;obtain⟨ps,nd,h⟩:=Option.bind_eq_some_iff.1 h;simp only[Option.some.injEq]at h;subst h;obtain⟨h1,h2⟩:=gV nd;obtain⟨g,c,T,hg,hh,hs,hv,sX,xZ⟩:=hM.dy id _ hm;cases hx with
    |op bP=>
     rw[hg]at bP;simp only[Option.some.injEq]at bP;subst bP;have er:∀(i:Nat)p,ps[i]?=some p→c[off+i]?=some (c.getD (off+i) undef):=by
      intro i p hi;have:=(List.getElem?_eq_some_iff.1 hi).1;rw[h1]at this;simp at this;have bm:off+i<c.size:=by omega
      rw[Array.getElem?_eq_getElem bm];simp[Array.getD,bm]
     refine .rp (fun i=>c.getD (off+i) undef) (fun i p hi=>Rz (own _ _ _ hm (.inl hg)) hh (er i p hi)) (fun i p hi=>?_) (fun i hi=>?_)
     ·obtain⟨u,hu,hgu⟩:=h2 i p hi;exact ih hgu (hv (off+i) u _ (mi hu) (er i p hi))
     ·exact sX _ _ (er i _ (List.getElem?_eq_getElem hi))
   ·cases h
  |oe id i off=>
   have key:∀(s:Nat)(et:TypeId)(es:List PV),(m id=some (.arr s et es)∨m id=some (.pR s et es))→((es[i]?).bind fun e=>some (PV.rp ((aC s e).drop off)))=some p→af P ν p x:=by
    intro s et es hm h;obtain⟨e,he,h⟩:=Option.bind_eq_some_iff.1 h;simp only[Option.some.injEq]at h;subst h;have hA:=hM.arr hm;have xw:=hA;have aaa:∀g,(φ id).g=some g→ν g=w.heap[g]?:=fun g hg=>by rcases hm with hm|hm<;>exact own _ _ _ hm (.inl hg)
    obtain⟨a1,a2,a3,a4,a5,a6,a7⟩:=hA;cases hx with
    | @oe _ _ _ g hg=>
     rw[a2];have BK:=xw.slice hM hg (lo:=0) (len:=es.length) (by omega) ro (aaa _ hg);have ae8:af P ν (.rs s es) (.slice (some ⟨g,0,none⟩) es.length (φ id).cap):=by simpa using BK
     obtain⟨b,o,cap,e1,hr⟩:=ae8.PX he;simp only[Value.slice.injEq,Option.some.injEq,Addr.mk.injEq]at e1;obtain⟨⟨rfl,rfl,_⟩,_⟩:=e1;have:=hr.Hr off;simpa using this
   simp only[kD]at h;split at h
   ·rename_i s et es hm;exact key s et es (.inl hm) h
   ·rename_i s et es hm;exact key s et es (.inr hm) h
   ·cases h
  |os id=>
   simp only[kD]at h;split at h
   ·rename_i s et es hm;simp only[Option.some.injEq]at h;subst h;exact(hM.arr (.inl hm)).full hM hx ro (fun g hg=>own _ _ _ hm (.inl hg))
   ·rename_i s et es hm;simp only[Option.some.injEq]at h;subst h;exact(hM.arr (.inr hm)).full hM hx ro (fun g hg=>own _ _ _ hm (.inl hg))
   ·rename_i s et es hm;simp only[Option.some.injEq]at h;subst h;have hN:aV P μ φ w id s et es:=hM.dy id _ hm;exact(hN.strip ro fun i off g hr hg=>own _ _ _ hm (.inr ⟨i,off,hr,hg⟩)).F2 (hx.xr ro) (fun _ _ h=>h) fun g hg=>own _ _ _ hm (.inl hg)
   ·cases h
  |y7 id i off s j off2=>simp[kD]at h
  |vp id i off=>
   simp only[kD]at h;split at h
   ·rename_i s et es hm;obtain⟨e,he,h⟩:=Option.bind_eq_some_iff.1 h;unfold abv at h;split at h
    ·rename_i s' rs hc;simp only[Option.some.injEq]at h;subst h;have hN:aV P μ φ w id s et es:=hM.dy id _ hm;obtain⟨_,_,_,_,⟨⟨C4,hA⟩,_⟩,hce⟩:=hN.row (s:=s') (rs:=rs) he (by rw[hc];simp[eT]);exact hA.F2 (hx.L6 (ν:=μ)) ro fun g hg=>own _ _ _ hm (.inr ⟨i,off,by simp[bE.rowAt,he,hce,PV.isRow],hg⟩)
    ·cases h
   ·cases h
  |fH id lo len=>
   have key:∀(s:Nat)(et:TypeId)(es:List PV),(m id=some (.arr s et es)∨m id=some (.pR s et es))→af P ν (.rs s ((es.drop lo).take len)) x:=by
    intro s et es hm;have hA:=hM.arr hm;have xw:=hA;have aaa:∀g,(φ id).g=some g→ν g=w.heap[g]?:=fun g hg=>by rcases hm with hm|hm<;>exact own _ _ _ hm (.inl hg)
    have hle:=hA.ot;obtain⟨a1,a2,a3,a4,a5,a6,a7⟩:=hA;cases hx with
    |qn hg=>simp;exact .kE
    | @fH _ _ _ cap g a hg hl ha YV Rv=>
     rw[a1]at hl;rcases ha with rfl|⟨ha,_⟩
     ·rw[a2];exact xw.Hs hg hl (by omega) YV ro (aaa _ hg)
     ·have h0:len=0:=by omega
      subst h0;simp only[List.take_zero];exact .Fk (by omega)
   simp only[kD]at h;split at h
   ·rename_i s et es hm;simp only[Option.some.injEq]at h;subst h;exact key s et es (.inl hm)
   ·rename_i s et es hm;simp only[Option.some.injEq]at h;subst h;exact key s et es (.inr hm)
   ·cases h
  |om id=>
   simp only[kD]at h;split at h
   ·rename_i kt es hm;simp only[Option.some.injEq]at h;subst h;obtain⟨g,en,clock,kk,hg,hh,hs,hk,Fc,_,hv⟩:=hM.dy id _ hm;cases hx with
    |om bP=>
     rw[hg]at bP;simp only[Option.some.injEq]at bP;subst bP;refine .rm (show ν g=_ from(own _ _ _ hm (.inl hg)).trans hh) (by simp[hs]) (by simp) hk (fun i k hi=>?_) (fun i k e hi he=>?_) (fun i v e hi he=>?_)
     ·simp only[List.getElem?_map,Option.map_eq_some_iff]at hi;obtain⟨⟨a,b⟩,hq,rfl⟩:=hi;exact Fc i a b hq
     ·simp only[List.getElem?_map,Option.map_eq_some_iff]at hi;obtain⟨⟨a,b⟩,hq,rfl⟩:=hi;exact(hv i a b e hq he).1.mono ro
     ·simp only[List.getElem?_map,Option.map_eq_some_iff]at hi;obtain⟨⟨a,b⟩,hq,rfl⟩:=hi;exact(hv i a b e hq he).2.mono ro
   ·rename_i kt e0 es hm;simp only[Option.some.injEq]at h;subst h;obtain⟨g,en,clock,kk,hg,hh,hs,hk,Fc,_,hv⟩:=hM.dy id _ hm;cases hx with
    |om bP=>
     rw[hg]at bP;simp only[Option.some.injEq]at bP;subst bP;refine .rm (show ν g=_ from(own _ _ _ hm (.inl hg)).trans hh) (by simp[hs]) (by simp) hk (fun i k hi=>?_) (fun i k e hi he=>?_) (fun i v e hi he=>?_)
     ·simp only[List.getElem?_map,Option.map_eq_some_iff]at hi;obtain⟨⟨a,b⟩,hq,rfl⟩:=hi;exact Fc i a b hq
     ·simp only[List.getElem?_map,Option.map_eq_some_iff]at hi;obtain⟨⟨a,b⟩,hq,rfl⟩:=hi;exact(hv i a b e hq he).1.mono ro
     ·simp only[List.getElem?_map,Option.map_eq_some_iff]at hi;obtain⟨⟨a,b⟩,hq,rfl⟩:=hi;have h2:=(hv i a b e hq he).2;cases hr:b.isRow with
      |false=>
       have e1:b.np=b:=by cases b<;>first|rfl|cases hr
       simp only[e1];split at h2
       ·cases hr
       ·exact h2.mono ro
      |true=>
       cases b<;>first|(cases hr;done)|skip
       exact h2.1.F2 h2.2 ro fun g' bP=>own _ _ _ hm (.inr ⟨i,0,by simp[bE.rowAt,hq,PV.isRow],bP⟩)
   ·cases h
  |fn f cs=>
   simp only[kD]at h;obtain⟨ps,nd,h⟩:=Option.bind_eq_some_iff.1 h;simp only[Option.some.injEq]at h;subst h;obtain⟨h1,h2⟩:=gV nd;cases hx with
   |fn g1 g2=>refine .fn (by omega) (fun i q y hq hy=>?_);obtain⟨u,hu,hg⟩:=h2 i q hq;exact ih hg (g2 i u y hu hy)
  |yl id=>simp[kD]at h
  |it id=>simp[kD]at h
  |top=>simp[kD]at h
end
end Go.Ab
set_option linter.unusedVariables false
namespace Go.Ab
open Go.RowKit (Below)
section
variable {P:Program} {w:World}
def valOf:PV→Value
 |.int k n=>.int k n
 |.bool b=>.bool b
 |.str s=>.string ⟨s.toArray⟩
 |_=>undef
def eO(P:Program)(t:TypeId)(ps:List PV):Value:=if ao P t then .agg (ps.map valOf).toArray else valOf (ps.headD .bad)
theorem F3{μ:Ro}{k:Kd}{p:PV}{y:Value}(h:sR k p=true)(hy:af P μ p y):y=valOf p:=by cases k<;>cases p<;>simp[sR]at h<;>cases hy<;>rfl
theorem pK:∀{ks:List Kd}{ps:List PV},lD ks ps=true→ps.length=ks.length
 |[],[],_=>rfl
 |[],_::_,h=>by simp[lD]at h
 |_::_,[],h=>by simp[lD]at h
 |k::ks,p::ps,h=>by simp[lD]at h;simp[pK h.2]
theorem PZ:∀{ks:List Kd}{ps:List PV},lD ks ps=true→∀(i:Nat)p,ps[i]?=some p→∃k,ks[i]?=some k∧sR k p=true
 |[],[],_,i,p,hi=>by simp at hi
 |[],_::_,h,_,_,_=>by simp[lD]at h
 |_::_,[],h,_,_,_=>by simp[lD]at h
 |k::ks,q::ps,h,i,p,hi=>by
  simp[lD]at h;cases i with
  |zero=>simp at hi;subst hi;exact⟨k,by simp,h.1⟩
  |succ i=>simp at hi;simpa using PZ h.2 i p hi
theorem qq:∀(a b:List Kd)(ps:List PV),lD (a++b) ps=true↔lD a (ps.take a.length)=true∧lD b (ps.drop a.length)=true
 |[],b,ps=>by simp[lD]
 |k::a,b,[]=>by simp[lD]
 |k::a,b,p::ps=>by simp[lD,qq a b ps,Bool.and_eq_true,and_assoc]
theorem vD:∀(n:Nat)(ps qs:List PV),n≤ps.length→n≤qs.length→dK ps qs=(dK (ps.take n) (qs.take n)&&dK (ps.drop n) (qs.drop n))
 |0,ps,qs,_,_=>by simp[dK]
 |n+1,[],_,h,_=>by simp at h
 |n+1,_::_,[],_,h=>by simp at h
 |n+1,p::ps,q::qs,h1,h2=>by simp only[List.length_cons,Nat.add_le_add_iff_right]at h1 h2;simp only[dK,List.take_succ_cons,List.drop_succ_cons,vD n ps qs h1 h2,Bool.and_assoc]
variable{ks:List Kd}{ps:List PV}
theorem sk{μ:Ro}{xs:Array Value}(hk:lD ks ps=true)(hl:xs.size=ps.length)(hv:∀(i:Nat)p y,ps[i]?=some p→xs[i]?=some y→af P μ p y):xs=(ps.map valOf).toArray:=by
 apply Array.ext';apply List.ext_getElem?;intro i;by_cases hi:i<ps.length
 ·have h1:ps[i]?=some ps[i]:=List.getElem?_eq_getElem hi;have h2:xs[i]?=some xs[i]:=Array.getElem?_eq_getElem (by omega);obtain⟨k,_,hk⟩:=PZ hk i _ h1;have:=F3 hk (hv i _ _ h1 h2);simp only[Array.getElem?_toList,h2,List.getElem?_map,h1,Option.map_some,this]
 ·simp[hi,hl]
theorem xx(a:List Kd):∀n,(qg a n).length=n*a.length
 |0=>by simp[qg]
 |n+1=>by simp[qg,xx a n,Nat.add_mul];omega
theorem mj{k:Kd}(h:lD [k] ps=true):∃p,ps=[p]∧sR k p=true:=by
 cases ps with
 |nil=>simp[lD]at h
 |cons p r=>cases r with
  |nil=>exact⟨p,rfl,by simpa[lD]using h⟩
  |cons q r=>simp[lD]at h
theorem wQ{d:Nat}{t:TypeId}(h:Aj P d t=some ks):(ao P t=true→ks.length=aP P t)∧(ao P t=false→ks.length=1)∧∃de,P.underlying t=some de:=by
 cases d with
 |zero=>simp[Aj]at h
 |succ d=>
  unfold Aj at h;split at h
  ·rename_i q hu;simp at h;subst h;exact⟨by simp[ao,hu],by simp,_,hu⟩
  ·rename_i hu;simp at h;subst h;exact⟨by simp[ao,hu],by simp,_,hu⟩
  ·rename_i hu;simp at h;subst h;exact⟨by simp[ao,hu],by simp,_,hu⟩
  ·rename_i fs hu;split at h
   ·cases h
   ·obtain⟨a,ha,h⟩:=Option.bind_eq_some_iff.1 h;split at h
    ·rename_i hl;simp at h;subst h;exact⟨fun _=>hl,by simp[ao,hu],_,hu⟩
    ·cases h
  ·rename_i n e hu;obtain⟨a,ha,h⟩:=Option.bind_eq_some_iff.1 h;split at h
   ·rename_i hl;simp at h;subst h;refine⟨fun _=>?_,by simp[ao,hu],_,hu⟩;rw[←hl.2,xx]
   ·cases h
  ·cases h
theorem ku{d:Nat}{t:TypeId}{off:Nat}(h:Aj P d t=some ks)(hl:off+ks.length≤ps.length):(part t (ps.map valOf).toArray off).run P w=.ok (eO P t ((ps.drop off).take ks.length)) w:=by
 obtain⟨h1,h2,de,hu⟩:=wQ h;cases ha:ao P t with
 |true=>rw[zj ha];congr 1;simp only[eO,ha,if_true];congr 1;rw[←h1 ha];simp[List.map_drop,List.map_take,List.extract_eq_take_drop]
 |false=>
  have hk:=h2 ha;rw[hk]at hl⊢;have bm:off<ps.length:=by omega
  rw[zk hu ha (y:=valOf ps[off]) (by simp[bm])];congr 1;simp only[eO,ha,Bool.false_eq_true,if_false];rw[List.drop_eq_getElem_cons bm];rfl
theorem oS:∀(d:Nat)(t:TypeId)(ks:List Kd),Aj P d t=some ks→∀(D:Nat)(w:World)(ps qs:List PV),lD ks ps=true→lD ks qs=true→(Op.equalIn (D+d) t (eO P t ps) (eO P t qs)).run P w=.ok (dK ps qs) w
 |0,t,ks,h,_,_,_,_,_,_=>by simp[Aj]at h
 |d+1,t,ks,h,D,w,ps,qs,hp,hq=>by
  have ih:=oS d;have h0:=h;unfold Aj at h;split at h
  ·rename_i q hu;simp only[Option.some.injEq]at h;subst h;have ha:ao P t=false:=by simp[ao,hu]
   obtain⟨p,rfl,Tk⟩:=mj hp;obtain⟨q',rfl,hkq⟩:=mj hq;clear hp hq;cases p<;>simp[sR]at Tk;cases q'<;>simp[sR]at hkq;subst Tk;subst hkq;simp[eO,ha,valOf,dK,peq,←Nat.add_assoc,Op.equalIn,run_underlying hu]
  ·rename_i hu;simp only[Option.some.injEq]at h;subst h;have ha:ao P t=false:=by simp[ao,hu]
   obtain⟨p,rfl,Tk⟩:=mj hp;obtain⟨q',rfl,hkq⟩:=mj hq;clear hp hq;cases p<;>simp[sR]at Tk;cases q'<;>simp[sR]at hkq;simp[eO,ha,valOf,dK,peq,←Nat.add_assoc,Op.equalIn,run_underlying hu]
  ·rename_i hu;simp only[Option.some.injEq]at h;subst h;have ha:ao P t=false:=by simp[ao,hu]
   obtain⟨p,rfl,Tk⟩:=mj hp;obtain⟨q',rfl,hkq⟩:=mj hq;clear hp hq;cases p<;>simp[sR]at Tk;cases q'<;>simp[sR]at hkq;simp only[eO,ha,valOf,dK,peq,←Nat.add_assoc,Bool.false_eq_true,if_false,List.headD_cons,Bool.and_true];rw[run_equalIn_string w _ _ _ _ hu,ByteArray.toList_eq,ByteArray.toList_eq]
  ·rename_i fs hu;split at h
   ·cases h
   ·rename_i oQ;obtain⟨a,ha,h⟩:=Option.bind_eq_some_iff.1 h;split at h
    ·rename_i hlen;simp only[Option.some.injEq]at h;subst h;have LI:ao P t=true:=by simp[ao,hu]
     have hfo:P.fieldsOf t=fs:=by simp[Program.fieldsOf,hu]
     simp only[eO,LI,if_true,←Nat.add_assoc];rw[run_equalIn_struct w (D+d) t _ _ (by rw[hfo];exact hu) (by simpa using oQ),hfo];have key:∀(L:List Field)(off:Nat)(b:List Kd)(w:World),qf (Aj P d) L off=some b→off≤ps.length→off≤qs.length→lD b (ps.drop off)=true→lD b (qs.drop off)=true→(Op.eqFields (D+d) (ps.map valOf).toArray (qs.map valOf).toArray L).run P w=.ok (dK (ps.drop off) (qs.drop off)) w:=by
      intro L;induction L with
      |nil=>
       intro off b w hb o1 o2 h1 h2;simp only[qf,Option.some.injEq]at hb;subst hb;have e1:ps.drop off=[]:=by cases hh:ps.drop off with|nil=>rfl|cons x r=>rw[hh]at h1;simp[lD]at h1
       have e2:qs.drop off=[]:=by cases hh:qs.drop off with|nil=>rfl|cons x r=>rw[hh]at h2;simp[lD]at h2
       simp[Op.eqFields,e1,e2,dK]
      |cons f L ihL=>
       intro off b w hb o1 o2 h1 h2;simp only[qf]at hb;split at hb
       ·rename_i hf;obtain⟨c,hc,hb⟩:=Option.bind_eq_some_iff.1 hb;obtain⟨b',gB,hb⟩:=Option.bind_eq_some_iff.1 hb;simp only[Option.some.injEq]at hb;subst hb;rw[qq]at h1 h2;have l1:=pK h1.1;have l2:=pK h2.1;simp only[List.length_take,List.length_drop]at l1 l2;have p1:=ku (w:=w) (ps:=ps) (off:=off) hc (by omega);have p2:=ku (w:=w) (ps:=qs) (off:=off) hc (by omega);have p3:=ih f.type c hc D w _ _ h1.1 h2.1;have p4:=ihL (off+c.length) b' w gB (by omega) (by omega) (by rw[←List.drop_drop];exact h1.2) (by rw[←List.drop_drop];exact h2.2);simp only[Op.eqFields,hf.2,ne_eq,not_false_eq_true,if_true,Sem.run_bind,hf.1,p1,p2,p3,Result.andThen_ok];rw[vD c.length (ps.drop off) (qs.drop off) (by simp;omega) (by simp;omega),List.drop_drop,List.drop_drop];cases hr:dK ((ps.drop off).take c.length) ((qs.drop off).take c.length)with
        |false=>simp
        |true=>simpa using p4
       ·cases hb
     simpa using key fs.toList 0 a w ha (by simp) (by simp) (by simpa using hp) (by simpa using hq)
    ·cases h
  ·rename_i n e hu;obtain⟨a,ha,h⟩:=Option.bind_eq_some_iff.1 h;split at h
   ·rename_i hlen;simp only[Option.some.injEq]at h;subst h;have LI:ao P t=true:=by simp[ao,hu]
    obtain⟨_,_,de,hde⟩:=wQ ha;obtain⟨i,hi⟩:∃i,P.info? e=some i:=by
     unfold Program.underlying at hde;cases hq:P.info? e with
     |none=>simp[hq]at hde
     |some i=>exact⟨i,rfl⟩
    have l0:P.cellsOf e=a.length:=hlen.1.symm;simp only[eO,LI,if_true,←Nat.add_assoc];rw[run_equalIn_array w (D+d) _ _ hu hi,l0];have key:∀(k j:Nat)(w:World),j+k=n→j*a.length≤ps.length→j*a.length≤qs.length→lD (qg a k) (ps.drop (j*a.length))=true→lD (qg a k) (qs.drop (j*a.length))=true→(Op.eqItems (D+d) e a.length (ps.map valOf).toArray (qs.map valOf).toArray (List.range' j k)).run P w=.ok (dK (ps.drop (j*a.length)) (qs.drop (j*a.length))) w:=by
     intro k;induction k with
     |zero=>
      intro j w _ _ _ h1 h2;simp only[qg]at h1 h2;have e1:ps.drop (j*a.length)=[]:=by cases hh:ps.drop (j*a.length)with|nil=>rfl|cons x r=>rw[hh]at h1;simp[lD]at h1
      have e2:qs.drop (j*a.length)=[]:=by cases hh:qs.drop (j*a.length)with|nil=>rfl|cons x r=>rw[hh]at h2;simp[lD]at h2
      simp[Op.eqItems,e1,e2,dK]
     |succ k ihk=>
      intro j w hj o1 o2 h1 h2;simp only[qg]at h1 h2;rw[qq]at h1 h2;have l1:=pK h1.1;have l2:=pK h2.1;simp only[List.length_take,List.length_drop]at l1 l2;have p1:=ku (w:=w) (ps:=ps) (off:=j*a.length) ha (by omega);have p2:=ku (w:=w) (ps:=qs) (off:=j*a.length) ha (by omega);have p3:=ih e a ha D w _ _ h1.1 h2.1;have ej:(j+1)*a.length=j*a.length+a.length:=by rw[Nat.add_mul];omega
      have p4:=ihk (j+1) w (by omega) (by omega) (by omega) (by rw[ej,←List.drop_drop];exact h1.2) (by rw[ej,←List.drop_drop];exact h2.2);rw[List.range'_succ];simp only[Op.eqItems,Sem.run_bind,p1,p2,p3,Result.andThen_ok];rw[vD a.length (ps.drop (j*a.length)) (qs.drop (j*a.length)) (by simp;omega) (by simp;omega),List.drop_drop,List.drop_drop,←ej];cases hr:dK ((ps.drop (j*a.length)).take a.length) ((qs.drop (j*a.length)).take a.length)with
      |false=>simp
      |true=>simpa using p4
    have:=key n 0 w (by omega) (by simp) (by simp) (by simpa using hp) (by simpa using hq);rw[List.range_eq_range'];simpa using this
   ·cases h
  ·cases h
end
end Go.Ab
set_option linter.unusedVariables false
namespace Go.Ab
open Go.RowKit (Below)
section
variable {R:Type} {E:Env}
theorem W8{k:IntKind}{x y:Int}(hx:(Lit.int k x).wf=true):(Lit.int k (x.tmod y)).wf=true:=by
 rw[nX]at*;have h0:k.min≤0∧0≤k.max:=by cases k<;>simp[IntKind.min,IntKind.max,IntKind.signed,IntKind.bits]
 rcases Int.le_total 0 x with h|h
 ·have h1:=Int.tmod_nonneg y h;have h2:x.tmod y≤x:=by have:=Int.natAbs_tmod x y;have h3:x.natAbs%y.natAbs≤x.natAbs:=Nat.mod_le _ _;omega
  omega
 ·have h1:x.tmod y= -((-x).tmod y):=by rw[Int.neg_tmod];omega
  have h2:=Int.tmod_nonneg y (show 0≤-x by omega);have h3:(-x).tmod y≤-x:=by have:=Int.natAbs_tmod (-x) y;have h3:(-x).natAbs%y.natAbs≤(-x).natAbs:=Nat.mod_le _ _;omega
  omega
theorem W9{k:IntKind}{x:Int}(n:Nat)(hx:(Lit.int k x).wf=true):(Lit.int k (x.fdiv (2^n))).wf=true:=by
 rw[nX]at*;have h0:k.min≤0∧0≤k.max:=by cases k<;>simp[IntKind.min,IntKind.max,IntKind.signed,IntKind.bits]
 have hp:(0:Int)<2^n:=Int.pow_pos (by omega);rw[Int.fdiv_eq_ediv_of_nonneg _ (by omega)];rcases Int.le_total 0 x with h|h
 ·have h1:=Int.ediv_nonneg h (Int.le_of_lt hp);have h2:=Int.ediv_le_self (2^n) h;omega
 ·have h1:x/2^n≤0:=Int.ediv_nonpos_of_nonpos_of_neg h hp;have h2:x≤x/2^n:=by rw[Int.le_ediv_iff_mul_le hp];have:x*2^n≤x*1:=Int.mul_le_mul_of_nonpos_left h (by omega);omega
  omega
variable{P:Program}{t:TypeId}
theorem F4{ps:List PV}(ha:ao P t=true):eO P t ps=.agg (ps.map valOf).toArray:=by simp[eO,ha]
def F5(P:Program)(t:TypeId):Bool:=P.eqGuardType P.depth t
def sl(op:BinOp)(t:TypeId)(ox oy:Operand)(x y:Value):Sem Value:=do eqGuard op t ox oy x y;binOp op t x y
variable{x y:Value}{w:World}
theorem iL{b:Bool}(hb:binOp .eql t x y=(do pure (.bool (←Op.equal t x y))))(h:(Op.equalIn 10000 t x y).run P w=.ok b w):(binOp .eql t x y).run P w=.ok (.bool b) w:=by rw[hb];simp only[Op.equal,Op.maxDepth,Sem.run_bind,h,Result.andThen_ok,Sem.run_pure]
theorem iM{b:Bool}(hb:binOp .neq t x y=(do pure (.bool (!(←Op.equal t x y)))))(h:(Op.equalIn 10000 t x y).run P w=.ok b w):(binOp .neq t x y).run P w=.ok (.bool (!b)) w:=by rw[hb];simp only[Op.equal,Op.maxDepth,Sem.run_bind,h,Result.andThen_ok,Sem.run_pure]
theorem bU{op:BinOp}{ox oy:Operand}{z:Value}(h1:(eqGuard op t ox oy x y).run P w=.ok () w)(h2:(binOp op t x y).run P w=.ok z w):(sl op t ox oy x y).run P w=.ok z w:=by simp only[sl,Sem.run_bind,h1,h2,Result.andThen_ok]
theorem lT{e:TypeId}(hu:P.underlying t=some (.pointer e))(a:Option Addr):(Op.equalIn 10000 t (.pointer a) (.pointer none)).run P w=.ok a.isNone w:=by show(Op.equalIn (9999+1) t (.pointer a) (.pointer none)).run P w=.ok a.isNone w;cases a<;>(unfold Op.equalIn;simp only[Sem.run_bind,run_underlying hu,Result.andThen_ok];rfl)
theorem tZ{a b:Array TypeId}{c:Bool}(hu:P.underlying t=some (.func a b c))(f:Fn)(xs ys:Array Value):(Op.equalIn 10000 t (.func f xs ys) .nilFunc).run P w=.ok false w:=by show(Op.equalIn (9999+1) t (.func f xs ys) .nilFunc).run P w=.ok false w;unfold Op.equalIn;simp only[Sem.run_bind,run_underlying hu,Result.andThen_ok];rfl
variable{k:PV→Option R}{a:V}{r:R}
theorem Xa{op:BinOp}{b:V}(h:lZ E op t a b k=some r):∃q,(∀(R':Type)(k':PV→Option R'),lZ E op t a b k'=k' q)∧k q=some r∧∀(μ:Ro)(φ:Nat→aA)(w:World)(ox oy:Operand)(x y:Value),ae E.P μ φ a x→ae E.P μ φ b y→∃z,(sl op t ox oy x y).run E.P w=.ok z w∧af E.P μ q z:=by
 unfold lZ at h;split at h
 ·rename_i q x q' y;have ints:∀(μ:Ro)(φ:Nat→aA)(u v:Value),ae E.P μ φ (.pv (.int q x)) u→ae E.P μ φ (.pv (.int q' y)) v→u=.int q x∧v=.int q' y∧(Lit.int q x).wf=true:=by intro μ φ u v hu hv;cases hu with|pv hu=>cases hu with|int h1=>cases hv with|pv hv=>cases hv with|int h2=>exact⟨rfl,rfl,h1⟩
  cases op;case shl=>
   simp only at h;split at h
   ·cases h
   ·rename_i hy;refine⟨_,fun R' k'=>by simp[lZ,hy],h,fun μ φ w ox oy u v hu hv=>?_⟩;obtain⟨rfl,rfl,_⟩:=ints μ φ u v hu hv;exact⟨_,by simp[sl,eqGuard,binOp,Op.shift,hy],.int (wf_wrap _ _)⟩
  case shr=>
   simp only at h;split at h
   ·cases h
   ·rename_i hy;refine⟨_,fun R' k'=>by simp[lZ,hy],h,fun μ φ w ox oy u v hu hv=>?_⟩;obtain⟨rfl,rfl,hw⟩:=ints μ φ u v hu hv;exact⟨_,by simp[sl,eqGuard,binOp,Op.shift,hy],.int (W9 _ hw)⟩
  case quo=>
   simp only at h;split at h
   ·rename_i hq;subst hq;split at h
    ·cases h
    ·rename_i hy;refine⟨_,fun R' k'=>by simp[lZ,hy],h,fun μ φ w ox oy u v hu hv=>?_⟩;obtain⟨rfl,rfl,_⟩:=ints μ φ u v hu hv;exact⟨_,by simp[sl,eqGuard,binOp,Op.intDiv,hy],.int (wf_wrap _ _)⟩
   ·cases h
  case rem=>
   simp only at h;split at h
   ·rename_i hq;subst hq;split at h
    ·cases h
    ·rename_i hy;refine⟨_,fun R' k'=>by simp[lZ,hy],h,fun μ φ w ox oy u v hu hv=>?_⟩;obtain⟨rfl,rfl,hw⟩:=ints μ φ u v hu hv;exact⟨_,by simp[sl,eqGuard,binOp,Op.intDiv,hy],.int (W8 hw)⟩
   ·cases h
  case eql|neq|lss|leq|gtr|geq=>
   simp only at h;split at h
   ·rename_i hq;subst hq;refine⟨_,fun R' k'=>by simp[lZ],h,fun μ φ w ox oy u v hu hv=>?_⟩;obtain⟨rfl,rfl,_⟩:=ints μ φ u v hu hv;refine⟨_,bU (by rw[eqGuard_at_int];rfl) ?_,.bool⟩;first|rw[binOp_eql]|rw[binOp_neq]|rw[binOp_lss]|rw[binOp_leq]|rw[binOp_gtr]|rw[binOp_geq]
    rfl
   ·cases h
  all_goals
   simp only at h;split at h
   ·rename_i hq;subst hq;refine⟨_,fun R' k'=>by simp[lZ],h,fun μ φ w ox oy u v hu hv=>?_⟩;obtain⟨rfl,rfl,_⟩:=ints μ φ u v hu hv;refine⟨_,bU (by rw[eqGuard_at_int];rfl) ?_,.int (wf_wrap _ _)⟩;first|rw[binOp_add]|rw[binOp_sub]|rw[binOp_mul]|rw[binOp_and]|rw[binOp_or]|rw[binOp_xor]|rw[binOp_andNot]
    rfl
   ·cases h
 ·rename_i x y;have strs:∀(μ:Ro)(φ:Nat→aA)(u v:Value),ae E.P μ φ (.pv (.str x)) u→ae E.P μ φ (.pv (.str y)) v→u=.string ⟨x.toArray⟩∧v=.string ⟨y.toArray⟩:=by intro μ φ u v hu hv;cases hu with|pv hu=>cases hu with|str h1=>cases hv with|pv hv=>cases hv with|str h2=>exact⟨rfl,rfl⟩
  cases op;case add=>
   simp only at h;split at h
   ·rename_i gu;have hy:¬((x.length+y.length:Nat):Int)>IntKind.i64.max:=by have:=E.lp.tR _ gu;omega
    refine⟨_,fun R' k'=>by simp only[lZ];rw[if_pos gu],h,fun μ φ w ox oy u v hu hv=>?_⟩;obtain⟨rfl,rfl⟩:=strs μ φ u v hu hv;refine⟨.string ⟨(x++y).toArray⟩,?_,.str ?_⟩
    ·simp only[sl,eqGuard,binOp,Op.stringOp,Sem.run_bind];have e:(⟨x.toArray⟩++⟨y.toArray⟩:ByteArray)=⟨(x++y).toArray⟩:=by apply ByteArray.ext;simp
     simp only[Di,e];rw[if_neg hy];simp
    ·simp only[maxLen];simp only[IntKind.max_i64]at hy;simp;omega
   ·cases h
  case eql|neq|lss|leq|gtr|geq=>simp only at h;refine⟨_,fun R' k'=>by simp only[lZ],h,fun μ φ w ox oy u v hu hv=>?_⟩;obtain⟨rfl,rfl⟩:=strs μ φ u v hu hv;refine⟨_,bU (by rw[eqGuard_at_string];rfl) ?_,.bool⟩;simp only[binOp,Op.stringOp,ByteArray.toList_eq];rfl
  all_goals (simp only at h;cases h)
 ·rename_i x y;have YX:∀(μ:Ro)(φ:Nat→aA)(u v:Value),ae E.P μ φ (.pv (.bool x)) u→ae E.P μ φ (.pv (.bool y)) v→u=.bool x∧v=.bool y:=by intro μ φ u v hu hv;cases hu with|pv hu=>cases hu with|bool=>cases hv with|pv hv=>cases hv with|bool=>exact⟨rfl,rfl⟩
  split at h
  ·rename_i qt;refine⟨_,fun R' k'=>by simp only[lZ,qt],h,fun μ φ w ox oy u v hu hv=>?_⟩;obtain⟨rfl,rfl⟩:=YX μ φ u v hu hv;exact⟨_,bU (by rw[eqGuard_at_bool];rfl) (iL rfl (run_equalIn_bool w _ _ _ _ qt)),.bool⟩
  ·rename_i qt;refine⟨_,fun R' k'=>by simp only[lZ,qt],h,fun μ φ w ox oy u v hu hv=>?_⟩;obtain⟨rfl,rfl⟩:=YX μ φ u v hu hv;exact⟨_,bU (by rw[eqGuard_at_bool];rfl) (iM rfl (run_equalIn_bool w _ _ _ _ qt)),.bool⟩
  ·cases h
 ·split at h
  ·rename_i qt;refine⟨_,fun R' k'=>by simp only[lZ,qt],h,fun μ φ w ox oy u v hu hv=>?_⟩;cases hu with|pv hu=>cases hu;cases hv with|pv hv=>cases hv;exact⟨_,bU (by rw[eqGuard_at_pointer];rfl) (iL rfl (lT qt none)),.bool⟩
  ·rename_i qt;refine⟨_,fun R' k'=>by simp only[lZ,qt],h,fun μ φ w ox oy u v hu hv=>?_⟩;cases hu with|pv hu=>cases hu;cases hv with|pv hv=>cases hv;exact⟨_,bU (by rw[eqGuard_at_pointer];rfl) (iM rfl (lT qt none)),.bool⟩
  ·cases h
 ·split at h
  ·rename_i qt;refine⟨_,fun R' k'=>by simp only[lZ,qt],h,fun μ φ w ox oy u v hu hv=>?_⟩;cases hu with| @fn f0 _ xs0=>cases hv with|pv hv=>cases hv;obtain⟨g0,a0,b0,e0⟩:=qp _ xs0;rw[e0];exact⟨_,bU (by rw[eqGuard_at_func];rfl) (iL rfl (tZ qt _ _ _)),.bool⟩
  ·rename_i qt;refine⟨_,fun R' k'=>by simp only[lZ,qt],h,fun μ φ w ox oy u v hu hv=>?_⟩;cases hu with| @fn f0 _ xs0=>cases hv with|pv hv=>cases hv;obtain⟨g0,a0,b0,e0⟩:=qp _ xs0;rw[e0];exact⟨_,bU (by rw[eqGuard_at_func];rfl) (iM rfl (tZ qt _ _ _)),.bool⟩
  ·cases h
 ·split at h
  ·rename_i qt;refine⟨_,fun R' k'=>by simp only[lZ,qt],h,fun μ φ w ox oy u v hu hv=>?_⟩;cases hu with|pv hu=>cases hu with| @fn f0 _ xs0=>cases hv with|pv hv=>cases hv;obtain⟨g0,a0,b0,e0⟩:=qp _ xs0;rw[e0];exact⟨_,bU (by rw[eqGuard_at_func];rfl) (iL rfl (tZ qt _ _ _)),.bool⟩
  ·rename_i qt;refine⟨_,fun R' k'=>by simp only[lZ,qt],h,fun μ φ w ox oy u v hu hv=>?_⟩;cases hu with|pv hu=>cases hu with| @fn f0 _ xs0=>cases hv with|pv hv=>cases hv;obtain⟨g0,a0,b0,e0⟩:=qp _ xs0;rw[e0];exact⟨_,bU (by rw[eqGuard_at_func];rfl) (iM rfl (tZ qt _ _ _)),.bool⟩
  ·cases h
 ·split at h
  ·rename_i qt;refine⟨_,fun R' k'=>by simp only[lZ,qt],h,fun μ φ w ox oy u v hu hv=>?_⟩;cases hu with|pv hu=>cases hu;cases hv with|pv hv=>cases hv;exact⟨_,bU (by rw[eqGuard_at_pointer];rfl) (iL rfl (lT qt _)),.bool⟩
  ·rename_i qt;refine⟨_,fun R' k'=>by simp only[lZ,qt],h,fun μ φ w ox oy u v hu hv=>?_⟩;cases hu with|pv hu=>cases hu;cases hv with|pv hv=>cases hv;exact⟨_,bU (by rw[eqGuard_at_pointer];rfl) (iM rfl (lT qt _)),.bool⟩
  ·cases h
 ·split at h
  ·rename_i qt;refine⟨_,fun R' k'=>by simp only[lZ,qt],h,fun μ φ w ox oy u v hu hv=>?_⟩;cases hu with|op hg=>cases hv with|pv hv=>cases hv;exact⟨_,bU (by rw[eqGuard_at_pointer];rfl) (iL rfl (lT qt _)),.bool⟩
  ·rename_i qt;refine⟨_,fun R' k'=>by simp only[lZ,qt],h,fun μ φ w ox oy u v hu hv=>?_⟩;cases hu with|op hg=>cases hv with|pv hv=>cases hv;exact⟨_,bU (by rw[eqGuard_at_pointer];rfl) (iM rfl (lT qt _)),.bool⟩
  ·cases h
 ·split at h
  ·rename_i qt;refine⟨_,fun R' k'=>by simp only[lZ,qt],h,fun μ φ w ox oy u v hu hv=>?_⟩;cases hu with|oe hg=>cases hv with|pv hv=>cases hv;exact⟨_,bU (by rw[eqGuard_at_pointer];rfl) (iL rfl (lT qt _)),.bool⟩
  ·rename_i qt;refine⟨_,fun R' k'=>by simp only[lZ,qt],h,fun μ φ w ox oy u v hu hv=>?_⟩;cases hu with|oe hg=>cases hv with|pv hv=>cases hv;exact⟨_,bU (by rw[eqGuard_at_pointer];rfl) (iM rfl (lT qt _)),.bool⟩
  ·cases h
 ·rename_i n1 n2 n3 n4 m1 m2 n5 n6 n7;split at h
  ·rename_i ha;split at h
   ·rename_i ks as bs TN has hbs;split at h
    ·rename_i ps qs nd hqs;split at h
     ·rename_i hc;have hE:F5 E.P t=false∧Aj E.P 8 t=some ks:=by
       unfold rR at TN;split at TN
       ·cases TN
       ·rename_i hg;exact⟨by simpa[F5]using hg,TN⟩
      have key:∀(μ:Ro)(φ:Nat→aA)(w:World)(x y:Value),ae E.P μ φ a x→ae E.P μ φ b y→∃xs ys,x=.agg xs∧y=.agg ys∧(Op.equalIn 10000 t x y).run E.P w=.ok (dK ps qs) w:=by intro μ φ w x y hx hy;obtain⟨xs,rfl,g1,g2,g3⟩:=(oq has).2 _ _ _ _ hx;obtain⟨ys,rfl,g4,g5,g6⟩:=(oq hbs).2 _ _ _ _ hy;obtain⟨l1,l2⟩:=gV nd;obtain⟨l3,l4⟩:=gV hqs;have e1:=sk (P:=E.P) (μ:=μ) (xs:=xs) hc.1 (by omega) (fun i p z hi hz=>by obtain⟨v,hv,hg⟩:=l2 i p hi;exact sY 1 hg (g2 i v z hv hz));have e2:=sk (P:=E.P) (μ:=μ) (xs:=ys) hc.2 (by omega) (fun i p z hi hz=>by obtain⟨v,hv,hg⟩:=l4 i p hi;exact sY 1 hg (g5 i v z hv hz));refine⟨xs,ys,rfl,rfl,?_⟩;have:=oS 8 t ks hE.2 9992 w ps qs hc.1 hc.2;rw[F4 ha,F4 ha,←e1,←e2]at this;exact this
      have ae9:∀(R':Type)(k':PV→Option R'),lZ E .eql t a b k'=k' (.bool (dK ps qs)):=by
       intro R' k';unfold lZ;split
       ·exact(n1 _ _ _ _ rfl rfl).elim
       ·exact(n2 _ _ rfl rfl).elim
       ·exact(n3 _ _ rfl rfl).elim
       ·exact(n4 rfl rfl).elim
       ·exact(m1 _ _ rfl rfl).elim
       ·exact(m2 _ _ rfl rfl).elim
       ·exact(n5 _ rfl rfl).elim
       ·exact(n6 _ _ rfl rfl).elim
       ·exact(n7 _ _ _ rfl rfl).elim
       ·rw[if_pos ha,TN,has,hbs];simp only[nd,hqs];rw[if_pos hc]
      have afa:∀(R':Type)(k':PV→Option R'),lZ E .neq t a b k'=k' (.bool (!(dK ps qs))):=by
       intro R' k';unfold lZ;split
       ·exact(n1 _ _ _ _ rfl rfl).elim
       ·exact(n2 _ _ rfl rfl).elim
       ·exact(n3 _ _ rfl rfl).elim
       ·exact(n4 rfl rfl).elim
       ·exact(m1 _ _ rfl rfl).elim
       ·exact(m2 _ _ rfl rfl).elim
       ·exact(n5 _ rfl rfl).elim
       ·exact(n6 _ _ rfl rfl).elim
       ·exact(n7 _ _ _ rfl rfl).elim
       ·rw[if_pos ha,TN,has,hbs];simp only[nd,hqs];rw[if_pos hc]
      cases op;case eql=>refine⟨_,fun R' k'=>ae9 R' k',h,fun μ φ w ox oy x y hx hy=>?_⟩;obtain⟨xs,ys,rfl,rfl,hr⟩:=key μ φ w x y hx hy;exact⟨_,bU (run_eqGuard_agg w _ _ _ _ _ _ hE.1) (iL rfl hr),.bool⟩
      case neq=>refine⟨_,fun R' k'=>afa R' k',h,fun μ φ w ox oy x y hx hy=>?_⟩;obtain⟨xs,ys,rfl,rfl,hr⟩:=key μ φ w x y hx hy;exact⟨_,bU (run_eqGuard_agg w _ _ _ _ _ _ hE.1) (iM rfl hr),.bool⟩
      all_goals (simp only at h;cases h)
     ·cases h
    ·cases h
   ·cases h
  ·cases h
theorem aab{op:UnOp}(h:xun op a k=some r):∃q,(∀(R':Type)(k':PV→Option R'),xun op a k'=k' q)∧k q=some r∧∀(P:Program)(μ:Ro)(φ:Nat→aA)(w:World)(x:Value),ae P μ φ a x→∃z,(Op.unary op x).run P w=.ok z w∧af P μ q z:=by
 unfold xun at h;split at h
 ·refine⟨_,fun R' k'=>rfl,h,fun P μ φ w x hx=>?_⟩;cases hx with|pv hx=>cases hx;exact⟨_,rfl,.bool⟩
 ·refine⟨_,fun R' k'=>rfl,h,fun P μ φ w x hx=>?_⟩;cases hx with|pv hx=>cases hx;exact⟨_,rfl,.int (wf_wrap _ _)⟩
 ·refine⟨_,fun R' k'=>rfl,h,fun P μ φ w x hx=>?_⟩;cases hx with|pv hx=>cases hx;exact⟨_,rfl,.int (wf_wrap _ _)⟩
 ·cases h
theorem Xb{k:IntKind}{n:Int}(h:(Lit.int k n).wf=true):k.wrap n=n:=by rw[nX]at h;cases k<;>simp only[IntKind.wrap,IntKind.min,IntKind.max,IntKind.signed,IntKind.bits]at* <;>simp at* <;>(try split)<;>omega
theorem TO{s d:TypeId}(h:C0 E s d a k=some r):∃q,(∀(R':Type)(k':PV→Option R'),C0 E s d a k'=k' q)∧k q=some r∧∀(μ:Ro)(φ:Nat→aA)(w:World)(x:Value),ae E.P μ φ a x→∃z,(convert s d x).run E.P w=.ok z w∧af E.P μ q z:=by
 unfold C0 at h;split at h
 ·rename_i q q' q'' n hs hd;split at h
  ·rename_i e1;subst e1;split at h
   ·rename_i e2;subst e2;refine⟨_,fun R' k'=>by simp[C0,hs,hd],h,fun μ φ w x hx=>?_⟩;cases hx with|pv hx=>cases hx with|int hw=>exact⟨_,by simp[convert,run_underlying hs,run_underlying hd,Conv.intToInt,Xb hw],.int hw⟩
   ·rename_i e2;refine⟨_,fun R' k'=>by simp[C0,hs,hd,e2],h,fun μ φ w x hx=>?_⟩;cases hx with|pv hx=>cases hx with|int hw=>exact⟨_,by simp[convert,run_underlying hs,run_underlying hd,Conv.intToInt],.int (wf_wrap _ _)⟩
  ·cases h
 ·rename_i hs hd;refine⟨_,fun R' k'=>by simp[C0,hs,hd],h,fun μ φ w x hx=>?_⟩;cases hx with|pv hx=>cases hx with|str hl=>exact⟨_,by simp[convert,run_underlying hs,run_underlying hd],.str hl⟩
 ·cases h
theorem TP{b:V}(h:Jb a b k=some r):∃q,(∀(R':Type)(k':PV→Option R'),Jb a b k'=k' q)∧k q=some r∧∀(P:Program)(μ:Ro)(φ:Nat→aA)(w:World)(x y:Value),ae P μ φ a x→ae P μ φ b y→∃z,(Builtin.min2 x y).run P w=.ok z w∧af P μ q z:=by
 unfold Jb at h;split at h
 ·split at h
  ·rename_i e;subst e;refine⟨_,fun R' k'=>by simp[Jb],h,fun P μ φ w x y hx hy=>?_⟩;cases hx with|pv hx=>cases hx with|int h1=>cases hy with|pv hy=>cases hy with|int h2=>exact⟨_,rfl,by split<;>exact .int (by assumption)⟩
  ·cases h
 ·cases h
theorem zl{b:V}(h:Bv a b k=some r):∃q,(∀(R':Type)(k':PV→Option R'),Bv a b k'=k' q)∧k q=some r∧∀(P:Program)(μ:Ro)(φ:Nat→aA)(w:World)(x y:Value),ae P μ φ a x→ae P μ φ b y→∃z,(Builtin.max2 x y).run P w=.ok z w∧af P μ q z:=by
 unfold Bv at h;split at h
 ·split at h
  ·rename_i e;subst e;refine⟨_,fun R' k'=>by simp[Bv],h,fun P μ φ w x y hx hy=>?_⟩;cases hx with|pv hx=>cases hx with|int h1=>cases hy with|pv hy=>cases hy with|int h2=>exact⟨_,rfl,by split<;>exact .int (by assumption)⟩
  ·cases h
 ·cases h
theorem TQ{b c d:V}(h:Jc a b c d k=some r):∃q,(∀(R':Type)(k':PV→Option R'),Jc a b c d k'=k' q)∧k q=some r∧∀(P:Program)(μ:Ro)(φ:Nat→aA)(w:World)(x y z u:Value),ae P μ φ a x→ae P μ φ b y→ae P μ φ c z→ae P μ φ d u→∃v1 v2 v3,(Builtin.max2 x y).run P w=.ok v1 w∧(Builtin.max2 v1 z).run P w=.ok v2 w∧(Builtin.max2 v2 u).run P w=.ok v3 w∧af P μ q v3:=by unfold Jc at h;obtain⟨q1,a1,h,b1⟩:=zl h;obtain⟨q2,a2,h,b2⟩:=zl h;obtain⟨q3,a3,h,b3⟩:=zl h;refine⟨q3,fun R' k'=>by unfold Jc;rw[a1,a2,a3],h,fun P μ φ w x y z u hx hy hz hu=>?_⟩;obtain⟨v1,c1,d1⟩:=b1 P μ φ w x y hx hy;obtain⟨v2,c2,d2⟩:=b2 P μ φ w v1 z (.pv d1) hz;obtain⟨v3,c3,d3⟩:=b3 P μ φ w v2 u (.pv d2) hu;exact⟨v1,v2,v3,c1,c2,c3,d3⟩
end
end Go.Ab
set_option linter.unusedVariables false
namespace Go.Ab
open Go.RowKit (Below)
section
variable {P:Program} {G:Nat→Option (List PV)} {w0:br} {μ μ':Ro} {φ φ':Nat→aA} {m:Mem} {w w':World}
variable{b:bE}
@[simp] theorem aK(m:Mem)(d:Nat)(b:bE):ak m d b d=some b:=by simp[ak]
theorem al{m:Mem}{d t:Nat}(h:t≠d):ak m d b t=m t:=by simp[ak,cond_eq_ite,h]
@[simp] theorem YY(m:Mem)(d:Nat):bh m d d=none:=by simp[bh]
theorem eV{m:Mem}{d t:Nat}(h:t≠d):bh m d t=m t:=by simp[bh,cond_eq_ite,h]
@[simp] theorem ua(f:Fr)(d:Nat)(v:V):fI f d v d=v:=by simp[fI]
theorem qu{f:Fr}{d t:Nat}{v:V}(h:t≠d):fI f d v t=f t:=by simp[fI,cond_eq_ite,h]
variable{id sz:Nat}{et:TypeId}{es:List PV}
theorem aF.cD(h:aF P μ φ w id sz et es)(hφ:φ' id=φ id)(hμ:∀b o,μ b=some o→μ' b=some o)(hw:∀g,(φ id).g=some g→w'.heap[g]?=w.heap[g]?):aF P μ' φ' w' id sz et es:=by
 obtain⟨a1,a2,a3,a4,a5,a6,a7⟩:=h;unfold aF;rw[hφ];refine⟨a1,a2,a3,a4,a5,a6,?_⟩;cases hg:(φ id).g with
 |none=>rw[hg]at a7;exact a7
 |some g=>rw[hg]at a7;obtain⟨c,T,c1,c2,c3,c4,c5⟩:=a7;exact⟨c,T,by rw[hw g hg];exact c1,c2,c3,fun i e j p x h1 h2 h3=>(c4 i e j p x h1 h2 h3).mono hμ,c5⟩
theorem eN.cD{R:BE}{s:Nat}{rs:List PV}{x:Value}(h:eN P μ R w s rs x)(hμ:∀b o,μ b=some o→μ' b=some o)(hw:∀g,R.g=some g→w'.heap[g]?=w.heap[g]?):eN P μ' R w' s rs x:=
 let⟨⟨et,hA⟩,hV⟩:=h
 ⟨⟨et,hA.cD rfl hμ hw⟩,hV.xr hμ⟩
theorem eh.cD{R:BE}{p:PV}{x:Value}(h:eh P μ R w p x)(hμ:∀b o,μ b=some o→μ' b=some o)(hw:p.isRow=true→∀g,R.g=some g→w'.heap[g]?=w.heap[g]?):eh P μ' R w' p x:=by
 unfold eh at*;split at h
 ·exact eN.cD h hμ (hw rfl)
 ·exact h.mono hμ
variable{i j:Nat}
theorem dv{e p:PV}(he:es[i]?=some e)(hp:e.cells[j]?=some p):(bE.nest sz et es).rowAt i j=p.isRow:=by simp[bE.rowAt,he,hp]
theorem aV.cD{id sz:Nat}{et:TypeId}{es:List PV}(h:aV P μ φ w id sz et es)(hφ:φ' id=φ id)(hμ:∀b o,μ b=some o→μ' b=some o)(hw:∀g,(bE.nest sz et es).owns (φ id) g→w'.heap[g]?=w.heap[g]?):aV P μ' φ' w' id sz et es:=by
 obtain⟨a1,a2,a3,a4,a5,a6,a7⟩:=h;unfold aV;rw[hφ];refine⟨a1,a2,a3,a4,a5,a6,?_⟩;cases hg:(φ id).g with
 |none=>rw[hg]at a7;exact a7
 |some g=>rw[hg]at a7;obtain⟨c,T,c1,c2,c3,c4,c5⟩:=a7;exact⟨c,T,by rw[hw g (.inl hg)];exact c1,c2,c3,fun i e j p x h1 h2 h3=>(c4 i e j p x h1 h2 h3).cD hμ fun hr g' bP=>hw g' (.inr ⟨i,j,by rw[dv h1 h2];exact hr,bP⟩),c5⟩
theorem jU{kt e:TypeId}{es:List (PV×PV)}{k v:PV}(he:es[i]?=some (k,v)):(bE.fe kt e es).rowAt i 0=v.isRow:=by simp[bE.rowAt,he]
theorem gC.cD{id:Nat}{b:bE}(h:gC P μ φ w id b)(hn:∀j,b.names j=true→φ' j=φ j)(hφ:φ' id=φ id)(hμ:∀b o,μ b=some o→μ' b=some o)(hw:∀g,b.owns (φ id) g→w'.heap[g]?=w.heap[g]?):gC P μ' φ' w' id b:=by
 cases b with
 |nest sz et es=>exact aV.cD h hφ hμ hw
 |fe kt e0 es=>
  obtain⟨g,en,clock,kk,hg,hh,hs,hk,hc,uW,hv⟩:=h;refine⟨g,en,clock,kk,by rw[hφ];exact hg,by rw[hw g (.inl hg)];exact hh,hs,hk,hc,uW,fun i k v e h1 h2=>⟨(hv i k v e h1 h2).1.mono hμ,?_⟩⟩;have h3:=(hv i k v e h1 h2).2;rw[hφ];split at h3
  ·exact⟨h3.1.cD rfl hμ fun g' bP=>hw g' (.inr ⟨i,0,by rw[jU h1];rfl,bP⟩),h3.2.xr hμ⟩
  ·exact h3.mono hμ
 |box cs=>obtain⟨g,c,T,hg,hh,hs,hv,h1,xZ⟩:=h;exact⟨g,c,T,by rw[hφ];exact hg,by rw[hw g (.inl hg)];exact hh,hs,fun i v x hi hx=>(hv i v x hi hx).mono hμ (fun j hj=>hn j (bI (List.mem_of_getElem? hi) hj)),h1,by rw[hφ];exact xZ⟩
 |arr sz et es=>exact aF.cD h hφ hμ fun g hg=>hw g (.inl hg)
 |pR sz et es=>refine⟨aF.cD h.1 hφ hμ fun g hg=>hw g (.inl hg),fun g hg=>?_⟩;rw[hφ]at hg;have:=h.2 g hg;obtain⟨o,ho⟩:=Option.isSome_iff_exists.1 this;rw[hμ _ _ ho];rfl
 |map kt es=>obtain⟨g,en,clock,kk,hg,hh,hs,hk,hc,uW,hv⟩:=h;exact⟨g,en,clock,kk,by rw[hφ];exact hg,by rw[hw g (.inl hg)];exact hh,hs,hk,hc,uW,fun i k v e h1 h2=>⟨(hv i k v e h1 h2).1.mono hμ,(hv i k v e h1 h2).2.mono hμ⟩⟩
 |iter t es cur=>obtain⟨g,mg,en,clock,seen,hg,hh,Dn,uW,xZ,hv,hcu⟩:=h;exact⟨g,mg,en,clock,seen,by rw[hφ];exact hg,by rw[hw g (.inl hg)];exact hh,hμ _ _ Dn,uW,xZ,fun i k v e h1 h2=>⟨(hv i k v e h1 h2).1.mono hμ,(hv i k v e h1 h2).2.mono hμ⟩,fun k v hc=>let⟨i,e,h1,h2,h3,h4⟩:=hcu k v hc;⟨i,e,h1,h2,h3.mono hμ,h4.mono hμ⟩⟩
 |loop st=>obtain⟨g,rc,hg,hh⟩:=h;exact⟨g,rc,by rw[hφ];exact hg,by rw[hw g (.inl hg)];exact hh⟩
variable{g:Nat}
theorem eN.Dp{R:BE}{s:Nat}{rs:List PV}{x:Value}(h:eN P μ R w s rs x)(hg:R.g=some g):g<w.heap.size:=by obtain⟨⟨et,_,_,_,_,_,_,a7⟩,_⟩:=h;have bP:R.up.g=some g:=hg;simp only[bP]at a7;obtain⟨c,_,c1,_⟩:=a7;exact(Array.getElem?_eq_some_iff.1 c1).1
theorem jV{off:Nat}(h:b.rowAt i off=true):(∃sz et es e s rs,b=.nest sz et es∧es[i]?=some e∧e.cells[off]?=some (.pG s rs))∨∃kt e0 es k s rs,b=.fe kt e0 es∧off=0∧es[i]?=some (k,.pG s rs):=by
 unfold bE.rowAt at h;split at h
 ·rename_i sz et es i off;split at h
  ·rename_i e he;split at h
   ·rename_i p hp;cases p<;>first|(cases h;done)|skip
    rename_i s rs;exact .inl ⟨_,_,_,e,s,rs,rfl,he,hp⟩
   ·cases h
  ·cases h
 ·rename_i kt e0 es i;split at h
  ·rename_i x hx;obtain⟨k,v⟩:=x;cases v<;>first|(cases h;done)|skip
   rename_i s rs;exact .inr ⟨_,_,_,k,s,rs,rfl,rfl,hx⟩
  ·cases h
 ·cases h
theorem gC.abB{off:Nat}(h:gC P μ φ w id b)(hr:b.rowAt i off=true)(hg:((φ id).row i off).g=some g):g<w.heap.size:=by
 rcases jV hr with⟨sz,et,es,e,s,rs,rfl,he,hp⟩|⟨kt,e0,es,k,s,rs,rfl,rfl,he⟩
 ·have hN:aV P μ φ w id sz et es:=h;have hgg:∃g0,(φ id).g=some g0:=by
   cases hq:(φ id).g with
   |some g0=>exact⟨g0,rfl⟩
   |none=>have a7:=hN.2.2.2.2.2.2;rw[hq]at a7;rw[a7.1]at he;simp at he
  obtain⟨g0,LJ⟩:=hgg;obtain⟨c,_,x,_,_,c3,_⟩:=hN.cell LJ he hp;exact eN.Dp (show eN P μ _ w s rs x from c3) hg
 ·obtain⟨g0,en,clock,kk,LJ,hh,hs,hk,hc,uW,hv⟩:=h;have hi:i<en.size:=by rw[hs];exact(List.getElem?_eq_some_iff.1 he).1
  have h3:=(hv i k _ en[i] he (Array.getElem?_eq_getElem hi)).2;exact eN.Dp (P:=P) (μ:=μ) (R:=(φ id).row i 0) (s:=s) (rs:=rs) (x:=en[i].val) ⟨⟨_,h3.1⟩,h3.2⟩ hg
theorem gC.Dp(h:gC P μ φ w id b)(hg:b.owns (φ id) g):g<w.heap.size:=by
 rcases hg with hg|⟨i,off,hr,hg⟩
 rotate_left
 ·exact h.abB hr hg
 have key:∀o,w.heap[g]?=some o→g<w.heap.size:=fun o ho=>(Array.getElem?_eq_some_iff.1 ho).1;cases b with
 |nest sz et es=>obtain⟨_,_,_,_,_,_,a7⟩:=h;rw[hg]at a7;obtain⟨c,_,c1,_⟩:=a7;exact key _ c1
 |fe kt e0 es=>obtain⟨g',en,clock,kk,bP,hh,_⟩:=h;rw[hg]at bP;simp only[Option.some.injEq]at bP;subst bP;exact key _ hh
 |box cs=>obtain⟨g',c,T,bP,hh,_⟩:=h;rw[hg]at bP;simp only[Option.some.injEq]at bP;subst bP;exact key _ hh
 |arr sz et es=>obtain⟨_,_,_,_,_,_,a7⟩:=h;rw[hg]at a7;obtain⟨c,_,c1,_⟩:=a7;exact key _ c1
 |pR sz et es=>obtain⟨⟨_,_,_,_,_,_,a7⟩,_⟩:=h;rw[hg]at a7;obtain⟨c,_,c1,_⟩:=a7;exact key _ c1
 |map kt es=>obtain⟨g',en,clock,kk,bP,hh,_⟩:=h;rw[hg]at bP;simp only[Option.some.injEq]at bP;subst bP;exact key _ hh
 |iter t es cur=>obtain⟨g',mg,en,clock,seen,bP,hh,_⟩:=h;rw[hg]at bP;simp only[Option.some.injEq]at bP;subst bP;exact key _ hh
 |loop st=>obtain⟨g',rc,bP,hh⟩:=h;rw[hg]at bP;simp only[Option.some.injEq]at bP;subst bP;exact key _ hh
theorem av.L7(hM:av P G w0 μ φ m w)(hm:m j=some b)(hn:b.names id=true):(m id).isSome=true:=by
 cases b with
 |box cs=>exact hM.fJ j cs id hm hn
 |_=>simp[bE.names]at hn
theorem wR{cs:List V}(h:cm j (cs.map (rS id))=true):cm j cs=true∧j≠id:=by obtain⟨v,hv,hh⟩:=cL.1 h;obtain⟨u,hu,rfl⟩:=List.mem_map.1 hv;obtain⟨h1,h2⟩:=vB hh;exact⟨bI hu h1,h2⟩
theorem gC.kill{id j:Nat}{b:bE}(h:gC P μ φ w j b):gC P μ φ w j (gq id b):=by
 cases b with
 |box cs=>obtain⟨g,c,T,hg,hh,hs,hv,h1,xZ⟩:=h;refine⟨g,c,T,hg,hh,by simpa using hs,fun i v x hi hx=>?_,h1,by simpa using xZ⟩;simp only[List.getElem?_map,Option.map_eq_some_iff]at hi;obtain⟨u,hu,rfl⟩:=hi;exact(hv i u x hu hx).kill id
 |_=>exact h
theorem ub(id:Nat)(b:bE):(gq id b).rowAt=b.rowAt:=by cases b<;>rfl
variable{p:aA}
theorem gj:(gq id b).owns p g↔b.owns p g:=by unfold bE.owns;rw[ub]
theorem uc:(gq id b).apart p↔b.apart p:=by unfold bE.apart;rw[ub]
theorem qv(h:∀i off,b.rowAt i off=true→False):b.apart p:=fun i off _ hr=>(h i off hr).elim
theorem nY(h:∀i off,b.rowAt i off=true→False)(ho:b.owns p g):p.g=some g:=by
 rcases ho with h1|⟨i,off,hr,_⟩
 ·exact h1
 ·exact(h i off hr).elim
theorem Dq(h:bx id m j=some b):∃b',m j=some b'∧b=gq id b':=by
 unfold bx at h;cases hm:m j with
 |none=>rw[hm]at h;cases h
 |some b'=>rw[hm]at h;simp only[Option.some.injEq]at h;exact⟨b',rfl,h.symm⟩
theorem wS(id:Nat)(b:bE):(gq id b).jD=b.jD:=by cases b<;>rfl
theorem av.forget(hM:av P G w0 μ φ m w)(id:Nat):av P G w0 μ φ (bh (bx id m) id) w:=by
 have key:∀j b,bh (bx id m) id j=some b→j≠id∧∃b',m j=some b'∧b=gq id b':=by
  intro j b h;by_cases e:j=id
  ·subst e;simp at h
  ·rw[eV e]at h;exact⟨e,Dq h⟩
 refine⟨hM.below,hM.ro,hM.aD,fun j b h=>?_,fun j b g h hg=>?_,fun i j b1 b2 g h1 h2 g1 g2=>?_,fun j b h=>?_,fun j cs i h hh=>?_,hM.base,hM.dA,fun j st h=>?_⟩
 rotate_right
 ·obtain⟨_,b',hb,e⟩:=key j _ h;cases b' with
  |loop st'=>simp only[gq,bE.loop.injEq]at e;subst e;exact hM.BD j st hb
  |_=>simp[gq]at e
 ·obtain⟨_,b',hb,rfl⟩:=key j b h;exact(hM.dy j b' hb).kill
 ·obtain⟨_,b',hb,rfl⟩:=key j b h;rw[wS];exact hM.own j b' g hb (gj.1 hg)
 ·obtain⟨_,b1',WE,rfl⟩:=key i b1 h1;obtain⟨_,b2',rV,rfl⟩:=key j b2 h2;exact hM.inj i j b1' b2' g WE rV (gj.1 g1) (gj.1 g2)
 ·obtain⟨_,b',hb,rfl⟩:=key j b h;exact uc.2 (hM.apart j b' hb)
 ·obtain⟨_,b',hb,e⟩:=key j _ h;cases b' with
  |box L8=>simp only[gq,bE.box.injEq]at e;subst e;obtain⟨h1,h2⟩:=wR hh;have:=hM.fJ j L8 i hb h1;rw[eV h2];obtain⟨bb,hbb⟩:=Option.isSome_iff_exists.1 this;simp[bx,hbb]
  |_=>simp[gq]at e
theorem xy(m:Mem)(id:Nat)(b:bE):ak (bh m id) id b=ak m id b:=by
 funext t;by_cases h:t=id
 ·subst h;simp
 ·rw[al h,al h,eV h]
variable{b':bE}
theorem Dr(sO:∀i off,b'.rowAt i off=true→b.rowAt i off=true)(h:b'.owns p g):b.owns p g:=by
 rcases h with h|⟨i,off,hr,h⟩
 ·exact .inl h
 ·exact .inr ⟨i,off,sO i off hr,h⟩
theorem RA(sO:∀i off,b'.rowAt i off=true→b.rowAt i off=true)(h:b.apart p):b'.apart p:=fun i off g hr hg=>
 let⟨h1,h2⟩:=h i off g (sO i off hr) hg
 ⟨h1,fun i' si yb bP=>h2 i' si (sO i' si yb) bP⟩
theorem av.TR(hM:av P G w0 μ φ m w)(hm:m id=some b)(Jo:b.jD=true)(hg:b.owns (φ id) g)(L9:kG g w w')(P0:w'.heap.size=w.heap.size)(hw:∀k,k≠g→w'.heap[k]?=w.heap[k]?)(hB:gC P μ φ w' id b')(YZ:b'.jD=true)(hn:∀j,b'.names j=true→(m j).isSome=true)(sO:∀i off,b'.rowAt i off=true→b.rowAt i off=true)(Y0:∀st,b'=.loop st→∃rc,(φ id).g=some g∧w0.rc id=some (g,rc)∧w'.heap[g]?=some (.loop (st.obj rc)):=by intro st h;cases h):av P G w0 μ φ (ak m id b') w':=by
 obtain⟨tW,hμ⟩:=hM.own id b g hm hg;have hμ:=hμ Jo;refine⟨hM.below.trans (L9.mono tW),fun k o hk=>?_,hM.aD,fun j c hj=>?_,fun j c g' hj bP=>?_,fun i j b1 b2 g' h1 h2 g1 g2=>?_,fun j c hj=>?_,fun j cs i hj hh=>?_,hM.base,hM.dA,fun j st hj=>?_⟩
 rotate_right
 ·by_cases e:j=id
  ·subst e;rw[aK]at hj;simp only[Option.some.injEq]at hj;obtain⟨rc,h0,h1,h2⟩:=Y0 st hj;exact⟨g,rc,h0,h1,h2⟩
  ·rw[al e]at hj;obtain⟨g',rc,h1,h2,h3⟩:=hM.BD j st hj;exact⟨g',rc,h1,h2,by rw[hw g' (fun e'=>by subst e';exact e (hM.inj j id _ b g' hj hm (.inl h1) hg))];exact h3⟩
 ·have:k≠g:=fun e=>by subst e;rw[hμ]at hk;cases hk
  rw[hw k this];exact hM.ro k o hk
 ·by_cases e:j=id
  ·subst e;rw[aK]at hj;simp only[Option.some.injEq]at hj;subst hj;exact hB
  ·rw[al e]at hj;refine(hM.dy j c hj).cD (fun _ _=>rfl) rfl (fun _ _ h=>h) (fun g' bP=>hw g' (fun e'=>?_));subst e';exact e (hM.inj j id c b g' hj hm bP hg)
 ·by_cases e:j=id
  ·subst e;rw[aK]at hj;simp only[Option.some.injEq]at hj;subst hj;obtain⟨h1,h2⟩:=hM.own j b g' hm (Dr sO bP);exact⟨h1,fun _=>h2 Jo⟩
  ·rw[al e]at hj;exact hM.own j c g' hj bP
 ·have e1:∃c1,m i=some c1∧c1.owns (φ i) g':=by
   by_cases e:i=id
   ·subst e;rw[aK]at h1;simp only[Option.some.injEq]at h1;subst h1;exact⟨b,hm,Dr sO g1⟩
   ·rw[al e]at h1;exact⟨b1,h1,g1⟩
  have e2:∃c2,m j=some c2∧c2.owns (φ j) g':=by
   by_cases e:j=id
   ·subst e;rw[aK]at h2;simp only[Option.some.injEq]at h2;subst h2;exact⟨b,hm,Dr sO g2⟩
   ·rw[al e]at h2;exact⟨b2,h2,g2⟩
  obtain⟨c1,e1,o1⟩:=e1;obtain⟨c2,e2,o2⟩:=e2;exact hM.inj i j c1 c2 g' e1 e2 o1 o2
 ·by_cases e:j=id
  ·subst e;rw[aK]at hj;simp only[Option.some.injEq]at hj;subst hj;exact RA sO (hM.apart j b hm)
  ·rw[al e]at hj;exact hM.apart j c hj
 ·have:(m i).isSome=true:=by
   by_cases e:j=id
   ·subst e;rw[aK]at hj;simp only[Option.some.injEq]at hj;subst hj;exact hn i hh
   ·rw[al e]at hj;exact hM.fJ j cs i hj hh
  by_cases e:i=id
  ·subst e;simp
  ·rw[al e];exact this
theorem av.write(hM:av P G w0 μ φ m w)(hm:m id=some b)(Jo:b.jD=true)(hg:(φ id).g=some g)(L9:kG g w w')(P0:w'.heap.size=w.heap.size)(hw:∀k,k≠g→w'.heap[k]?=w.heap[k]?)(hB:gC P μ φ w' id b')(YZ:b'.jD=true)(hn:∀j,b'.names j=true→(m j).isSome=true)(Y0:∀st,b'=.loop st→∃rc,w0.rc id=some (g,rc)∧w'.heap[g]?=some (.loop (st.obj rc)):=by intro st h;cases h)(sO:∀i off,b'.rowAt i off=true→b.rowAt i off=true:=by intro i off h;simp[bE.rowAt]at h):av P G w0 μ φ (ak m id b') w':=hM.TR hm Jo (.inl hg) L9 P0 hw hB YZ hn sO fun st h=>let⟨rc,h1,h2⟩:=Y0 st h;⟨rc,hg,h1,h2⟩
def pB(μ:Ro)(w:World)(g:Option Nat):Ro:=fun b=>if g=some b then w.heap[b]? else μ b
theorem lF(hM:av P G w0 μ φ m w)(g:Option Nat):∀b o,μ b=some o→pB μ w g b=some o:=by
 intro b o hb;unfold pB;split
 ·exact hM.ro b o hb
 ·exact hb
noncomputable def sZ(μ:Ro)(w:World)(S:Nat→Prop):Ro:=fun b=> @ite _ (S b) (Classical.propDecidable _) (w.heap[b]?) (μ b)
theorem qw(hM:av P G w0 μ φ m w)(S:Nat→Prop):∀b o,μ b=some o→sZ μ w S b=some o:=by
 intro b o hb;unfold sZ;split
 ·exact hM.ro b o hb
 ·exact hb
theorem av.P1(hM:av P G w0 μ φ m w)(hm:m id=some b)(Y0:∀st,b≠.loop st)(hA:aF P (sZ μ w (b.owns (φ id))) φ w id sz et es):av P G w0 (sZ μ w (b.owns (φ id))) φ (ak m id (.pR sz et es)) w:=by
 have mono:=qw hM (b.owns (φ id));have P2:∀i off,(bE.pR sz et es).rowAt i off=true→False:=fun i off h=>by simp[bE.rowAt]at h
 refine⟨hM.below,fun k o hb=>?_,fun g cs hg=>(hM.aD g cs hg).mono mono,fun j c hj=>?_,fun j c g' hj bP=>?_,fun i j b1 b2 g' h1 h2 g1 g2=>?_,fun j c hj=>?_,fun j cs i hj hh=>?_,fun k o hb bm=>?_,fun b o hb=>mono b o (hM.dA b o hb),fun j st hj=>?_⟩
 rotate_right
 ·by_cases e:j=id
  ·subst e;rw[aK]at hj;cases hj
  ·rw[al e]at hj;exact hM.BD j st hj
 rotate_right
 ·unfold sZ at hb;split at hb
  ·rename_i he;have:=(hM.own id b k hm he).1;omega
  ·exact hM.base k o hb bm
 ·unfold sZ at hb;split at hb
  ·exact hb
  ·exact hM.ro k o hb
 ·by_cases e:j=id
  ·subst e;rw[aK]at hj;simp only[Option.some.injEq]at hj;subst hj;refine⟨hA,fun g hg=>?_⟩;have:=gC.Dp (b:=.arr sz et es) hA (.inl hg);unfold sZ;rw[if_pos (show b.owns (φ j) g from .inl hg)];simp[this]
  ·rw[al e]at hj;exact(hM.dy j c hj).cD (fun _ _=>rfl) rfl mono (fun _ _=>rfl)
 ·by_cases e:j=id
  ·subst e;rw[aK]at hj;simp only[Option.some.injEq]at hj;subst hj;exact⟨(hM.own j b g' hm (.inl (nY P2 bP))).1,by simp[bE.jD]⟩
  ·rw[al e]at hj;obtain⟨h1,h2⟩:=hM.own j c g' hj bP;refine⟨h1,fun Dn=>?_⟩;unfold sZ;split
   ·rename_i he;exact absurd (hM.inj j id c _ g' hj hm bP he) e
   ·exact h2 Dn
 ·have e1:∃c1,m i=some c1∧c1.owns (φ i) g':=by
   by_cases e:i=id
   ·subst e;rw[aK]at h1;simp only[Option.some.injEq]at h1;subst h1;exact⟨b,hm,.inl (nY P2 g1)⟩
   ·rw[al e]at h1;exact⟨b1,h1,g1⟩
  have e2:∃c2,m j=some c2∧c2.owns (φ j) g':=by
   by_cases e:j=id
   ·subst e;rw[aK]at h2;simp only[Option.some.injEq]at h2;subst h2;exact⟨b,hm,.inl (nY P2 g2)⟩
   ·rw[al e]at h2;exact⟨b2,h2,g2⟩
  obtain⟨c1,e1,o1⟩:=e1;obtain⟨c2,e2,o2⟩:=e2;exact hM.inj i j c1 c2 g' e1 e2 o1 o2
 ·by_cases e:j=id
  ·subst e;rw[aK]at hj;simp only[Option.some.injEq]at hj;subst hj;exact qv P2
  ·rw[al e]at hj;exact hM.apart j c hj
 ·have:(m i).isSome=true:=by
   by_cases e:j=id
   ·subst e;rw[aK]at hj;simp at hj
   ·rw[al e]at hj;exact hM.fJ j cs i hj hh
  by_cases e:i=id
  ·subst e;simp
  ·rw[al e];exact this
theorem pS:∀i off,(bE.arr sz et es).rowAt i off=true→False:=fun i off h=>by simp[bE.rowAt]at h
theorem av.freeze(hM:av P G w0 μ φ m w)(hm:m id=some (.arr sz et es)):av P G w0 (pB μ w (φ id).g) φ (ak m id (.pR sz et es)) w:=by
 have e:sZ μ w ((bE.arr sz et es).owns (φ id))=pB μ w (φ id).g:=by
  funext b;unfold sZ pB;by_cases h:(φ id).g=some b
  ·rw[if_pos h,if_pos (show(bE.arr sz et es).owns (φ id) b from .inl h)]
  ·rw[if_neg h,if_neg fun ho=>h (nY pS ho)]
 have:=hM.P1 (sz:=sz) (et:=et) (es:=es) hm (fun st h=>by cases h) (aF.cD (hM.dy id _ hm) rfl (qw hM _) (fun _ _=>rfl));rwa[e]at this
theorem av.P3(hM:av P G w0 μ φ m w)(hm:m id=some (.nest sz et es)):av P G w0 (sZ μ w ((bE.nest sz et es).owns (φ id))) φ (ak m id (.pR sz et (es.map PV.strip))) w:=by have hN:aV P μ φ w id sz et es:=hM.dy id _ hm;refine hM.P1 hm (fun st h=>by cases h) (hN.strip (qw hM _) fun i off g hr hg=>?_);unfold sZ;rw[if_pos (show(bE.nest sz et es).owns (φ id) g from .inr ⟨i,off,hr,hg⟩)]
def cF(μ:Ro)(w w':World):Ro:=fun b=>if b<w.heap.size then μ b else w'.heap[b]?
theorem kv(hM:av P G w0 μ φ m w)(w':World):∀b o,μ b=some o→cF μ w w' b=some o:=by intro b o hb;have:=(Array.getElem?_eq_some_iff.1 (hM.ro b o hb)).1;simp[cF,this,hb]
theorem av.called(hM:av P G w0 μ φ m w)(hb:kG w.heap.size w w'):av P G w0 (cF μ w w') φ m w':=by
 have mono:=kv hM w';refine⟨hM.below.trans (hb.mono hM.below.size),fun b o h=>?_,fun g cs hg=>(hM.aD g cs hg).mono mono,fun id b h=>?_,fun id b g h hg=>?_,hM.inj,hM.apart,hM.fJ,fun b o h bm=>?_,fun b o hb=>mono b o (hM.dA b o hb),fun j st hj=>?_⟩
 rotate_right
 ·obtain⟨g,rc,h1,h2,h3⟩:=hM.BD j st hj;exact⟨g,rc,h1,h2,by rw[hb.block g (Array.getElem?_eq_some_iff.1 h3).1];exact h3⟩
 rotate_right
 ·have:w0.heap.size≤w.heap.size:=hM.below.size;unfold cF at h;rw[if_pos (by omega)]at h;exact hM.base b o h bm
 ·unfold cF at h;split at h
  ·rename_i bm;rw[hb.block b bm];exact hM.ro b o h
  ·exact h
 ·have hR:=hM.dy id b h;exact hR.cD (fun _ _=>rfl) rfl mono (fun g hg=>hb.block g (hR.Dp hg))
 ·obtain⟨h1,h2⟩:=hM.own id b g h hg;refine⟨h1,fun hm=>?_⟩;have:=(hM.dy id b h).Dp hg;simp[cF,this,h2 hm]
def me(μ:Ro)(g:Option Nat):Ro:=fun b=>if g=some b then none else μ b
theorem Jp{μ:Ro}{g:Option Nat}{b:Nat}{o:Obj}(h:me μ g b=some o):μ b=some o:=by
 unfold me at h;split at h
 ·cases h
 ·exact h
theorem ye(hM:av P G w0 μ φ m w)(w':World){g:Option Nat}(hg:∀b,g=some b→w.heap.size≤b):∀b o,μ b=some o→me (cF μ w w') g b=some o:=by intro b o hb;have bm:=(Array.getElem?_eq_some_iff.1 (hM.ro b o hb)).1;unfold me;rw[if_neg fun e=>by have:=hg b e;omega];exact kv hM w' b o hb
theorem av.F6(hM:av P G w0 μ φ m w)(hb:kG w.heap.size w w'){go:Option Nat}(Cl:∀b,go=some b→w.heap.size≤b):av P G w0 (me (cF μ w w') go) φ m w':=by
 have mono:=ye hM w' Cl;have hC:=hM.called hb;refine⟨hC.below,fun b o h=>hC.ro b o (Jp h),fun g cs hg=>(hM.aD g cs hg).mono mono,fun id b h=>?_,fun id b g h hg=>?_,hM.inj,hM.apart,hM.fJ,fun b o h bm=>hC.base b o (Jp h) bm,fun b o hb=>mono b o (hM.dA b o hb),hC.BD⟩
 ·have hR:=hM.dy id b h;exact hR.cD (fun _ _=>rfl) rfl mono (fun g hg=>hb.block g (hR.Dp hg))
 ·obtain⟨h1,h2⟩:=hC.own id b g h hg;refine⟨h1,fun hm=>?_⟩;unfold me;split
  ·rfl
  ·exact h2 hm
theorem av.drew(hM:av P G w0 μ φ m w):av P G w0 μ φ m w.drew:=⟨hM.below.drew,hM.ro,hM.aD,fun id b h=>(hM.dy id b h).cD (fun _ _=>rfl) rfl (fun _ _ h=>h) (fun _ _=>rfl),hM.own,hM.inj,hM.apart,hM.fJ,hM.base,hM.dA,hM.BD⟩
end
end Go.Ab
