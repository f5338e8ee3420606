import Derived.Test.YtcmhmlnkhmefbaaGreatAbP1
import Derived.Laws.StructEq
import Derived.ChangeKeysEq
set_option linter.unusedVariables false
namespace Go.Ab
open Go.RowKit (Below)
section
variable {P:Program} {G:Nat→Option (List PV)} {w0:bt} {μ:Ro} {φ:Nat→aC} {m:Mem} {w:World}
theorem toCells_ok{n:Nat}{v:V}{cs:List V}(h:toCells n v=some cs):cs.length=n∧(∀id,cq id cs=true→v.has id=true)∧∀(P:Program)(μ:Ro)(φ:Nat→aC)(x:Value),af P μ φ v x→x.cells.size=n∧(∀(i:Nat)u y,cs[i]?=some u→x.cells[i]?=some y→af P μ φ u y)∧(∀(i:Nat)(y:Value),x.cells[i]?=some y→y.oneCell'=true):=by
 have one:∀(v:V),(∀(P:Program)(μ:Ro)(φ:Nat→aC)(x:Value),af P μ φ v x→x.oneCell'=true∧x.cells= #[x])→(if n=1 then some [v]else none)=some cs→cs.length=n∧(∀id,cq id cs=true→v.has id=true)∧∀(P:Program)(μ:Ro)(φ:Nat→aC)(x:Value),af P μ φ v x→x.cells.size=n∧(∀(i:Nat)u y,cs[i]?=some u→x.cells[i]?=some y→af P μ φ u y)∧(∀(i:Nat)(y:Value),x.cells[i]?=some y→y.oneCell'=true):=by
  intro v h1 h;split at h
  ·rename_i hn;simp only[Option.some.injEq]at h;subst h;subst hn;refine⟨rfl,fun id hid=>by simpa[cq]using hid,fun P μ φ x hx=>?_⟩;obtain⟨h2,h3⟩:=h1 _ _ _ _ hx;rw[h3];refine⟨rfl,fun i u y hu hy=>?_,fun i y hy=>?_⟩
   ·cases i with
    |zero=>simp at hu hy;subst hu;subst hy;exact hx
    |succ i=>simp at hu
   ·cases i with
    |zero=>simp at hy;subst hy;exact h2
    |succ i=>simp at hy
  ·cases h
 have VC:∀x:Value,x.oneCell'=true→x.cells= #[x]:=by intro x hx;cases x<;>first|rfl|(simp[Value.oneCell']at hx)
 unfold toCells at h;split at h
 ·rename_i ps;split at h
  ·rename_i hn;simp only[Option.some.injEq]at h;subst h;refine⟨by simpa using hn,fun id hid=>(by rw[Lu]at hid;cases hid),fun P μ φ x hx=>?_⟩;cases hx with
   |pv hx=>cases hx with
    |agg h1 h2 h3=>refine⟨by simp only[Value.cells];omega,fun i u y hu hy=>?_,h3⟩;simp only[List.getElem?_map,Option.map_eq_some_iff]at hu;obtain⟨q,hq,rfl⟩:=hu;exact .pv (h2 i q y hq hy)
  ·cases h
 ·split at h
  ·rename_i hn;simp only[Option.some.injEq]at h;subst h;refine⟨hn,fun id hid=>by simpa[V.has]using hid,fun P μ φ x hx=>?_⟩;cases hx with
   |agg h1 h2 h3=>exact⟨by simp only[Value.cells];omega,h2,h3⟩
  ·cases h
 ·cases h
 ·cases h
 ·cases h
 ·cases h
 ·rename_i h1 h2 h3 h4 h5 h6;refine one v (fun P μ φ x hx=>?_) h;have:x.oneCell'=true:=by
   cases hx with
   |pv hp=>exact hp.one (fun cs e=>h1 cs (by rw[e])) (fun cs e=>h5 cs (by rw[e])) (fun e=>h6 (by rw[e]))
   |agg=>exact absurd rfl (h2 _)
   |bj=>exact absurd rfl (h4 _)
   |top=>exact absurd rfl h3
   |_=>rfl
  exact⟨this,VC x this⟩
theorem qy:∀(d:Nat){v:V}{p:PV}{x:Value},iZ df d v=some p→af P μ φ v x→ah P μ p x
 |0,v,p,x,h,_=>by simp[iZ]at h
 |d+1,v,p,x,h,hx=>by
  have ih:=fun{v p x}=> @qy d v p x;cases v with
  |pv q=>simp[iZ]at h;subst h;cases hx with|pv hx=>exact hx
  |ba=>simp[iZ]at h;subst h;cases hx;exact .ja
  |agg cs=>
   simp only[iZ]at h;obtain⟨ps,lN,h⟩:=Option.bind_eq_some_iff.1 h;simp only[Option.some.injEq]at h;subst h;obtain⟨h1,h2⟩:=gq lN;cases hx with
   |agg g1 g2 g3=>refine .agg (by omega) (fun i q y hq hy=>?_) g3;obtain⟨u,hu,hg⟩:=h2 i q hq;exact ih hg (g2 i u y hu hy)
  |bj cs=>
   simp only[iZ]at h;obtain⟨ps,lN,h⟩:=Option.bind_eq_some_iff.1 h;simp only[Option.some.injEq]at h;subst h;obtain⟨h1,h2⟩:=gq lN;cases hx with
   |bj g1 g2=>refine .bj (by omega) (fun i q y hq hy=>?_);obtain⟨u,hu,hg⟩:=h2 i q hq;exact ih hg (g2 i u y hu hy)
  |op id off=>simp[iZ,df]at h
  |oe id i off=>simp[iZ,df]at h
  |os id=>simp[iZ,df]at h
  |ff id lo len=>simp[iZ,df]at h
  |sD id i off=>simp[iZ,df]at h
  |vU id i off s j off2=>simp[iZ]at h
  |om id=>simp[iZ,df]at h
  |fn f cs=>
   simp only[iZ]at h;obtain⟨ps,lN,h⟩:=Option.bind_eq_some_iff.1 h;simp only[Option.some.injEq]at h;subst h;obtain⟨h1,h2⟩:=gq lN;cases hx with
   |fn g1 g2=>refine .fn (by omega) (fun i q y hq hy=>?_);obtain⟨u,hu,hg⟩:=h2 i q hq;exact ih hg (g2 i u y hu hy)
  |yl id=>simp[iZ]at h
  |it id=>simp[iZ]at h
  |top=>simp[iZ]at h
def iy(w:World):Ro:=fun b=>w.heap[b]?
theorem au.ub(hM:au P G w0 μ φ m w):∀b o,μ b=some o→iy w b=some o:=hM.ro
variable{id s:Nat}{et:TypeId}{es:List PV}{ν:Ro}
theorem aJ.DR(hA:aJ P μ φ w id s et es){g:Nat}(hg:(φ id).g=some g){lo len:Nat}(hl:lo+len≤es.length){cap:Nat}(mJ:cap≤(φ id).cap-lo)(Yw:len≤cap)(hν:∀b o,μ b=some o→ν b=some o)(Ay:ν g=w.heap[g]?):ah P ν (.rs s ((es.drop lo).take len)) (.slice (some ⟨g,lo*s,none⟩) len cap):=by
 have hle:=hA.mh;obtain⟨a1,a2,a3,a4,a5,a6,a7⟩:=hA;rw[hg]at a7;obtain⟨c,c1,c2,c3,c4,c5⟩:=a7;have eG:∀(i:Nat)e,((es.drop lo).take len)[i]?=some e→i<len∧es[lo+i]?=some e:=fun i e hi=>dK hi;have hlen:((es.drop lo).take len).length=len:=by simp;omega
 have hb:∀(i:Nat)e(j:Nat)p,((es.drop lo).take len)[i]?=some e→e.cells[j]?=some p→(lo+i)*s+j<es.length*s:=by intro i e j p hi hj;obtain⟨_,hi⟩:=eG i e hi;have h1:=(List.getElem?_eq_some_iff.1 hi).1;have h2:=(List.getElem?_eq_some_iff.1 hj).1;have h3:=a5 _ e hi;have:(lo+i+1)*s≤es.length*s:=Nat.mul_le_mul_right _ (by omega);rw[Nat.add_mul _ 1]at this;omega
 have hc:∀(i:Nat)e(j:Nat)p,((es.drop lo).take len)[i]?=some e→e.cells[j]?=some p→c[(lo+i)*s+j]?=some (c.getD ((lo+i)*s+j) undef):=by
  intro i e j p hi hj;obtain⟨_,hi⟩:=eG i e hi;have h1:=(List.getElem?_eq_some_iff.1 hi).1;have h2:=(List.getElem?_eq_some_iff.1 hj).1;have h3:=a5 _ e hi;have:(lo+i+1)*s≤(φ id).cap*s:=Nat.mul_le_mul_right _ (by omega);rw[Nat.add_mul _ 1]at this;have bp:(lo+i)*s+j<c.size:=by omega
  rw[Array.getElem?_eq_getElem bp];simp[Array.getD,bp]
 have:=ah.rs (P:=P) (μ:=ν) (sz:=s) (es:=(es.drop lo).take len) (b:=g) (o:=lo*s) (cap:=cap) (fun i j=>c.getD ((lo+i)*s+j) undef) (by omega) (by omega) (fun i e hi=>a5 _ e (eG i e hi).2) (fun i e j p hi hj=>by have:=hc i e j p hi hj;unfold cellAt;rw[Ay,c1];simp only;rw[←this,Nat.add_mul]) (fun i e j p hi hj=>((c4 _ e j p _ (eG i e hi).2 hj (hc i e j p hi hj)).mono hν)) (fun i e j p hi hj=>c5 _ _ (hb i e j p hi hj) (hc i e j p hi hj));rw[hlen]at this;exact this
theorem aJ.slice(hM:au P G w0 μ φ m w)(hA:aJ P μ φ w id s et es){g:Nat}(hg:(φ id).g=some g){lo len:Nat}(hl:lo+len≤es.length)(hν:∀b o,μ b=some o→ν b=some o)(Ay:ν g=w.heap[g]?):ah P ν (.rs s ((es.drop lo).take len)) (.slice (some ⟨g,lo*s,none⟩) len ((φ id).cap-lo)):=hA.DR hg hl (Nat.le_refl _) (by have:=hA.mh;omega) hν Ay
variable{x:Value}
theorem aJ.CF(hA:aJ P μ φ w id s et es)(hx:af P μ φ (.os id) x)(hν:∀b o,μ b=some o→ν b=some o)(Ay:∀g,(φ id).g=some g→ν g=w.heap[g]?):ah P ν (.rs s es) x:=by
 have sx:=hA;obtain⟨a1,a2,a3,a4,a5,a6,a7⟩:=hA;cases hx with
 |oX hg=>rw[hg]at a7;rw[a7.1];exact .ja
 | @os _ g hg=>have hle:=sx.mh;have:=sx.DR hg (lo:=0) (len:=es.length) (by omega) (cap:=(φ id).cap) (by omega) hle.1 hν (Ay g hg);rw[a1];simpa using this
theorem aJ.full(hM:au P G w0 μ φ m w)(hA:aJ P μ φ w id s et es)(hx:af P μ φ (.os id) x)(hν:∀b o,μ b=some o→ν b=some o)(Ay:∀g,(φ id).g=some g→ν g=w.heap[g]?):ah P ν (.rs s es) x:=hA.CF hx hν Ay
theorem eH.full{R:yD}{rs:List PV}(h:eH P μ R w s rs x)(hν:∀b o,μ b=some o→ν b=some o)(Ay:∀g,R.g=some g→ν g=w.heap[g]?):ah P ν (.rs s rs) x:=by obtain⟨⟨et,hA⟩,hV⟩:=h;exact hA.CF hV hν Ay
theorem yI(e:PV):e.strip.cells=e.cells.map PV.lJ:=by cases e<;>rfl
theorem aS.strip{sz:Nat}(h:aS P μ φ w id sz et es)(hν:∀b o,μ b=some o→ν b=some o)(Ay:∀i off g,(bI.nest sz et es).rowAt i off=true→((φ id).row i off).g=some g→ν g=w.heap[g]?):aJ P ν φ w id sz et (es.map PV.strip):=by
 obtain⟨a1,a2,a3,a4,a5,a6,a7⟩:=h;refine⟨by simpa using a1,a2,a3,a4,fun i e he=>?_,a6,?_⟩
 ·rw[List.getElem?_map,Option.map_eq_some_iff]at he;obtain⟨e0,h0,rfl⟩:=he;rw[yI,List.length_map];exact a5 i e0 h0
 ·cases hg:(φ id).g with
  |none=>rw[hg]at a7;simp[a7.1,a7.2]
  |some g=>
   rw[hg]at a7;obtain⟨c,c1,c2,c3,c4,c5⟩:=a7;refine⟨c,c1,c2,by simpa using c3,fun i e j p x he hp hx=>?_,fun i x hi hx=>c5 i x (by simpa using hi) hx⟩;rw[List.getElem?_map,Option.map_eq_some_iff]at he;obtain⟨e0,h0,rfl⟩:=he;rw[yI,List.getElem?_map,Option.map_eq_some_iff]at hp;obtain⟨p0,B9,rfl⟩:=hp;have hc:=c4 i e0 j p0 x h0 B9 hx;cases hr:p0.isRow with
   |false=>
    have:p0.lJ=p0:=by cases p0<;>first|rfl|cases hr
    rw[this];exact(hc.Lt hr).mono hν
   |true=>
    cases p0<;>first|(cases hr;done)|skip
    rename_i s rs;exact eH.full (show eH P μ _ w s rs x from hc) hν fun g' bU=>Ay i j g' (by simp[bI.rowAt,h0,B9,PV.isRow]) bU
theorem M0{g o:Nat}{c:Array Value}{T:TypeId}{fz:Nat×Nat}{y:Value}(hν:ν g=w.heap[g]?)(h:w.heap[g]?=some (.cells c T fz))(hy:c[o]?=some y):cellAt ν g o=some y:=by simp[cellAt,hν,h,hy]
theorem qu(hM:au P G w0 μ φ m w){ν:Ro}(ro:∀b o,μ b=some o→ν b=some o)(own:∀id b g,m id=some b→b.ec (φ id) g→ν g=w.heap[g]?):∀(d:Nat){v:V}{p:PV}{x:Value},iZ m d v=some p→af P μ φ v x→ah P ν p x
 |0,v,p,x,h,_=>by simp[iZ]at h
 |d+1,v,p,x,h,hx=>by
  have ih:=fun{v p x}=> @qu hM ν ro own d v p x;cases v with
  |pv q=>simp[iZ]at h;subst h;cases hx with|pv hx=>exact hx.mono ro
  |ba=>simp[iZ]at h;subst h;cases hx;exact .ja
  |agg cs=>
   simp only[iZ]at h;obtain⟨ps,lN,h⟩:=Option.bind_eq_some_iff.1 h;simp only[Option.some.injEq]at h;subst h;obtain⟨h1,h2⟩:=gq lN;cases hx with
   |agg g1 g2 g3=>refine .agg (by omega) (fun i q y hq hy=>?_) g3;obtain⟨u,hu,hg⟩:=h2 i q hq;exact ih hg (g2 i u y hu hy)
  |bj cs=>
   simp only[iZ]at h;obtain⟨ps,lN,h⟩:=Option.bind_eq_some_iff.1 h;simp only[Option.some.injEq]at h;subst h;obtain⟨h1,h2⟩:=gq lN;cases hx with
   |bj g1 g2=>refine .bj (by omega) (fun i q y hq hy=>?_);obtain⟨u,hu,hg⟩:=h2 i q hq;exact ih hg (g2 i u y hu hy)
  |op id off=>
   simp only[iZ]at h;split at h
   ·rename_i cs hm;obtain⟨ps,lN,h⟩:=Option.bind_eq_some_iff.1 h;simp only[Option.some.injEq]at h;subst h;obtain⟨h1,h2⟩:=gq lN;obtain⟨g,c,T,hg,hh,hs,hv,qx,xy⟩:=hM.dG id _ hm;cases hx with
    |op bU=>
     rw[hg]at bU;simp only[Option.some.injEq]at bU;subst bU;have eG:∀(i:Nat)p,ps[i]?=some p→c[off+i]?=some (c.getD (off+i) undef):=by
      intro i p hi;have:=(List.getElem?_eq_some_iff.1 hi).1;rw[h1]at this;simp at this;have bp:off+i<c.size:=by omega
      rw[Array.getElem?_eq_getElem bp];simp[Array.getD,bp]
     refine .rp (fun i=>c.getD (off+i) undef) (fun i p hi=>M0 (own _ _ _ hm (.inl hg)) hh (eG i p hi)) (fun i p hi=>?_) (fun i hi=>?_)
     ·obtain⟨u,hu,hgu⟩:=h2 i p hi;exact ih hgu (hv (off+i) u _ (kG hu) (eG i p hi))
     ·exact qx _ _ (eG i _ (List.getElem?_eq_getElem hi))
   ·cases h
  |oe id i off=>
   have key:∀(s:Nat)(et:TypeId)(es:List PV),(m id=some (.arr s et es)∨m id=some (.nr s et es))→((es[i]?).bind fun e=>some (PV.rp ((aI s e).drop off)))=some p→ah P ν p x:=by
    intro s et es hm h;obtain⟨e,he,h⟩:=Option.bind_eq_some_iff.1 h;simp only[Option.some.injEq]at h;subst h;have hA:=hM.arr hm;have sx:=hA;have VD:∀g,(φ id).g=some g→ν g=w.heap[g]?:=fun g hg=>by rcases hm with hm|hm<;>exact own _ _ _ hm (.inl hg)
    obtain⟨a1,a2,a3,a4,a5,a6,a7⟩:=hA;cases hx with
    | @oe _ _ _ g hg=>
     rw[a2];have Az:=sx.slice hM hg (lo:=0) (len:=es.length) (by omega) ro (VD _ hg);have ac5:ah P ν (.rs s es) (.slice (some ⟨g,0,none⟩) es.length (φ id).cap):=by simpa using Az
     obtain⟨b,o,cap,e1,hr⟩:=ac5.Lv he;simp only[Value.slice.injEq,Option.some.injEq,Addr.mk.injEq]at e1;obtain⟨⟨rfl,rfl,_⟩,_⟩:=e1;have:=hr.DQ off;simpa using this
   simp only[iZ]at h;split at h
   ·rename_i s et es hm;exact key s et es (.inl hm) h
   ·rename_i s et es hm;exact key s et es (.inr hm) h
   ·cases h
  |os id=>
   simp only[iZ]at h;split at h
   ·rename_i s et es hm;simp only[Option.some.injEq]at h;subst h;exact(hM.arr (.inl hm)).full hM hx ro (fun g hg=>own _ _ _ hm (.inl hg))
   ·rename_i s et es hm;simp only[Option.some.injEq]at h;subst h;exact(hM.arr (.inr hm)).full hM hx ro (fun g hg=>own _ _ _ hm (.inl hg))
   ·rename_i s et es hm;simp only[Option.some.injEq]at h;subst h;have hN:aS P μ φ w id s et es:=hM.dG id _ hm;exact(hN.strip ro fun i off g hr hg=>own _ _ _ hm (.inr ⟨i,off,hr,hg⟩)).CF (hx.uM ro) (fun _ _ h=>h) fun g hg=>own _ _ _ hm (.inl hg)
   ·cases h
  |vU id i off s j off2=>simp[iZ]at h
  |sD id i off=>
   simp only[iZ]at h;split at h
   ·rename_i s et es hm;obtain⟨e,he,h⟩:=Option.bind_eq_some_iff.1 h;unfold MQ at h;split at h
    ·rename_i s' rs hc;simp only[Option.some.injEq]at h;subst h;have hN:aS P μ φ w id s et es:=hM.dG id _ hm;obtain⟨_,_,_,_,⟨⟨Ag,hA⟩,_⟩,Yx⟩:=hN.row (s:=s') (rs:=rs) he (by rw[hc];simp[aT]);exact hA.CF (hx.H7 (ν:=μ)) ro fun g hg=>own _ _ _ hm (.inr ⟨i,off,by simp[bI.rowAt,he,Yx,PV.isRow],hg⟩)
    ·cases h
   ·cases h
  |ff id lo len=>
   have key:∀(s:Nat)(et:TypeId)(es:List PV),(m id=some (.arr s et es)∨m id=some (.nr s et es))→ah P ν (.rs s ((es.drop lo).take len)) x:=by
    intro s et es hm;have hA:=hM.arr hm;have sx:=hA;have VD:∀g,(φ id).g=some g→ν g=w.heap[g]?:=fun g hg=>by rcases hm with hm|hm<;>exact own _ _ _ hm (.inl hg)
    have hle:=hA.mh;obtain⟨a1,a2,a3,a4,a5,a6,a7⟩:=hA;cases hx with
    |nQ hg=>simp;exact .ja
    | @ff _ _ _ cap g a hg hl ha Uj Cg=>
     rw[a1]at hl;rcases ha with rfl|⟨ha,_⟩
     ·rw[a2];exact sx.DR hg hl (by omega) Uj ro (VD _ hg)
     ·have h0:len=0:=by omega
      subst h0;simp only[List.take_zero];exact .Fg (by omega)
   simp only[iZ]at h;split at h
   ·rename_i s et es hm;simp only[Option.some.injEq]at h;subst h;exact key s et es (.inl hm)
   ·rename_i s et es hm;simp only[Option.some.injEq]at h;subst h;exact key s et es (.inr hm)
   ·cases h
  |om id=>
   simp only[iZ]at h;split at h
   ·rename_i kt es hm;simp only[Option.some.injEq]at h;subst h;obtain⟨g,en,clock,kk,hg,hh,hs,hk,AA,_,hv⟩:=hM.dG id _ hm;cases hx with
    |om bU=>
     rw[hg]at bU;simp only[Option.some.injEq]at bU;subst bU;refine .rm (show ν g=_ from(own _ _ _ hm (.inl hg)).trans hh) (by simp[hs]) (by simp) hk (fun i k hi=>?_) (fun i k e hi he=>?_) (fun i v e hi he=>?_)
     ·simp only[List.getElem?_map,Option.map_eq_some_iff]at hi;obtain⟨⟨a,b⟩,hq,rfl⟩:=hi;exact AA i a b hq
     ·simp only[List.getElem?_map,Option.map_eq_some_iff]at hi;obtain⟨⟨a,b⟩,hq,rfl⟩:=hi;exact(hv i a b e hq he).1.mono ro
     ·simp only[List.getElem?_map,Option.map_eq_some_iff]at hi;obtain⟨⟨a,b⟩,hq,rfl⟩:=hi;exact(hv i a b e hq he).2.mono ro
   ·rename_i kt e0 es hm;simp only[Option.some.injEq]at h;subst h;obtain⟨g,en,clock,kk,hg,hh,hs,hk,AA,_,hv⟩:=hM.dG id _ hm;cases hx with
    |om bU=>
     rw[hg]at bU;simp only[Option.some.injEq]at bU;subst bU;refine .rm (show ν g=_ from(own _ _ _ hm (.inl hg)).trans hh) (by simp[hs]) (by simp) hk (fun i k hi=>?_) (fun i k e hi he=>?_) (fun i v e hi he=>?_)
     ·simp only[List.getElem?_map,Option.map_eq_some_iff]at hi;obtain⟨⟨a,b⟩,hq,rfl⟩:=hi;exact AA i a b hq
     ·simp only[List.getElem?_map,Option.map_eq_some_iff]at hi;obtain⟨⟨a,b⟩,hq,rfl⟩:=hi;exact(hv i a b e hq he).1.mono ro
     ·simp only[List.getElem?_map,Option.map_eq_some_iff]at hi;obtain⟨⟨a,b⟩,hq,rfl⟩:=hi;have h2:=(hv i a b e hq he).2;cases hr:b.isRow with
      |false=>
       have e1:b.lJ=b:=by cases b<;>first|rfl|cases hr
       simp only[e1];split at h2
       ·cases hr
       ·exact h2.mono ro
      |true=>
       cases b<;>first|(cases hr;done)|skip
       exact h2.1.CF h2.2 ro fun g' bU=>own _ _ _ hm (.inr ⟨i,0,by simp[bI.rowAt,hq,PV.isRow],bU⟩)
   ·cases h
  |fn f cs=>
   simp only[iZ]at h;obtain⟨ps,lN,h⟩:=Option.bind_eq_some_iff.1 h;simp only[Option.some.injEq]at h;subst h;obtain⟨h1,h2⟩:=gq lN;cases hx with
   |fn g1 g2=>refine .fn (by omega) (fun i q y hq hy=>?_);obtain⟨u,hu,hg⟩:=h2 i q hq;exact ih hg (g2 i u y hu hy)
  |yl id=>simp[iZ]at h
  |it id=>simp[iZ]at h
  |top=>simp[iZ]at h
end
end Go.Ab
set_option linter.unusedVariables false
namespace Go.Ab
open Go.RowKit (Below)
section
variable {P:Program} {w:World}
def valOf:PV→Value
 |.int k n=>.int k n
 |.bool b=>.bool b
 |.str s=>.string ⟨s.toArray⟩
 |_=>undef
def eI(P:Program)(t:TypeId)(ps:List PV):Value:=if aA P t then .agg (ps.map valOf).toArray else valOf (ps.headD .bad)
theorem CG{μ:Ro}{k:Kd}{p:PV}{y:Value}(h:qp k p=true)(hy:ah P μ p y):y=valOf p:=by cases k<;>cases p<;>simp[qp]at h<;>cases hy<;>rfl
theorem nd:∀{ks:List Kd}{ps:List PV},jj ks ps=true→ps.length=ks.length
 |[],[],_=>rfl
 |[],_::_,h=>by simp[jj]at h
 |_::_,[],h=>by simp[jj]at h
 |k::ks,p::ps,h=>by simp[jj]at h;simp[nd h.2]
theorem Lx:∀{ks:List Kd}{ps:List PV},jj ks ps=true→∀(i:Nat)p,ps[i]?=some p→∃k,ks[i]?=some k∧qp k p=true
 |[],[],_,i,p,hi=>by simp at hi
 |[],_::_,h,_,_,_=>by simp[jj]at h
 |_::_,[],h,_,_,_=>by simp[jj]at h
 |k::ks,q::ps,h,i,p,hi=>by
  simp[jj]at h;cases i with
  |zero=>simp at hi;subst hi;exact⟨k,by simp,h.1⟩
  |succ i=>simp at hi;simpa using Lx h.2 i p hi
theorem nS:∀(a b:List Kd)(ps:List PV),jj (a++b) ps=true↔jj a (ps.take a.length)=true∧jj b (ps.drop a.length)=true
 |[],b,ps=>by simp[jj]
 |k::a,b,[]=>by simp[jj]
 |k::a,b,p::ps=>by simp[jj,nS a b ps,Bool.and_eq_true,and_assoc]
theorem sQ:∀(n:Nat)(ps qs:List PV),n≤ps.length→n≤qs.length→cV ps qs=(cV (ps.take n) (qs.take n)&&cV (ps.drop n) (qs.drop n))
 |0,ps,qs,_,_=>by simp[cV]
 |n+1,[],_,h,_=>by simp at h
 |n+1,_::_,[],_,h=>by simp at h
 |n+1,p::ps,q::qs,h1,h2=>by simp only[List.length_cons,Nat.add_le_add_iff_right]at h1 h2;simp only[cV,List.take_succ_cons,List.drop_succ_cons,sQ n ps qs h1 h2,Bool.and_assoc]
variable{ks:List Kd}{ps:List PV}
theorem pK{μ:Ro}{xs:Array Value}(hk:jj ks ps=true)(hl:xs.size=ps.length)(hv:∀(i:Nat)p y,ps[i]?=some p→xs[i]?=some y→ah P μ p y):xs=(ps.map valOf).toArray:=by
 apply Array.ext';apply List.ext_getElem?;intro i;by_cases hi:i<ps.length
 ·have h1:ps[i]?=some ps[i]:=List.getElem?_eq_getElem hi;have h2:xs[i]?=some xs[i]:=Array.getElem?_eq_getElem (by omega);obtain⟨k,_,hk⟩:=Lx hk i _ h1;have:=CG hk (hv i _ _ h1 h2);simp only[Array.getElem?_toList,h2,List.getElem?_map,h1,Option.map_some,this]
 ·simp[hi,hl]
theorem uP(a:List Kd):∀n,(nJ a n).length=n*a.length
 |0=>by simp[nJ]
 |n+1=>by simp[nJ,uP a n,Nat.add_mul];omega
theorem kH{k:Kd}(h:jj [k] ps=true):∃p,ps=[p]∧qp k p=true:=by
 cases ps with
 |nil=>simp[jj]at h
 |cons p r=>cases r with
  |nil=>exact⟨p,rfl,by simpa[jj]using h⟩
  |cons q r=>simp[jj]at h
theorem uc{d:Nat}{t:TypeId}(h:xe P d t=some ks):(aA P t=true→ks.length=aO P t)∧(aA P t=false→ks.length=1)∧∃de,P.underlying t=some de:=by
 cases d with
 |zero=>simp[xe]at h
 |succ d=>
  unfold xe at h;split at h
  ·rename_i q hu;simp at h;subst h;exact⟨by simp[aA,hu],by simp,_,hu⟩
  ·rename_i hu;simp at h;subst h;exact⟨by simp[aA,hu],by simp,_,hu⟩
  ·rename_i hu;simp at h;subst h;exact⟨by simp[aA,hu],by simp,_,hu⟩
  ·rename_i fs hu;split at h
   ·cases h
   ·obtain⟨a,ha,h⟩:=Option.bind_eq_some_iff.1 h;split at h
    ·rename_i hl;simp at h;subst h;exact⟨fun _=>hl,by simp[aA,hu],_,hu⟩
    ·cases h
  ·rename_i n e hu;obtain⟨a,ha,h⟩:=Option.bind_eq_some_iff.1 h;split at h
   ·rename_i hl;simp at h;subst h;refine⟨fun _=>?_,by simp[aA,hu],_,hu⟩;rw[←hl.2,uP]
   ·cases h
  ·cases h
theorem iQ{d:Nat}{t:TypeId}{off:Nat}(h:xe P d t=some ks)(hl:off+ks.length≤ps.length):(part t (ps.map valOf).toArray off).run P w=.ok (eI P t ((ps.drop off).take ks.length)) w:=by
 obtain⟨h1,h2,de,hu⟩:=uc h;cases ha:aA P t with
 |true=>rw[wb ha];congr 1;simp only[eI,ha,if_true];congr 1;rw[←h1 ha];simp[List.map_drop,List.map_take,List.extract_eq_take_drop]
 |false=>
  have hk:=h2 ha;rw[hk]at hl⊢;have bp:off<ps.length:=by omega
  rw[we hu ha (y:=valOf ps[off]) (by simp[bp])];congr 1;simp only[eI,ha,Bool.false_eq_true,if_false];rw[List.drop_eq_getElem_cons bp];rfl
theorem mK:∀(d:Nat)(t:TypeId)(ks:List Kd),xe P d t=some ks→∀(D:Nat)(w:World)(ps qs:List PV),jj ks ps=true→jj ks qs=true→(Op.equalIn (D+d) t (eI P t ps) (eI P t qs)).run P w=.ok (cV ps qs) w
 |0,t,ks,h,_,_,_,_,_,_=>by simp[xe]at h
 |d+1,t,ks,h,D,w,ps,qs,hp,hq=>by
  have ih:=mK d;have h0:=h;unfold xe at h;split at h
  ·rename_i q hu;simp only[Option.some.injEq]at h;subst h;have ha:aA P t=false:=by simp[aA,hu]
   obtain⟨p,rfl,OV⟩:=kH hp;obtain⟨q',rfl,XG⟩:=kH hq;clear hp hq;cases p<;>simp[qp]at OV;cases q'<;>simp[qp]at XG;subst OV;subst XG;simp[eI,ha,valOf,cV,peq,←Nat.add_assoc,Op.equalIn,run_underlying hu]
  ·rename_i hu;simp only[Option.some.injEq]at h;subst h;have ha:aA P t=false:=by simp[aA,hu]
   obtain⟨p,rfl,OV⟩:=kH hp;obtain⟨q',rfl,XG⟩:=kH hq;clear hp hq;cases p<;>simp[qp]at OV;cases q'<;>simp[qp]at XG;simp[eI,ha,valOf,cV,peq,←Nat.add_assoc,Op.equalIn,run_underlying hu]
  ·rename_i hu;simp only[Option.some.injEq]at h;subst h;have ha:aA P t=false:=by simp[aA,hu]
   obtain⟨p,rfl,OV⟩:=kH hp;obtain⟨q',rfl,XG⟩:=kH hq;clear hp hq;cases p<;>simp[qp]at OV;cases q'<;>simp[qp]at XG;simp only[eI,ha,valOf,cV,peq,←Nat.add_assoc,Bool.false_eq_true,if_false,List.headD_cons,Bool.and_true];rw[run_equalIn_string w _ _ _ _ hu,ByteArray.toList_eq,ByteArray.toList_eq]
  ·rename_i fs hu;split at h
   ·cases h
   ·rename_i sy;obtain⟨a,ha,h⟩:=Option.bind_eq_some_iff.1 h;split at h
    ·rename_i hlen;simp only[Option.some.injEq]at h;subst h;have Px:aA P t=true:=by simp[aA,hu]
     have hfo:P.fieldsOf t=fs:=by simp[Program.fieldsOf,hu]
     simp only[eI,Px,if_true,←Nat.add_assoc];rw[run_equalIn_struct w (D+d) t _ _ (by rw[hfo];exact hu) (by simpa using sy),hfo];have key:∀(L:List Field)(off:Nat)(b:List Kd)(w:World),nI (xe P d) L off=some b→off≤ps.length→off≤qs.length→jj b (ps.drop off)=true→jj b (qs.drop off)=true→(Op.eqFields (D+d) (ps.map valOf).toArray (qs.map valOf).toArray L).run P w=.ok (cV (ps.drop off) (qs.drop off)) w:=by
      intro L;induction L with
      |nil=>
       intro off b w hb o1 o2 h1 h2;simp only[nI,Option.some.injEq]at hb;subst hb;have e1:ps.drop off=[]:=by cases hh:ps.drop off with|nil=>rfl|cons x r=>rw[hh]at h1;simp[jj]at h1
       have e2:qs.drop off=[]:=by cases hh:qs.drop off with|nil=>rfl|cons x r=>rw[hh]at h2;simp[jj]at h2
       simp[Op.eqFields,e1,e2,cV]
      |cons f L ihL=>
       intro off b w hb o1 o2 h1 h2;simp only[nI]at hb;split at hb
       ·rename_i hf;obtain⟨c,hc,hb⟩:=Option.bind_eq_some_iff.1 hb;obtain⟨b',fL,hb⟩:=Option.bind_eq_some_iff.1 hb;simp only[Option.some.injEq]at hb;subst hb;rw[nS]at h1 h2;have l1:=nd h1.1;have l2:=nd h2.1;simp only[List.length_take,List.length_drop]at l1 l2;have p1:=iQ (w:=w) (ps:=ps) (off:=off) hc (by omega);have p2:=iQ (w:=w) (ps:=qs) (off:=off) hc (by omega);have p3:=ih f.type c hc D w _ _ h1.1 h2.1;have p4:=ihL (off+c.length) b' w fL (by omega) (by omega) (by rw[←List.drop_drop];exact h1.2) (by rw[←List.drop_drop];exact h2.2);simp only[Op.eqFields,hf.2,ne_eq,not_false_eq_true,if_true,Sem.run_bind,hf.1,p1,p2,p3,Result.andThen_ok];rw[sQ c.length (ps.drop off) (qs.drop off) (by simp;omega) (by simp;omega),List.drop_drop,List.drop_drop];cases hr:cV ((ps.drop off).take c.length) ((qs.drop off).take c.length)with
        |false=>simp
        |true=>simpa using p4
       ·cases hb
     simpa using key fs.toList 0 a w ha (by simp) (by simp) (by simpa using hp) (by simpa using hq)
    ·cases h
  ·rename_i n e hu;obtain⟨a,ha,h⟩:=Option.bind_eq_some_iff.1 h;split at h
   ·rename_i hlen;simp only[Option.some.injEq]at h;subst h;have Px:aA P t=true:=by simp[aA,hu]
    obtain⟨_,_,de,hde⟩:=uc ha;obtain⟨i,hi⟩:∃i,P.info? e=some i:=by
     unfold Program.underlying at hde;cases hq:P.info? e with
     |none=>simp[hq]at hde
     |some i=>exact⟨i,rfl⟩
    have kD:P.cellsOf e=a.length:=hlen.1.symm;simp only[eI,Px,if_true,←Nat.add_assoc];rw[run_equalIn_array w (D+d) _ _ hu hi,kD];have key:∀(k j:Nat)(w:World),j+k=n→j*a.length≤ps.length→j*a.length≤qs.length→jj (nJ a k) (ps.drop (j*a.length))=true→jj (nJ a k) (qs.drop (j*a.length))=true→(Op.eqItems (D+d) e a.length (ps.map valOf).toArray (qs.map valOf).toArray (List.range' j k)).run P w=.ok (cV (ps.drop (j*a.length)) (qs.drop (j*a.length))) w:=by
     intro k;induction k with
     |zero=>
      intro j w _ _ _ h1 h2;simp only[nJ]at h1 h2;have e1:ps.drop (j*a.length)=[]:=by cases hh:ps.drop (j*a.length)with|nil=>rfl|cons x r=>rw[hh]at h1;simp[jj]at h1
      have e2:qs.drop (j*a.length)=[]:=by cases hh:qs.drop (j*a.length)with|nil=>rfl|cons x r=>rw[hh]at h2;simp[jj]at h2
      simp[Op.eqItems,e1,e2,cV]
     |succ k VE=>
      intro j w hj o1 o2 h1 h2;simp only[nJ]at h1 h2;rw[nS]at h1 h2;have l1:=nd h1.1;have l2:=nd h2.1;simp only[List.length_take,List.length_drop]at l1 l2;have p1:=iQ (w:=w) (ps:=ps) (off:=j*a.length) ha (by omega);have p2:=iQ (w:=w) (ps:=qs) (off:=j*a.length) ha (by omega);have p3:=ih e a ha D w _ _ h1.1 h2.1;have ej:(j+1)*a.length=j*a.length+a.length:=by rw[Nat.add_mul];omega
      have p4:=VE (j+1) w (by omega) (by omega) (by omega) (by rw[ej,←List.drop_drop];exact h1.2) (by rw[ej,←List.drop_drop];exact h2.2);rw[List.range'_succ];simp only[Op.eqItems,Sem.run_bind,p1,p2,p3,Result.andThen_ok];rw[sQ a.length (ps.drop (j*a.length)) (qs.drop (j*a.length)) (by simp;omega) (by simp;omega),List.drop_drop,List.drop_drop,←ej];cases hr:cV ((ps.drop (j*a.length)).take a.length) ((qs.drop (j*a.length)).take a.length)with
      |false=>simp
      |true=>simpa using p4
    have:=key n 0 w (by omega) (by simp) (by simp) (by simpa using hp) (by simpa using hq);rw[List.range_eq_range'];simpa using this
   ·cases h
  ·cases h
end
end Go.Ab
set_option linter.unusedVariables false
namespace Go.Ab
open Go.RowKit (Below)
section
variable {R:Type} {E:Env}
theorem SN{k:IntKind}{x y:Int}(hx:(Lit.int k x).wf=true):(Lit.int k (x.tmod y)).wf=true:=by
 rw[q7]at*;have h0:k.min≤0∧0≤k.max:=by cases k<;>simp[IntKind.min,IntKind.max,IntKind.signed,IntKind.bits]
 rcases Int.le_total 0 x with h|h
 ·have h1:=Int.tmod_nonneg y h;have h2:x.tmod y≤x:=by have:=Int.natAbs_tmod x y;have h3:x.natAbs%y.natAbs≤x.natAbs:=Nat.mod_le _ _;omega
  omega
 ·have h1:x.tmod y= -((-x).tmod y):=by rw[Int.neg_tmod];omega
  have h2:=Int.tmod_nonneg y (show 0≤-x by omega);have h3:(-x).tmod y≤-x:=by have:=Int.natAbs_tmod (-x) y;have h3:(-x).natAbs%y.natAbs≤(-x).natAbs:=Nat.mod_le _ _;omega
  omega
theorem SO{k:IntKind}{x:Int}(n:Nat)(hx:(Lit.int k x).wf=true):(Lit.int k (x.fdiv (2^n))).wf=true:=by
 rw[q7]at*;have h0:k.min≤0∧0≤k.max:=by cases k<;>simp[IntKind.min,IntKind.max,IntKind.signed,IntKind.bits]
 have hp:(0:Int)<2^n:=Int.pow_pos (by omega);rw[Int.fdiv_eq_ediv_of_nonneg _ (by omega)];rcases Int.le_total 0 x with h|h
 ·have h1:=Int.ediv_nonneg h (Int.le_of_lt hp);have h2:=Int.ediv_le_self (2^n) h;omega
 ·have h1:x/2^n≤0:=Int.ediv_nonpos_of_nonpos_of_neg h hp;have h2:x≤x/2^n:=by rw[Int.le_ediv_iff_mul_le hp];have:x*2^n≤x*1:=Int.mul_le_mul_of_nonpos_left h (by omega);omega
  omega
variable{P:Program}{t:TypeId}
theorem CH{ps:List PV}(ha:aA P t=true):eI P t ps=.agg (ps.map valOf).toArray:=by simp[eI,ha]
def CI(P:Program)(t:TypeId):Bool:=P.eqGuardType P.depth t
def pL(op:BinOp)(t:TypeId)(ox oy:Operand)(x y:Value):Sem Value:=do eqGuard op t ox oy x y;binOp op t x y
variable{x y:Value}{w:World}
theorem gu{b:Bool}(hb:binOp .eql t x y=(do pure (.bool (←Op.equal t x y))))(h:(Op.equalIn 10000 t x y).run P w=.ok b w):(binOp .eql t x y).run P w=.ok (.bool b) w:=by rw[hb];simp only[Op.equal,Op.maxDepth,Sem.run_bind,h,Result.andThen_ok,Sem.run_pure]
theorem gv{b:Bool}(hb:binOp .neq t x y=(do pure (.bool (!(←Op.equal t x y)))))(h:(Op.equalIn 10000 t x y).run P w=.ok b w):(binOp .neq t x y).run P w=.ok (.bool (!b)) w:=by rw[hb];simp only[Op.equal,Op.maxDepth,Sem.run_bind,h,Result.andThen_ok,Sem.run_pure]
theorem bZ{op:BinOp}{ox oy:Operand}{z:Value}(h1:(eqGuard op t ox oy x y).run P w=.ok () w)(h2:(binOp op t x y).run P w=.ok z w):(pL op t ox oy x y).run P w=.ok z w:=by simp only[pL,Sem.run_bind,h1,h2,Result.andThen_ok]
theorem kj{e:TypeId}(hu:P.underlying t=some (.pointer e))(a:Option Addr):(Op.equalIn 10000 t (.pointer a) (.pointer none)).run P w=.ok a.isNone w:=by show(Op.equalIn (9999+1) t (.pointer a) (.pointer none)).run P w=.ok a.isNone w;cases a<;>(unfold Op.equalIn;simp only[Sem.run_bind,run_underlying hu,Result.andThen_ok];rfl)
theorem q9{a b:Array TypeId}{c:Bool}(hu:P.underlying t=some (.func a b c))(f:Fn)(xs ys:Array Value):(Op.equalIn 10000 t (.func f xs ys) .nilFunc).run P w=.ok false w:=by show(Op.equalIn (9999+1) t (.func f xs ys) .nilFunc).run P w=.ok false w;unfold Op.equalIn;simp only[Sem.run_bind,run_underlying hu,Result.andThen_ok];rfl
variable{k:PV→Option R}{a:V}{r:R}
theorem SP{op:BinOp}{b:V}(h:ku E op t a b k=some r):∃q,(∀(R':Type)(k':PV→Option R'),ku E op t a b k'=k' q)∧k q=some r∧∀(μ:Ro)(φ:Nat→aC)(w:World)(ox oy:Operand)(x y:Value),af E.P μ φ a x→af E.P μ φ b y→∃z,(pL op t ox oy x y).run E.P w=.ok z w∧ah E.P μ q z:=by
 unfold ku at h;split at h
 ·rename_i q x q' y;have ints:∀(μ:Ro)(φ:Nat→aC)(u v:Value),af E.P μ φ (.pv (.int q x)) u→af E.P μ φ (.pv (.int q' y)) v→u=.int q x∧v=.int q' y∧(Lit.int q x).wf=true:=by intro μ φ u v hu hv;cases hu with|pv hu=>cases hu with|int h1=>cases hv with|pv hv=>cases hv with|int h2=>exact⟨rfl,rfl,h1⟩
  cases op;case shl=>
   simp only at h;split at h
   ·cases h
   ·rename_i hy;refine⟨_,fun R' k'=>by simp[ku,hy],h,fun μ φ w ox oy u v hu hv=>?_⟩;obtain⟨rfl,rfl,_⟩:=ints μ φ u v hu hv;exact⟨_,by simp[pL,eqGuard,binOp,Op.shift,hy],.int (wf_wrap _ _)⟩
  case shr=>
   simp only at h;split at h
   ·cases h
   ·rename_i hy;refine⟨_,fun R' k'=>by simp[ku,hy],h,fun μ φ w ox oy u v hu hv=>?_⟩;obtain⟨rfl,rfl,hw⟩:=ints μ φ u v hu hv;exact⟨_,by simp[pL,eqGuard,binOp,Op.shift,hy],.int (SO _ hw)⟩
  case quo=>
   simp only at h;split at h
   ·rename_i hq;subst hq;split at h
    ·cases h
    ·rename_i hy;refine⟨_,fun R' k'=>by simp[ku,hy],h,fun μ φ w ox oy u v hu hv=>?_⟩;obtain⟨rfl,rfl,_⟩:=ints μ φ u v hu hv;exact⟨_,by simp[pL,eqGuard,binOp,Op.intDiv,hy],.int (wf_wrap _ _)⟩
   ·cases h
  case rem=>
   simp only at h;split at h
   ·rename_i hq;subst hq;split at h
    ·cases h
    ·rename_i hy;refine⟨_,fun R' k'=>by simp[ku,hy],h,fun μ φ w ox oy u v hu hv=>?_⟩;obtain⟨rfl,rfl,hw⟩:=ints μ φ u v hu hv;exact⟨_,by simp[pL,eqGuard,binOp,Op.intDiv,hy],.int (SN hw)⟩
   ·cases h
  case eql|neq|lss|leq|gtr|geq=>
   simp only at h;split at h
   ·rename_i hq;subst hq;refine⟨_,fun R' k'=>by simp[ku],h,fun μ φ w ox oy u v hu hv=>?_⟩;obtain⟨rfl,rfl,_⟩:=ints μ φ u v hu hv;refine⟨_,bZ (by rw[eqGuard_at_int];rfl) ?_,.bool⟩;first|rw[binOp_eql]|rw[binOp_neq]|rw[binOp_lss]|rw[binOp_leq]|rw[binOp_gtr]|rw[binOp_geq]
    rfl
   ·cases h
  all_goals
   simp only at h;split at h
   ·rename_i hq;subst hq;refine⟨_,fun R' k'=>by simp[ku],h,fun μ φ w ox oy u v hu hv=>?_⟩;obtain⟨rfl,rfl,_⟩:=ints μ φ u v hu hv;refine⟨_,bZ (by rw[eqGuard_at_int];rfl) ?_,.int (wf_wrap _ _)⟩;first|rw[binOp_add]|rw[binOp_sub]|rw[binOp_mul]|rw[binOp_and]|rw[binOp_or]|rw[binOp_xor]|rw[binOp_andNot]
    rfl
   ·cases h
 ·rename_i x y;have strs:∀(μ:Ro)(φ:Nat→aC)(u v:Value),af E.P μ φ (.pv (.str x)) u→af E.P μ φ (.pv (.str y)) v→u=.string ⟨x.toArray⟩∧v=.string ⟨y.toArray⟩:=by intro μ φ u v hu hv;cases hu with|pv hu=>cases hu with|str h1=>cases hv with|pv hv=>cases hv with|str h2=>exact⟨rfl,rfl⟩
  cases op;case add=>
   simp only at h;split at h
   ·rename_i ek;have hy:¬((x.length+y.length:Nat):Int)>IntKind.i64.max:=by have:=E.lp.qV _ ek;omega
    refine⟨_,fun R' k'=>by simp only[ku];rw[if_pos ek],h,fun μ φ w ox oy u v hu hv=>?_⟩;obtain⟨rfl,rfl⟩:=strs μ φ u v hu hv;refine⟨.string ⟨(x++y).toArray⟩,?_,.str ?_⟩
    ·simp only[pL,eqGuard,binOp,Op.stringOp,Sem.run_bind];have e:(⟨x.toArray⟩++⟨y.toArray⟩:ByteArray)=⟨(x++y).toArray⟩:=by apply ByteArray.ext;simp
     simp only[Au,e];rw[if_neg hy];simp
    ·simp only[maxLen];simp only[IntKind.max_i64]at hy;simp;omega
   ·cases h
  case eql|neq|lss|leq|gtr|geq=>simp only at h;refine⟨_,fun R' k'=>by simp only[ku],h,fun μ φ w ox oy u v hu hv=>?_⟩;obtain⟨rfl,rfl⟩:=strs μ φ u v hu hv;refine⟨_,bZ (by rw[eqGuard_at_string];rfl) ?_,.bool⟩;simp only[binOp,Op.stringOp,ByteArray.toList_eq];rfl
  all_goals (simp only at h;cases h)
 ·rename_i x y;have Ul:∀(μ:Ro)(φ:Nat→aC)(u v:Value),af E.P μ φ (.pv (.bool x)) u→af E.P μ φ (.pv (.bool y)) v→u=.bool x∧v=.bool y:=by intro μ φ u v hu hv;cases hu with|pv hu=>cases hu with|bool=>cases hv with|pv hv=>cases hv with|bool=>exact⟨rfl,rfl⟩
  split at h
  ·rename_i nT;refine⟨_,fun R' k'=>by simp only[ku,nT],h,fun μ φ w ox oy u v hu hv=>?_⟩;obtain⟨rfl,rfl⟩:=Ul μ φ u v hu hv;exact⟨_,bZ (by rw[eqGuard_at_bool];rfl) (gu rfl (run_equalIn_bool w _ _ _ _ nT)),.bool⟩
  ·rename_i nT;refine⟨_,fun R' k'=>by simp only[ku,nT],h,fun μ φ w ox oy u v hu hv=>?_⟩;obtain⟨rfl,rfl⟩:=Ul μ φ u v hu hv;exact⟨_,bZ (by rw[eqGuard_at_bool];rfl) (gv rfl (run_equalIn_bool w _ _ _ _ nT)),.bool⟩
  ·cases h
 ·split at h
  ·rename_i nT;refine⟨_,fun R' k'=>by simp only[ku,nT],h,fun μ φ w ox oy u v hu hv=>?_⟩;cases hu with|pv hu=>cases hu;cases hv with|pv hv=>cases hv;exact⟨_,bZ (by rw[eqGuard_at_pointer];rfl) (gu rfl (kj nT none)),.bool⟩
  ·rename_i nT;refine⟨_,fun R' k'=>by simp only[ku,nT],h,fun μ φ w ox oy u v hu hv=>?_⟩;cases hu with|pv hu=>cases hu;cases hv with|pv hv=>cases hv;exact⟨_,bZ (by rw[eqGuard_at_pointer];rfl) (gv rfl (kj nT none)),.bool⟩
  ·cases h
 ·split at h
  ·rename_i nT;refine⟨_,fun R' k'=>by simp only[ku,nT],h,fun μ φ w ox oy u v hu hv=>?_⟩;cases hu with|fn=>cases hv with|pv hv=>cases hv;exact⟨_,bZ (by rw[eqGuard_at_func];rfl) (gu rfl (q9 nT _ _ _)),.bool⟩
  ·rename_i nT;refine⟨_,fun R' k'=>by simp only[ku,nT],h,fun μ φ w ox oy u v hu hv=>?_⟩;cases hu with|fn=>cases hv with|pv hv=>cases hv;exact⟨_,bZ (by rw[eqGuard_at_func];rfl) (gv rfl (q9 nT _ _ _)),.bool⟩
  ·cases h
 ·split at h
  ·rename_i nT;refine⟨_,fun R' k'=>by simp only[ku,nT],h,fun μ φ w ox oy u v hu hv=>?_⟩;cases hu with|pv hu=>cases hu;cases hv with|pv hv=>cases hv;exact⟨_,bZ (by rw[eqGuard_at_func];rfl) (gu rfl (q9 nT _ _ _)),.bool⟩
  ·rename_i nT;refine⟨_,fun R' k'=>by simp only[ku,nT],h,fun μ φ w ox oy u v hu hv=>?_⟩;cases hu with|pv hu=>cases hu;cases hv with|pv hv=>cases hv;exact⟨_,bZ (by rw[eqGuard_at_func];rfl) (gv rfl (q9 nT _ _ _)),.bool⟩
  ·cases h
 ·split at h
  ·rename_i nT;refine⟨_,fun R' k'=>by simp only[ku,nT],h,fun μ φ w ox oy u v hu hv=>?_⟩;cases hu with|pv hu=>cases hu;cases hv with|pv hv=>cases hv;exact⟨_,bZ (by rw[eqGuard_at_pointer];rfl) (gu rfl (kj nT _)),.bool⟩
  ·rename_i nT;refine⟨_,fun R' k'=>by simp only[ku,nT],h,fun μ φ w ox oy u v hu hv=>?_⟩;cases hu with|pv hu=>cases hu;cases hv with|pv hv=>cases hv;exact⟨_,bZ (by rw[eqGuard_at_pointer];rfl) (gv rfl (kj nT _)),.bool⟩
  ·cases h
 ·split at h
  ·rename_i nT;refine⟨_,fun R' k'=>by simp only[ku,nT],h,fun μ φ w ox oy u v hu hv=>?_⟩;cases hu with|op hg=>cases hv with|pv hv=>cases hv;exact⟨_,bZ (by rw[eqGuard_at_pointer];rfl) (gu rfl (kj nT _)),.bool⟩
  ·rename_i nT;refine⟨_,fun R' k'=>by simp only[ku,nT],h,fun μ φ w ox oy u v hu hv=>?_⟩;cases hu with|op hg=>cases hv with|pv hv=>cases hv;exact⟨_,bZ (by rw[eqGuard_at_pointer];rfl) (gv rfl (kj nT _)),.bool⟩
  ·cases h
 ·split at h
  ·rename_i nT;refine⟨_,fun R' k'=>by simp only[ku,nT],h,fun μ φ w ox oy u v hu hv=>?_⟩;cases hu with|oe hg=>cases hv with|pv hv=>cases hv;exact⟨_,bZ (by rw[eqGuard_at_pointer];rfl) (gu rfl (kj nT _)),.bool⟩
  ·rename_i nT;refine⟨_,fun R' k'=>by simp only[ku,nT],h,fun μ φ w ox oy u v hu hv=>?_⟩;cases hu with|oe hg=>cases hv with|pv hv=>cases hv;exact⟨_,bZ (by rw[eqGuard_at_pointer];rfl) (gv rfl (kj nT _)),.bool⟩
  ·cases h
 ·rename_i n1 n2 n3 n4 m1 m2 n5 n6 n7;split at h
  ·rename_i ha;split at h
   ·rename_i ks as bs Py has hbs;split at h
    ·rename_i ps qs lN hqs;split at h
     ·rename_i hc;have hE:CI E.P t=false∧xe E.P 8 t=some ks:=by
       unfold pj at Py;split at Py
       ·cases Py
       ·rename_i hg;exact⟨by simpa[CI]using hg,Py⟩
      have key:∀(μ:Ro)(φ:Nat→aC)(w:World)(x y:Value),af E.P μ φ a x→af E.P μ φ b y→∃xs ys,x=.agg xs∧y=.agg ys∧(Op.equalIn 10000 t x y).run E.P w=.ok (cV ps qs) w:=by intro μ φ w x y hx hy;obtain⟨xs,rfl,g1,g2,g3⟩:=(mf has).2 _ _ _ _ hx;obtain⟨ys,rfl,g4,g5,g6⟩:=(mf hbs).2 _ _ _ _ hy;obtain⟨l1,l2⟩:=gq lN;obtain⟨l3,l4⟩:=gq hqs;have e1:=pK (P:=E.P) (μ:=μ) (xs:=xs) hc.1 (by omega) (fun i p z hi hz=>by obtain⟨v,hv,hg⟩:=l2 i p hi;exact qy 1 hg (g2 i v z hv hz));have e2:=pK (P:=E.P) (μ:=μ) (xs:=ys) hc.2 (by omega) (fun i p z hi hz=>by obtain⟨v,hv,hg⟩:=l4 i p hi;exact qy 1 hg (g5 i v z hv hz));refine⟨xs,ys,rfl,rfl,?_⟩;have:=mK 8 t ks hE.2 9992 w ps qs hc.1 hc.2;rw[CH ha,CH ha,←e1,←e2]at this;exact this
      have ac6:∀(R':Type)(k':PV→Option R'),ku E .eql t a b k'=k' (.bool (cV ps qs)):=by
       intro R' k';unfold ku;split
       ·exact(n1 _ _ _ _ rfl rfl).elim
       ·exact(n2 _ _ rfl rfl).elim
       ·exact(n3 _ _ rfl rfl).elim
       ·exact(n4 rfl rfl).elim
       ·exact(m1 _ _ rfl rfl).elim
       ·exact(m2 _ _ rfl rfl).elim
       ·exact(n5 _ rfl rfl).elim
       ·exact(n6 _ _ rfl rfl).elim
       ·exact(n7 _ _ _ rfl rfl).elim
       ·rw[if_pos ha,Py,has,hbs];simp only[lN,hqs];rw[if_pos hc]
      have ac7:∀(R':Type)(k':PV→Option R'),ku E .neq t a b k'=k' (.bool (!(cV ps qs))):=by
       intro R' k';unfold ku;split
       ·exact(n1 _ _ _ _ rfl rfl).elim
       ·exact(n2 _ _ rfl rfl).elim
       ·exact(n3 _ _ rfl rfl).elim
       ·exact(n4 rfl rfl).elim
       ·exact(m1 _ _ rfl rfl).elim
       ·exact(m2 _ _ rfl rfl).elim
       ·exact(n5 _ rfl rfl).elim
       ·exact(n6 _ _ rfl rfl).elim
       ·exact(n7 _ _ _ rfl rfl).elim
       ·rw[if_pos ha,Py,has,hbs];simp only[lN,hqs];rw[if_pos hc]
      cases op;case eql=>refine⟨_,fun R' k'=>ac6 R' k',h,fun μ φ w ox oy x y hx hy=>?_⟩;obtain⟨xs,ys,rfl,rfl,hr⟩:=key μ φ w x y hx hy;exact⟨_,bZ (run_eqGuard_agg w _ _ _ _ _ _ hE.1) (gu rfl hr),.bool⟩
      case neq=>refine⟨_,fun R' k'=>ac7 R' k',h,fun μ φ w ox oy x y hx hy=>?_⟩;obtain⟨xs,ys,rfl,rfl,hr⟩:=key μ φ w x y hx hy;exact⟨_,bZ (run_eqGuard_agg w _ _ _ _ _ _ hE.1) (gv rfl hr),.bool⟩
      all_goals (simp only at h;cases h)
     ·cases h
    ·cases h
   ·cases h
  ·cases h
theorem VF{op:UnOp}(h:xun op a k=some r):∃q,(∀(R':Type)(k':PV→Option R'),xun op a k'=k' q)∧k q=some r∧∀(P:Program)(μ:Ro)(φ:Nat→aC)(w:World)(x:Value),af P μ φ a x→∃z,(Op.unary op x).run P w=.ok z w∧ah P μ q z:=by
 unfold xun at h;split at h
 ·refine⟨_,fun R' k'=>rfl,h,fun P μ φ w x hx=>?_⟩;cases hx with|pv hx=>cases hx;exact⟨_,rfl,.bool⟩
 ·refine⟨_,fun R' k'=>rfl,h,fun P μ φ w x hx=>?_⟩;cases hx with|pv hx=>cases hx;exact⟨_,rfl,.int (wf_wrap _ _)⟩
 ·refine⟨_,fun R' k'=>rfl,h,fun P μ φ w x hx=>?_⟩;cases hx with|pv hx=>cases hx;exact⟨_,rfl,.int (wf_wrap _ _)⟩
 ·cases h
theorem SQ{k:IntKind}{n:Int}(h:(Lit.int k n).wf=true):k.wrap n=n:=by rw[q7]at h;cases k<;>simp only[IntKind.wrap,IntKind.min,IntKind.max,IntKind.signed,IntKind.bits]at* <;>simp at* <;>(try split)<;>omega
theorem Pz{s d:TypeId}(h:Ac E s d a k=some r):∃q,(∀(R':Type)(k':PV→Option R'),Ac E s d a k'=k' q)∧k q=some r∧∀(μ:Ro)(φ:Nat→aC)(w:World)(x:Value),af E.P μ φ a x→∃z,(convert s d x).run E.P w=.ok z w∧ah E.P μ q z:=by
 unfold Ac at h;split at h
 ·rename_i q q' q'' n hs hd;split at h
  ·rename_i e1;subst e1;split at h
   ·rename_i e2;subst e2;refine⟨_,fun R' k'=>by simp[Ac,hs,hd],h,fun μ φ w x hx=>?_⟩;cases hx with|pv hx=>cases hx with|int hw=>exact⟨_,by simp[convert,run_underlying hs,run_underlying hd,Conv.intToInt,SQ hw],.int hw⟩
   ·rename_i e2;refine⟨_,fun R' k'=>by simp[Ac,hs,hd,e2],h,fun μ φ w x hx=>?_⟩;cases hx with|pv hx=>cases hx with|int hw=>exact⟨_,by simp[convert,run_underlying hs,run_underlying hd,Conv.intToInt],.int (wf_wrap _ _)⟩
  ·cases h
 ·rename_i hs hd;refine⟨_,fun R' k'=>by simp[Ac,hs,hd],h,fun μ φ w x hx=>?_⟩;cases hx with|pv hx=>cases hx with|str hl=>exact⟨_,by simp[convert,run_underlying hs,run_underlying hd],.str hl⟩
 ·cases h
theorem PA{b:V}(h:Fv a b k=some r):∃q,(∀(R':Type)(k':PV→Option R'),Fv a b k'=k' q)∧k q=some r∧∀(P:Program)(μ:Ro)(φ:Nat→aC)(w:World)(x y:Value),af P μ φ a x→af P μ φ b y→∃z,(Builtin.min2 x y).run P w=.ok z w∧ah P μ q z:=by
 unfold Fv at h;split at h
 ·split at h
  ·rename_i e;subst e;refine⟨_,fun R' k'=>by simp[Fv],h,fun P μ φ w x y hx hy=>?_⟩;cases hx with|pv hx=>cases hx with|int h1=>cases hy with|pv hy=>cases hy with|int h2=>exact⟨_,rfl,by split<;>exact .int (by assumption)⟩
  ·cases h
 ·cases h
theorem wg{b:V}(h:yu a b k=some r):∃q,(∀(R':Type)(k':PV→Option R'),yu a b k'=k' q)∧k q=some r∧∀(P:Program)(μ:Ro)(φ:Nat→aC)(w:World)(x y:Value),af P μ φ a x→af P μ φ b y→∃z,(Builtin.max2 x y).run P w=.ok z w∧ah P μ q z:=by
 unfold yu at h;split at h
 ·split at h
  ·rename_i e;subst e;refine⟨_,fun R' k'=>by simp[yu],h,fun P μ φ w x y hx hy=>?_⟩;cases hx with|pv hx=>cases hx with|int h1=>cases hy with|pv hy=>cases hy with|int h2=>exact⟨_,rfl,by split<;>exact .int (by assumption)⟩
  ·cases h
 ·cases h
theorem PB{b c d:V}(h:Fx a b c d k=some r):∃q,(∀(R':Type)(k':PV→Option R'),Fx a b c d k'=k' q)∧k q=some r∧∀(P:Program)(μ:Ro)(φ:Nat→aC)(w:World)(x y z u:Value),af P μ φ a x→af P μ φ b y→af P μ φ c z→af P μ φ d u→∃v1 v2 v3,(Builtin.max2 x y).run P w=.ok v1 w∧(Builtin.max2 v1 z).run P w=.ok v2 w∧(Builtin.max2 v2 u).run P w=.ok v3 w∧ah P μ q v3:=by unfold Fx at h;obtain⟨q1,a1,h,b1⟩:=wg h;obtain⟨q2,a2,h,b2⟩:=wg h;obtain⟨q3,a3,h,b3⟩:=wg h;refine⟨q3,fun R' k'=>by unfold Fx;rw[a1,a2,a3],h,fun P μ φ w x y z u hx hy hz hu=>?_⟩;obtain⟨v1,c1,d1⟩:=b1 P μ φ w x y hx hy;obtain⟨v2,c2,d2⟩:=b2 P μ φ w v1 z (.pv d1) hz;obtain⟨v3,c3,d3⟩:=b3 P μ φ w v2 u (.pv d2) hu;exact⟨v1,v2,v3,c1,c2,c3,d3⟩
end
end Go.Ab
set_option linter.unusedVariables false
namespace Go.Ab
open Go.RowKit (Below)
section
variable {P:Program} {G:Nat→Option (List PV)} {w0:bt} {μ μ':Ro} {φ φ':Nat→aC} {m:Mem} {w w':World}
variable{b:bI}
@[simp] theorem aL(m:Mem)(d:Nat)(b:bI):al m d b d=some b:=by simp[al]
theorem an{m:Mem}{d t:Nat}(h:t≠d):al m d b t=m t:=by simp[al,cond_eq_ite,h]
@[simp] theorem Um(m:Mem)(d:Nat):aX m d d=none:=by simp[aX]
theorem eP{m:Mem}{d t:Nat}(h:t≠d):aX m d t=m t:=by simp[aX,cond_eq_ite,h]
@[simp] theorem re(f:Fr)(d:Nat)(v:V):fg f d v d=v:=by simp[fg]
theorem nU{f:Fr}{d t:Nat}{v:V}(h:t≠d):fg f d v t=f t:=by simp[fg,cond_eq_ite,h]
variable{id sz:Nat}{et:TypeId}{es:List PV}
theorem aJ.cG(h:aJ P μ φ w id sz et es)(hφ:φ' id=φ id)(hμ:∀b o,μ b=some o→μ' b=some o)(hw:∀g,(φ id).g=some g→w'.heap[g]?=w.heap[g]?):aJ P μ' φ' w' id sz et es:=by
 obtain⟨a1,a2,a3,a4,a5,a6,a7⟩:=h;unfold aJ;rw[hφ];refine⟨a1,a2,a3,a4,a5,a6,?_⟩;cases hg:(φ id).g with
 |none=>rw[hg]at a7;exact a7
 |some g=>rw[hg]at a7;obtain⟨c,c1,c2,c3,c4,c5⟩:=a7;exact⟨c,by rw[hw g hg];exact c1,c2,c3,fun i e j p x h1 h2 h3=>(c4 i e j p x h1 h2 h3).mono hμ,c5⟩
theorem eH.cG{R:yD}{s:Nat}{rs:List PV}{x:Value}(h:eH P μ R w s rs x)(hμ:∀b o,μ b=some o→μ' b=some o)(hw:∀g,R.g=some g→w'.heap[g]?=w.heap[g]?):eH P μ' R w' s rs x:=
 let⟨⟨et,hA⟩,hV⟩:=h
 ⟨⟨et,hA.cG rfl hμ hw⟩,hV.uM hμ⟩
theorem ef.cG{R:yD}{p:PV}{x:Value}(h:ef P μ R w p x)(hμ:∀b o,μ b=some o→μ' b=some o)(hw:p.isRow=true→∀g,R.g=some g→w'.heap[g]?=w.heap[g]?):ef P μ' R w' p x:=by
 unfold ef at*;split at h
 ·exact eH.cG h hμ (hw rfl)
 ·exact h.mono hμ
variable{i j:Nat}
theorem dy{e p:PV}(he:es[i]?=some e)(hp:e.cells[j]?=some p):(bI.nest sz et es).rowAt i j=p.isRow:=by simp[bI.rowAt,he,hp]
theorem aS.cG{id sz:Nat}{et:TypeId}{es:List PV}(h:aS P μ φ w id sz et es)(hφ:φ' id=φ id)(hμ:∀b o,μ b=some o→μ' b=some o)(hw:∀g,(bI.nest sz et es).ec (φ id) g→w'.heap[g]?=w.heap[g]?):aS P μ' φ' w' id sz et es:=by
 obtain⟨a1,a2,a3,a4,a5,a6,a7⟩:=h;unfold aS;rw[hφ];refine⟨a1,a2,a3,a4,a5,a6,?_⟩;cases hg:(φ id).g with
 |none=>rw[hg]at a7;exact a7
 |some g=>rw[hg]at a7;obtain⟨c,c1,c2,c3,c4,c5⟩:=a7;exact⟨c,by rw[hw g (.inl hg)];exact c1,c2,c3,fun i e j p x h1 h2 h3=>(c4 i e j p x h1 h2 h3).cG hμ fun hr g' bU=>hw g' (.inr ⟨i,j,by rw[dy h1 h2];exact hr,bU⟩),c5⟩
theorem iA{kt e:TypeId}{es:List (PV×PV)}{k v:PV}(he:es[i]?=some (k,v)):(bI.eU kt e es).rowAt i 0=v.isRow:=by simp[bI.rowAt,he]
theorem fM.cG{id:Nat}{b:bI}(h:fM P μ φ w id b)(hn:∀j,b.names j=true→φ' j=φ j)(hφ:φ' id=φ id)(hμ:∀b o,μ b=some o→μ' b=some o)(hw:∀g,b.ec (φ id) g→w'.heap[g]?=w.heap[g]?):fM P μ' φ' w' id b:=by
 cases b with
 |nest sz et es=>exact aS.cG h hφ hμ hw
 |eU kt e0 es=>
  obtain⟨g,en,clock,kk,hg,hh,hs,hk,hc,sd,hv⟩:=h;refine⟨g,en,clock,kk,by rw[hφ];exact hg,by rw[hw g (.inl hg)];exact hh,hs,hk,hc,sd,fun i k v e h1 h2=>⟨(hv i k v e h1 h2).1.mono hμ,?_⟩⟩;have h3:=(hv i k v e h1 h2).2;rw[hφ];split at h3
  ·exact⟨h3.1.cG rfl hμ fun g' bU=>hw g' (.inr ⟨i,0,by rw[iA h1];rfl,bU⟩),h3.2.uM hμ⟩
  ·exact h3.mono hμ
 |box cs=>obtain⟨g,c,T,hg,hh,hs,hv,h1,xy⟩:=h;exact⟨g,c,T,by rw[hφ];exact hg,by rw[hw g (.inl hg)];exact hh,hs,fun i v x hi hx=>(hv i v x hi hx).mono hμ (fun j hj=>hn j (bK (List.mem_of_getElem? hi) hj)),h1,by rw[hφ];exact xy⟩
 |arr sz et es=>exact aJ.cG h hφ hμ fun g hg=>hw g (.inl hg)
 |nr sz et es=>refine⟨aJ.cG h.1 hφ hμ fun g hg=>hw g (.inl hg),fun g hg=>?_⟩;rw[hφ]at hg;have:=h.2 g hg;obtain⟨o,ho⟩:=Option.isSome_iff_exists.1 this;rw[hμ _ _ ho];rfl
 |map kt es=>obtain⟨g,en,clock,kk,hg,hh,hs,hk,hc,sd,hv⟩:=h;exact⟨g,en,clock,kk,by rw[hφ];exact hg,by rw[hw g (.inl hg)];exact hh,hs,hk,hc,sd,fun i k v e h1 h2=>⟨(hv i k v e h1 h2).1.mono hμ,(hv i k v e h1 h2).2.mono hμ⟩⟩
 |iter t es cur=>obtain⟨g,mg,en,clock,seen,hg,hh,AB,sd,xy,hv,Yy⟩:=h;exact⟨g,mg,en,clock,seen,by rw[hφ];exact hg,by rw[hw g (.inl hg)];exact hh,hμ _ _ AB,sd,xy,fun i k v e h1 h2=>⟨(hv i k v e h1 h2).1.mono hμ,(hv i k v e h1 h2).2.mono hμ⟩,fun k v hc=>let⟨i,e,h1,h2,h3,h4⟩:=Yy k v hc;⟨i,e,h1,h2,h3.mono hμ,h4.mono hμ⟩⟩
 |loop st=>obtain⟨g,rc,hg,hh⟩:=h;exact⟨g,rc,by rw[hφ];exact hg,by rw[hw g (.inl hg)];exact hh⟩
variable{g:Nat}
theorem eH.AD{R:yD}{s:Nat}{rs:List PV}{x:Value}(h:eH P μ R w s rs x)(hg:R.g=some g):g<w.heap.size:=by obtain⟨⟨et,_,_,_,_,_,_,a7⟩,_⟩:=h;have bU:R.up.g=some g:=hg;simp only[bU]at a7;obtain⟨c,c1,_⟩:=a7;exact(Array.getElem?_eq_some_iff.1 c1).1
theorem iB{off:Nat}(h:b.rowAt i off=true):(∃sz et es e s rs,b=.nest sz et es∧es[i]?=some e∧e.cells[off]?=some (.fK s rs))∨∃kt e0 es k s rs,b=.eU kt e0 es∧off=0∧es[i]?=some (k,.fK s rs):=by
 unfold bI.rowAt at h;split at h
 ·rename_i sz et es i off;split at h
  ·rename_i e he;split at h
   ·rename_i p hp;cases p<;>first|(cases h;done)|skip
    rename_i s rs;exact .inl ⟨_,_,_,e,s,rs,rfl,he,hp⟩
   ·cases h
  ·cases h
 ·rename_i kt e0 es i;split at h
  ·rename_i x hx;obtain⟨k,v⟩:=x;cases v<;>first|(cases h;done)|skip
   rename_i s rs;exact .inr ⟨_,_,_,k,s,rs,rfl,rfl,hx⟩
  ·cases h
 ·cases h
theorem fM.Yz{off:Nat}(h:fM P μ φ w id b)(hr:b.rowAt i off=true)(hg:((φ id).row i off).g=some g):g<w.heap.size:=by
 rcases iB hr with⟨sz,et,es,e,s,rs,rfl,he,hp⟩|⟨kt,e0,es,k,s,rs,rfl,rfl,he⟩
 ·have hN:aS P μ φ w id sz et es:=h;have hgg:∃g0,(φ id).g=some g0:=by
   cases hq:(φ id).g with
   |some g0=>exact⟨g0,rfl⟩
   |none=>have a7:=hN.2.2.2.2.2.2;rw[hq]at a7;rw[a7.1]at he;simp at he
  obtain⟨g0,HN⟩:=hgg;obtain⟨c,x,_,_,c3,_⟩:=hN.cell HN he hp;exact eH.AD (show eH P μ _ w s rs x from c3) hg
 ·obtain⟨g0,en,clock,kk,HN,hh,hs,hk,hc,sd,hv⟩:=h;have hi:i<en.size:=by rw[hs];exact(List.getElem?_eq_some_iff.1 he).1
  have h3:=(hv i k _ en[i] he (Array.getElem?_eq_getElem hi)).2;exact eH.AD (P:=P) (μ:=μ) (R:=(φ id).row i 0) (s:=s) (rs:=rs) (x:=en[i].val) ⟨⟨_,h3.1⟩,h3.2⟩ hg
theorem fM.AD(h:fM P μ φ w id b)(hg:b.ec (φ id) g):g<w.heap.size:=by
 rcases hg with hg|⟨i,off,hr,hg⟩
 rotate_left
 ·exact h.Yz hr hg
 have key:∀o,w.heap[g]?=some o→g<w.heap.size:=fun o ho=>(Array.getElem?_eq_some_iff.1 ho).1;cases b with
 |nest sz et es=>obtain⟨_,_,_,_,_,_,a7⟩:=h;rw[hg]at a7;obtain⟨c,c1,_⟩:=a7;exact key _ c1
 |eU kt e0 es=>obtain⟨g',en,clock,kk,bU,hh,_⟩:=h;rw[hg]at bU;simp only[Option.some.injEq]at bU;subst bU;exact key _ hh
 |box cs=>obtain⟨g',c,T,bU,hh,_⟩:=h;rw[hg]at bU;simp only[Option.some.injEq]at bU;subst bU;exact key _ hh
 |arr sz et es=>obtain⟨_,_,_,_,_,_,a7⟩:=h;rw[hg]at a7;obtain⟨c,c1,_⟩:=a7;exact key _ c1
 |nr sz et es=>obtain⟨⟨_,_,_,_,_,_,a7⟩,_⟩:=h;rw[hg]at a7;obtain⟨c,c1,_⟩:=a7;exact key _ c1
 |map kt es=>obtain⟨g',en,clock,kk,bU,hh,_⟩:=h;rw[hg]at bU;simp only[Option.some.injEq]at bU;subst bU;exact key _ hh
 |iter t es cur=>obtain⟨g',mg,en,clock,seen,bU,hh,_⟩:=h;rw[hg]at bU;simp only[Option.some.injEq]at bU;subst bU;exact key _ hh
 |loop st=>obtain⟨g',rc,bU,hh⟩:=h;rw[hg]at bU;simp only[Option.some.injEq]at bU;subst bU;exact key _ hh
theorem au.H8(hM:au P G w0 μ φ m w)(hm:m j=some b)(hn:b.names id=true):(m id).isSome=true:=by
 cases b with
 |box cs=>exact hM.fh j cs id hm hn
 |_=>simp[bI.names]at hn
theorem ud{cs:List V}(h:cq j (cs.map (pk id))=true):cq j cs=true∧j≠id:=by obtain⟨v,hv,hh⟩:=cS.1 h;obtain⟨u,hu,rfl⟩:=List.mem_map.1 hv;obtain⟨h1,h2⟩:=sO hh;exact⟨bK hu h1,h2⟩
theorem fM.kill{id j:Nat}{b:bI}(h:fM P μ φ w j b):fM P μ φ w j (fF id b):=by
 cases b with
 |box cs=>obtain⟨g,c,T,hg,hh,hs,hv,h1,xy⟩:=h;refine⟨g,c,T,hg,hh,by simpa using hs,fun i v x hi hx=>?_,h1,by simpa using xy⟩;simp only[List.getElem?_map,Option.map_eq_some_iff]at hi;obtain⟨u,hu,rfl⟩:=hi;exact(hv i u x hu hx).kill id
 |_=>exact h
theorem rf(id:Nat)(b:bI):(fF id b).rowAt=b.rowAt:=by cases b<;>rfl
variable{p:aC}
theorem fC:(fF id b).ec p g↔b.ec p g:=by unfold bI.ec;rw[rf]
theorem ri:(fF id b).apart p↔b.apart p:=by unfold bI.apart;rw[rf]
theorem nV(h:∀i off,b.rowAt i off=true→False):b.apart p:=fun i off _ hr=>(h i off hr).elim
theorem l5(h:∀i off,b.rowAt i off=true→False)(ho:b.ec p g):p.g=some g:=by
 rcases ho with h1|⟨i,off,hr,_⟩
 ·exact h1
 ·exact(h i off hr).elim
theorem AE(h:bB id m j=some b):∃b',m j=some b'∧b=fF id b':=by
 unfold bB at h;cases hm:m j with
 |none=>rw[hm]at h;cases h
 |some b'=>rw[hm]at h;simp only[Option.some.injEq]at h;exact⟨b',rfl,h.symm⟩
theorem ue(id:Nat)(b:bI):(fF id b).gX=b.gX:=by cases b<;>rfl
theorem au.forget(hM:au P G w0 μ φ m w)(id:Nat):au P G w0 μ φ (aX (bB id m) id) w:=by
 have key:∀j b,aX (bB id m) id j=some b→j≠id∧∃b',m j=some b'∧b=fF id b':=by
  intro j b h;by_cases e:j=id
  ·subst e;simp at h
  ·rw[eP e]at h;exact⟨e,AE h⟩
 refine⟨hM.below,hM.ro,hM.aD,fun j b h=>?_,fun j b g h hg=>?_,fun i j b1 b2 g h1 h2 g1 g2=>?_,fun j b h=>?_,fun j cs i h hh=>?_,hM.base,hM.dC,fun j st h=>?_⟩
 rotate_right
 ·obtain⟨_,b',hb,e⟩:=key j _ h;cases b' with
  |loop st'=>simp only[fF,bI.loop.injEq]at e;subst e;exact hM.yC j st hb
  |_=>simp[fF]at e
 ·obtain⟨_,b',hb,rfl⟩:=key j b h;exact(hM.dG j b' hb).kill
 ·obtain⟨_,b',hb,rfl⟩:=key j b h;rw[ue];exact hM.own j b' g hb (fC.1 hg)
 ·obtain⟨_,YA,Sq,rfl⟩:=key i b1 h1;obtain⟨_,YB,oY,rfl⟩:=key j b2 h2;exact hM.inj i j YA YB g Sq oY (fC.1 g1) (fC.1 g2)
 ·obtain⟨_,b',hb,rfl⟩:=key j b h;exact ri.2 (hM.apart j b' hb)
 ·obtain⟨_,b',hb,e⟩:=key j _ h;cases b' with
  |box CJ=>simp only[fF,bI.box.injEq]at e;subst e;obtain⟨h1,h2⟩:=ud hh;have:=hM.fh j CJ i hb h1;rw[eP h2];obtain⟨bb,hbb⟩:=Option.isSome_iff_exists.1 this;simp[bB,hbb]
  |_=>simp[fF]at e
theorem uQ(m:Mem)(id:Nat)(b:bI):al (aX m id) id b=al m id b:=by
 funext t;by_cases h:t=id
 ·subst h;simp
 ·rw[an h,an h,eP h]
variable{b':bI}
theorem AF(l0:∀i off,b'.rowAt i off=true→b.rowAt i off=true)(h:b'.ec p g):b.ec p g:=by
 rcases h with h|⟨i,off,hr,h⟩
 ·exact .inl h
 ·exact .inr ⟨i,off,l0 i off hr,h⟩
theorem M1(l0:∀i off,b'.rowAt i off=true→b.rowAt i off=true)(h:b.apart p):b'.apart p:=fun i off g hr hg=>
 let⟨h1,h2⟩:=h i off g (l0 i off hr) hg
 ⟨h1,fun i' pI qn bU=>h2 i' pI (l0 i' pI qn) bU⟩
theorem au.PC(hM:au P G w0 μ φ m w)(hm:m id=some b)(FJ:b.gX=true)(hg:b.ec (φ id) g)(H9:jm g w w')(Ly:w'.heap.size=w.heap.size)(hw:∀k,k≠g→w'.heap[k]?=w.heap[k]?)(hB:fM P μ φ w' id b')(Un:b'.gX=true)(hn:∀j,b'.names j=true→(m j).isSome=true)(l0:∀i off,b'.rowAt i off=true→b.rowAt i off=true)(Uo:∀st,b'=.loop st→∃rc,(φ id).g=some g∧w0.rc id=some (g,rc)∧w'.heap[g]?=some (.loop (st.obj rc)):=by intro st h;cases h):au P G w0 μ φ (al m id b') w':=by
 obtain⟨q6,hμ⟩:=hM.own id b g hm hg;have hμ:=hμ FJ;refine⟨hM.below.trans (H9.mono q6),fun k o hk=>?_,hM.aD,fun j c hj=>?_,fun j c g' hj bU=>?_,fun i j b1 b2 g' h1 h2 g1 g2=>?_,fun j c hj=>?_,fun j cs i hj hh=>?_,hM.base,hM.dC,fun j st hj=>?_⟩
 rotate_right
 ·by_cases e:j=id
  ·subst e;rw[aL]at hj;simp only[Option.some.injEq]at hj;obtain⟨rc,h0,h1,h2⟩:=Uo st hj;exact⟨g,rc,h0,h1,h2⟩
  ·rw[an e]at hj;obtain⟨g',rc,h1,h2,h3⟩:=hM.yC j st hj;exact⟨g',rc,h1,h2,by rw[hw g' (fun e'=>by subst e';exact e (hM.inj j id _ b g' hj hm (.inl h1) hg))];exact h3⟩
 ·have:k≠g:=fun e=>by subst e;rw[hμ]at hk;cases hk
  rw[hw k this];exact hM.ro k o hk
 ·by_cases e:j=id
  ·subst e;rw[aL]at hj;simp only[Option.some.injEq]at hj;subst hj;exact hB
  ·rw[an e]at hj;refine(hM.dG j c hj).cG (fun _ _=>rfl) rfl (fun _ _ h=>h) (fun g' bU=>hw g' (fun e'=>?_));subst e';exact e (hM.inj j id c b g' hj hm bU hg)
 ·by_cases e:j=id
  ·subst e;rw[aL]at hj;simp only[Option.some.injEq]at hj;subst hj;obtain⟨h1,h2⟩:=hM.own j b g' hm (AF l0 bU);exact⟨h1,fun _=>h2 FJ⟩
  ·rw[an e]at hj;exact hM.own j c g' hj bU
 ·have e1:∃c1,m i=some c1∧c1.ec (φ i) g':=by
   by_cases e:i=id
   ·subst e;rw[aL]at h1;simp only[Option.some.injEq]at h1;subst h1;exact⟨b,hm,AF l0 g1⟩
   ·rw[an e]at h1;exact⟨b1,h1,g1⟩
  have e2:∃c2,m j=some c2∧c2.ec (φ j) g':=by
   by_cases e:j=id
   ·subst e;rw[aL]at h2;simp only[Option.some.injEq]at h2;subst h2;exact⟨b,hm,AF l0 g2⟩
   ·rw[an e]at h2;exact⟨b2,h2,g2⟩
  obtain⟨c1,e1,o1⟩:=e1;obtain⟨c2,e2,o2⟩:=e2;exact hM.inj i j c1 c2 g' e1 e2 o1 o2
 ·by_cases e:j=id
  ·subst e;rw[aL]at hj;simp only[Option.some.injEq]at hj;subst hj;exact M1 l0 (hM.apart j b hm)
  ·rw[an e]at hj;exact hM.apart j c hj
 ·have:(m i).isSome=true:=by
   by_cases e:j=id
   ·subst e;rw[aL]at hj;simp only[Option.some.injEq]at hj;subst hj;exact hn i hh
   ·rw[an e]at hj;exact hM.fh j cs i hj hh
  by_cases e:i=id
  ·subst e;simp
  ·rw[an e];exact this
theorem au.write(hM:au P G w0 μ φ m w)(hm:m id=some b)(FJ:b.gX=true)(hg:(φ id).g=some g)(H9:jm g w w')(Ly:w'.heap.size=w.heap.size)(hw:∀k,k≠g→w'.heap[k]?=w.heap[k]?)(hB:fM P μ φ w' id b')(Un:b'.gX=true)(hn:∀j,b'.names j=true→(m j).isSome=true)(Uo:∀st,b'=.loop st→∃rc,w0.rc id=some (g,rc)∧w'.heap[g]?=some (.loop (st.obj rc)):=by intro st h;cases h)(l0:∀i off,b'.rowAt i off=true→b.rowAt i off=true:=by intro i off h;simp[bI.rowAt]at h):au P G w0 μ φ (al m id b') w':=hM.PC hm FJ (.inl hg) H9 Ly hw hB Un hn l0 fun st h=>let⟨rc,h1,h2⟩:=Uo st h;⟨rc,hg,h1,h2⟩
def mY(μ:Ro)(w:World)(g:Option Nat):Ro:=fun b=>if g=some b then w.heap[b]? else μ b
theorem jO(hM:au P G w0 μ φ m w)(g:Option Nat):∀b o,μ b=some o→mY μ w g b=some o:=by
 intro b o hb;unfold mY;split
 ·exact hM.ro b o hb
 ·exact hb
noncomputable def qz(μ:Ro)(w:World)(S:Nat→Prop):Ro:=fun b=> @ite _ (S b) (Classical.propDecidable _) (w.heap[b]?) (μ b)
theorem nW(hM:au P G w0 μ φ m w)(S:Nat→Prop):∀b o,μ b=some o→qz μ w S b=some o:=by
 intro b o hb;unfold qz;split
 ·exact hM.ro b o hb
 ·exact hb
theorem au.Lz(hM:au P G w0 μ φ m w)(hm:m id=some b)(Uo:∀st,b≠.loop st)(hA:aJ P (qz μ w (b.ec (φ id))) φ w id sz et es):au P G w0 (qz μ w (b.ec (φ id))) φ (al m id (.nr sz et es)) w:=by
 have mono:=nW hM (b.ec (φ id));have LA:∀i off,(bI.nr sz et es).rowAt i off=true→False:=fun i off h=>by simp[bI.rowAt]at h
 refine⟨hM.below,fun k o hb=>?_,fun g cs hg=>(hM.aD g cs hg).mono mono,fun j c hj=>?_,fun j c g' hj bU=>?_,fun i j b1 b2 g' h1 h2 g1 g2=>?_,fun j c hj=>?_,fun j cs i hj hh=>?_,fun k o hb bp=>?_,fun b o hb=>mono b o (hM.dC b o hb),fun j st hj=>?_⟩
 rotate_right
 ·by_cases e:j=id
  ·subst e;rw[aL]at hj;cases hj
  ·rw[an e]at hj;exact hM.yC j st hj
 rotate_right
 ·unfold qz at hb;split at hb
  ·rename_i he;have:=(hM.own id b k hm he).1;omega
  ·exact hM.base k o hb bp
 ·unfold qz at hb;split at hb
  ·exact hb
  ·exact hM.ro k o hb
 ·by_cases e:j=id
  ·subst e;rw[aL]at hj;simp only[Option.some.injEq]at hj;subst hj;refine⟨hA,fun g hg=>?_⟩;have:=fM.AD (b:=.arr sz et es) hA (.inl hg);unfold qz;rw[if_pos (show b.ec (φ j) g from .inl hg)];simp[this]
  ·rw[an e]at hj;exact(hM.dG j c hj).cG (fun _ _=>rfl) rfl mono (fun _ _=>rfl)
 ·by_cases e:j=id
  ·subst e;rw[aL]at hj;simp only[Option.some.injEq]at hj;subst hj;exact⟨(hM.own j b g' hm (.inl (l5 LA bU))).1,by simp[bI.gX]⟩
  ·rw[an e]at hj;obtain⟨h1,h2⟩:=hM.own j c g' hj bU;refine⟨h1,fun AB=>?_⟩;unfold qz;split
   ·rename_i he;exact absurd (hM.inj j id c _ g' hj hm bU he) e
   ·exact h2 AB
 ·have e1:∃c1,m i=some c1∧c1.ec (φ i) g':=by
   by_cases e:i=id
   ·subst e;rw[aL]at h1;simp only[Option.some.injEq]at h1;subst h1;exact⟨b,hm,.inl (l5 LA g1)⟩
   ·rw[an e]at h1;exact⟨b1,h1,g1⟩
  have e2:∃c2,m j=some c2∧c2.ec (φ j) g':=by
   by_cases e:j=id
   ·subst e;rw[aL]at h2;simp only[Option.some.injEq]at h2;subst h2;exact⟨b,hm,.inl (l5 LA g2)⟩
   ·rw[an e]at h2;exact⟨b2,h2,g2⟩
  obtain⟨c1,e1,o1⟩:=e1;obtain⟨c2,e2,o2⟩:=e2;exact hM.inj i j c1 c2 g' e1 e2 o1 o2
 ·by_cases e:j=id
  ·subst e;rw[aL]at hj;simp only[Option.some.injEq]at hj;subst hj;exact nV LA
  ·rw[an e]at hj;exact hM.apart j c hj
 ·have:(m i).isSome=true:=by
   by_cases e:j=id
   ·subst e;rw[aL]at hj;simp at hj
   ·rw[an e]at hj;exact hM.fh j cs i hj hh
  by_cases e:i=id
  ·subst e;simp
  ·rw[an e];exact this
theorem nu:∀i off,(bI.arr sz et es).rowAt i off=true→False:=fun i off h=>by simp[bI.rowAt]at h
theorem au.freeze(hM:au P G w0 μ φ m w)(hm:m id=some (.arr sz et es)):au P G w0 (mY μ w (φ id).g) φ (al m id (.nr sz et es)) w:=by
 have e:qz μ w ((bI.arr sz et es).ec (φ id))=mY μ w (φ id).g:=by
  funext b;unfold qz mY;by_cases h:(φ id).g=some b
  ·rw[if_pos h,if_pos (show(bI.arr sz et es).ec (φ id) b from .inl h)]
  ·rw[if_neg h,if_neg fun ho=>h (l5 nu ho)]
 have:=hM.Lz (sz:=sz) (et:=et) (es:=es) hm (fun st h=>by cases h) (aJ.cG (hM.dG id _ hm) rfl (nW hM _) (fun _ _=>rfl));rwa[e]at this
theorem au.LB(hM:au P G w0 μ φ m w)(hm:m id=some (.nest sz et es)):au P G w0 (qz μ w ((bI.nest sz et es).ec (φ id))) φ (al m id (.nr sz et (es.map PV.strip))) w:=by have hN:aS P μ φ w id sz et es:=hM.dG id _ hm;refine hM.Lz hm (fun st h=>by cases h) (hN.strip (nW hM _) fun i off g hr hg=>?_);unfold qz;rw[if_pos (show(bI.nest sz et es).ec (φ id) g from .inr ⟨i,off,hr,hg⟩)]
def cM(μ:Ro)(w w':World):Ro:=fun b=>if b<w.heap.size then μ b else w'.heap[b]?
theorem iR(hM:au P G w0 μ φ m w)(w':World):∀b o,μ b=some o→cM μ w w' b=some o:=by intro b o hb;have:=(Array.getElem?_eq_some_iff.1 (hM.ro b o hb)).1;simp[cM,this,hb]
theorem au.called(hM:au P G w0 μ φ m w)(hb:jm w.heap.size w w'):au P G w0 (cM μ w w') φ m w':=by
 have mono:=iR hM w';refine⟨hM.below.trans (hb.mono hM.below.size),fun b o h=>?_,fun g cs hg=>(hM.aD g cs hg).mono mono,fun id b h=>?_,fun id b g h hg=>?_,hM.inj,hM.apart,hM.fh,fun b o h bp=>?_,fun b o hb=>mono b o (hM.dC b o hb),fun j st hj=>?_⟩
 rotate_right
 ·obtain⟨g,rc,h1,h2,h3⟩:=hM.yC j st hj;exact⟨g,rc,h1,h2,by rw[hb.block g (Array.getElem?_eq_some_iff.1 h3).1];exact h3⟩
 rotate_right
 ·have:w0.heap.size≤w.heap.size:=hM.below.size;unfold cM at h;rw[if_pos (by omega)]at h;exact hM.base b o h bp
 ·unfold cM at h;split at h
  ·rename_i bp;rw[hb.block b bp];exact hM.ro b o h
  ·exact h
 ·have hR:=hM.dG id b h;exact hR.cG (fun _ _=>rfl) rfl mono (fun g hg=>hb.block g (hR.AD hg))
 ·obtain⟨h1,h2⟩:=hM.own id b g h hg;refine⟨h1,fun hm=>?_⟩;have:=(hM.dG id b h).AD hg;simp[cM,this,h2 hm]
def kE(μ:Ro)(g:Option Nat):Ro:=fun b=>if g=some b then none else μ b
theorem FK{μ:Ro}{g:Option Nat}{b:Nat}{o:Obj}(h:kE μ g b=some o):μ b=some o:=by
 unfold kE at h;split at h
 ·cases h
 ·exact h
theorem vi(hM:au P G w0 μ φ m w)(w':World){g:Option Nat}(hg:∀b,g=some b→w.heap.size≤b):∀b o,μ b=some o→kE (cM μ w w') g b=some o:=by intro b o hb;have bp:=(Array.getElem?_eq_some_iff.1 (hM.ro b o hb)).1;unfold kE;rw[if_neg fun e=>by have:=hg b e;omega];exact iR hM w' b o hb
theorem au.CK(hM:au P G w0 μ φ m w)(hb:jm w.heap.size w w'){go:Option Nat}(zs:∀b,go=some b→w.heap.size≤b):au P G w0 (kE (cM μ w w') go) φ m w':=by
 have mono:=vi hM w' zs;have hC:=hM.called hb;refine⟨hC.below,fun b o h=>hC.ro b o (FK h),fun g cs hg=>(hM.aD g cs hg).mono mono,fun id b h=>?_,fun id b g h hg=>?_,hM.inj,hM.apart,hM.fh,fun b o h bp=>hC.base b o (FK h) bp,fun b o hb=>mono b o (hM.dC b o hb),hC.yC⟩
 ·have hR:=hM.dG id b h;exact hR.cG (fun _ _=>rfl) rfl mono (fun g hg=>hb.block g (hR.AD hg))
 ·obtain⟨h1,h2⟩:=hC.own id b g h hg;refine⟨h1,fun hm=>?_⟩;unfold kE;split
  ·rfl
  ·exact h2 hm
theorem au.drew(hM:au P G w0 μ φ m w):au P G w0 μ φ m w.drew:=⟨hM.below.drew,hM.ro,hM.aD,fun id b h=>(hM.dG id b h).cG (fun _ _=>rfl) rfl (fun _ _ h=>h) (fun _ _=>rfl),hM.own,hM.inj,hM.apart,hM.fh,hM.base,hM.dC,hM.yC⟩
end
end Go.Ab
