import Derived.Test.YtoaknfoobjnjgaaGreatAbP1
import Derived.Laws.StructEq
import Derived.ChangeKeysEq
set_option linter.all false
namespace Go.Ab
open Go.RowKit (Below)
section
variable {P:Program} {G:Nat→Option (List PV)} {w0:bu} {μ:Ro} {φ:Nat→aH} {m:Mem} {w:World}
theorem toCells_ok{n:Nat}{v:V}{cs:List V}(h:toCells n v=some cs):cs.length=n∧(∀id,cp id cs=true→v.has id=true)∧∀(P:Program)(μ:Ro)(φ:Nat→aH)(x:Value),an P μ φ v x→x.cells.size=n∧(∀(i:Nat)u y,cs[i]?=some u→x.cells[i]?=some y→an P μ φ u y)∧(∀(i:Nat)(y:Value),x.cells[i]?=some y→y.oneCell'=true):=by
 have one:∀(v:V),(∀(P:Program)(μ:Ro)(φ:Nat→aH)(x:Value),an P μ φ v x→x.oneCell'=true∧x.cells= #[x])→(if n=1 then some [v]else none)=some cs→cs.length=n∧(∀id,cp id cs=true→v.has id=true)∧∀(P:Program)(μ:Ro)(φ:Nat→aH)(x:Value),an P μ φ v x→x.cells.size=n∧(∀(i:Nat)u y,cs[i]?=some u→x.cells[i]?=some y→an P μ φ u y)∧(∀(i:Nat)(y:Value),x.cells[i]?=some y→y.oneCell'=true):=by
  intro v h1 h;split at h
  ·rename_i hn;simp only[tb]at h;subst h;subst hn;refine⟨rfl,fun id hid=>by simpa[cp]using hid,fun P μ φ x hx=>?_⟩;grind
  ·cases h
 have al5:∀x:Value,x.oneCell'=true→x.cells= #[x]:=by intro x hx;cases x<;>first|rfl|(simp[Value.oneCell']at hx)
 unfold toCells at h;split at h
 ·rename_i ps;split at h
  ·rename_i hn;simp only[tb]at h;subst h;refine⟨by simpa using hn,fun id hid=>(by rw[TU]at hid;cases hid),fun P μ φ x hx=>?_⟩;cases hx with
   |pv hx=>cases hx with
    |agg h1 h2 h3=>refine⟨by simp only[Value.cells];omega,fun i u y hu hy=>?_,h3⟩;simp only[AT,alj]at hu;obtain⟨q,hq,rfl⟩:=hu;exact .pv (h2 i q y hq hy)
  ·cases h
 ·split at h
  ·rename_i hn;simp only[tb]at h;subst h;refine⟨hn,fun id hid=>by simpa[V.has]using hid,fun P μ φ x hx=>?_⟩;cases hx with
   |agg h1 h2 h3=>grind [Value.cells]
  ·cases h
 ·cases h
 ·cases h
 ·cases h
 ·cases h
 ·rename_i h1 h2 h3 h4 h5 h6;refine one v (fun P μ φ x hx=>?_) h;have:x.oneCell'=true:=by
   cases hx with
   |pv hp=>exact hp.one (fun cs e=>h1 cs (by rw[e])) (fun cs e=>h5 cs (by rw[e])) (fun e=>h6 (by rw[e]))
   |agg=>exact absurd rfl (h2 _)
   |aI=>exact absurd rfl (h4 _)
   |top=>exact absurd rfl h3
   |fn=>exact Ll _ _
   |_=>rfl
  simp_all
theorem yn:∀(d:Nat){v:V}{p:PV}{x:Value},l0 cY d v=some p→an P μ φ v x→aq P μ p x
 |0,v,p,x,h,_=>by simp[l0]at h
 |d+1,v,p,x,h,hx=>by
  have ih:=fun{v p x}=> @yn d v p x;cases v with
  |pv q=>simp[l0]at h;subst h;cases hx with|pv hx=>exact hx
  |fM=>simp[l0]at h;subst h;cases hx;exact .l5
  |agg cs=>
   simp only[l0]at h;obtain⟨ps,qk,h⟩:=By.1 h;simp only[tb]at h;subst h;obtain⟨h1,h2⟩:=gL qk;cases hx with
   |agg g1 g2 g3=>refine .agg (by omega) (fun i q y hq hy=>?_) g3;obtain⟨u,hu,hg⟩:=h2 i q hq;exact ih hg (g2 i u y hu hy)
  |aI cs=>
   simp only[l0]at h;obtain⟨ps,qk,h⟩:=By.1 h;simp only[tb]at h;subst h;obtain⟨h1,h2⟩:=gL qk;cases hx with
   |aI g1 g2=>refine .aI (by omega) (fun i q y hq hy=>?_);obtain⟨u,hu,hg⟩:=h2 i q hq;exact ih hg (g2 i u y hu hy)
  |op id off=>simp[l0,cY]at h
  |oe id i off=>simp[l0,cY]at h
  |os id=>simp[l0,cY]at h
  |gh id lo len=>simp[l0,cY]at h
  |AJ id i off=>simp[l0,cY]at h
  |Ef id i off s j off2=>simp[l0]at h
  |om id=>simp[l0,cY]at h
  |fn f cs=>
   simp only[l0]at h;obtain⟨ps,qk,h⟩:=By.1 h;simp only[tb]at h;subst h;obtain⟨h1,h2⟩:=gL qk;cases hx with
   |fn g1 g2=>refine .fn (by omega) (fun i q y hq hy=>?_);obtain⟨u,hu,hg⟩:=h2 i q hq;exact ih hg (g2 i u y hu hy)
  |yl id=>simp[l0]at h
  |it id=>simp[l0]at h
  |top=>simp[l0]at h
def kK(w:World):Ro:=fun b=>w.heap[b]?
theorem aA.Cm(hM:aA P G w0 μ φ m w):∀b o,μ b=some o→kK w b=some o:=hM.ro
variable{id s:Nat}{et:TypeId}{es:List PV}{ν:Ro}
theorem aL.MX(hA:aL P μ φ w id s et es){g:Nat}(hg:(φ id).g=some g){lo len:Nat}(hl:lo+len≤es.length){cap:Nat}(tB:cap≤(φ id).cap-lo)(hlc:len≤cap)(hν:∀b o,μ b=some o→ν b=some o)(KJ:ν g=w.heap[g]?):aq P ν (.rs s ((es.drop lo).take len)) (.slice (some ⟨g,lo*s,none⟩) len cap):=by
 have hle:=hA.rK;obtain⟨a1,a2,a3,a4,a5,a6,a7⟩:=hA;rw[hg]at a7;obtain⟨c,T,c1,c2,c3,c4,c5⟩:=a7;have ey:∀(i:Nat)e,((es.drop lo).take len)[i]?=some e→i<len∧es[lo+i]?=some e:=fun i e hi=>qV hi;have hlen:((es.drop lo).take len).length=len:=by simp;omega
 have hb:∀(i:Nat)e(j:Nat)p,((es.drop lo).take len)[i]?=some e→e.cells[j]?=some p→(lo+i)*s+j<es.length*s:=by intro i e j p hi hj;obtain⟨_,hi⟩:=ey i e hi;have h1:=(IN.1 hi).1;have h2:=(IN.1 hj).1;have h3:=a5 _ e hi;have:(lo+i+1)*s≤es.length*s:=an8 _ (by omega);grind
 have hc:∀(i:Nat)e(j:Nat)p,((es.drop lo).take len)[i]?=some e→e.cells[j]?=some p→c[(lo+i)*s+j]?=some (c.getD ((lo+i)*s+j) undef):=by
  intro i e j p hi hj;obtain⟨_,hi⟩:=ey i e hi;have h1:=(IN.1 hi).1;have h2:=(IN.1 hj).1;have h3:=a5 _ e hi;have:(lo+i+1)*s≤(φ id).cap*s:=an8 _ (by omega);rw[aoV _ 1]at this;have bF:(lo+i)*s+j<c.size:=by omega
  simp_all
 have:=aq.rs (P:=P) (μ:=ν) (sz:=s) (es:=(es.drop lo).take len) (b:=g) (o:=lo*s) (cap:=cap) (fun i j=>c.getD ((lo+i)*s+j) undef) (by omega) (by omega) (fun i e hi=>a5 _ e (ey i e hi).2) (fun i e j p hi hj=>by grind [cellAt,Nat.add_mul]) (fun i e j p hi hj=>((c4 _ e j p _ (ey i e hi).2 hj (hc i e j p hi hj)).mono hν)) (fun i e j p hi hj=>c5 _ _ (hb i e j p hi hj) (hc i e j p hi hj));simp_all
theorem aL.slice(hM:aA P G w0 μ φ m w)(hA:aL P μ φ w id s et es){g:Nat}(hg:(φ id).g=some g){lo len:Nat}(hl:lo+len≤es.length)(hν:∀b o,μ b=some o→ν b=some o)(KJ:ν g=w.heap[g]?):aq P ν (.rs s ((es.drop lo).take len)) (.slice (some ⟨g,lo*s,none⟩) len ((φ id).cap-lo)):=hA.MX hg hl (aoa _) (by have:=hA.rK;omega) hν KJ
variable{x:Value}
theorem aL.Lx(hA:aL P μ φ w id s et es)(hx:an P μ φ (.os id) x)(hν:∀b o,μ b=some o→ν b=some o)(KJ:∀g,(φ id).g=some g→ν g=w.heap[g]?):aq P ν (.rs s es) x:=by
 have Dq:=hA;obtain⟨a1,a2,a3,a4,a5,a6,a7⟩:=hA;cases hx with
 |vO hg=>rw[hg]at a7;rw[a7.1];exact .l5
 | @os _ g hg=>have hle:=Dq.rK;have:=Dq.MX hg (lo:=0) (len:=es.length) (by omega) (cap:=(φ id).cap) (by omega) hle.1 hν (KJ g hg);simp_all
theorem aL.full(hM:aA P G w0 μ φ m w)(hA:aL P μ φ w id s et es)(hx:an P μ φ (.os id) x)(hν:∀b o,μ b=some o→ν b=some o)(KJ:∀g,(φ id).g=some g→ν g=w.heap[g]?):aq P ν (.rs s es) x:=hA.Lx hx hν KJ
theorem eX.full{R:GS}{rs:List PV}(h:eX P μ R w s rs x)(hν:∀b o,μ b=some o→ν b=some o)(KJ:∀g,R.g=some g→ν g=w.heap[g]?):aq P ν (.rs s rs) x:=by obtain⟨⟨et,hA⟩,hV⟩:=h;exact hA.Lx hV hν KJ
theorem GZ(e:PV):e.strip.cells=e.cells.map PV.qA:=by cases e<;>rfl
theorem bd.strip{sz:Nat}(h:bd P μ φ w id sz et es)(hν:∀b o,μ b=some o→ν b=some o)(KJ:∀i off g,(bL.nest sz et es).rowAt i off=true→((φ id).row i off).g=some g→ν g=w.heap[g]?):aL P ν φ w id sz et (es.map PV.strip):=by
 obtain⟨a1,a2,a3,a4,a5,a6,a7⟩:=h;refine⟨by simpa using a1,a2,a3,a4,fun i e he=>?_,a6,?_⟩
 ·rw[AT,alj]at he;obtain⟨e0,h0,rfl⟩:=he;grind [GZ,List.length_map]
 ·cases hg:(φ id).g with
  |none=>simp_all
  |some g=>
   rw[hg]at a7;obtain⟨c,T,c1,c2,c3,c4,c5⟩:=a7;refine⟨c,T,c1,c2,by simpa using c3,fun i e j p x he hp hx=>?_,fun i x hi hx=>c5 i x (by simpa using hi) hx⟩;rw[AT,alj]at he;obtain⟨e0,h0,rfl⟩:=he;rw[GZ,AT,alj]at hp;obtain⟨p0,Oy,rfl⟩:=hp;have hc:=c4 i e0 j p0 x h0 Oy hx;cases hr:p0.isRow with
   |false=>
    have:p0.qA=p0:=by cases p0<;>first|rfl|cases hr
    rw[this];exact(hc.TT hr).mono hν
   |true=>
    cases p0<;>first|(cases hr;done)|skip
    rename_i s rs;exact eX.full (show eX P μ _ w s rs x from hc) hν fun g' cL=>KJ i j g' (by simp[bL.rowAt,h0,Oy,PV.isRow]) cL
theorem Wv{g o:Nat}{c:Array Value}{T:TypeId}{fz:Nat×Nat}{y:Value}(hν:ν g=w.heap[g]?)(h:w.heap[g]?=some (.cells c T fz))(hy:c[o]?=some y):cellAt ν g o=some y:=by simp[cellAt,hν,h,hy]
theorem yb(hM:aA P G w0 μ φ m w){ν:Ro}(ro:∀b o,μ b=some o→ν b=some o)(own:∀id b g,m id=some b→b.owns (φ id) g→ν g=w.heap[g]?):∀(d:Nat){v:V}{p:PV}{x:Value},l0 m d v=some p→an P μ φ v x→aq P ν p x
 |0,v,p,x,h,_=>by simp[l0]at h
 |d+1,v,p,x,h,hx=>by
  have ih:=fun{v p x}=> @yb hM ν ro own d v p x;cases v with
  |pv q=>simp[l0]at h;subst h;cases hx with|pv hx=>exact hx.mono ro
  |fM=>simp[l0]at h;subst h;cases hx;exact .l5
  |agg cs=>
   simp only[l0]at h;obtain⟨ps,qk,h⟩:=By.1 h;simp only[tb]at h;subst h;obtain⟨h1,h2⟩:=gL qk;cases hx with
   |agg g1 g2 g3=>refine .agg (by omega) (fun i q y hq hy=>?_) g3;grind
  |aI cs=>
   simp only[l0]at h;obtain⟨ps,qk,h⟩:=By.1 h;simp only[tb]at h;subst h;obtain⟨h1,h2⟩:=gL qk;cases hx with
   |aI g1 g2=>refine .aI (by omega) (fun i q y hq hy=>?_);grind
  |op id off=>
   simp only[l0]at h;split at h
   ·rename_i cs hm;obtain⟨ps,qk,h⟩:=By.1 h;simp only[tb]at h;subst h;obtain⟨h1,h2⟩:=gL qk;obtain⟨g,c,T,hg,hh,hs,hv,yj,KH⟩:=hM.dB id _ hm;cases hx with
    |op cL=>
     rw[hg]at cL;simp only[tb]at cL;subst cL;have ey:∀(i:Nat)p,ps[i]?=some p→c[off+i]?=some (c.getD (off+i) undef):=by
      intro i p hi;have:=(IN.1 hi).1;rw[h1]at this;simp at this;have bF:off+i<c.size:=by omega
      simp_all
     refine .rp (fun i=>c.getD (off+i) undef) (fun i p hi=>Wv (own _ _ _ hm (.inl hg)) hh (ey i p hi)) (fun i p hi=>?_) (fun i hi=>?_)
     ·grind
     ·exact yj _ _ (ey i _ (ta hi))
   ·cases h
  |oe id i off=>
   have key:∀(s:Nat)(et:TypeId)(es:List PV),(m id=some (.arr s et es)∨m id=some (.sq s et es))→((es[i]?).bind fun e=>some (PV.rp ((aK s e).drop off)))=some p→aq P ν p x:=by
    intro s et es hm h;obtain⟨e,he,h⟩:=By.1 h;simp only[tb]at h;subst h;have hA:=hM.arr hm;have Dq:=hA;have afF:∀g,(φ id).g=some g→ν g=w.heap[g]?:=fun g hg=>by rcases hm with hm|hm<;>exact own _ _ _ hm (.inl hg)
    obtain⟨a1,a2,a3,a4,a5,a6,a7⟩:=hA;cases hx with
    | @oe _ _ _ g hg=>
     rw[a2];have KK:=Dq.slice hM hg (lo:=0) (len:=es.length) (by omega) ro (afF _ hg);have al6:aq P ν (.rs s es) (.slice (some ⟨g,0,none⟩) es.length (φ id).cap):=by simpa using KK
     obtain⟨b,o,cap,e1,hr⟩:=al6.TV he;simp only[Value.slice.injEq,tb,Addr.mk.injEq]at e1;obtain⟨⟨rfl,rfl,_⟩,_⟩:=e1;have:=hr.MW off;simpa using this
   grind [l0]
  |os id=>
   simp only[l0]at h;split at h
   ·rename_i s et es hm;simp only[tb]at h;subst h;exact(hM.arr (.inl hm)).full hM hx ro (fun g hg=>own _ _ _ hm (.inl hg))
   ·rename_i s et es hm;simp only[tb]at h;subst h;exact(hM.arr (.inr hm)).full hM hx ro (fun g hg=>own _ _ _ hm (.inl hg))
   ·rename_i s et es hm;simp only[tb]at h;subst h;have hN:bd P μ φ w id s et es:=hM.dB id _ hm;exact(hN.strip ro fun i off g hr hg=>own _ _ _ hm (.inr ⟨i,off,hr,hg⟩)).Lx (hx.CV ro) (fun _ _ h=>h) fun g hg=>own _ _ _ hm (.inl hg)
   ·cases h
  |Ef id i off s j off2=>simp[l0]at h
  |AJ id i off=>
   simp only[l0]at h;split at h
   ·rename_i s et es hm;obtain⟨e,he,h⟩:=By.1 h;unfold aij at h;split at h
    ·rename_i s' rs hc;simp only[tb]at h;subst h;have hN:bd P μ φ w id s et es:=hM.dB id _ hm;obtain⟨_,_,_,_,⟨⟨Kz,hA⟩,_⟩,hce⟩:=hN.row (s:=s') (rs:=rs) he (by rw[hc];simp[dQ]);exact hA.Lx (hx.Rx (ν:=μ)) ro fun g hg=>own _ _ _ hm (.inr ⟨i,off,by simp[bL.rowAt,he,hce,PV.isRow],hg⟩)
    ·cases h
   ·cases h
  |gh id lo len=>
   have key:∀(s:Nat)(et:TypeId)(es:List PV),(m id=some (.arr s et es)∨m id=some (.sq s et es))→aq P ν (.rs s ((es.drop lo).take len)) x:=by
    intro s et es hm;have hA:=hM.arr hm;have Dq:=hA;have afF:∀g,(φ id).g=some g→ν g=w.heap[g]?:=fun g hg=>by rcases hm with hm|hm<;>exact own _ _ _ hm (.inl hg)
    have hle:=hA.rK;obtain⟨a1,a2,a3,a4,a5,a6,a7⟩:=hA;cases hx with
    |uj hg=>simp;exact .l5
    | @gh _ _ _ cap g a hg hl ha hc1 TW=>
     rw[a1]at hl;rcases ha with rfl|⟨ha,_⟩
     ·rw[a2];exact Dq.MX hg hl (by omega) hc1 ro (afF _ hg)
     ·have h0:len=0:=by omega
      subst h0;simp only[ap4];exact .Ox (by omega)
   grind [l0,Option.some.injEq]
  |om id=>
   simp only[l0]at h;split at h
   ·rename_i kt es hm;simp only[tb]at h;subst h;obtain⟨g,en,clock,kk,hg,hh,hs,hk,Ra,_,hv⟩:=hM.dB id _ hm;cases hx with
    |om cL=>
     rw[hg]at cL;simp only[tb]at cL;subst cL;refine .rm (show ν g=_ from(own _ _ _ hm (.inl hg)).trans hh) (by simp[hs]) (by simp) hk (fun i k hi=>?_) (fun i k e hi he=>?_) (fun i v e hi he=>?_)
     ·grind
     ·simp only[AT,alj]at hi;obtain⟨⟨a,b⟩,hq,rfl⟩:=hi;exact(hv i a b e hq he).1.mono ro
     ·simp only[AT,alj]at hi;obtain⟨⟨a,b⟩,hq,rfl⟩:=hi;exact(hv i a b e hq he).2.mono ro
   ·rename_i kt e0 es hm;simp only[tb]at h;subst h;obtain⟨g,en,clock,kk,hg,hh,hs,hk,Ra,_,hv⟩:=hM.dB id _ hm;cases hx with
    |om cL=>
     rw[hg]at cL;simp only[tb]at cL;subst cL;refine .rm (show ν g=_ from(own _ _ _ hm (.inl hg)).trans hh) (by simp[hs]) (by simp) hk (fun i k hi=>?_) (fun i k e hi he=>?_) (fun i v e hi he=>?_)
     ·grind
     ·simp only[AT,alj]at hi;obtain⟨⟨a,b⟩,hq,rfl⟩:=hi;exact(hv i a b e hq he).1.mono ro
     ·simp only[AT,alj]at hi;obtain⟨⟨a,b⟩,hq,rfl⟩:=hi;have h2:=(hv i a b e hq he).2;cases hr:b.isRow with
      |false=>
       have e1:b.qA=b:=by cases b<;>first|rfl|cases hr
       simp only[e1];split at h2
       ·cases hr
       ·exact h2.mono ro
      |true=>
       cases b<;>first|(cases hr;done)|skip
       exact h2.1.Lx h2.2 ro fun g' cL=>own _ _ _ hm (.inr ⟨i,0,by simp[bL.rowAt,hq,PV.isRow],cL⟩)
   ·cases h
  |fn f cs=>
   simp only[l0]at h;obtain⟨ps,qk,h⟩:=By.1 h;simp only[tb]at h;subst h;obtain⟨h1,h2⟩:=gL qk;cases hx with
   |fn g1 g2=>refine .fn (by omega) (fun i q y hq hy=>?_);grind
  |yl id=>simp[l0]at h
  |it id=>simp[l0]at h
  |top=>simp[l0]at h
end
section
variable {P:Program} {w:World}
def valOf:PV→Value
 |.int k n=>.int k n
 |.bool b=>.bool b
 |.str s=>.string ⟨s.toArray⟩
 |_=>undef
def eZ(P:Program)(t:TypeId)(ps:List PV):Value:=if aG P t then .agg (ps.map valOf).toArray else valOf (ps.headD .bad)
theorem Ly{μ:Ro}{k:Kd}{p:PV}{y:Value}(h:xV k p=true)(hy:aq P μ p y):y=valOf p:=by cases k<;>cases p<;>simp[xV]at h<;>cases hy<;>rfl
theorem tC:∀{ks:List Kd}{ps:List PV},jo ks ps=true→ps.length=ks.length
 |[],[],_=>rfl
 |[],_::_,h=>by simp[jo]at h
 |_::_,[],h=>by simp[jo]at h
 |k::ks,p::ps,h=>by simp[jo]at h;simp[tC h.2]
theorem TX:∀{ks:List Kd}{ps:List PV},jo ks ps=true→∀(i:Nat)p,ps[i]?=some p→∃k,ks[i]?=some k∧xV k p=true
 |[],[],_,i,p,hi=>by simp at hi
 |[],_::_,h,_,_,_=>by simp[jo]at h
 |_::_,[],h,_,_,_=>by simp[jo]at h
 |k::ks,q::ps,h,i,p,hi=>by
  simp[jo]at h;cases i with
  |zero=>simp at hi;subst hi;exact⟨k,by simp,h.1⟩
  |succ i=>simp at hi;simpa using TX h.2 i p hi
theorem uo:∀(a b:List Kd)(ps:List PV),jo (a++b) ps=true↔jo a (ps.take a.length)=true∧jo b (ps.drop a.length)=true
 |[],b,ps=>by simp[jo]
 |k::a,b,[]=>by simp[jo]
 |k::a,b,p::ps=>by simp[jo,uo,aeu,aq9]
theorem AW:∀(n:Nat)(ps qs:List PV),n≤ps.length→n≤qs.length→bO ps qs=(bO (ps.take n) (qs.take n)&&bO (ps.drop n) (qs.drop n))
 |0,ps,qs,_,_=>by rfl
 |n+1,[],_,h,_=>by simp at h
 |n+1,_::_,[],_,h=>by rfl
 |n+1,p::ps,q::qs,h1,h2=>by simp only[alx,Nat.add_le_add_iff_right]at h1 h2;simp only[bO,List.take_succ_cons,List.drop_succ_cons,AW n ps qs h1 h2,Bool.and_assoc]
variable{ks:List Kd}{ps:List PV}
theorem wR{μ:Ro}{xs:Array Value}(hk:jo ks ps=true)(hl:xs.size=ps.length)(hv:∀(i:Nat)p y,ps[i]?=some p→xs[i]?=some y→aq P μ p y):xs=(ps.map valOf).toArray:=by
 apply apI;apply aox;intro i;by_cases hi:i<ps.length
 ·have h1:ps[i]?=some ps[i]:=ta hi;grind [Array.getElem?_eq_getElem,TX,Ly]
 ·simp[hi,hl]
theorem CZ(a:List Kd):∀n,(ue a n).length=n*a.length
 |0=>by simp[ue]
 |n+1=>by simp[ue,CZ a n,aoV];omega
theorem oH{k:Kd}(h:jo [k] ps=true):∃p,ps=[p]∧xV k p=true:=by
 cases ps with
 |nil=>simp[jo]at h
 |cons p r=>cases r with
  |nil=>exact⟨p,rfl,by simpa[jo]using h⟩
  |cons q r=>simp[jo]at h
theorem Cn{d:Nat}{t:TypeId}(h:Fq P d t=some ks):(aG P t=true→ks.length=aS P t)∧(aG P t=false→ks.length=1)∧∃de,P.underlying t=some de:=by
 cases d with
 |zero=>simp[Fq]at h
 |succ d=>
  unfold Fq at h;split at h
  ·grind [aG]
  ·grind [aG]
  ·grind [aG]
  ·rename_i fs hu;split at h
   ·cases h
   ·obtain⟨a,ha,h⟩:=By.1 h;grind [aG]
  ·rename_i n e hu;obtain⟨a,ha,h⟩:=By.1 h;grind [aG,CZ]
  ·cases h
theorem ll{d:Nat}{t:TypeId}{off:Nat}(h:Fq P d t=some ks)(hl:off+ks.length≤ps.length):(part t (ps.map valOf).toArray off).run P w=.ok (eZ P t ((ps.drop off).take ks.length)) w:=by
 obtain⟨h1,h2,de,hu⟩:=Cn h;cases ha:aG P t with
 |true=>rw[Es ha];congr 1;simp only[eZ,ha,BY];simp_all
 |false=>
  have hk:=h2 ha;rw[hk]at hl⊢;have bF:off<ps.length:=by omega
  rw[Et hu ha (y:=valOf ps[off]) (by simp[bF])];congr 1;simp only[eZ,ha,AI,OF];rw[apG bF];rfl
theorem sw:∀(d:Nat)(t:TypeId)(ks:List Kd),Fq P d t=some ks→∀(D:Nat)(w:World)(ps qs:List PV),jo ks ps=true→jo ks qs=true→(Op.equalIn (D+d) t (eZ P t ps) (eZ P t qs)).run P w=.ok (bO ps qs) w
 |0,t,ks,h,_,_,_,_,_,_=>by simp[Fq]at h
 |d+1,t,ks,h,D,w,ps,qs,hp,hq=>by
  have ih:=sw d;have h0:=h;unfold Fq at h;split at h
  ·rename_i q hu;simp only[tb]at h;subst h;have ha:aG P t=false:=by simp[aG,hu]
   obtain⟨p,rfl,hkp⟩:=oH hp;obtain⟨q',rfl,hkq⟩:=oH hq;clear hp hq;cases p<;>simp[xV]at hkp;cases q'<;>simp[xV]at hkq;subst hkp;subst hkq;simp[eZ,ha,valOf,bO,peq,←aoT,Op.equalIn,run_underlying hu]
  ·rename_i hu;simp only[tb]at h;subst h;have ha:aG P t=false:=by simp[aG,hu]
   obtain⟨p,rfl,hkp⟩:=oH hp;obtain⟨q',rfl,hkq⟩:=oH hq;clear hp hq;cases p<;>simp[xV]at hkp;cases q'<;>simp[xV]at hkq;simp[eZ,ha,valOf,bO,peq,←aoT,Op.equalIn,run_underlying hu]
  ·rename_i hu;simp only[tb]at h;subst h;have ha:aG P t=false:=by simp[aG,hu]
   obtain⟨p,rfl,hkp⟩:=oH hp;obtain⟨q',rfl,hkq⟩:=oH hq;clear hp hq;cases p<;>simp[xV]at hkp;cases q'<;>simp[xV]at hkq;simp only[eZ,ha,valOf,bO,peq,←aoT,AI,OF,List.headD_cons,apw];simp_all[run_equalIn_string,ByteArray.toList_eq]
  ·rename_i fs hu;split at h
   ·cases h
   ·rename_i fo;obtain⟨a,ha,h⟩:=By.1 h;split at h
    ·rename_i hlen;simp only[tb]at h;subst h;have Zf:aG P t=true:=by simp[aG,hu]
     have hfo:P.fieldsOf t=fs:=by simp[Program.fieldsOf,hu]
     simp only[eZ,Zf,BY,←aoT];rw[run_equalIn_struct w (D+d) t _ _ (by rw[hfo];omega) (by simpa using fo),hfo];have key:∀(L:List Field)(off:Nat)(b:List Kd)(w:World),ud (Fq P d) L off=some b→off≤ps.length→off≤qs.length→jo b (ps.drop off)=true→jo b (qs.drop off)=true→(Op.eqFields (D+d) (ps.map valOf).toArray (qs.map valOf).toArray L).run P w=.ok (bO (ps.drop off) (qs.drop off)) w:=by
      intro L;induction L with
      |nil=>
       intro off b w hb o1 o2 h1 h2;simp only[ud,tb]at hb;subst hb;have e1:ps.drop off=[]:=by cases hh:ps.drop off with|nil=>rfl|cons x r=>rw[hh]at h1;simp[jo]at h1
       have e2:qs.drop off=[]:=by cases hh:qs.drop off with|nil=>rfl|cons x r=>rw[hh]at h2;simp[jo]at h2
       simp[Op.eqFields,e1,e2,bO]
      |cons f L ihL=>
       intro off b w hb o1 o2 h1 h2;simp only[ud]at hb;split at hb
       ·rename_i hf;obtain⟨c,hc,hb⟩:=By.1 hb;obtain⟨b',jn,hb⟩:=By.1 hb;simp only[tb]at hb;subst hb;rw[uo]at h1 h2;have l1:=tC h1.1;have l2:=tC h2.1;simp only[aoz,aqm]at l1 l2;have p1:=ll (w:=w) (ps:=ps) (off:=off) hc (by omega);have p2:=ll (w:=w) (ps:=qs) (off:=off) hc (by omega);have p3:=ih f.type c hc D w _ _ h1.1 h2.1;have p4:=ihL (off+c.length) b' w jn (by omega) (by omega) (by simp_all) (by simp_all);simp only[Op.eqFields,hf.2,arn,not_false_eq_true,BY,Sem.run_bind,hf.1,p1,p2,p3,Result.andThen_ok];rw[AW c.length (ps.drop off) (qs.drop off) (by simp;omega) (by simp;omega),ap3,ap3];cases hr:bO ((ps.drop off).take c.length) ((qs.drop off).take c.length)with
        |false=>simp
        |true=>simpa using p4
       ·cases hb
     grind
    ·cases h
  ·rename_i n e hu;obtain⟨a,ha,h⟩:=By.1 h;split at h
   ·rename_i hlen;simp only[tb]at h;subst h;have Zf:aG P t=true:=by simp[aG,hu]
    obtain⟨_,_,de,hde⟩:=Cn ha;obtain⟨i,hi⟩:∃i,P.info? e=some i:=by unfold Program.underlying at hde;grind
    have ou:P.cellsOf e=a.length:=hlen.1.symm;simp only[eZ,Zf,BY,←aoT];rw[run_equalIn_array w (D+d) _ _ hu hi,ou];have key:∀(k j:Nat)(w:World),j+k=n→j*a.length≤ps.length→j*a.length≤qs.length→jo (ue a k) (ps.drop (j*a.length))=true→jo (ue a k) (qs.drop (j*a.length))=true→(Op.eqItems (D+d) e a.length (ps.map valOf).toArray (qs.map valOf).toArray (List.range' j k)).run P w=.ok (bO (ps.drop (j*a.length)) (qs.drop (j*a.length))) w:=by
     intro k;induction k with
     |zero=>
      intro j w _ _ _ h1 h2;simp only[ue]at h1 h2;have e1:ps.drop (j*a.length)=[]:=by cases hh:ps.drop (j*a.length)with|nil=>rfl|cons x r=>rw[hh]at h1;simp[jo]at h1
      have e2:qs.drop (j*a.length)=[]:=by cases hh:qs.drop (j*a.length)with|nil=>rfl|cons x r=>rw[hh]at h2;simp[jo]at h2
      simp[Op.eqItems,e1,e2,bO]
     |succ k ihk=>
      intro j w hj o1 o2 h1 h2;simp only[ue]at h1 h2;rw[uo]at h1 h2;have l1:=tC h1.1;have l2:=tC h2.1;simp only[aoz,aqm]at l1 l2;have p1:=ll (w:=w) (ps:=ps) (off:=j*a.length) ha (by omega);have p2:=ll (w:=w) (ps:=qs) (off:=j*a.length) ha (by omega);have p3:=ih e a ha D w _ _ h1.1 h2.1;have ej:(j+1)*a.length=j*a.length+a.length:=by rw[aoV];omega
      have p4:=ihk (j+1) w (by omega) (by omega) (by omega) (by simp_all) (by simp_all);rw[ap6];simp only[Op.eqItems,Sem.run_bind,p1,p2,p3,Result.andThen_ok];rw[AW a.length (ps.drop (j*a.length)) (qs.drop (j*a.length)) (by simp;omega) (by simp;omega),ap3,ap3,←ej];cases hr:bO ((ps.drop (j*a.length)).take a.length) ((qs.drop (j*a.length)).take a.length)with
      |false=>simp
      |true=>simpa using p4
    simp_all[ap0]
   ·cases h
  ·cases h
end
section
variable {R:Type} {E:Env}
theorem adw{k:IntKind}{x y:Int}(hx:(Lit.int k x).wf=true):(Lit.int k (x.tmod y)).wf=true:=by
 rw[yX]at*;have h0:k.min≤0∧0≤k.max:=by grind [IntKind.min,IntKind.max,IntKind.signed,IntKind.bits]
 rcases Int.le_total 0 x with h|h
 ·have h1:=Int.tmod_nonneg y h;have h2:x.tmod y≤x:=by have:=Int.natAbs_tmod x y;have h3:x.natAbs%y.natAbs≤x.natAbs:=Nat.mod_le _ _;omega
  omega
 ·have h1:x.tmod y= -((-x).tmod y):=by simp
  have h2:=Int.tmod_nonneg y (show 0≤-x by omega);have h3:(-x).tmod y≤-x:=by have:=Int.natAbs_tmod (-x) y;have h3:(-x).natAbs%y.natAbs≤(-x).natAbs:=Nat.mod_le _ _;omega
  omega
theorem adx{k:IntKind}{x:Int}(n:Nat)(hx:(Lit.int k x).wf=true):(Lit.int k (x.fdiv (2^n))).wf=true:=by
 rw[yX]at*;have h0:k.min≤0∧0≤k.max:=by grind [IntKind.min,IntKind.max,IntKind.signed,IntKind.bits]
 have hp:(0:Int)<2^n:=Int.pow_pos (by omega);rw[aqz _ (by omega)];rcases Int.le_total 0 x with h|h
 ·have h1:=aqV h (Int.le_of_lt hp);have h2:=Int.ediv_le_self (2^n) h;omega
 ·have h1:x/2^n≤0:=Int.ediv_nonpos_of_nonpos_of_neg h hp;have h2:x≤x/2^n:=by rw[Int.le_ediv_iff_mul_le hp];have:x*2^n≤x*1:=Int.mul_le_mul_of_nonpos_left h (by omega);omega
  omega
variable{P:Program}{t:TypeId}
theorem Lz{ps:List PV}(ha:aG P t=true):eZ P t ps=.agg (ps.map valOf).toArray:=by simp[eZ,ha]
def LA(P:Program)(t:TypeId):Bool:=P.eqGuardType P.depth t
def wS(op:BinOp)(t:TypeId)(ox oy:Operand)(x y:Value):Sem Value:=do eqGuard op t ox oy x y;binOp op t x y
variable{x y:Value}{w:World}
theorem jw{b:Bool}(hb:binOp .eql t x y=(do pure (.bool (←Op.equal t x y))))(h:(Op.equalIn 10000 t x y).run P w=.ok b w):(binOp .eql t x y).run P w=.ok (.bool b) w:=by simp_all[Op.equal,Op.maxDepth,Sem.run_bind,Result.andThen_ok,Sem.run_pure]
theorem jx{b:Bool}(hb:binOp .neq t x y=(do pure (.bool (!(←Op.equal t x y)))))(h:(Op.equalIn 10000 t x y).run P w=.ok b w):(binOp .neq t x y).run P w=.ok (.bool (!b)) w:=by simp_all[Op.equal,Op.maxDepth,Sem.run_bind,Result.andThen_ok,Sem.run_pure]
theorem bZ{op:BinOp}{ox oy:Operand}{z:Value}(h1:(eqGuard op t ox oy x y).run P w=.ok () w)(h2:(binOp op t x y).run P w=.ok z w):(wS op t ox oy x y).run P w=.ok z w:=by simp_all[wS,Sem.run_bind,Result.andThen_ok]
theorem nT{e:TypeId}(hu:P.underlying t=some (.pointer e))(a:Option Addr):(Op.equalIn 10000 t (.pointer a) (.pointer none)).run P w=.ok a.isNone w:=by show(Op.equalIn (9999+1) t (.pointer a) (.pointer none)).run P w=.ok a.isNone w;cases a<;>(unfold Op.equalIn;simp only[Sem.run_bind,run_underlying hu,Result.andThen_ok];rfl)
theorem yZ{a b:Array TypeId}{c:Bool}(hu:P.underlying t=some (.func a b c))(f:Fn)(xs ys:Array Value):(Op.equalIn 10000 t (.func f xs ys) .nilFunc).run P w=.ok false w:=by show(Op.equalIn (9999+1) t (.func f xs ys) .nilFunc).run P w=.ok false w;unfold Op.equalIn;simp only[Sem.run_bind,run_underlying hu,Result.andThen_ok];rfl
variable{k:PV→Option R}{a:V}{r:R}
theorem ady{op:BinOp}{b:V}(h:oh E op t a b k=some r):∃q,(∀(R':Type)(k':PV→Option R'),oh E op t a b k'=k' q)∧k q=some r∧∀(μ:Ro)(φ:Nat→aH)(w:World)(ox oy:Operand)(x y:Value),an E.P μ φ a x→an E.P μ φ b y→∃z,(wS op t ox oy x y).run E.P w=.ok z w∧aq E.P μ q z:=by
 unfold oh at h;split at h
 ·rename_i q x q' y;have ints:∀(μ:Ro)(φ:Nat→aH)(u v:Value),an E.P μ φ (.pv (.int q x)) u→an E.P μ φ (.pv (.int q' y)) v→u=.int q x∧v=.int q' y∧(Lit.int q x).wf=true:=by intro μ φ u v hu hv;cases hu with|pv hu=>cases hu with|int h1=>cases hv with|pv hv=>cases hv with|int h2=>exact⟨rfl,rfl,h1⟩
  cases op;case shl=>
   simp only at h;split at h
   ·cases h
   ·rename_i hy;refine⟨_,fun R' k'=>by simp[oh,hy],h,fun μ φ w ox oy u v hu hv=>?_⟩;obtain⟨rfl,rfl,_⟩:=ints μ φ u v hu hv;exact⟨_,by simp[wS,eqGuard,binOp,Op.shift,hy],.int (wf_wrap _ _)⟩
  case shr=>
   simp only at h;split at h
   ·cases h
   ·rename_i hy;refine⟨_,fun R' k'=>by simp[oh,hy],h,fun μ φ w ox oy u v hu hv=>?_⟩;obtain⟨rfl,rfl,hw⟩:=ints μ φ u v hu hv;exact⟨_,by simp[wS,eqGuard,binOp,Op.shift,hy],.int (adx _ hw)⟩
  case quo=>
   simp only at h;split at h
   ·rename_i hq;subst hq;split at h
    ·cases h
    ·rename_i hy;refine⟨_,fun R' k'=>by simp[oh,hy],h,fun μ φ w ox oy u v hu hv=>?_⟩;obtain⟨rfl,rfl,_⟩:=ints μ φ u v hu hv;exact⟨_,by simp[wS,eqGuard,binOp,Op.intDiv,hy],.int (wf_wrap _ _)⟩
   ·cases h
  case rem=>
   simp only at h;split at h
   ·rename_i hq;subst hq;split at h
    ·cases h
    ·rename_i hy;refine⟨_,fun R' k'=>by simp[oh,hy],h,fun μ φ w ox oy u v hu hv=>?_⟩;obtain⟨rfl,rfl,hw⟩:=ints μ φ u v hu hv;exact⟨_,by simp[wS,eqGuard,binOp,Op.intDiv,hy],.int (adw hw)⟩
   ·cases h
  case eql|neq|lss|leq|gtr|geq=>
   simp only at h;split at h
   ·rename_i hq;subst hq;refine⟨_,fun R' k'=>by simp[oh],h,fun μ φ w ox oy u v hu hv=>?_⟩;obtain⟨rfl,rfl,_⟩:=ints μ φ u v hu hv;refine⟨_,bZ (by rw[eqGuard_at_int];rfl) ?_,.bool⟩;first|rw[binOp_eql]|rw[binOp_neq]|rw[binOp_lss]|rw[binOp_leq]|rw[binOp_gtr]|rw[binOp_geq]
    rfl
   ·cases h
  all_goals
   simp only at h;split at h
   ·rename_i hq;subst hq;refine⟨_,fun R' k'=>by simp[oh],h,fun μ φ w ox oy u v hu hv=>?_⟩;obtain⟨rfl,rfl,_⟩:=ints μ φ u v hu hv;refine⟨_,bZ (by rw[eqGuard_at_int];rfl) ?_,.int (wf_wrap _ _)⟩;first|rw[binOp_add]|rw[binOp_sub]|rw[binOp_mul]|rw[binOp_and]|rw[binOp_or]|rw[binOp_xor]|rw[binOp_andNot]
    rfl
   ·cases h
 ·rename_i x y;have strs:∀(μ:Ro)(φ:Nat→aH)(u v:Value),an E.P μ φ (.pv (.str x)) u→an E.P μ φ (.pv (.str y)) v→u=.string ⟨x.toArray⟩∧v=.string ⟨y.toArray⟩:=by intro μ φ u v hu hv;cases hu with|pv hu=>cases hu with|str h1=>cases hv with|pv hv=>cases hv with|str h2=>exact⟨rfl,rfl⟩
  cases op;case add=>
   simp only at h;split at h
   ·rename_i bw;have hy:¬((x.length+y.length:Nat):Int)>IntKind.i64.max:=by have:=E.lp.yQ _ bw;omega
    refine⟨_,fun R' k'=>by simp only[oh];rw[No bw],h,fun μ φ w ox oy u v hu hv=>?_⟩;obtain⟨rfl,rfl⟩:=strs μ φ u v hu hv;refine⟨.string ⟨(x++y).toArray⟩,?_,.str ?_⟩
    ·simp only[wS,eqGuard,binOp,Op.stringOp,Sem.run_bind];have e:(⟨x.toArray⟩++⟨y.toArray⟩:ByteArray)=⟨(x++y).toArray⟩:=by apply ByteArray.ext;simp
     simp only[IB,e];rw[QU hy];simp
    ·simp only[maxLen];simp only[IntKind.max_i64]at hy;simp;omega
   ·cases h
  case eql|neq|lss|leq|gtr|geq=>simp only at h;refine⟨_,fun R' k'=>by simp only[oh],h,fun μ φ w ox oy u v hu hv=>?_⟩;obtain⟨rfl,rfl⟩:=strs μ φ u v hu hv;refine⟨_,bZ (by rw[eqGuard_at_string];rfl) ?_,.bool⟩;simp only[binOp,Op.stringOp,ByteArray.toList_eq];rfl
  all_goals (simp only at h;cases h)
 ·rename_i x y;have aeT:∀(μ:Ro)(φ:Nat→aH)(u v:Value),an E.P μ φ (.pv (.bool x)) u→an E.P μ φ (.pv (.bool y)) v→u=.bool x∧v=.bool y:=by intro μ φ u v hu hv;cases hu with|pv hu=>cases hu with|bool=>cases hv with|pv hv=>cases hv with|bool=>exact⟨rfl,rfl⟩
  split at h
  ·rename_i uq;refine⟨_,fun R' k'=>by simp only[oh,uq],h,fun μ φ w ox oy u v hu hv=>?_⟩;obtain⟨rfl,rfl⟩:=aeT μ φ u v hu hv;exact⟨_,bZ (by rw[eqGuard_at_bool];rfl) (jw rfl (run_equalIn_bool w _ _ _ _ uq)),.bool⟩
  ·rename_i uq;refine⟨_,fun R' k'=>by simp only[oh,uq],h,fun μ φ w ox oy u v hu hv=>?_⟩;obtain⟨rfl,rfl⟩:=aeT μ φ u v hu hv;exact⟨_,bZ (by rw[eqGuard_at_bool];rfl) (jx rfl (run_equalIn_bool w _ _ _ _ uq)),.bool⟩
  ·cases h
 ·split at h
  ·rename_i uq;refine⟨_,fun R' k'=>by simp only[oh,uq],h,fun μ φ w ox oy u v hu hv=>?_⟩;cases hu with|pv hu=>cases hu;cases hv with|pv hv=>cases hv;exact⟨_,bZ (by rw[eqGuard_at_pointer];rfl) (jw rfl (nT uq none)),.bool⟩
  ·rename_i uq;refine⟨_,fun R' k'=>by simp only[oh,uq],h,fun μ φ w ox oy u v hu hv=>?_⟩;cases hu with|pv hu=>cases hu;cases hv with|pv hv=>cases hv;exact⟨_,bZ (by rw[eqGuard_at_pointer];rfl) (jx rfl (nT uq none)),.bool⟩
  ·cases h
 ·split at h
  ·rename_i uq;refine⟨_,fun R' k'=>by simp only[oh,uq],h,fun μ φ w ox oy u v hu hv=>?_⟩;cases hu with| @fn f0 _ xs0=>cases hv with|pv hv=>cases hv;obtain⟨g0,a0,b0,e0⟩:=oF _ xs0;rw[e0];exact⟨_,bZ (by rw[eqGuard_at_func];rfl) (jw rfl (yZ uq _ _ _)),.bool⟩
  ·rename_i uq;refine⟨_,fun R' k'=>by simp only[oh,uq],h,fun μ φ w ox oy u v hu hv=>?_⟩;cases hu with| @fn f0 _ xs0=>cases hv with|pv hv=>cases hv;obtain⟨g0,a0,b0,e0⟩:=oF _ xs0;rw[e0];exact⟨_,bZ (by rw[eqGuard_at_func];rfl) (jx rfl (yZ uq _ _ _)),.bool⟩
  ·cases h
 ·split at h
  ·rename_i uq;refine⟨_,fun R' k'=>by simp only[oh,uq],h,fun μ φ w ox oy u v hu hv=>?_⟩;cases hu with|pv hu=>cases hu with| @fn f0 _ xs0=>cases hv with|pv hv=>cases hv;obtain⟨g0,a0,b0,e0⟩:=oF _ xs0;rw[e0];exact⟨_,bZ (by rw[eqGuard_at_func];rfl) (jw rfl (yZ uq _ _ _)),.bool⟩
  ·rename_i uq;refine⟨_,fun R' k'=>by simp only[oh,uq],h,fun μ φ w ox oy u v hu hv=>?_⟩;cases hu with|pv hu=>cases hu with| @fn f0 _ xs0=>cases hv with|pv hv=>cases hv;obtain⟨g0,a0,b0,e0⟩:=oF _ xs0;rw[e0];exact⟨_,bZ (by rw[eqGuard_at_func];rfl) (jx rfl (yZ uq _ _ _)),.bool⟩
  ·cases h
 ·split at h
  ·rename_i uq;refine⟨_,fun R' k'=>by simp only[oh,uq],h,fun μ φ w ox oy u v hu hv=>?_⟩;cases hu with|pv hu=>cases hu;cases hv with|pv hv=>cases hv;exact⟨_,bZ (by rw[eqGuard_at_pointer];rfl) (jw rfl (nT uq _)),.bool⟩
  ·rename_i uq;refine⟨_,fun R' k'=>by simp only[oh,uq],h,fun μ φ w ox oy u v hu hv=>?_⟩;cases hu with|pv hu=>cases hu;cases hv with|pv hv=>cases hv;exact⟨_,bZ (by rw[eqGuard_at_pointer];rfl) (jx rfl (nT uq _)),.bool⟩
  ·cases h
 ·split at h
  ·rename_i uq;refine⟨_,fun R' k'=>by simp only[oh,uq],h,fun μ φ w ox oy u v hu hv=>?_⟩;cases hu with|op hg=>cases hv with|pv hv=>cases hv;exact⟨_,bZ (by rw[eqGuard_at_pointer];rfl) (jw rfl (nT uq _)),.bool⟩
  ·rename_i uq;refine⟨_,fun R' k'=>by simp only[oh,uq],h,fun μ φ w ox oy u v hu hv=>?_⟩;cases hu with|op hg=>cases hv with|pv hv=>cases hv;exact⟨_,bZ (by rw[eqGuard_at_pointer];rfl) (jx rfl (nT uq _)),.bool⟩
  ·cases h
 ·split at h
  ·rename_i uq;refine⟨_,fun R' k'=>by simp only[oh,uq],h,fun μ φ w ox oy u v hu hv=>?_⟩;cases hu with|oe hg=>cases hv with|pv hv=>cases hv;exact⟨_,bZ (by rw[eqGuard_at_pointer];rfl) (jw rfl (nT uq _)),.bool⟩
  ·rename_i uq;refine⟨_,fun R' k'=>by simp only[oh,uq],h,fun μ φ w ox oy u v hu hv=>?_⟩;cases hu with|oe hg=>cases hv with|pv hv=>cases hv;exact⟨_,bZ (by rw[eqGuard_at_pointer];rfl) (jx rfl (nT uq _)),.bool⟩
  ·cases h
 ·rename_i n1 n2 n3 n4 m1 m2 n5 n6 n7;split at h
  ·rename_i ha;split at h
   ·rename_i ks as bs Zg has hbs;split at h
    ·rename_i ps qs qk hqs;split at h
     ·rename_i hc;have hE:LA E.P t=false∧Fq E.P 8 t=some ks:=by
       unfold vS at Zg;split at Zg
       ·cases Zg
       ·rename_i hg;exact⟨by simpa[LA]using hg,Zg⟩
      have key:∀(μ:Ro)(φ:Nat→aH)(w:World)(x y:Value),an E.P μ φ a x→an E.P μ φ b y→∃xs ys,x=.agg xs∧y=.agg ys∧(Op.equalIn 10000 t x y).run E.P w=.ok (bO ps qs) w:=by intro μ φ w x y hx hy;obtain⟨xs,rfl,g1,g2,g3⟩:=(rJ has).2 _ _ _ _ hx;obtain⟨ys,rfl,g4,g5,g6⟩:=(rJ hbs).2 _ _ _ _ hy;obtain⟨l1,l2⟩:=gL qk;obtain⟨l3,l4⟩:=gL hqs;have e1:=wR (P:=E.P) (μ:=μ) (xs:=xs) hc.1 (by omega) (fun i p z hi hz=>by obtain⟨v,hv,hg⟩:=l2 i p hi;exact yn 1 hg (g2 i v z hv hz));have e2:=wR (P:=E.P) (μ:=μ) (xs:=ys) hc.2 (by omega) (fun i p z hi hz=>by obtain⟨v,hv,hg⟩:=l4 i p hi;exact yn 1 hg (g5 i v z hv hz));refine⟨xs,ys,rfl,rfl,?_⟩;have:=sw 8 t ks hE.2 9992 w ps qs hc.1 hc.2;rw[Lz ha,Lz ha,←e1,←e2]at this;exact this
      have al7:∀(R':Type)(k':PV→Option R'),oh E .eql t a b k'=k' (.bool (bO ps qs)):=by
       intro R' k';unfold oh;split
       ·exact(n1 _ _ _ _ rfl rfl).elim
       ·exact(n2 _ _ rfl rfl).elim
       ·exact(n3 _ _ rfl rfl).elim
       ·exact(n4 rfl rfl).elim
       ·exact(m1 _ _ rfl rfl).elim
       ·exact(m2 _ _ rfl rfl).elim
       ·exact(n5 _ rfl rfl).elim
       ·exact(n6 _ _ rfl rfl).elim
       ·exact(n7 _ _ _ rfl rfl).elim
       ·rw[No ha,Zg,has,hbs];simp only[qk,hqs];rw[No hc]
      have al8:∀(R':Type)(k':PV→Option R'),oh E .neq t a b k'=k' (.bool (!(bO ps qs))):=by
       intro R' k';unfold oh;split
       ·exact(n1 _ _ _ _ rfl rfl).elim
       ·exact(n2 _ _ rfl rfl).elim
       ·exact(n3 _ _ rfl rfl).elim
       ·exact(n4 rfl rfl).elim
       ·exact(m1 _ _ rfl rfl).elim
       ·exact(m2 _ _ rfl rfl).elim
       ·exact(n5 _ rfl rfl).elim
       ·exact(n6 _ _ rfl rfl).elim
       ·exact(n7 _ _ _ rfl rfl).elim
       ·rw[No ha,Zg,has,hbs];simp only[qk,hqs];rw[No hc]
      cases op;case eql=>refine⟨_,fun R' k'=>al7 R' k',h,fun μ φ w ox oy x y hx hy=>?_⟩;obtain⟨xs,ys,rfl,rfl,hr⟩:=key μ φ w x y hx hy;exact⟨_,bZ (run_eqGuard_agg w _ _ _ _ _ _ hE.1) (jw rfl hr),.bool⟩
      case neq=>refine⟨_,fun R' k'=>al8 R' k',h,fun μ φ w ox oy x y hx hy=>?_⟩;obtain⟨xs,ys,rfl,rfl,hr⟩:=key μ φ w x y hx hy;exact⟨_,bZ (run_eqGuard_agg w _ _ _ _ _ _ hE.1) (jx rfl hr),.bool⟩
      all_goals (simp only at h;cases h)
     ·cases h
    ·cases h
   ·cases h
  ·cases h
theorem afG{op:UnOp}(h:xun op a k=some r):∃q,(∀(R':Type)(k':PV→Option R'),xun op a k'=k' q)∧k q=some r∧∀(P:Program)(μ:Ro)(φ:Nat→aH)(w:World)(x:Value),an P μ φ a x→∃z,(Op.unary op x).run P w=.ok z w∧aq P μ q z:=by
 unfold xun at h;split at h
 ·refine⟨_,fun R' k'=>rfl,h,fun P μ φ w x hx=>?_⟩;cases hx with|pv hx=>cases hx;exact⟨_,rfl,.bool⟩
 ·refine⟨_,fun R' k'=>rfl,h,fun P μ φ w x hx=>?_⟩;cases hx with|pv hx=>cases hx;exact⟨_,rfl,.int (wf_wrap _ _)⟩
 ·refine⟨_,fun R' k'=>rfl,h,fun P μ φ w x hx=>?_⟩;cases hx with|pv hx=>cases hx;exact⟨_,rfl,.int (wf_wrap _ _)⟩
 ·cases h
theorem adz{k:IntKind}{n:Int}(h:(Lit.int k n).wf=true):k.wrap n=n:=by rw[yX]at h;cases k<;>simp only[IntKind.wrap,IntKind.min,IntKind.max,IntKind.signed,IntKind.bits]at* <;>simp at* <;>(try split)<;>omega
theorem Zh{s d:TypeId}(h:Ih E s d a k=some r):∃q,(∀(R':Type)(k':PV→Option R'),Ih E s d a k'=k' q)∧k q=some r∧∀(μ:Ro)(φ:Nat→aH)(w:World)(x:Value),an E.P μ φ a x→∃z,(convert s d x).run E.P w=.ok z w∧aq E.P μ q z:=by
 unfold Ih at h;split at h
 ·rename_i q q' q'' n hs hd;split at h
  ·rename_i e1;subst e1;split at h
   ·rename_i e2;subst e2;refine⟨_,fun R' k'=>by simp[Ih,hs,hd],h,fun μ φ w x hx=>?_⟩;cases hx with|pv hx=>cases hx with|int hw=>exact⟨_,by simp[convert,run_underlying hs,run_underlying hd,Conv.intToInt,adz hw],.int hw⟩
   ·rename_i e2;refine⟨_,fun R' k'=>by simp[Ih,hs,hd,e2],h,fun μ φ w x hx=>?_⟩;cases hx with|pv hx=>cases hx with|int hw=>exact⟨_,by simp[convert,run_underlying hs,run_underlying hd,Conv.intToInt],.int (wf_wrap _ _)⟩
  ·cases h
 ·rename_i hs hd;refine⟨_,fun R' k'=>by simp[Ih,hs,hd],h,fun μ φ w x hx=>?_⟩;cases hx with|pv hx=>cases hx with|str hl=>exact⟨_,by simp[convert,run_underlying hs,run_underlying hd],.str hl⟩
 ·cases h
theorem Zi{b:V}(h:ON a b k=some r):∃q,(∀(R':Type)(k':PV→Option R'),ON a b k'=k' q)∧k q=some r∧∀(P:Program)(μ:Ro)(φ:Nat→aH)(w:World)(x y:Value),an P μ φ a x→an P μ φ b y→∃z,(Builtin.min2 x y).run P w=.ok z w∧aq P μ q z:=by
 unfold ON at h;split at h
 ·split at h
  ·rename_i e;subst e;refine⟨_,fun R' k'=>by simp[ON],h,fun P μ φ w x y hx hy=>?_⟩;cases hx with|pv hx=>cases hx with|int h1=>cases hy with|pv hy=>cases hy with|int h2=>exact⟨_,rfl,by split<;>exact .int (by assumption)⟩
  ·cases h
 ·cases h
theorem Eu{b:V}(h:GL a b k=some r):∃q,(∀(R':Type)(k':PV→Option R'),GL a b k'=k' q)∧k q=some r∧∀(P:Program)(μ:Ro)(φ:Nat→aH)(w:World)(x y:Value),an P μ φ a x→an P μ φ b y→∃z,(Builtin.max2 x y).run P w=.ok z w∧aq P μ q z:=by
 unfold GL at h;split at h
 ·split at h
  ·rename_i e;subst e;refine⟨_,fun R' k'=>by simp[GL],h,fun P μ φ w x y hx hy=>?_⟩;cases hx with|pv hx=>cases hx with|int h1=>cases hy with|pv hy=>cases hy with|int h2=>exact⟨_,rfl,by split<;>exact .int (by assumption)⟩
  ·cases h
 ·cases h
theorem Zj{b c d:V}(h:OO a b c d k=some r):∃q,(∀(R':Type)(k':PV→Option R'),OO a b c d k'=k' q)∧k q=some r∧∀(P:Program)(μ:Ro)(φ:Nat→aH)(w:World)(x y z u:Value),an P μ φ a x→an P μ φ b y→an P μ φ c z→an P μ φ d u→∃v1 v2 v3,(Builtin.max2 x y).run P w=.ok v1 w∧(Builtin.max2 v1 z).run P w=.ok v2 w∧(Builtin.max2 v2 u).run P w=.ok v3 w∧aq P μ q v3:=by unfold OO at h;obtain⟨q1,a1,h,b1⟩:=Eu h;obtain⟨q2,a2,h,b2⟩:=Eu h;obtain⟨q3,a3,h,b3⟩:=Eu h;refine⟨q3,fun R' k'=>by unfold OO;rw[a1,a2,a3],h,fun P μ φ w x y z u hx hy hz hu=>?_⟩;obtain⟨v1,c1,d1⟩:=b1 P μ φ w x y hx hy;obtain⟨v2,c2,d2⟩:=b2 P μ φ w v1 z (.pv d1) hz;obtain⟨v3,c3,d3⟩:=b3 P μ φ w v2 u (.pv d2) hu;exact⟨v1,v2,v3,c1,c2,c3,d3⟩
end
section
variable {P:Program} {G:Nat→Option (List PV)} {w0:bu} {μ μ':Ro} {φ φ':Nat→aH} {m:Mem} {w w':World}
variable{b:bL}
@[simp] theorem bD(m:Mem)(d:Nat)(b:bL):aw m d b d=some b:=by simp[aw]
theorem av{m:Mem}{d t:Nat}(h:t≠d):aw m d b t=m t:=by simp[aw,cond_eq_ite,h]
@[simp] theorem aeU(m:Mem)(d:Nat):bq m d d=none:=by simp[bq]
theorem gE{m:Mem}{d t:Nat}(h:t≠d):bq m d t=m t:=by simp[bq,cond_eq_ite,h]
@[simp] theorem Dr(f:Fr)(d:Nat)(v:V):gJ f d v d=v:=by simp[gJ]
theorem ur{f:Fr}{d t:Nat}{v:V}(h:t≠d):gJ f d v t=f t:=by simp[gJ,cond_eq_ite,h]
variable{id sz:Nat}{et:TypeId}{es:List PV}
theorem aL.cv(h:aL P μ φ w id sz et es)(hφ:φ' id=φ id)(hμ:∀b o,μ b=some o→μ' b=some o)(hw:∀g,(φ id).g=some g→w'.heap[g]?=w.heap[g]?):aL P μ' φ' w' id sz et es:=by
 obtain⟨a1,a2,a3,a4,a5,a6,a7⟩:=h;unfold aL;rw[hφ];refine⟨a1,a2,a3,a4,a5,a6,?_⟩;cases hg:(φ id).g with
 |none=>rw[hg]at a7;omega
 |some g=>rw[hg]at a7;obtain⟨c,T,c1,c2,c3,c4,c5⟩:=a7;exact⟨c,T,by rw[hw g hg];omega,c2,c3,fun i e j p x h1 h2 h3=>(c4 i e j p x h1 h2 h3).mono hμ,c5⟩
theorem eX.cv{R:GS}{s:Nat}{rs:List PV}{x:Value}(h:eX P μ R w s rs x)(hμ:∀b o,μ b=some o→μ' b=some o)(hw:∀g,R.g=some g→w'.heap[g]?=w.heap[g]?):eX P μ' R w' s rs x:=
 let⟨⟨et,hA⟩,hV⟩:=h
 ⟨⟨et,hA.cv rfl hμ hw⟩,hV.CV hμ⟩
theorem eA.cv{R:GS}{p:PV}{x:Value}(h:eA P μ R w p x)(hμ:∀b o,μ b=some o→μ' b=some o)(hw:p.isRow=true→∀g,R.g=some g→w'.heap[g]?=w.heap[g]?):eA P μ' R w' p x:=by
 unfold eA at*;split at h
 ·exact eX.cv h hμ (hw rfl)
 ·exact h.mono hμ
variable{i j:Nat}
theorem dE{e p:PV}(he:es[i]?=some e)(hp:e.cells[j]?=some p):(bL.nest sz et es).rowAt i j=p.isRow:=by simp[bL.rowAt,he,hp]
theorem bd.cv{id sz:Nat}{et:TypeId}{es:List PV}(h:bd P μ φ w id sz et es)(hφ:φ' id=φ id)(hμ:∀b o,μ b=some o→μ' b=some o)(hw:∀g,(bL.nest sz et es).owns (φ id) g→w'.heap[g]?=w.heap[g]?):bd P μ' φ' w' id sz et es:=by
 obtain⟨a1,a2,a3,a4,a5,a6,a7⟩:=h;unfold bd;rw[hφ];refine⟨a1,a2,a3,a4,a5,a6,?_⟩;cases hg:(φ id).g with
 |none=>rw[hg]at a7;omega
 |some g=>rw[hg]at a7;obtain⟨c,T,c1,c2,c3,c4,c5⟩:=a7;exact⟨c,T,by rw[hw g (.inl hg)];omega,c2,c3,fun i e j p x h1 h2 h3=>(c4 i e j p x h1 h2 h3).cv hμ fun hr g' cL=>hw g' (.inr ⟨i,j,by rw[dE h1 h2];omega,cL⟩),c5⟩
theorem kL{kt e:TypeId}{es:List (PV×PV)}{k v:PV}(he:es[i]?=some (k,v)):(bL.fG kt e es).rowAt i 0=v.isRow:=by simp[bL.rowAt,he]
theorem gM.cv{id:Nat}{b:bL}(h:gM P μ φ w id b)(hn:∀j,b.names j=true→φ' j=φ j)(hφ:φ' id=φ id)(hμ:∀b o,μ b=some o→μ' b=some o)(hw:∀g,b.owns (φ id) g→w'.heap[g]?=w.heap[g]?):gM P μ' φ' w' id b:=by
 cases b with
 |nest sz et es=>exact bd.cv h hφ hμ hw
 |fG kt e0 es=>
  obtain⟨g,en,clock,kk,hg,hh,hs,hk,hc,Ci,hv⟩:=h;refine⟨g,en,clock,kk,by rw[hφ];omega,by rw[hw g (.inl hg)];omega,hs,hk,hc,Ci,fun i k v e h1 h2=>⟨(hv i k v e h1 h2).1.mono hμ,?_⟩⟩;have h3:=(hv i k v e h1 h2).2;rw[hφ];split at h3
  ·exact⟨h3.1.cv rfl hμ fun g' cL=>hw g' (.inr ⟨i,0,by rw[kL h1];rfl,cL⟩),h3.2.CV hμ⟩
  ·exact h3.mono hμ
 |box cs=>obtain⟨g,c,T,hg,hh,hs,hv,h1,KH⟩:=h;exact⟨g,c,T,by rw[hφ];omega,by rw[hw g (.inl hg)];omega,hs,fun i v x hi hx=>(hv i v x hi hx).mono hμ (fun j hj=>hn j (bR (an4 hi) hj)),h1,by rw[hφ];omega⟩
 |arr sz et es=>exact aL.cv h hφ hμ fun g hg=>hw g (.inl hg)
 |sq sz et es=>refine⟨aL.cv h.1 hφ hμ fun g hg=>hw g (.inl hg),fun g hg=>?_⟩;rw[hφ]at hg;have:=h.2 g hg;obtain⟨o,ho⟩:=aop.1 this;rw[hμ _ _ ho];rfl
 |map kt es=>obtain⟨g,en,clock,kk,hg,hh,hs,hk,hc,Ci,hv⟩:=h;exact⟨g,en,clock,kk,by rw[hφ];omega,by rw[hw g (.inl hg)];omega,hs,hk,hc,Ci,fun i k v e h1 h2=>⟨(hv i k v e h1 h2).1.mono hμ,(hv i k v e h1 h2).2.mono hμ⟩⟩
 |iter t es cur=>obtain⟨g,mg,en,clock,seen,hg,hh,Oz,Ci,KH,hv,hcu⟩:=h;exact⟨g,mg,en,clock,seen,by rw[hφ];omega,by rw[hw g (.inl hg)];omega,hμ _ _ Oz,Ci,KH,fun i k v e h1 h2=>⟨(hv i k v e h1 h2).1.mono hμ,(hv i k v e h1 h2).2.mono hμ⟩,fun k v hc=>let⟨i,e,h1,h2,h3,h4⟩:=hcu k v hc;⟨i,e,h1,h2,h3.mono hμ,h4.mono hμ⟩⟩
 |loop st=>obtain⟨g,rc,hg,hh⟩:=h;exact⟨g,rc,by rw[hφ];omega,by rw[hw g (.inl hg)];omega⟩
variable{g:Nat}
theorem eX.HE{R:GS}{s:Nat}{rs:List PV}{x:Value}(h:eX P μ R w s rs x)(hg:R.g=some g):g<w.heap.size:=by obtain⟨⟨et,_,_,_,_,_,_,a7⟩,_⟩:=h;have cL:R.up.g=some g:=hg;grind
theorem kM{off:Nat}(h:b.rowAt i off=true):(∃sz et es e s rs,b=.nest sz et es∧es[i]?=some e∧e.cells[off]?=some (.qg s rs))∨∃kt e0 es k s rs,b=.fG kt e0 es∧off=0∧es[i]?=some (k,.qg s rs):=by
 unfold bL.rowAt at h;split at h
 ·rename_i sz et es i off;split at h
  ·rename_i e he;split at h
   ·rename_i p hp;cases p<;>first|(cases h;done)|skip
    grind
   ·cases h
  ·cases h
 ·rename_i kt e0 es i;split at h
  ·rename_i x hx;obtain⟨k,v⟩:=x;cases v<;>first|(cases h;done)|skip
   grind
  ·cases h
 ·cases h
theorem gM.aiq{off:Nat}(h:gM P μ φ w id b)(hr:b.rowAt i off=true)(hg:((φ id).row i off).g=some g):g<w.heap.size:=by
 rcases kM hr with⟨sz,et,es,e,s,rs,rfl,he,hp⟩|⟨kt,e0,es,k,s,rs,rfl,rfl,he⟩
 ·have hN:bd P μ φ w id sz et es:=h;have hgg:∃g0,(φ id).g=some g0:=by
   cases hq:(φ id).g with
   |some g0=>simp
   |none=>have a7:=hN.2.2.2.2.2.2;simp_all
  obtain⟨g0,Rz⟩:=hgg;obtain⟨c,_,x,_,_,c3,_⟩:=hN.cell Rz he hp;exact eX.HE (show eX P μ _ w s rs x from c3) hg
 ·obtain⟨g0,en,clock,kk,Rz,hh,hs,hk,hc,Ci,hv⟩:=h;have hi:i<en.size:=by grind
  have h3:=(hv i k _ en[i] he (Yh hi)).2;exact eX.HE (P:=P) (μ:=μ) (R:=(φ id).row i 0) (s:=s) (rs:=rs) (x:=en[i].val) ⟨⟨_,h3.1⟩,h3.2⟩ hg
theorem gM.HE(h:gM P μ φ w id b)(hg:b.owns (φ id) g):g<w.heap.size:=by
 rcases hg with hg|⟨i,off,hr,hg⟩
 rotate_left
 ·exact h.aiq hr hg
 have key:∀o,w.heap[g]?=some o→g<w.heap.size:=fun o ho=>(T0.1 ho).1;cases b with
 |nest sz et es=>obtain⟨_,_,_,_,_,_,a7⟩:=h;grind
 |fG kt e0 es=>obtain⟨g',en,clock,kk,cL,hh,_⟩:=h;simp_all
 |box cs=>obtain⟨g',c,T,cL,hh,_⟩:=h;simp_all
 |arr sz et es=>obtain⟨_,_,_,_,_,_,a7⟩:=h;grind
 |sq sz et es=>obtain⟨⟨_,_,_,_,_,_,a7⟩,_⟩:=h;grind
 |map kt es=>obtain⟨g',en,clock,kk,cL,hh,_⟩:=h;simp_all
 |iter t es cur=>obtain⟨g',mg,en,clock,seen,cL,hh,_⟩:=h;simp_all
 |loop st=>obtain⟨g',rc,cL,hh⟩:=h;simp_all
theorem aA.RA(hM:aA P G w0 μ φ m w)(hm:m j=some b)(hn:b.names id=true):(m id).isSome=true:=by
 cases b with
 |box cs=>exact hM.fI j cs id hm hn
 |_=>simp[bL.names]at hn
theorem Co{cs:List V}(h:cp j (cs.map (uf id))=true):cp j cs=true∧j≠id:=by obtain⟨v,hv,hh⟩:=cK.1 h;obtain⟨u,hu,rfl⟩:=aoi.1 hv;grind [AU,bR]
theorem gM.kill{id j:Nat}{b:bL}(h:gM P μ φ w j b):gM P μ φ w j (gK id b):=by
 cases b with
 |box cs=>obtain⟨g,c,T,hg,hh,hs,hv,h1,KH⟩:=h;refine⟨g,c,T,hg,hh,by simpa using hs,fun i v x hi hx=>?_,h1,by simpa using KH⟩;simp only[AT,alj]at hi;obtain⟨u,hu,rfl⟩:=hi;exact(hv i u x hu hx).kill id
 |_=>exact h
theorem y7(id:Nat)(b:bL):(gK id b).rowAt=b.rowAt:=by cases b<;>rfl
variable{p:aH}
theorem fZ:(gK id b).owns p g↔b.owns p g:=by unfold bL.owns;rw[y7]
theorem y8:(gK id b).apart p↔b.apart p:=by unfold bL.apart;rw[y7]
theorem uu(h:∀i off,b.rowAt i off=true→False):b.apart p:=fun i off _ hr=>(h i off hr).elim
theorem lq(h:∀i off,b.rowAt i off=true→False)(ho:b.owns p g):p.g=some g:=by
 rcases ho with h1|⟨i,off,hr,_⟩
 ·omega
 simp_all
theorem IF(h:bK id m j=some b):∃b',m j=some b'∧b=gK id b':=by unfold bK at h;grind
theorem Cp(id:Nat)(b:bL):(gK id b).kh=b.kh:=by cases b<;>rfl
theorem aA.afH(hM:aA P G w0 μ φ m w)(hm:m id=some b)(ho:b.owns (φ id) g):w0.hid g=none:=by
 cases hq:w0.hid g with
 |none=>rfl
 |some o=>exact absurd ho ((hM.hid g o hq).2.2.2 id b hm)
theorem aA.forget(hM:aA P G w0 μ φ m w)(id:Nat):aA P G w0 μ φ (bq (bK id m) id) w:=by
 have key:∀j b,bq (bK id m) id j=some b→j≠id∧∃b',m j=some b'∧b=gK id b':=by
  intro j b h;by_cases e:j=id
  ·subst e;simp at h
  simp_all[gE,IF]
 refine⟨hM.below,hM.ro,hM.az,fun j b h=>?_,fun j b g h hg=>?_,fun i j b1 b2 g h1 h2 g1 g2=>?_,fun j b h=>?_,fun j cs i h hh=>?_,hM.base,hM.dC,fun j st h=>?_,fun g o h=>⟨(hM.hid g o h).1,(hM.hid g o h).2.1,(hM.hid g o h).2.2.1,fun j b hj hg=>by obtain⟨_,b',hb,rfl⟩:=key j b hj;exact(hM.hid g o h).2.2.2 j b' hb (fZ.1 hg)⟩⟩
 rotate_right
 ·obtain⟨_,b',hb,e⟩:=key j _ h;cases b' with
  |loop st'=>simp only[gK,bL.loop.injEq]at e;subst e;exact hM.Ft j st hb
  |_=>simp[gK]at e
 ·obtain⟨_,b',hb,rfl⟩:=key j b h;exact(hM.dB j b' hb).kill
 ·obtain⟨_,b',hb,rfl⟩:=key j b h;rw[Cp];exact hM.own j b' g hb (fZ.1 hg)
 ·obtain⟨_,b1',Rb,rfl⟩:=key i b1 h1;obtain⟨_,b2',td,rfl⟩:=key j b2 h2;exact hM.inj i j b1' b2' g Rb td (fZ.1 g1) (fZ.1 g2)
 ·obtain⟨_,b',hb,rfl⟩:=key j b h;exact y8.2 (hM.apart j b' hb)
 ·obtain⟨_,b',hb,e⟩:=key j _ h;cases b' with
  |box O1=>simp only[gK,bL.box.injEq]at e;subst e;obtain⟨h1,h2⟩:=Co hh;have:=hM.fI j O1 i hb h1;grind [gE,bK]
  |_=>simp[gK]at e
theorem C0(m:Mem)(id:Nat)(b:bL):aw (bq m id) id b=aw m id b:=by
 funext t;by_cases h:t=id
 ·subst h;simp
 simp_all[av,gE]
variable{b':bL}
theorem Ev(yN:∀i off,b'.rowAt i off=true→b.rowAt i off=true)(h:b'.owns p g):b.owns p g:=by
 rcases h with h|⟨i,off,hr,h⟩
 ·exact .inl h
 ·exact .inr ⟨i,off,yN i off hr,h⟩
theorem Ww(yN:∀i off,b'.rowAt i off=true→b.rowAt i off=true)(h:b.apart p):b'.apart p:=fun i off g hr hg=>
 let⟨h1,h2⟩:=h i off g (yN i off hr) hg
 ⟨h1,fun i' yV Fu cL=>h2 i' yV (yN i' yV Fu) cL⟩
theorem aA.Zk(hM:aA P G w0 μ φ m w)(hm:m id=some b)(Zl:b.kh=true)(hg:b.owns (φ id) g)(RB:lh g w w')(TY:w'.heap.size=w.heap.size)(hw:∀k,k≠g→w'.heap[k]?=w.heap[k]?)(hB:gM P μ φ w' id b')(aeV:b'.kh=true)(hn:∀j,b'.names j=true→(m j).isSome=true)(yN:∀i off,b'.rowAt i off=true→b.rowAt i off=true)(hlp:∀st,b'=.loop st→∃rc,(φ id).g=some g∧w0.rc id=some (g,rc)∧w'.heap[g]?=some (.loop (st.obj rc)):=by intro st h;cases h):aA P G w0 μ φ (aw m id b') w':=by
 obtain⟨AQ,hμ⟩:=hM.own id b g hm hg;have hμ:=hμ Zl;refine⟨hM.below.trans (RB.mono AQ),fun k o hk=>?_,hM.az,fun j c hj=>?_,fun j c g' hj cL=>?_,fun i j b1 b2 g' h1 h2 g1 g2=>?_,fun j c hj=>?_,fun j cs i hj hh=>?_,hM.base,hM.dC,fun j st hj=>?_,fun k o h=>⟨(hw k fun e=>(hM.hid k o h).2.2.2 id b hm (e▸hg)).trans (hM.hid k o h).1,(hM.hid k o h).2.1,(hM.hid k o h).2.2.1,fun j c hj cL=>by
  by_cases e:j=id
  ·subst e;rw[bD]at hj;cases hj;exact(hM.hid k o h).2.2.2 j b hm (Ev yN cL)
  ·rw[av e]at hj;exact(hM.hid k o h).2.2.2 j c hj cL⟩⟩
 rotate_right
 ·by_cases e:j=id
  ·simp_all
  ·rw[av e]at hj;obtain⟨g',rc,h1,h2,h3⟩:=hM.Ft j st hj;exact⟨g',rc,h1,h2,by rw[hw g' (fun e'=>by subst e';exact e (hM.inj j id _ b g' hj hm (.inl h1) hg))];omega⟩
 ·have:k≠g:=fun e=>by simp_all
  rw[hw k this];exact hM.ro k o hk
 ·by_cases e:j=id
  ·simp_all
  ·rw[av e]at hj;refine(hM.dB j c hj).cv (fun _ _=>rfl) rfl (fun _ _ h=>h) (fun g' cL=>hw g' (fun e'=>?_));subst e';exact e (hM.inj j id c b g' hj hm cL hg)
 ·by_cases e:j=id
  ·subst e;rw[bD]at hj;simp only[tb]at hj;subst hj;obtain⟨h1,h2⟩:=hM.own j b g' hm (Ev yN cL);simp_all
  ·rw[av e]at hj;exact hM.own j c g' hj cL
 ·have e1:∃c1,m i=some c1∧c1.owns (φ i) g':=by grind [id,bD,Option.some.injEq,Ev,av]
  have e2:∃c2,m j=some c2∧c2.owns (φ j) g':=by grind [id,bD,Option.some.injEq,Ev,av]
  obtain⟨c1,e1,o1⟩:=e1;obtain⟨c2,e2,o2⟩:=e2;exact hM.inj i j c1 c2 g' e1 e2 o1 o2
 ·by_cases e:j=id
  ·subst e;rw[bD]at hj;simp only[tb]at hj;subst hj;exact Ww yN (hM.apart j b hm)
  ·rw[av e]at hj;exact hM.apart j c hj
 ·have:(m i).isSome=true:=by
   by_cases e:j=id
   ·subst e;rw[bD]at hj;simp only[tb]at hj;subst hj;exact hn i hh
   ·rw[av e]at hj;exact hM.fI j cs i hj hh
  by_cases e:i=id
  ·subst e;simp
  ·rw[av e];omega
theorem aA.write(hM:aA P G w0 μ φ m w)(hm:m id=some b)(Zl:b.kh=true)(hg:(φ id).g=some g)(RB:lh g w w')(TY:w'.heap.size=w.heap.size)(hw:∀k,k≠g→w'.heap[k]?=w.heap[k]?)(hB:gM P μ φ w' id b')(aeV:b'.kh=true)(hn:∀j,b'.names j=true→(m j).isSome=true)(hlp:∀st,b'=.loop st→∃rc,w0.rc id=some (g,rc)∧w'.heap[g]?=some (.loop (st.obj rc)):=by intro st h;cases h)(yN:∀i off,b'.rowAt i off=true→b.rowAt i off=true:=by intro i off h;simp[bL.rowAt]at h):aA P G w0 μ φ (aw m id b') w':=hM.Zk hm Zl (.inl hg) RB TY hw hB aeV hn yN fun st h=>let⟨rc,h1,h2⟩:=hlp st h;⟨rc,hg,h1,h2⟩
def qm(μ:Ro)(w:World)(g:Option Nat):Ro:=fun b=>if g=some b then w.heap[b]? else μ b
theorem nc(hM:aA P G w0 μ φ m w)(g:Option Nat):∀b o,μ b=some o→qm μ w g b=some o:=by
 intro b o hb;unfold qm;split
 ·exact hM.ro b o hb
 omega
noncomputable def vX(μ:Ro)(w:World)(S:Nat→Prop):Ro:=fun b=> @ite _ (S b) (Classical.propDecidable _) (w.heap[b]?) (μ b)
theorem uv(hM:aA P G w0 μ φ m w)(S:Nat→Prop):∀b o,μ b=some o→vX μ w S b=some o:=by
 intro b o hb;unfold vX;split
 ·exact hM.ro b o hb
 omega
theorem aA.TZ(hM:aA P G w0 μ φ m w)(hm:m id=some b)(hlp:∀st,b≠.loop st)(hA:aL P (vX μ w (b.owns (φ id))) φ w id sz et es):aA P G w0 (vX μ w (b.owns (φ id))) φ (aw m id (.sq sz et es)) w:=by
 have mono:=uv hM (b.owns (φ id));have T1:∀i off,(bL.sq sz et es).rowAt i off=true→False:=fun i off h=>by simp[bL.rowAt]at h
 refine⟨hM.below,fun k o hb=>?_,fun g cs hg=>(hM.az g cs hg).mono mono,fun j c hj=>?_,fun j c g' hj cL=>?_,fun i j b1 b2 g' h1 h2 g1 g2=>?_,fun j c hj=>?_,fun j cs i hj hh=>?_,fun k o hb bF=>?_,fun b o hb=>mono b o (hM.dC b o hb),fun j st hj=>?_,fun k o h=>⟨(hM.hid k o h).1,(hM.hid k o h).2.1,by
  unfold vX;rw[QU ((hM.hid k o h).2.2.2 id b hm)];exact(hM.hid k o h).2.2.1,fun j c hj cL=>by
  by_cases e:j=id
  ·subst e;rw[bD]at hj;cases hj;refine(hM.hid k o h).2.2.2 j b hm (.inl ?_);rcases cL with cL|⟨i,off,hr,_⟩
   ·exact cL
   ·exact(T1 i off hr).elim
  ·rw[av e]at hj;exact(hM.hid k o h).2.2.2 j c hj cL⟩⟩
 rotate_right
 ·by_cases e:j=id
  ·simp_all
  ·rw[av e]at hj;exact hM.Ft j st hj
 rotate_right
 ·unfold vX at hb;split at hb
  ·rename_i he;have:=(hM.own id b k hm he).1;omega
  ·exact hM.base k o hb bF
 ·unfold vX at hb;split at hb
  ·omega
  ·exact hM.ro k o hb
 ·by_cases e:j=id
  ·subst e;rw[bD]at hj;simp only[tb]at hj;subst hj;refine⟨hA,fun g hg=>?_⟩;have:=gM.HE (b:=.arr sz et es) hA (.inl hg);unfold vX;rw[No (show b.owns (φ j) g from .inl hg)];simp[this]
  ·rw[av e]at hj;exact(hM.dB j c hj).cv (fun _ _=>rfl) rfl mono (fun _ _=>rfl)
 ·by_cases e:j=id
  ·subst e;rw[bD]at hj;simp only[tb]at hj;subst hj;exact⟨(hM.own j b g' hm (.inl (lq T1 cL))).1,by simp[bL.kh]⟩
  ·rw[av e]at hj;obtain⟨h1,h2⟩:=hM.own j c g' hj cL;refine⟨h1,fun Oz=>?_⟩;unfold vX;split
   ·rename_i he;exact absurd (hM.inj j id c _ g' hj hm cL he) e
   ·exact h2 Oz
 ·have e1:∃c1,m i=some c1∧c1.owns (φ i) g':=by
   by_cases e:i=id
   ·subst e;rw[bD]at h1;simp only[tb]at h1;subst h1;exact⟨b,hm,.inl (lq T1 g1)⟩
   simp_all[av]
  have e2:∃c2,m j=some c2∧c2.owns (φ j) g':=by
   by_cases e:j=id
   ·subst e;rw[bD]at h2;simp only[tb]at h2;subst h2;exact⟨b,hm,.inl (lq T1 g2)⟩
   simp_all[av]
  obtain⟨c1,e1,o1⟩:=e1;obtain⟨c2,e2,o2⟩:=e2;exact hM.inj i j c1 c2 g' e1 e2 o1 o2
 ·by_cases e:j=id
  ·simp_all[bD,tb,uu]
  ·rw[av e]at hj;exact hM.apart j c hj
 ·have:(m i).isSome=true:=by
   by_cases e:j=id
   ·simp_all
   ·rw[av e]at hj;exact hM.fI j cs i hj hh
  by_cases e:i=id
  ·subst e;simp
  ·rw[av e];omega
theorem qD:∀i off,(bL.arr sz et es).rowAt i off=true→False:=fun i off h=>by simp[bL.rowAt]at h
theorem aA.freeze(hM:aA P G w0 μ φ m w)(hm:m id=some (.arr sz et es)):aA P G w0 (qm μ w (φ id).g) φ (aw m id (.sq sz et es)) w:=by
 have e:vX μ w ((bL.arr sz et es).owns (φ id))=qm μ w (φ id).g:=by
  funext b;unfold vX qm;by_cases h:(φ id).g=some b
  ·rw[No h,No (show(bL.arr sz et es).owns (φ id) b from .inl h)]
  ·rw[QU h,QU fun ho=>h (lq qD ho)]
 have:=hM.TZ (sz:=sz) (et:=et) (es:=es) hm (fun st h=>by cases h) (aL.cv (hM.dB id _ hm) rfl (uv hM _) (fun _ _=>rfl));rwa[e]at this
theorem aA.T2(hM:aA P G w0 μ φ m w)(hm:m id=some (.nest sz et es)):aA P G w0 (vX μ w ((bL.nest sz et es).owns (φ id))) φ (aw m id (.sq sz et (es.map PV.strip))) w:=by have hN:bd P μ φ w id sz et es:=hM.dB id _ hm;refine hM.TZ hm (fun st h=>by cases h) (hN.strip (uv hM _) fun i off g hr hg=>?_);unfold vX;rw[No (show(bL.nest sz et es).owns (φ id) g from .inr ⟨i,off,hr,hg⟩)]
def cu(μ:Ro)(w w':World):Ro:=fun b=>if b<w.heap.size then μ b else w'.heap[b]?
theorem lr(hM:aA P G w0 μ φ m w)(w':World):∀b o,μ b=some o→cu μ w w' b=some o:=by intro b o hb;have:=(T0.1 (hM.ro b o hb)).1;simp[cu,this,hb]
theorem aA.called(hM:aA P G w0 μ φ m w)(hb:lh w.heap.size w w'):aA P G w0 (cu μ w w') φ m w':=by
 have mono:=lr hM w';refine⟨hM.below.trans (hb.mono hM.below.size),fun b o h=>?_,fun g cs hg=>(hM.az g cs hg).mono mono,fun id b h=>?_,fun id b g h hg=>?_,hM.inj,hM.apart,hM.fI,fun b o h bF=>?_,fun b o hb=>mono b o (hM.dC b o hb),fun j st hj=>?_,fun k o h=>(by obtain⟨h1,h2,h3,h4⟩:=hM.hid k o h;have bF:=(T0.1 h1).1;exact⟨by rw[hb.block k bF];exact h1,h2,by unfold cu;rw[No bF];exact h3,h4⟩)⟩
 rotate_right
 ·obtain⟨g,rc,h1,h2,h3⟩:=hM.Ft j st hj;exact⟨g,rc,h1,h2,by rw[hb.block g (T0.1 h3).1];omega⟩
 rotate_right
 ·have:w0.heap.size≤w.heap.size:=hM.below.size;unfold cu at h;rw[No (by omega)]at h;exact hM.base b o h bF
 ·unfold cu at h;split at h
  ·rename_i bF;rw[hb.block b bF];exact hM.ro b o h
  omega
 ·have hR:=hM.dB id b h;exact hR.cv (fun _ _=>rfl) rfl mono (fun g hg=>hb.block g (hR.HE hg))
 ·obtain⟨h1,h2⟩:=hM.own id b g h hg;refine⟨h1,fun hm=>?_⟩;have:=(hM.dB id b h).HE hg;simp[cu,this,h2 hm]
def nS(μ:Ro)(g:Option Nat):Ro:=fun b=>if g=some b then none else μ b
theorem O2{μ:Ro}{g:Option Nat}{b:Nat}{o:Obj}(h:nS μ g b=some o):μ b=some o:=by simp_all[nS]
theorem Dt(hM:aA P G w0 μ φ m w)(w':World){g:Option Nat}(hg:∀b,g=some b→w.heap.size≤b):∀b o,μ b=some o→nS (cu μ w w') g b=some o:=by intro b o hb;have bF:=(T0.1 (hM.ro b o hb)).1;unfold nS;rw[QU fun e=>by have:=hg b e;omega];exact lr hM w' b o hb
theorem aA.LB(hM:aA P G w0 μ φ m w)(hb:lh w.heap.size w w'){go:Option Nat}(Fv:∀b,go=some b→w.heap.size≤b):aA P G w0 (nS (cu μ w w') go) φ m w':=by
 have mono:=Dt hM w' Fv;have hC:=hM.called hb;refine⟨hC.below,fun b o h=>hC.ro b o (O2 h),fun g cs hg=>(hM.az g cs hg).mono mono,fun id b h=>?_,fun id b g h hg=>?_,hM.inj,hM.apart,hM.fI,fun b o h bF=>hC.base b o (O2 h) bF,fun b o hb=>mono b o (hM.dC b o hb),hC.Ft,fun k o h=>(by obtain⟨h1,h2,h3,h4⟩:=hC.hid k o h;exact⟨h1,h2,by unfold nS;rw[h3];simp,h4⟩)⟩
 ·have hR:=hM.dB id b h;exact hR.cv (fun _ _=>rfl) rfl mono (fun g hg=>hb.block g (hR.HE hg))
 ·obtain⟨h1,h2⟩:=hC.own id b g h hg;refine⟨h1,fun hm=>?_⟩;unfold nS;simp_all
theorem aA.drew(hM:aA P G w0 μ φ m w):aA P G w0 μ φ m w.drew:=⟨hM.below.drew,hM.ro,hM.az,fun id b h=>(hM.dB id b h).cv (fun _ _=>rfl) rfl (fun _ _ h=>h) (fun _ _=>rfl),hM.own,hM.inj,hM.apart,hM.fI,hM.base,hM.dC,hM.Ft,hM.hid⟩
end
end Go.Ab
