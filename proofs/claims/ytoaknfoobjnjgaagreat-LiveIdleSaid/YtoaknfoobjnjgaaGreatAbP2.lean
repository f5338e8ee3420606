import Derived.Test.YtoaknfoobjnjgaaGreatAbP1
import Derived.Laws.StructEq
import Derived.ChangeKeysEq
set_option linter.all false
namespace Go.Ab
open Go.RowKit (Below)
section
variable {P:Program} {G:Nat→Option (List PV)} {w0:bl} {μ:Ro} {φ:Nat→aK} {m:Mem} {w:World}
theorem toCells_ok{n:Nat}{v:V}{cs:List V}(h:toCells n v=some cs):cs.length=n∧(∀id,cq id cs=true→v.has id=true)∧∀(P:Program)(μ:Ro)(φ:Nat→aK)(x:Value),aq P μ φ v x→x.cells.size=n∧(∀(i:Nat)u y,cs[i]?=some u→x.cells[i]?=some y→aq P μ φ u y)∧(∀(i:Nat)(y:Value),x.cells[i]?=some y→y.oneCell'=true):=by
 have one:∀(v:V),(∀(P:Program)(μ:Ro)(φ:Nat→aK)(x:Value),aq P μ φ v x→x.oneCell'=true∧x.cells= #[x])→(if n=1 then some [v]else none)=some cs→cs.length=n∧(∀id,cq id cs=true→v.has id=true)∧∀(P:Program)(μ:Ro)(φ:Nat→aK)(x:Value),aq P μ φ v x→x.cells.size=n∧(∀(i:Nat)u y,cs[i]?=some u→x.cells[i]?=some y→aq P μ φ u y)∧(∀(i:Nat)(y:Value),x.cells[i]?=some y→y.oneCell'=true):=by
  intro v h1 h;split at h
  ·rename_i hn;simp only[tb]at h;subst h;subst hn;refine⟨rfl,fun id hid=>by simpa[cq]using hid,fun P μ φ x hx=>?_⟩;grind
  ·cases h
 have ak6:∀x:Value,x.oneCell'=true→x.cells= #[x]:=by intro x hx;cases x<;>first|rfl|(simp[Value.oneCell']at hx)
 unfold toCells at h;split at h
 ·rename_i ps;split at h
  ·rename_i hn;simp only[tb]at h;subst h;refine⟨by simpa using hn,fun id hid=>(by rw[Sy]at hid;cases hid),fun P μ φ x hx=>?_⟩;cases hx with
   |pv hx=>cases hx with
    |agg h1 h2 h3=>refine⟨by simp only[Value.cells];omega,fun i u y hu hy=>?_,h3⟩;simp only[AT,ae0]at hu;obtain⟨q,hq,rfl⟩:=hu;exact .pv (h2 i q y hq hy)
  ·cases h
 ·split at h
  ·rename_i hn;simp only[tb]at h;subst h;refine⟨hn,fun id hid=>by simpa[V.has]using hid,fun P μ φ x hx=>?_⟩;cases hx with
   |agg h1 h2 h3=>grind [Value.cells]
  ·cases h
 ·cases h
 ·cases h
 ·cases h
 ·cases h
 ·rename_i h1 h2 h3 h4 h5 h6;refine one v (fun P μ φ x hx=>?_) h;have:x.oneCell'=true:=by
   cases hx with
   |pv hp=>exact hp.one (fun cs e=>h1 cs (by rw[e])) (fun cs e=>h5 cs (by rw[e])) (fun e=>h6 (by rw[e]))
   |agg=>exact absurd rfl (h2 _)
   |aV=>exact absurd rfl (h4 _)
   |top=>exact absurd rfl h3
   |fn=>exact JL _ _
   |_=>rfl
  simp_all
theorem wu:∀(d:Nat){v:V}{p:PV}{x:Value},lU dh d v=some p→aq P μ φ v x→au P μ p x
 |0,v,p,x,h,_=>by simp[lU]at h
 |d+1,v,p,x,h,hx=>by
  have ih:=fun{v p x}=> @wu d v p x;cases v with
  |pv q=>simp[lU]at h;subst h;cases hx with|pv hx=>exact hx
  |gy=>simp[lU]at h;subst h;cases hx;exact .lV
  |agg cs=>
   simp only[lU]at h;obtain⟨ps,pS,h⟩:=AI.1 h;simp only[tb]at h;subst h;obtain⟨h1,h2⟩:=gJ pS;cases hx with
   |agg g1 g2 g3=>refine .agg (by omega) (fun i q y hq hy=>?_) g3;obtain⟨u,hu,hg⟩:=h2 i q hq;exact ih hg (g2 i u y hu hy)
  |aV cs=>
   simp only[lU]at h;obtain⟨ps,pS,h⟩:=AI.1 h;simp only[tb]at h;subst h;obtain⟨h1,h2⟩:=gJ pS;cases hx with
   |aV g1 g2=>refine .aV (by omega) (fun i q y hq hy=>?_);obtain⟨u,hu,hg⟩:=h2 i q hq;exact ih hg (g2 i u y hu hy)
  |op id off=>simp[lU,dh]at h
  |oe id i off=>simp[lU,dh]at h
  |os id=>simp[lU,dh]at h
  |fX id lo len=>simp[lU,dh]at h
  |yK id i off=>simp[lU,dh]at h
  |Cv id i off s j off2=>simp[lU]at h
  |om id=>simp[lU,dh]at h
  |fn f cs=>
   simp only[lU]at h;obtain⟨ps,pS,h⟩:=AI.1 h;simp only[tb]at h;subst h;obtain⟨h1,h2⟩:=gJ pS;cases hx with
   |fn g1 g2=>refine .fn (by omega) (fun i q y hq hy=>?_);obtain⟨u,hu,hg⟩:=h2 i q hq;exact ih hg (g2 i u y hu hy)
  |yl id=>simp[lU]at h
  |it id=>simp[lU]at h
  |top=>simp[lU]at h
def kP(w:World):Ro:=fun b=>w.heap[b]?
theorem aG.Al(hM:aG P G w0 μ φ m w):∀b o,μ b=some o→kP w b=some o:=hM.ro
variable{id s:Nat}{et:TypeId}{es:List PV}{ν:Ro}
theorem aP.Lp(hA:aP P μ φ w id s et es){g:Nat}(hg:(φ id).g=some g){lo len:Nat}(hl:lo+len≤es.length){cap:Nat}(su:cap≤(φ id).cap-lo)(hlc:len≤cap)(hν:∀b o,μ b=some o→ν b=some o)(Jh:ν g=w.heap[g]?):au P ν (.rs s ((es.drop lo).take len)) (.slice (some ⟨g,lo*s,none⟩) len cap):=by
 have hle:=hA.q9;obtain⟨a1,a2,a3,a4,a5,a6,a7⟩:=hA;rw[hg]at a7;obtain⟨c,T,c1,c2,c3,c4,c5⟩:=a7;have eE:∀(i:Nat)e,((es.drop lo).take len)[i]?=some e→i<len∧es[lo+i]?=some e:=fun i e hi=>qz hi;have hlen:((es.drop lo).take len).length=len:=by simp;omega
 have hb:∀(i:Nat)e(j:Nat)p,((es.drop lo).take len)[i]?=some e→e.cells[j]?=some p→(lo+i)*s+j<es.length*s:=by intro i e j p hi hj;obtain⟨_,hi⟩:=eE i e hi;have h1:=(IN.1 hi).1;have h2:=(IN.1 hj).1;have h3:=a5 _ e hi;have:(lo+i+1)*s≤es.length*s:=amt _ (by omega);grind
 have hc:∀(i:Nat)e(j:Nat)p,((es.drop lo).take len)[i]?=some e→e.cells[j]?=some p→c[(lo+i)*s+j]?=some (c.getD ((lo+i)*s+j) undef):=by
  intro i e j p hi hj;obtain⟨_,hi⟩:=eE i e hi;have h1:=(IN.1 hi).1;have h2:=(IN.1 hj).1;have h3:=a5 _ e hi;have:(lo+i+1)*s≤(φ id).cap*s:=amt _ (by omega);rw[aoo _ 1]at this;have bK:(lo+i)*s+j<c.size:=by omega
  simp_all
 have:=au.rs (P:=P) (μ:=ν) (sz:=s) (es:=(es.drop lo).take len) (b:=g) (o:=lo*s) (cap:=cap) (fun i j=>c.getD ((lo+i)*s+j) undef) (by omega) (by omega) (fun i e hi=>a5 _ e (eE i e hi).2) (fun i e j p hi hj=>by grind [cellAt,Nat.add_mul]) (fun i e j p hi hj=>((c4 _ e j p _ (eE i e hi).2 hj (hc i e j p hi hj)).mono hν)) (fun i e j p hi hj=>c5 _ _ (hb i e j p hi hj) (hc i e j p hi hj));simp_all
theorem aP.slice(hM:aG P G w0 μ φ m w)(hA:aP P μ φ w id s et es){g:Nat}(hg:(φ id).g=some g){lo len:Nat}(hl:lo+len≤es.length)(hν:∀b o,μ b=some o→ν b=some o)(Jh:ν g=w.heap[g]?):au P ν (.rs s ((es.drop lo).take len)) (.slice (some ⟨g,lo*s,none⟩) len ((φ id).cap-lo)):=hA.Lp hg hl (anz _) (by have:=hA.q9;omega) hν Jh
variable{x:Value}
theorem aP.JV(hA:aP P μ φ w id s et es)(hx:aq P μ φ (.os id) x)(hν:∀b o,μ b=some o→ν b=some o)(Jh:∀g,(φ id).g=some g→ν g=w.heap[g]?):au P ν (.rs s es) x:=by
 have AN:=hA;obtain⟨a1,a2,a3,a4,a5,a6,a7⟩:=hA;cases hx with
 |ux hg=>rw[hg]at a7;rw[a7.1];exact .lV
 | @os _ g hg=>have hle:=AN.q9;have:=AN.Lp hg (lo:=0) (len:=es.length) (by omega) (cap:=(φ id).cap) (by omega) hle.1 hν (Jh g hg);simp_all
theorem aP.full(hM:aG P G w0 μ φ m w)(hA:aP P μ φ w id s et es)(hx:aq P μ φ (.os id) x)(hν:∀b o,μ b=some o→ν b=some o)(Jh:∀g,(φ id).g=some g→ν g=w.heap[g]?):au P ν (.rs s es) x:=hA.JV hx hν Jh
theorem fb.full{R:EX}{rs:List PV}(h:fb P μ R w s rs x)(hν:∀b o,μ b=some o→ν b=some o)(Jh:∀g,R.g=some g→ν g=w.heap[g]?):au P ν (.rs s rs) x:=by obtain⟨⟨et,hA⟩,hV⟩:=h;exact hA.JV hV hν Jh
theorem E3(e:PV):e.strip.cells=e.cells.map PV.pW:=by cases e<;>rfl
theorem bg.strip{sz:Nat}(h:bg P μ φ w id sz et es)(hν:∀b o,μ b=some o→ν b=some o)(Jh:∀i off g,(bI.nest sz et es).rowAt i off=true→((φ id).row i off).g=some g→ν g=w.heap[g]?):aP P ν φ w id sz et (es.map PV.strip):=by
 obtain⟨a1,a2,a3,a4,a5,a6,a7⟩:=h;refine⟨by simpa using a1,a2,a3,a4,fun i e he=>?_,a6,?_⟩
 ·rw[AT,ae0]at he;obtain⟨e0,h0,rfl⟩:=he;grind [E3,List.length_map]
 ·cases hg:(φ id).g with
  |none=>simp_all
  |some g=>
   rw[hg]at a7;obtain⟨c,T,c1,c2,c3,c4,c5⟩:=a7;refine⟨c,T,c1,c2,by simpa using c3,fun i e j p x he hp hx=>?_,fun i x hi hx=>c5 i x (by simpa using hi) hx⟩;rw[AT,ae0]at he;obtain⟨e0,h0,rfl⟩:=he;rw[E3,AT,ae0]at hp;obtain⟨p0,JT,rfl⟩:=hp;have hc:=c4 i e0 j p0 x h0 JT hx;cases hr:p0.isRow with
   |false=>
    have:p0.pW=p0:=by cases p0<;>first|rfl|cases hr
    rw[this];exact(hc.Sx hr).mono hν
   |true=>
    cases p0<;>first|(cases hr;done)|skip
    rename_i s rs;exact fb.full (show fb P μ _ w s rs x from hc) hν fun g' cV=>Jh i j g' (by simp[bI.rowAt,h0,JT,PV.isRow]) cV
theorem UD{g o:Nat}{c:Array Value}{T:TypeId}{fz:Nat×Nat}{y:Value}(hν:ν g=w.heap[g]?)(h:w.heap[g]?=some (.cells c T fz))(hy:c[o]?=some y):cellAt ν g o=some y:=by simp[cellAt,hν,h,hy]
theorem wk(hM:aG P G w0 μ φ m w){ν:Ro}(ro:∀b o,μ b=some o→ν b=some o)(own:∀id b g,m id=some b→b.owns (φ id) g→ν g=w.heap[g]?):∀(d:Nat){v:V}{p:PV}{x:Value},lU m d v=some p→aq P μ φ v x→au P ν p x
 |0,v,p,x,h,_=>by simp[lU]at h
 |d+1,v,p,x,h,hx=>by
  have ih:=fun{v p x}=> @wk hM ν ro own d v p x;cases v with
  |pv q=>simp[lU]at h;subst h;cases hx with|pv hx=>exact hx.mono ro
  |gy=>simp[lU]at h;subst h;cases hx;exact .lV
  |agg cs=>
   simp only[lU]at h;obtain⟨ps,pS,h⟩:=AI.1 h;simp only[tb]at h;subst h;obtain⟨h1,h2⟩:=gJ pS;cases hx with
   |agg g1 g2 g3=>refine .agg (by omega) (fun i q y hq hy=>?_) g3;grind
  |aV cs=>
   simp only[lU]at h;obtain⟨ps,pS,h⟩:=AI.1 h;simp only[tb]at h;subst h;obtain⟨h1,h2⟩:=gJ pS;cases hx with
   |aV g1 g2=>refine .aV (by omega) (fun i q y hq hy=>?_);grind
  |op id off=>
   simp only[lU]at h;split at h
   ·rename_i cs hm;obtain⟨ps,pS,h⟩:=AI.1 h;simp only[tb]at h;subst h;obtain⟨h1,h2⟩:=gJ pS;obtain⟨g,c,T,hg,hh,hs,hv,wq,Jf⟩:=hM.dF id _ hm;cases hx with
    |op cV=>
     rw[hg]at cV;simp only[tb]at cV;subst cV;have eE:∀(i:Nat)p,ps[i]?=some p→c[off+i]?=some (c.getD (off+i) undef):=by
      intro i p hi;have:=(IN.1 hi).1;rw[h1]at this;simp at this;have bK:off+i<c.size:=by omega
      simp_all
     refine .rp (fun i=>c.getD (off+i) undef) (fun i p hi=>UD (own _ _ _ hm (.inl hg)) hh (eE i p hi)) (fun i p hi=>?_) (fun i hi=>?_)
     ·grind
     ·exact wq _ _ (eE i _ (ta hi))
   ·cases h
  |oe id i off=>
   have key:∀(s:Nat)(et:TypeId)(es:List PV),(m id=some (.arr s et es)∨m id=some (.rE s et es))→((es[i]?).bind fun e=>some (PV.rp ((aM s e).drop off)))=some p→au P ν p x:=by
    intro s et es hm h;obtain⟨e,he,h⟩:=AI.1 h;simp only[tb]at h;subst h;have hA:=hM.arr hm;have AN:=hA;have afd:∀g,(φ id).g=some g→ν g=w.heap[g]?:=fun g hg=>by rcases hm with hm|hm<;>exact own _ _ _ hm (.inl hg)
    obtain⟨a1,a2,a3,a4,a5,a6,a7⟩:=hA;cases hx with
    | @oe _ _ _ g hg=>
     rw[a2];have I5:=AN.slice hM hg (lo:=0) (len:=es.length) (by omega) ro (afd _ hg);have ak7:au P ν (.rs s es) (.slice (some ⟨g,0,none⟩) es.length (φ id).cap):=by simpa using I5
     obtain⟨b,o,cap,e1,hr⟩:=ak7.Sz he;simp only[Value.slice.injEq,tb,Addr.mk.injEq]at e1;obtain⟨⟨rfl,rfl,_⟩,_⟩:=e1;have:=hr.Ll off;simpa using this
   grind [lU]
  |os id=>
   simp only[lU]at h;split at h
   ·rename_i s et es hm;simp only[tb]at h;subst h;exact(hM.arr (.inl hm)).full hM hx ro (fun g hg=>own _ _ _ hm (.inl hg))
   ·rename_i s et es hm;simp only[tb]at h;subst h;exact(hM.arr (.inr hm)).full hM hx ro (fun g hg=>own _ _ _ hm (.inl hg))
   ·rename_i s et es hm;simp only[tb]at h;subst h;have hN:bg P μ φ w id s et es:=hM.dF id _ hm;exact(hN.strip ro fun i off g hr hg=>own _ _ _ hm (.inr ⟨i,off,hr,hg⟩)).JV (hx.A3 ro) (fun _ _ h=>h) fun g hg=>own _ _ _ hm (.inl hg)
   ·cases h
  |Cv id i off s j off2=>simp[lU]at h
  |yK id i off=>
   simp only[lU]at h;split at h
   ·rename_i s et es hm;obtain⟨e,he,h⟩:=AI.1 h;unfold acz at h;split at h
    ·rename_i s' rs hc;simp only[tb]at h;subst h;have hN:bg P μ φ w id s et es:=hM.dF id _ hm;obtain⟨_,_,_,_,⟨⟨I4,hA⟩,_⟩,Xr⟩:=hN.row (s:=s') (rs:=rs) he (by rw[hc];simp[bW]);exact hA.JV (hx.Qx (ν:=μ)) ro fun g hg=>own _ _ _ hm (.inr ⟨i,off,by simp[bI.rowAt,he,Xr,PV.isRow],hg⟩)
    ·cases h
   ·cases h
  |fX id lo len=>
   have key:∀(s:Nat)(et:TypeId)(es:List PV),(m id=some (.arr s et es)∨m id=some (.rE s et es))→au P ν (.rs s ((es.drop lo).take len)) x:=by
    intro s et es hm;have hA:=hM.arr hm;have AN:=hA;have afd:∀g,(φ id).g=some g→ν g=w.heap[g]?:=fun g hg=>by rcases hm with hm|hm<;>exact own _ _ _ hm (.inl hg)
    have hle:=hA.q9;obtain⟨a1,a2,a3,a4,a5,a6,a7⟩:=hA;cases hx with
    |sX hg=>simp;exact .lV
    | @fX _ _ _ cap g a hg hl ha hc1 Na=>
     rw[a1]at hl;rcases ha with rfl|⟨ha,_⟩
     ·rw[a2];exact AN.Lp hg hl (by omega) hc1 ro (afd _ hg)
     ·have h0:len=0:=by omega
      subst h0;simp only[apy];exact .M9 (by omega)
   grind [lU,Option.some.injEq]
  |om id=>
   simp only[lU]at h;split at h
   ·rename_i kt es hm;simp only[tb]at h;subst h;obtain⟨g,en,clock,kk,hg,hh,hs,hk,Qf,_,hv⟩:=hM.dF id _ hm;cases hx with
    |om cV=>
     rw[hg]at cV;simp only[tb]at cV;subst cV;refine .rm (show ν g=_ from(own _ _ _ hm (.inl hg)).trans hh) (by simp[hs]) (by simp) hk (fun i k hi=>?_) (fun i k e hi he=>?_) (fun i v e hi he=>?_)
     ·grind
     ·simp only[AT,ae0]at hi;obtain⟨⟨a,b⟩,hq,rfl⟩:=hi;exact(hv i a b e hq he).1.mono ro
     ·simp only[AT,ae0]at hi;obtain⟨⟨a,b⟩,hq,rfl⟩:=hi;exact(hv i a b e hq he).2.mono ro
   ·rename_i kt e0 es hm;simp only[tb]at h;subst h;obtain⟨g,en,clock,kk,hg,hh,hs,hk,Qf,_,hv⟩:=hM.dF id _ hm;cases hx with
    |om cV=>
     rw[hg]at cV;simp only[tb]at cV;subst cV;refine .rm (show ν g=_ from(own _ _ _ hm (.inl hg)).trans hh) (by simp[hs]) (by simp) hk (fun i k hi=>?_) (fun i k e hi he=>?_) (fun i v e hi he=>?_)
     ·grind
     ·simp only[AT,ae0]at hi;obtain⟨⟨a,b⟩,hq,rfl⟩:=hi;exact(hv i a b e hq he).1.mono ro
     ·simp only[AT,ae0]at hi;obtain⟨⟨a,b⟩,hq,rfl⟩:=hi;have h2:=(hv i a b e hq he).2;cases hr:b.isRow with
      |false=>
       have e1:b.pW=b:=by cases b<;>first|rfl|cases hr
       simp only[e1];split at h2
       ·cases hr
       ·exact h2.mono ro
      |true=>
       cases b<;>first|(cases hr;done)|skip
       exact h2.1.JV h2.2 ro fun g' cV=>own _ _ _ hm (.inr ⟨i,0,by simp[bI.rowAt,hq,PV.isRow],cV⟩)
   ·cases h
  |fn f cs=>
   simp only[lU]at h;obtain⟨ps,pS,h⟩:=AI.1 h;simp only[tb]at h;subst h;obtain⟨h1,h2⟩:=gJ pS;cases hx with
   |fn g1 g2=>refine .fn (by omega) (fun i q y hq hy=>?_);grind
  |yl id=>simp[lU]at h
  |it id=>simp[lU]at h
  |top=>simp[lU]at h
end
section
variable {P:Program} {w:World}
def valOf:PV→Value
 |.int k n=>.int k n
 |.bool b=>.bool b
 |.str s=>.string ⟨s.toArray⟩
 |_=>undef
def fe(P:Program)(t:TypeId)(ps:List PV):Value:=if aJ P t then .agg (ps.map valOf).toArray else valOf (ps.headD .bad)
theorem JW{μ:Ro}{k:Kd}{p:PV}{y:Value}(h:we k p=true)(hy:au P μ p y):y=valOf p:=by cases k<;>cases p<;>simp[we]at h<;>cases hy<;>rfl
theorem sw:∀{ks:List Kd}{ps:List PV},ju ks ps=true→ps.length=ks.length
 |[],[],_=>rfl
 |[],_::_,h=>by simp[ju]at h
 |_::_,[],h=>by simp[ju]at h
 |k::ks,p::ps,h=>by simp[ju]at h;simp[sw h.2]
theorem SA:∀{ks:List Kd}{ps:List PV},ju ks ps=true→∀(i:Nat)p,ps[i]?=some p→∃k,ks[i]?=some k∧we k p=true
 |[],[],_,i,p,hi=>by simp at hi
 |[],_::_,h,_,_,_=>by simp[ju]at h
 |_::_,[],h,_,_,_=>by simp[ju]at h
 |k::ks,q::ps,h,i,p,hi=>by
  simp[ju]at h;cases i with
  |zero=>simp at hi;subst hi;exact⟨k,by simp,h.1⟩
  |succ i=>simp at hi;simpa using SA h.2 i p hi
theorem sZ:∀(a b:List Kd)(ps:List PV),ju (a++b) ps=true↔ju a (ps.take a.length)=true∧ju b (ps.drop a.length)=true
 |[],b,ps=>by simp[ju]
 |k::a,b,[]=>by simp[ju]
 |k::a,b,p::ps=>by simp[ju,sZ,OF,apP]
theorem yV:∀(n:Nat)(ps qs:List PV),n≤ps.length→n≤qs.length→bR ps qs=(bR (ps.take n) (qs.take n)&&bR (ps.drop n) (qs.drop n))
 |0,ps,qs,_,_=>by rfl
 |n+1,[],_,h,_=>by simp at h
 |n+1,_::_,[],_,h=>by rfl
 |n+1,p::ps,q::qs,h1,h2=>by simp only[alx,Nat.add_le_add_iff_right]at h1 h2;simp only[bR,List.take_succ_cons,List.drop_succ_cons,yV n ps qs h1 h2,Bool.and_assoc]
variable{ks:List Kd}{ps:List PV}
theorem vn{μ:Ro}{xs:Array Value}(hk:ju ks ps=true)(hl:xs.size=ps.length)(hv:∀(i:Nat)p y,ps[i]?=some p→xs[i]?=some y→au P μ p y):xs=(ps.map valOf).toArray:=by
 apply ao7;apply anX;intro i;by_cases hi:i<ps.length
 ·have h1:ps[i]?=some ps[i]:=ta hi;grind [Array.getElem?_eq_getElem,SA,JW]
 ·simp[hi,hl]
theorem A7(a:List Kd):∀n,(sR a n).length=n*a.length
 |0=>by simp[sR]
 |n+1=>by simp[sR,A7 a n,aoo];omega
theorem oz{k:Kd}(h:ju [k] ps=true):∃p,ps=[p]∧we k p=true:=by
 cases ps with
 |nil=>simp[ju]at h
 |cons p r=>cases r with
  |nil=>exact⟨p,rfl,by simpa[ju]using h⟩
  |cons q r=>simp[ju]at h
theorem Am{d:Nat}{t:TypeId}(h:DK P d t=some ks):(aJ P t=true→ks.length=aW P t)∧(aJ P t=false→ks.length=1)∧∃de,P.underlying t=some de:=by
 cases d with
 |zero=>simp[DK]at h
 |succ d=>
  unfold DK at h;split at h
  ·grind [aJ]
  ·grind [aJ]
  ·grind [aJ]
  ·rename_i fs hu;split at h
   ·cases h
   ·obtain⟨a,ha,h⟩:=AI.1 h;grind [aJ]
  ·rename_i n e hu;obtain⟨a,ha,h⟩:=AI.1 h;grind [aJ,A7]
  ·cases h
theorem lx{d:Nat}{t:TypeId}{off:Nat}(h:DK P d t=some ks)(hl:off+ks.length≤ps.length):(part t (ps.map valOf).toArray off).run P w=.ok (fe P t ((ps.drop off).take ks.length)) w:=by
 obtain⟨h1,h2,de,hu⟩:=Am h;cases ha:aJ P t with
 |true=>rw[CH ha];congr 1;simp only[fe,ha,IS];simp_all
 |false=>
  have hk:=h2 ha;rw[hk]at hl⊢;have bK:off<ps.length:=by omega
  rw[CI hu ha (y:=valOf ps[off]) (by simp[bK])];congr 1;simp only[fe,ha,tc,PS];rw[aoj bK];rfl
theorem rH:∀(d:Nat)(t:TypeId)(ks:List Kd),DK P d t=some ks→∀(D:Nat)(w:World)(ps qs:List PV),ju ks ps=true→ju ks qs=true→(Op.equalIn (D+d) t (fe P t ps) (fe P t qs)).run P w=.ok (bR ps qs) w
 |0,t,ks,h,_,_,_,_,_,_=>by simp[DK]at h
 |d+1,t,ks,h,D,w,ps,qs,hp,hq=>by
  have ih:=rH d;have h0:=h;unfold DK at h;split at h
  ·rename_i q hu;simp only[tb]at h;subst h;have ha:aJ P t=false:=by simp[aJ,hu]
   obtain⟨p,rfl,hkp⟩:=oz hp;obtain⟨q',rfl,hkq⟩:=oz hq;clear hp hq;cases p<;>simp[we]at hkp;cases q'<;>simp[we]at hkq;subst hkp;subst hkq;simp[fe,ha,valOf,bR,peq,←aol,Op.equalIn,run_underlying hu]
  ·rename_i hu;simp only[tb]at h;subst h;have ha:aJ P t=false:=by simp[aJ,hu]
   obtain⟨p,rfl,hkp⟩:=oz hp;obtain⟨q',rfl,hkq⟩:=oz hq;clear hp hq;cases p<;>simp[we]at hkp;cases q'<;>simp[we]at hkq;simp[fe,ha,valOf,bR,peq,←aol,Op.equalIn,run_underlying hu]
  ·rename_i hu;simp only[tb]at h;subst h;have ha:aJ P t=false:=by simp[aJ,hu]
   obtain⟨p,rfl,hkp⟩:=oz hp;obtain⟨q',rfl,hkq⟩:=oz hq;clear hp hq;cases p<;>simp[we]at hkp;cases q'<;>simp[we]at hkq;simp only[fe,ha,valOf,bR,peq,←aol,tc,PS,List.headD_cons,apd];simp_all[run_equalIn_string,ByteArray.toList_eq]
  ·rename_i fs hu;split at h
   ·cases h
   ·rename_i gw;obtain⟨a,ha,h⟩:=AI.1 h;split at h
    ·rename_i hlen;simp only[tb]at h;subst h;have Xs:aJ P t=true:=by simp[aJ,hu]
     have hfo:P.fieldsOf t=fs:=by simp[Program.fieldsOf,hu]
     simp only[fe,Xs,IS,←aol];rw[run_equalIn_struct w (D+d) t _ _ (by rw[hfo];omega) (by simpa using gw),hfo];have key:∀(L:List Field)(off:Nat)(b:List Kd)(w:World),sQ (DK P d) L off=some b→off≤ps.length→off≤qs.length→ju b (ps.drop off)=true→ju b (qs.drop off)=true→(Op.eqFields (D+d) (ps.map valOf).toArray (qs.map valOf).toArray L).run P w=.ok (bR (ps.drop off) (qs.drop off)) w:=by
      intro L;induction L with
      |nil=>
       intro off b w hb o1 o2 h1 h2;simp only[sQ,tb]at hb;subst hb;have e1:ps.drop off=[]:=by cases hh:ps.drop off with|nil=>rfl|cons x r=>rw[hh]at h1;simp[ju]at h1
       have e2:qs.drop off=[]:=by cases hh:qs.drop off with|nil=>rfl|cons x r=>rw[hh]at h2;simp[ju]at h2
       simp[Op.eqFields,e1,e2,bR]
      |cons f L ihL=>
       intro off b w hb o1 o2 h1 h2;simp only[sQ]at hb;split at hb
       ·rename_i hf;obtain⟨c,hc,hb⟩:=AI.1 hb;obtain⟨b',j4,hb⟩:=AI.1 hb;simp only[tb]at hb;subst hb;rw[sZ]at h1 h2;have l1:=sw h1.1;have l2:=sw h2.1;simp only[an9,ape]at l1 l2;have p1:=lx (w:=w) (ps:=ps) (off:=off) hc (by omega);have p2:=lx (w:=w) (ps:=qs) (off:=off) hc (by omega);have p3:=ih f.type c hc D w _ _ h1.1 h2.1;have p4:=ihL (off+c.length) b' w j4 (by omega) (by omega) (by simp_all) (by simp_all);simp only[Op.eqFields,hf.2,aqP,not_false_eq_true,IS,Sem.run_bind,hf.1,p1,p2,p3,Result.andThen_ok];rw[yV c.length (ps.drop off) (qs.drop off) (by simp;omega) (by simp;omega),ao1,ao1];cases hr:bR ((ps.drop off).take c.length) ((qs.drop off).take c.length)with
        |false=>simp
        |true=>simpa using p4
       ·cases hb
     grind
    ·cases h
  ·rename_i n e hu;obtain⟨a,ha,h⟩:=AI.1 h;split at h
   ·rename_i hlen;simp only[tb]at h;subst h;have Xs:aJ P t=true:=by simp[aJ,hu]
    obtain⟨_,_,de,hde⟩:=Am ha;obtain⟨i,hi⟩:∃i,P.info? e=some i:=by unfold Program.underlying at hde;grind
    have n9:P.cellsOf e=a.length:=hlen.1.symm;simp only[fe,Xs,IS,←aol];rw[run_equalIn_array w (D+d) _ _ hu hi,n9];have key:∀(k j:Nat)(w:World),j+k=n→j*a.length≤ps.length→j*a.length≤qs.length→ju (sR a k) (ps.drop (j*a.length))=true→ju (sR a k) (qs.drop (j*a.length))=true→(Op.eqItems (D+d) e a.length (ps.map valOf).toArray (qs.map valOf).toArray (List.range' j k)).run P w=.ok (bR (ps.drop (j*a.length)) (qs.drop (j*a.length))) w:=by
     intro k;induction k with
     |zero=>
      intro j w _ _ _ h1 h2;simp only[sR]at h1 h2;have e1:ps.drop (j*a.length)=[]:=by cases hh:ps.drop (j*a.length)with|nil=>rfl|cons x r=>rw[hh]at h1;simp[ju]at h1
      have e2:qs.drop (j*a.length)=[]:=by cases hh:qs.drop (j*a.length)with|nil=>rfl|cons x r=>rw[hh]at h2;simp[ju]at h2
      simp[Op.eqItems,e1,e2,bR]
     |succ k ihk=>
      intro j w hj o1 o2 h1 h2;simp only[sR]at h1 h2;rw[sZ]at h1 h2;have l1:=sw h1.1;have l2:=sw h2.1;simp only[an9,ape]at l1 l2;have p1:=lx (w:=w) (ps:=ps) (off:=j*a.length) ha (by omega);have p2:=lx (w:=w) (ps:=qs) (off:=j*a.length) ha (by omega);have p3:=ih e a ha D w _ _ h1.1 h2.1;have ej:(j+1)*a.length=j*a.length+a.length:=by rw[aoo];omega
      have p4:=ihk (j+1) w (by omega) (by omega) (by omega) (by simp_all) (by simp_all);rw[apA];simp only[Op.eqItems,Sem.run_bind,p1,p2,p3,Result.andThen_ok];rw[yV a.length (ps.drop (j*a.length)) (qs.drop (j*a.length)) (by simp;omega) (by simp;omega),ao1,ao1,←ej];cases hr:bR ((ps.drop (j*a.length)).take a.length) ((qs.drop (j*a.length)).take a.length)with
      |false=>simp
      |true=>simpa using p4
    simp_all[apv]
   ·cases h
  ·cases h
end
section
variable {R:Type} {E:Env}
theorem acL{k:IntKind}{x y:Int}(hx:(Lit.int k x).wf=true):(Lit.int k (x.tmod y)).wf=true:=by
 rw[xl]at*;have h0:k.min≤0∧0≤k.max:=by grind [IntKind.min,IntKind.max,IntKind.signed,IntKind.bits]
 rcases Int.le_total 0 x with h|h
 ·have h1:=Int.tmod_nonneg y h;have h2:x.tmod y≤x:=by have:=Int.natAbs_tmod x y;have h3:x.natAbs%y.natAbs≤x.natAbs:=Nat.mod_le _ _;omega
  omega
 ·have h1:x.tmod y= -((-x).tmod y):=by simp
  have h2:=Int.tmod_nonneg y (show 0≤-x by omega);have h3:(-x).tmod y≤-x:=by have:=Int.natAbs_tmod (-x) y;have h3:(-x).natAbs%y.natAbs≤(-x).natAbs:=Nat.mod_le _ _;omega
  omega
theorem acM{k:IntKind}{x:Int}(n:Nat)(hx:(Lit.int k x).wf=true):(Lit.int k (x.fdiv (2^n))).wf=true:=by
 rw[xl]at*;have h0:k.min≤0∧0≤k.max:=by grind [IntKind.min,IntKind.max,IntKind.signed,IntKind.bits]
 have hp:(0:Int)<2^n:=Int.pow_pos (by omega);rw[ap4 _ (by omega)];rcases Int.le_total 0 x with h|h
 ·have h1:=aqy h (Int.le_of_lt hp);have h2:=Int.ediv_le_self (2^n) h;omega
 ·have h1:x/2^n≤0:=Int.ediv_nonpos_of_nonpos_of_neg h hp;have h2:x≤x/2^n:=by rw[Int.le_ediv_iff_mul_le hp];have:x*2^n≤x*1:=Int.mul_le_mul_of_nonpos_left h (by omega);omega
  omega
variable{P:Program}{t:TypeId}
theorem JX{ps:List PV}(ha:aJ P t=true):fe P t ps=.agg (ps.map valOf).toArray:=by simp[fe,ha]
def JY(P:Program)(t:TypeId):Bool:=P.eqGuardType P.depth t
def vo(op:BinOp)(t:TypeId)(ox oy:Operand)(x y:Value):Sem Value:=do eqGuard op t ox oy x y;binOp op t x y
variable{x y:Value}{w:World}
theorem jC{b:Bool}(hb:binOp .eql t x y=(do pure (.bool (←Op.equal t x y))))(h:(Op.equalIn 10000 t x y).run P w=.ok b w):(binOp .eql t x y).run P w=.ok (.bool b) w:=by simp_all[Op.equal,Op.maxDepth,Sem.run_bind,Result.andThen_ok,Sem.run_pure]
theorem jD{b:Bool}(hb:binOp .neq t x y=(do pure (.bool (!(←Op.equal t x y)))))(h:(Op.equalIn 10000 t x y).run P w=.ok b w):(binOp .neq t x y).run P w=.ok (.bool (!b)) w:=by simp_all[Op.equal,Op.maxDepth,Sem.run_bind,Result.andThen_ok,Sem.run_pure]
theorem bZ{op:BinOp}{ox oy:Operand}{z:Value}(h1:(eqGuard op t ox oy x y).run P w=.ok () w)(h2:(binOp op t x y).run P w=.ok z w):(vo op t ox oy x y).run P w=.ok z w:=by simp_all[vo,Sem.run_bind,Result.andThen_ok]
theorem nK{e:TypeId}(hu:P.underlying t=some (.pointer e))(a:Option Addr):(Op.equalIn 10000 t (.pointer a) (.pointer none)).run P w=.ok a.isNone w:=by show(Op.equalIn (9999+1) t (.pointer a) (.pointer none)).run P w=.ok a.isNone w;cases a<;>(unfold Op.equalIn;simp only[Sem.run_bind,run_underlying hu,Result.andThen_ok];rfl)
theorem xn{a b:Array TypeId}{c:Bool}(hu:P.underlying t=some (.func a b c))(f:Fn)(xs ys:Array Value):(Op.equalIn 10000 t (.func f xs ys) .nilFunc).run P w=.ok false w:=by show(Op.equalIn (9999+1) t (.func f xs ys) .nilFunc).run P w=.ok false w;unfold Op.equalIn;simp only[Sem.run_bind,run_underlying hu,Result.andThen_ok];rfl
variable{k:PV→Option R}{a:V}{r:R}
theorem acN{op:BinOp}{b:V}(h:nX E op t a b k=some r):∃q,(∀(R':Type)(k':PV→Option R'),nX E op t a b k'=k' q)∧k q=some r∧∀(μ:Ro)(φ:Nat→aK)(w:World)(ox oy:Operand)(x y:Value),aq E.P μ φ a x→aq E.P μ φ b y→∃z,(vo op t ox oy x y).run E.P w=.ok z w∧au E.P μ q z:=by
 unfold nX at h;split at h
 ·rename_i q x q' y;have ints:∀(μ:Ro)(φ:Nat→aK)(u v:Value),aq E.P μ φ (.pv (.int q x)) u→aq E.P μ φ (.pv (.int q' y)) v→u=.int q x∧v=.int q' y∧(Lit.int q x).wf=true:=by intro μ φ u v hu hv;cases hu with|pv hu=>cases hu with|int h1=>cases hv with|pv hv=>cases hv with|int h2=>exact⟨rfl,rfl,h1⟩
  cases op;case shl=>
   simp only at h;split at h
   ·cases h
   ·rename_i hy;refine⟨_,fun R' k'=>by simp[nX,hy],h,fun μ φ w ox oy u v hu hv=>?_⟩;obtain⟨rfl,rfl,_⟩:=ints μ φ u v hu hv;exact⟨_,by simp[vo,eqGuard,binOp,Op.shift,hy],.int (wf_wrap _ _)⟩
  case shr=>
   simp only at h;split at h
   ·cases h
   ·rename_i hy;refine⟨_,fun R' k'=>by simp[nX,hy],h,fun μ φ w ox oy u v hu hv=>?_⟩;obtain⟨rfl,rfl,hw⟩:=ints μ φ u v hu hv;exact⟨_,by simp[vo,eqGuard,binOp,Op.shift,hy],.int (acM _ hw)⟩
  case quo=>
   simp only at h;split at h
   ·rename_i hq;subst hq;split at h
    ·cases h
    ·rename_i hy;refine⟨_,fun R' k'=>by simp[nX,hy],h,fun μ φ w ox oy u v hu hv=>?_⟩;obtain⟨rfl,rfl,_⟩:=ints μ φ u v hu hv;exact⟨_,by simp[vo,eqGuard,binOp,Op.intDiv,hy],.int (wf_wrap _ _)⟩
   ·cases h
  case rem=>
   simp only at h;split at h
   ·rename_i hq;subst hq;split at h
    ·cases h
    ·rename_i hy;refine⟨_,fun R' k'=>by simp[nX,hy],h,fun μ φ w ox oy u v hu hv=>?_⟩;obtain⟨rfl,rfl,hw⟩:=ints μ φ u v hu hv;exact⟨_,by simp[vo,eqGuard,binOp,Op.intDiv,hy],.int (acL hw)⟩
   ·cases h
  case eql|neq|lss|leq|gtr|geq=>
   simp only at h;split at h
   ·rename_i hq;subst hq;refine⟨_,fun R' k'=>by simp[nX],h,fun μ φ w ox oy u v hu hv=>?_⟩;obtain⟨rfl,rfl,_⟩:=ints μ φ u v hu hv;refine⟨_,bZ (by rw[eqGuard_at_int];rfl) ?_,.bool⟩;first|rw[binOp_eql]|rw[binOp_neq]|rw[binOp_lss]|rw[binOp_leq]|rw[binOp_gtr]|rw[binOp_geq]
    rfl
   ·cases h
  all_goals
   simp only at h;split at h
   ·rename_i hq;subst hq;refine⟨_,fun R' k'=>by simp[nX],h,fun μ φ w ox oy u v hu hv=>?_⟩;obtain⟨rfl,rfl,_⟩:=ints μ φ u v hu hv;refine⟨_,bZ (by rw[eqGuard_at_int];rfl) ?_,.int (wf_wrap _ _)⟩;first|rw[binOp_add]|rw[binOp_sub]|rw[binOp_mul]|rw[binOp_and]|rw[binOp_or]|rw[binOp_xor]|rw[binOp_andNot]
    rfl
   ·cases h
 ·rename_i x y;have strs:∀(μ:Ro)(φ:Nat→aK)(u v:Value),aq E.P μ φ (.pv (.str x)) u→aq E.P μ φ (.pv (.str y)) v→u=.string ⟨x.toArray⟩∧v=.string ⟨y.toArray⟩:=by intro μ φ u v hu hv;cases hu with|pv hu=>cases hu with|str h1=>cases hv with|pv hv=>cases hv with|str h2=>exact⟨rfl,rfl⟩
  cases op;case add=>
   simp only at h;split at h
   ·rename_i cr;have hy:¬((x.length+y.length:Nat):Int)>IntKind.i64.max:=by have:=E.lp.wZ _ cr;omega
    refine⟨_,fun R' k'=>by simp only[nX];rw[BY cr],h,fun μ φ w ox oy u v hu hv=>?_⟩;obtain⟨rfl,rfl⟩:=strs μ φ u v hu hv;refine⟨.string ⟨(x++y).toArray⟩,?_,.str ?_⟩
    ·simp only[vo,eqGuard,binOp,Op.stringOp,Sem.run_bind];have e:(⟨x.toArray⟩++⟨y.toArray⟩:ByteArray)=⟨(x++y).toArray⟩:=by apply ByteArray.ext;simp
     simp only[GN,e];rw[IT hy];simp
    ·simp only[maxLen];simp only[IntKind.max_i64]at hy;simp;omega
   ·cases h
  case eql|neq|lss|leq|gtr|geq=>simp only at h;refine⟨_,fun R' k'=>by simp only[nX],h,fun μ φ w ox oy u v hu hv=>?_⟩;obtain⟨rfl,rfl⟩:=strs μ φ u v hu hv;refine⟨_,bZ (by rw[eqGuard_at_string];rfl) ?_,.bool⟩;simp only[binOp,Op.stringOp,ByteArray.toList_eq];rfl
  all_goals (simp only at h;cases h)
 ·rename_i x y;have aem:∀(μ:Ro)(φ:Nat→aK)(u v:Value),aq E.P μ φ (.pv (.bool x)) u→aq E.P μ φ (.pv (.bool y)) v→u=.bool x∧v=.bool y:=by intro μ φ u v hu hv;cases hu with|pv hu=>cases hu with|bool=>cases hv with|pv hv=>cases hv with|bool=>exact⟨rfl,rfl⟩
  split at h
  ·rename_i s7;refine⟨_,fun R' k'=>by simp only[nX,s7],h,fun μ φ w ox oy u v hu hv=>?_⟩;obtain⟨rfl,rfl⟩:=aem μ φ u v hu hv;exact⟨_,bZ (by rw[eqGuard_at_bool];rfl) (jC rfl (run_equalIn_bool w _ _ _ _ s7)),.bool⟩
  ·rename_i s7;refine⟨_,fun R' k'=>by simp only[nX,s7],h,fun μ φ w ox oy u v hu hv=>?_⟩;obtain⟨rfl,rfl⟩:=aem μ φ u v hu hv;exact⟨_,bZ (by rw[eqGuard_at_bool];rfl) (jD rfl (run_equalIn_bool w _ _ _ _ s7)),.bool⟩
  ·cases h
 ·split at h
  ·rename_i s7;refine⟨_,fun R' k'=>by simp only[nX,s7],h,fun μ φ w ox oy u v hu hv=>?_⟩;cases hu with|pv hu=>cases hu;cases hv with|pv hv=>cases hv;exact⟨_,bZ (by rw[eqGuard_at_pointer];rfl) (jC rfl (nK s7 none)),.bool⟩
  ·rename_i s7;refine⟨_,fun R' k'=>by simp only[nX,s7],h,fun μ φ w ox oy u v hu hv=>?_⟩;cases hu with|pv hu=>cases hu;cases hv with|pv hv=>cases hv;exact⟨_,bZ (by rw[eqGuard_at_pointer];rfl) (jD rfl (nK s7 none)),.bool⟩
  ·cases h
 ·split at h
  ·rename_i s7;refine⟨_,fun R' k'=>by simp only[nX,s7],h,fun μ φ w ox oy u v hu hv=>?_⟩;cases hu with| @fn f0 _ xs0=>cases hv with|pv hv=>cases hv;obtain⟨g0,a0,b0,e0⟩:=ou _ xs0;rw[e0];exact⟨_,bZ (by rw[eqGuard_at_func];rfl) (jC rfl (xn s7 _ _ _)),.bool⟩
  ·rename_i s7;refine⟨_,fun R' k'=>by simp only[nX,s7],h,fun μ φ w ox oy u v hu hv=>?_⟩;cases hu with| @fn f0 _ xs0=>cases hv with|pv hv=>cases hv;obtain⟨g0,a0,b0,e0⟩:=ou _ xs0;rw[e0];exact⟨_,bZ (by rw[eqGuard_at_func];rfl) (jD rfl (xn s7 _ _ _)),.bool⟩
  ·cases h
 ·split at h
  ·rename_i s7;refine⟨_,fun R' k'=>by simp only[nX,s7],h,fun μ φ w ox oy u v hu hv=>?_⟩;cases hu with|pv hu=>cases hu with| @fn f0 _ xs0=>cases hv with|pv hv=>cases hv;obtain⟨g0,a0,b0,e0⟩:=ou _ xs0;rw[e0];exact⟨_,bZ (by rw[eqGuard_at_func];rfl) (jC rfl (xn s7 _ _ _)),.bool⟩
  ·rename_i s7;refine⟨_,fun R' k'=>by simp only[nX,s7],h,fun μ φ w ox oy u v hu hv=>?_⟩;cases hu with|pv hu=>cases hu with| @fn f0 _ xs0=>cases hv with|pv hv=>cases hv;obtain⟨g0,a0,b0,e0⟩:=ou _ xs0;rw[e0];exact⟨_,bZ (by rw[eqGuard_at_func];rfl) (jD rfl (xn s7 _ _ _)),.bool⟩
  ·cases h
 ·split at h
  ·rename_i s7;refine⟨_,fun R' k'=>by simp only[nX,s7],h,fun μ φ w ox oy u v hu hv=>?_⟩;cases hu with|pv hu=>cases hu;cases hv with|pv hv=>cases hv;exact⟨_,bZ (by rw[eqGuard_at_pointer];rfl) (jC rfl (nK s7 _)),.bool⟩
  ·rename_i s7;refine⟨_,fun R' k'=>by simp only[nX,s7],h,fun μ φ w ox oy u v hu hv=>?_⟩;cases hu with|pv hu=>cases hu;cases hv with|pv hv=>cases hv;exact⟨_,bZ (by rw[eqGuard_at_pointer];rfl) (jD rfl (nK s7 _)),.bool⟩
  ·cases h
 ·split at h
  ·rename_i s7;refine⟨_,fun R' k'=>by simp only[nX,s7],h,fun μ φ w ox oy u v hu hv=>?_⟩;cases hu with|op hg=>cases hv with|pv hv=>cases hv;exact⟨_,bZ (by rw[eqGuard_at_pointer];rfl) (jC rfl (nK s7 _)),.bool⟩
  ·rename_i s7;refine⟨_,fun R' k'=>by simp only[nX,s7],h,fun μ φ w ox oy u v hu hv=>?_⟩;cases hu with|op hg=>cases hv with|pv hv=>cases hv;exact⟨_,bZ (by rw[eqGuard_at_pointer];rfl) (jD rfl (nK s7 _)),.bool⟩
  ·cases h
 ·split at h
  ·rename_i s7;refine⟨_,fun R' k'=>by simp only[nX,s7],h,fun μ φ w ox oy u v hu hv=>?_⟩;cases hu with|oe hg=>cases hv with|pv hv=>cases hv;exact⟨_,bZ (by rw[eqGuard_at_pointer];rfl) (jC rfl (nK s7 _)),.bool⟩
  ·rename_i s7;refine⟨_,fun R' k'=>by simp only[nX,s7],h,fun μ φ w ox oy u v hu hv=>?_⟩;cases hu with|oe hg=>cases hv with|pv hv=>cases hv;exact⟨_,bZ (by rw[eqGuard_at_pointer];rfl) (jD rfl (nK s7 _)),.bool⟩
  ·cases h
 ·rename_i n1 n2 n3 n4 m1 m2 n5 n6 n7;split at h
  ·rename_i ha;split at h
   ·rename_i ks as bs Xt has hbs;split at h
    ·rename_i ps qs pS hqs;split at h
     ·rename_i hc;have hE:JY E.P t=false∧DK E.P 8 t=some ks:=by
       unfold uD at Xt;split at Xt
       ·cases Xt
       ·rename_i hg;exact⟨by simpa[JY]using hg,Xt⟩
      have key:∀(μ:Ro)(φ:Nat→aK)(w:World)(x y:Value),aq E.P μ φ a x→aq E.P μ φ b y→∃xs ys,x=.agg xs∧y=.agg ys∧(Op.equalIn 10000 t x y).run E.P w=.ok (bR ps qs) w:=by intro μ φ w x y hx hy;obtain⟨xs,rfl,g1,g2,g3⟩:=(q8 has).2 _ _ _ _ hx;obtain⟨ys,rfl,g4,g5,g6⟩:=(q8 hbs).2 _ _ _ _ hy;obtain⟨l1,l2⟩:=gJ pS;obtain⟨l3,l4⟩:=gJ hqs;have e1:=vn (P:=E.P) (μ:=μ) (xs:=xs) hc.1 (by omega) (fun i p z hi hz=>by obtain⟨v,hv,hg⟩:=l2 i p hi;exact wu 1 hg (g2 i v z hv hz));have e2:=vn (P:=E.P) (μ:=μ) (xs:=ys) hc.2 (by omega) (fun i p z hi hz=>by obtain⟨v,hv,hg⟩:=l4 i p hi;exact wu 1 hg (g5 i v z hv hz));refine⟨xs,ys,rfl,rfl,?_⟩;have:=rH 8 t ks hE.2 9992 w ps qs hc.1 hc.2;rw[JX ha,JX ha,←e1,←e2]at this;exact this
      have ak8:∀(R':Type)(k':PV→Option R'),nX E .eql t a b k'=k' (.bool (bR ps qs)):=by
       intro R' k';unfold nX;split
       ·exact(n1 _ _ _ _ rfl rfl).elim
       ·exact(n2 _ _ rfl rfl).elim
       ·exact(n3 _ _ rfl rfl).elim
       ·exact(n4 rfl rfl).elim
       ·exact(m1 _ _ rfl rfl).elim
       ·exact(m2 _ _ rfl rfl).elim
       ·exact(n5 _ rfl rfl).elim
       ·exact(n6 _ _ rfl rfl).elim
       ·exact(n7 _ _ _ rfl rfl).elim
       ·rw[BY ha,Xt,has,hbs];simp only[pS,hqs];rw[BY hc]
      have ak9:∀(R':Type)(k':PV→Option R'),nX E .neq t a b k'=k' (.bool (!(bR ps qs))):=by
       intro R' k';unfold nX;split
       ·exact(n1 _ _ _ _ rfl rfl).elim
       ·exact(n2 _ _ rfl rfl).elim
       ·exact(n3 _ _ rfl rfl).elim
       ·exact(n4 rfl rfl).elim
       ·exact(m1 _ _ rfl rfl).elim
       ·exact(m2 _ _ rfl rfl).elim
       ·exact(n5 _ rfl rfl).elim
       ·exact(n6 _ _ rfl rfl).elim
       ·exact(n7 _ _ _ rfl rfl).elim
       ·rw[BY ha,Xt,has,hbs];simp only[pS,hqs];rw[BY hc]
      cases op;case eql=>refine⟨_,fun R' k'=>ak8 R' k',h,fun μ φ w ox oy x y hx hy=>?_⟩;obtain⟨xs,ys,rfl,rfl,hr⟩:=key μ φ w x y hx hy;exact⟨_,bZ (run_eqGuard_agg w _ _ _ _ _ _ hE.1) (jC rfl hr),.bool⟩
      case neq=>refine⟨_,fun R' k'=>ak9 R' k',h,fun μ φ w ox oy x y hx hy=>?_⟩;obtain⟨xs,ys,rfl,rfl,hr⟩:=key μ φ w x y hx hy;exact⟨_,bZ (run_eqGuard_agg w _ _ _ _ _ _ hE.1) (jD rfl hr),.bool⟩
      all_goals (simp only at h;cases h)
     ·cases h
    ·cases h
   ·cases h
  ·cases h
theorem afe{op:UnOp}(h:xun op a k=some r):∃q,(∀(R':Type)(k':PV→Option R'),xun op a k'=k' q)∧k q=some r∧∀(P:Program)(μ:Ro)(φ:Nat→aK)(w:World)(x:Value),aq P μ φ a x→∃z,(Op.unary op x).run P w=.ok z w∧au P μ q z:=by
 unfold xun at h;split at h
 ·refine⟨_,fun R' k'=>rfl,h,fun P μ φ w x hx=>?_⟩;cases hx with|pv hx=>cases hx;exact⟨_,rfl,.bool⟩
 ·refine⟨_,fun R' k'=>rfl,h,fun P μ φ w x hx=>?_⟩;cases hx with|pv hx=>cases hx;exact⟨_,rfl,.int (wf_wrap _ _)⟩
 ·refine⟨_,fun R' k'=>rfl,h,fun P μ φ w x hx=>?_⟩;cases hx with|pv hx=>cases hx;exact⟨_,rfl,.int (wf_wrap _ _)⟩
 ·cases h
theorem acO{k:IntKind}{n:Int}(h:(Lit.int k n).wf=true):k.wrap n=n:=by rw[xl]at h;cases k<;>simp only[IntKind.wrap,IntKind.min,IntKind.max,IntKind.signed,IntKind.bits]at* <;>simp at* <;>(try split)<;>omega
theorem Xu{s d:TypeId}(h:Gt E s d a k=some r):∃q,(∀(R':Type)(k':PV→Option R'),Gt E s d a k'=k' q)∧k q=some r∧∀(μ:Ro)(φ:Nat→aK)(w:World)(x:Value),aq E.P μ φ a x→∃z,(convert s d x).run E.P w=.ok z w∧au E.P μ q z:=by
 unfold Gt at h;split at h
 ·rename_i q q' q'' n hs hd;split at h
  ·rename_i e1;subst e1;split at h
   ·rename_i e2;subst e2;refine⟨_,fun R' k'=>by simp[Gt,hs,hd],h,fun μ φ w x hx=>?_⟩;cases hx with|pv hx=>cases hx with|int hw=>exact⟨_,by simp[convert,run_underlying hs,run_underlying hd,Conv.intToInt,acO hw],.int hw⟩
   ·rename_i e2;refine⟨_,fun R' k'=>by simp[Gt,hs,hd,e2],h,fun μ φ w x hx=>?_⟩;cases hx with|pv hx=>cases hx with|int hw=>exact⟨_,by simp[convert,run_underlying hs,run_underlying hd,Conv.intToInt],.int (wf_wrap _ _)⟩
  ·cases h
 ·rename_i hs hd;refine⟨_,fun R' k'=>by simp[Gt,hs,hd],h,fun μ φ w x hx=>?_⟩;cases hx with|pv hx=>cases hx with|str hl=>exact⟨_,by simp[convert,run_underlying hs,run_underlying hd],.str hl⟩
 ·cases h
theorem Xv{b:V}(h:Nu a b k=some r):∃q,(∀(R':Type)(k':PV→Option R'),Nu a b k'=k' q)∧k q=some r∧∀(P:Program)(μ:Ro)(φ:Nat→aK)(w:World)(x y:Value),aq P μ φ a x→aq P μ φ b y→∃z,(Builtin.min2 x y).run P w=.ok z w∧au P μ q z:=by
 unfold Nu at h;split at h
 ·split at h
  ·rename_i e;subst e;refine⟨_,fun R' k'=>by simp[Nu],h,fun P μ φ w x y hx hy=>?_⟩;cases hx with|pv hx=>cases hx with|int h1=>cases hy with|pv hy=>cases hy with|int h2=>exact⟨_,rfl,by split<;>exact .int (by assumption)⟩
  ·cases h
 ·cases h
theorem CJ{b:V}(h:EP a b k=some r):∃q,(∀(R':Type)(k':PV→Option R'),EP a b k'=k' q)∧k q=some r∧∀(P:Program)(μ:Ro)(φ:Nat→aK)(w:World)(x y:Value),aq P μ φ a x→aq P μ φ b y→∃z,(Builtin.max2 x y).run P w=.ok z w∧au P μ q z:=by
 unfold EP at h;split at h
 ·split at h
  ·rename_i e;subst e;refine⟨_,fun R' k'=>by simp[EP],h,fun P μ φ w x y hx hy=>?_⟩;cases hx with|pv hx=>cases hx with|int h1=>cases hy with|pv hy=>cases hy with|int h2=>exact⟨_,rfl,by split<;>exact .int (by assumption)⟩
  ·cases h
 ·cases h
theorem Xw{b c d:V}(h:Nv a b c d k=some r):∃q,(∀(R':Type)(k':PV→Option R'),Nv a b c d k'=k' q)∧k q=some r∧∀(P:Program)(μ:Ro)(φ:Nat→aK)(w:World)(x y z u:Value),aq P μ φ a x→aq P μ φ b y→aq P μ φ c z→aq P μ φ d u→∃v1 v2 v3,(Builtin.max2 x y).run P w=.ok v1 w∧(Builtin.max2 v1 z).run P w=.ok v2 w∧(Builtin.max2 v2 u).run P w=.ok v3 w∧au P μ q v3:=by unfold Nv at h;obtain⟨q1,a1,h,b1⟩:=CJ h;obtain⟨q2,a2,h,b2⟩:=CJ h;obtain⟨q3,a3,h,b3⟩:=CJ h;refine⟨q3,fun R' k'=>by unfold Nv;rw[a1,a2,a3],h,fun P μ φ w x y z u hx hy hz hu=>?_⟩;obtain⟨v1,c1,d1⟩:=b1 P μ φ w x y hx hy;obtain⟨v2,c2,d2⟩:=b2 P μ φ w v1 z (.pv d1) hz;obtain⟨v3,c3,d3⟩:=b3 P μ φ w v2 u (.pv d2) hu;exact⟨v1,v2,v3,c1,c2,c3,d3⟩
end
section
variable {P:Program} {G:Nat→Option (List PV)} {w0:bl} {μ μ':Ro} {φ φ':Nat→aK} {m:Mem} {w w':World}
variable{b:bI}
@[simp] theorem bB(m:Mem)(d:Nat)(b:bI):aB m d b d=some b:=by simp[aB]
theorem aA{m:Mem}{d t:Nat}(h:t≠d):aB m d b t=m t:=by simp[aB,cond_eq_ite,h]
@[simp] theorem aen(m:Mem)(d:Nat):br m d d=none:=by simp[br]
theorem gB{m:Mem}{d t:Nat}(h:t≠d):br m d t=m t:=by simp[br,cond_eq_ite,h]
@[simp] theorem BG(f:Fr)(d:Nat)(v:V):gH f d v d=v:=by simp[gH]
theorem s8{f:Fr}{d t:Nat}{v:V}(h:t≠d):gH f d v t=f t:=by simp[gH,cond_eq_ite,h]
variable{id sz:Nat}{et:TypeId}{es:List PV}
theorem aP.cG(h:aP P μ φ w id sz et es)(hφ:φ' id=φ id)(hμ:∀b o,μ b=some o→μ' b=some o)(hw:∀g,(φ id).g=some g→w'.heap[g]?=w.heap[g]?):aP P μ' φ' w' id sz et es:=by
 obtain⟨a1,a2,a3,a4,a5,a6,a7⟩:=h;unfold aP;rw[hφ];refine⟨a1,a2,a3,a4,a5,a6,?_⟩;cases hg:(φ id).g with
 |none=>rw[hg]at a7;omega
 |some g=>rw[hg]at a7;obtain⟨c,T,c1,c2,c3,c4,c5⟩:=a7;exact⟨c,T,by rw[hw g hg];omega,c2,c3,fun i e j p x h1 h2 h3=>(c4 i e j p x h1 h2 h3).mono hμ,c5⟩
theorem fb.cG{R:EX}{s:Nat}{rs:List PV}{x:Value}(h:fb P μ R w s rs x)(hμ:∀b o,μ b=some o→μ' b=some o)(hw:∀g,R.g=some g→w'.heap[g]?=w.heap[g]?):fb P μ' R w' s rs x:=
 let⟨⟨et,hA⟩,hV⟩:=h
 ⟨⟨et,hA.cG rfl hμ hw⟩,hV.A3 hμ⟩
theorem eH.cG{R:EX}{p:PV}{x:Value}(h:eH P μ R w p x)(hμ:∀b o,μ b=some o→μ' b=some o)(hw:p.isRow=true→∀g,R.g=some g→w'.heap[g]?=w.heap[g]?):eH P μ' R w' p x:=by
 unfold eH at*;split at h
 ·exact fb.cG h hμ (hw rfl)
 ·exact h.mono hμ
variable{i j:Nat}
theorem dK{e p:PV}(he:es[i]?=some e)(hp:e.cells[j]?=some p):(bI.nest sz et es).rowAt i j=p.isRow:=by simp[bI.rowAt,he,hp]
theorem bg.cG{id sz:Nat}{et:TypeId}{es:List PV}(h:bg P μ φ w id sz et es)(hφ:φ' id=φ id)(hμ:∀b o,μ b=some o→μ' b=some o)(hw:∀g,(bI.nest sz et es).owns (φ id) g→w'.heap[g]?=w.heap[g]?):bg P μ' φ' w' id sz et es:=by
 obtain⟨a1,a2,a3,a4,a5,a6,a7⟩:=h;unfold bg;rw[hφ];refine⟨a1,a2,a3,a4,a5,a6,?_⟩;cases hg:(φ id).g with
 |none=>rw[hg]at a7;omega
 |some g=>rw[hg]at a7;obtain⟨c,T,c1,c2,c3,c4,c5⟩:=a7;exact⟨c,T,by rw[hw g (.inl hg)];omega,c2,c3,fun i e j p x h1 h2 h3=>(c4 i e j p x h1 h2 h3).cG hμ fun hr g' cV=>hw g' (.inr ⟨i,j,by rw[dK h1 h2];omega,cV⟩),c5⟩
theorem kQ{kt e:TypeId}{es:List (PV×PV)}{k v:PV}(he:es[i]?=some (k,v)):(bI.fH kt e es).rowAt i 0=v.isRow:=by simp[bI.rowAt,he]
theorem gK.cG{id:Nat}{b:bI}(h:gK P μ φ w id b)(hn:∀j,b.names j=true→φ' j=φ j)(hφ:φ' id=φ id)(hμ:∀b o,μ b=some o→μ' b=some o)(hw:∀g,b.owns (φ id) g→w'.heap[g]?=w.heap[g]?):gK P μ' φ' w' id b:=by
 cases b with
 |nest sz et es=>exact bg.cG h hφ hμ hw
 |fH kt e0 es=>
  obtain⟨g,en,clock,kk,hg,hh,hs,hk,hc,Ah,hv⟩:=h;refine⟨g,en,clock,kk,by rw[hφ];omega,by rw[hw g (.inl hg)];omega,hs,hk,hc,Ah,fun i k v e h1 h2=>⟨(hv i k v e h1 h2).1.mono hμ,?_⟩⟩;have h3:=(hv i k v e h1 h2).2;rw[hφ];split at h3
  ·exact⟨h3.1.cG rfl hμ fun g' cV=>hw g' (.inr ⟨i,0,by rw[kQ h1];rfl,cV⟩),h3.2.A3 hμ⟩
  ·exact h3.mono hμ
 |box cs=>obtain⟨g,c,T,hg,hh,hs,hv,h1,Jf⟩:=h;exact⟨g,c,T,by rw[hφ];omega,by rw[hw g (.inl hg)];omega,hs,fun i v x hi hx=>(hv i v x hi hx).mono hμ (fun j hj=>hn j (bO (amq hi) hj)),h1,by rw[hφ];omega⟩
 |arr sz et es=>exact aP.cG h hφ hμ fun g hg=>hw g (.inl hg)
 |rE sz et es=>refine⟨aP.cG h.1 hφ hμ fun g hg=>hw g (.inl hg),fun g hg=>?_⟩;rw[hφ]at hg;have:=h.2 g hg;obtain⟨o,ho⟩:=anK.1 this;rw[hμ _ _ ho];rfl
 |map kt es=>obtain⟨g,en,clock,kk,hg,hh,hs,hk,hc,Ah,hv⟩:=h;exact⟨g,en,clock,kk,by rw[hφ];omega,by rw[hw g (.inl hg)];omega,hs,hk,hc,Ah,fun i k v e h1 h2=>⟨(hv i k v e h1 h2).1.mono hμ,(hv i k v e h1 h2).2.mono hμ⟩⟩
 |iter t es cur=>obtain⟨g,mg,en,clock,seen,hg,hh,Nb,Ah,Jf,hv,hcu⟩:=h;exact⟨g,mg,en,clock,seen,by rw[hφ];omega,by rw[hw g (.inl hg)];omega,hμ _ _ Nb,Ah,Jf,fun i k v e h1 h2=>⟨(hv i k v e h1 h2).1.mono hμ,(hv i k v e h1 h2).2.mono hμ⟩,fun k v hc=>let⟨i,e,h1,h2,h3,h4⟩:=hcu k v hc;⟨i,e,h1,h2,h3.mono hμ,h4.mono hμ⟩⟩
 |loop st=>obtain⟨g,rc,hg,hh⟩:=h;exact⟨g,rc,by rw[hφ];omega,by rw[hw g (.inl hg)];omega⟩
variable{g:Nat}
theorem fb.FU{R:EX}{s:Nat}{rs:List PV}{x:Value}(h:fb P μ R w s rs x)(hg:R.g=some g):g<w.heap.size:=by obtain⟨⟨et,_,_,_,_,_,_,a7⟩,_⟩:=h;have cV:R.up.g=some g:=hg;grind
theorem kR{off:Nat}(h:b.rowAt i off=true):(∃sz et es e s rs,b=.nest sz et es∧es[i]?=some e∧e.cells[off]?=some (.jr s rs))∨∃kt e0 es k s rs,b=.fH kt e0 es∧off=0∧es[i]?=some (k,.jr s rs):=by
 unfold bI.rowAt at h;split at h
 ·rename_i sz et es i off;split at h
  ·rename_i e he;split at h
   ·rename_i p hp;cases p<;>first|(cases h;done)|skip
    grind
   ·cases h
  ·cases h
 ·rename_i kt e0 es i;split at h
  ·rename_i x hx;obtain⟨k,v⟩:=x;cases v<;>first|(cases h;done)|skip
   grind
  ·cases h
 ·cases h
theorem gK.ahj{off:Nat}(h:gK P μ φ w id b)(hr:b.rowAt i off=true)(hg:((φ id).row i off).g=some g):g<w.heap.size:=by
 rcases kR hr with⟨sz,et,es,e,s,rs,rfl,he,hp⟩|⟨kt,e0,es,k,s,rs,rfl,rfl,he⟩
 ·have hN:bg P μ φ w id sz et es:=h;have hgg:∃g0,(φ id).g=some g0:=by
   cases hq:(φ id).g with
   |some g0=>simp
   |none=>have a7:=hN.2.2.2.2.2.2;simp_all
  obtain⟨g0,Qy⟩:=hgg;obtain⟨c,_,x,_,_,c3,_⟩:=hN.cell Qy he hp;exact fb.FU (show fb P μ _ w s rs x from c3) hg
 ·obtain⟨g0,en,clock,kk,Qy,hh,hs,hk,hc,Ah,hv⟩:=h;have hi:i<en.size:=by grind
  have h3:=(hv i k _ en[i] he (T1 hi)).2;exact fb.FU (P:=P) (μ:=μ) (R:=(φ id).row i 0) (s:=s) (rs:=rs) (x:=en[i].val) ⟨⟨_,h3.1⟩,h3.2⟩ hg
theorem gK.FU(h:gK P μ φ w id b)(hg:b.owns (φ id) g):g<w.heap.size:=by
 rcases hg with hg|⟨i,off,hr,hg⟩
 rotate_left
 ·exact h.ahj hr hg
 have key:∀o,w.heap[g]?=some o→g<w.heap.size:=fun o ho=>(adW.1 ho).1;cases b with
 |nest sz et es=>obtain⟨_,_,_,_,_,_,a7⟩:=h;grind
 |fH kt e0 es=>obtain⟨g',en,clock,kk,cV,hh,_⟩:=h;simp_all
 |box cs=>obtain⟨g',c,T,cV,hh,_⟩:=h;simp_all
 |arr sz et es=>obtain⟨_,_,_,_,_,_,a7⟩:=h;grind
 |rE sz et es=>obtain⟨⟨_,_,_,_,_,_,a7⟩,_⟩:=h;grind
 |map kt es=>obtain⟨g',en,clock,kk,cV,hh,_⟩:=h;simp_all
 |iter t es cur=>obtain⟨g',mg,en,clock,seen,cV,hh,_⟩:=h;simp_all
 |loop st=>obtain⟨g',rc,cV,hh⟩:=h;simp_all
theorem aG.Qz(hM:aG P G w0 μ φ m w)(hm:m j=some b)(hn:b.names id=true):(m id).isSome=true:=by
 cases b with
 |box cs=>exact hM.fJ j cs id hm hn
 |_=>simp[bI.names]at hn
theorem An{cs:List V}(h:cq j (cs.map (sS id))=true):cq j cs=true∧j≠id:=by obtain⟨v,hv,hh⟩:=cT.1 h;obtain⟨u,hu,rfl⟩:=anG.1 hv;grind [yT,bO]
theorem gK.kill{id j:Nat}{b:bI}(h:gK P μ φ w j b):gK P μ φ w j (gI id b):=by
 cases b with
 |box cs=>obtain⟨g,c,T,hg,hh,hs,hv,h1,Jf⟩:=h;refine⟨g,c,T,hg,hh,by simpa using hs,fun i v x hi hx=>?_,h1,by simpa using Jf⟩;simp only[AT,ae0]at hi;obtain⟨u,hu,rfl⟩:=hi;exact(hv i u x hu hx).kill id
 |_=>exact h
theorem xo(id:Nat)(b:bI):(gI id b).rowAt=b.rowAt:=by cases b<;>rfl
variable{p:aK}
theorem fU:(gI id b).owns p g↔b.owns p g:=by unfold bI.owns;rw[xo]
theorem xp:(gI id b).apart p↔b.apart p:=by unfold bI.apart;rw[xo]
theorem s9(h:∀i off,b.rowAt i off=true→False):b.apart p:=fun i off _ hr=>(h i off hr).elim
theorem ly(h:∀i off,b.rowAt i off=true→False)(ho:b.owns p g):p.g=some g:=by
 rcases ho with h1|⟨i,off,hr,_⟩
 ·omega
 simp_all
theorem GR(h:bH id m j=some b):∃b',m j=some b'∧b=gI id b':=by unfold bH at h;grind
theorem Ao(id:Nat)(b:bI):(gI id b).ke=b.ke:=by cases b<;>rfl
theorem aG.aff(hM:aG P G w0 μ φ m w)(hm:m id=some b)(ho:b.owns (φ id) g):w0.hid g=none:=by
 cases hq:w0.hid g with
 |none=>rfl
 |some o=>exact absurd ho ((hM.hid g o hq).2.2.2 id b hm)
theorem aG.forget(hM:aG P G w0 μ φ m w)(id:Nat):aG P G w0 μ φ (br (bH id m) id) w:=by
 have key:∀j b,br (bH id m) id j=some b→j≠id∧∃b',m j=some b'∧b=gI id b':=by
  intro j b h;by_cases e:j=id
  ·subst e;simp at h
  simp_all[gB,GR]
 refine⟨hM.below,hM.ro,hM.aF,fun j b h=>?_,fun j b g h hg=>?_,fun i j b1 b2 g h1 h2 g1 g2=>?_,fun j b h=>?_,fun j cs i h hh=>?_,hM.base,hM.dG,fun j st h=>?_,fun g o h=>⟨(hM.hid g o h).1,(hM.hid g o h).2.1,(hM.hid g o h).2.2.1,fun j b hj hg=>by obtain⟨_,b',hb,rfl⟩:=key j b hj;exact(hM.hid g o h).2.2.2 j b' hb (fU.1 hg)⟩⟩
 rotate_right
 ·obtain⟨_,b',hb,e⟩:=key j _ h;cases b' with
  |loop st'=>simp only[gI,bI.loop.injEq]at e;subst e;exact hM.DL j st hb
  |_=>simp[gI]at e
 ·obtain⟨_,b',hb,rfl⟩:=key j b h;exact(hM.dF j b' hb).kill
 ·obtain⟨_,b',hb,rfl⟩:=key j b h;rw[Ao];exact hM.own j b' g hb (fU.1 hg)
 ·obtain⟨_,b1',SB,rfl⟩:=key i b1 h1;obtain⟨_,b2',td,rfl⟩:=key j b2 h2;exact hM.inj i j b1' b2' g SB td (fU.1 g1) (fU.1 g2)
 ·obtain⟨_,b',hb,rfl⟩:=key j b h;exact xp.2 (hM.apart j b' hb)
 ·obtain⟨_,b',hb,e⟩:=key j _ h;cases b' with
  |box I6=>simp only[gI,bI.box.injEq]at e;subst e;obtain⟨h1,h2⟩:=An hh;have:=hM.fJ j I6 i hb h1;grind [gB,bH]
  |_=>simp[gI]at e
theorem A8(m:Mem)(id:Nat)(b:bI):aB (br m id) id b=aB m id b:=by
 funext t;by_cases h:t=id
 ·subst h;simp
 simp_all[aA,gB]
variable{b':bI}
theorem CK(sW:∀i off,b'.rowAt i off=true→b.rowAt i off=true)(h:b'.owns p g):b.owns p g:=by
 rcases h with h|⟨i,off,hr,h⟩
 ·exact .inl h
 ·exact .inr ⟨i,off,sW i off hr,h⟩
theorem UE(sW:∀i off,b'.rowAt i off=true→b.rowAt i off=true)(h:b.apart p):b'.apart p:=fun i off g hr hg=>
 let⟨h1,h2⟩:=h i off g (sW i off hr) hg
 ⟨h1,fun i' xg yt cV=>h2 i' xg (sW i' xg yt) cV⟩
theorem aG.Xx(hM:aG P G w0 μ φ m w)(hm:m id=some b)(Xy:b.ke=true)(hg:b.owns (φ id) g)(QA:lr g w w')(SC:w'.heap.size=w.heap.size)(hw:∀k,k≠g→w'.heap[k]?=w.heap[k]?)(hB:gK P μ φ w' id b')(aeo:b'.ke=true)(hn:∀j,b'.names j=true→(m j).isSome=true)(sW:∀i off,b'.rowAt i off=true→b.rowAt i off=true)(hlp:∀st,b'=.loop st→∃rc,(φ id).g=some g∧w0.rc id=some (g,rc)∧w'.heap[g]?=some (.loop (st.obj rc)):=by intro st h;cases h):aG P G w0 μ φ (aB m id b') w':=by
 obtain⟨BE,hμ⟩:=hM.own id b g hm hg;have hμ:=hμ Xy;refine⟨hM.below.trans (QA.mono BE),fun k o hk=>?_,hM.aF,fun j c hj=>?_,fun j c g' hj cV=>?_,fun i j b1 b2 g' h1 h2 g1 g2=>?_,fun j c hj=>?_,fun j cs i hj hh=>?_,hM.base,hM.dG,fun j st hj=>?_,fun k o h=>⟨(hw k fun e=>(hM.hid k o h).2.2.2 id b hm (e▸hg)).trans (hM.hid k o h).1,(hM.hid k o h).2.1,(hM.hid k o h).2.2.1,fun j c hj cV=>by
  by_cases e:j=id
  ·subst e;rw[bB]at hj;cases hj;exact(hM.hid k o h).2.2.2 j b hm (CK sW cV)
  ·rw[aA e]at hj;exact(hM.hid k o h).2.2.2 j c hj cV⟩⟩
 rotate_right
 ·by_cases e:j=id
  ·simp_all
  ·rw[aA e]at hj;obtain⟨g',rc,h1,h2,h3⟩:=hM.DL j st hj;exact⟨g',rc,h1,h2,by rw[hw g' (fun e'=>by subst e';exact e (hM.inj j id _ b g' hj hm (.inl h1) hg))];omega⟩
 ·have:k≠g:=fun e=>by simp_all
  rw[hw k this];exact hM.ro k o hk
 ·by_cases e:j=id
  ·simp_all
  ·rw[aA e]at hj;refine(hM.dF j c hj).cG (fun _ _=>rfl) rfl (fun _ _ h=>h) (fun g' cV=>hw g' (fun e'=>?_));subst e';exact e (hM.inj j id c b g' hj hm cV hg)
 ·by_cases e:j=id
  ·subst e;rw[bB]at hj;simp only[tb]at hj;subst hj;obtain⟨h1,h2⟩:=hM.own j b g' hm (CK sW cV);simp_all
  ·rw[aA e]at hj;exact hM.own j c g' hj cV
 ·have e1:∃c1,m i=some c1∧c1.owns (φ i) g':=by grind [id,bB,Option.some.injEq,CK,aA]
  have e2:∃c2,m j=some c2∧c2.owns (φ j) g':=by grind [id,bB,Option.some.injEq,CK,aA]
  obtain⟨c1,e1,o1⟩:=e1;obtain⟨c2,e2,o2⟩:=e2;exact hM.inj i j c1 c2 g' e1 e2 o1 o2
 ·by_cases e:j=id
  ·subst e;rw[bB]at hj;simp only[tb]at hj;subst hj;exact UE sW (hM.apart j b hm)
  ·rw[aA e]at hj;exact hM.apart j c hj
 ·have:(m i).isSome=true:=by
   by_cases e:j=id
   ·subst e;rw[bB]at hj;simp only[tb]at hj;subst hj;exact hn i hh
   ·rw[aA e]at hj;exact hM.fJ j cs i hj hh
  by_cases e:i=id
  ·subst e;simp
  ·rw[aA e];omega
theorem aG.write(hM:aG P G w0 μ φ m w)(hm:m id=some b)(Xy:b.ke=true)(hg:(φ id).g=some g)(QA:lr g w w')(SC:w'.heap.size=w.heap.size)(hw:∀k,k≠g→w'.heap[k]?=w.heap[k]?)(hB:gK P μ φ w' id b')(aeo:b'.ke=true)(hn:∀j,b'.names j=true→(m j).isSome=true)(hlp:∀st,b'=.loop st→∃rc,w0.rc id=some (g,rc)∧w'.heap[g]?=some (.loop (st.obj rc)):=by intro st h;cases h)(sW:∀i off,b'.rowAt i off=true→b.rowAt i off=true:=by intro i off h;simp[bI.rowAt]at h):aG P G w0 μ φ (aB m id b') w':=hM.Xx hm Xy (.inl hg) QA SC hw hB aeo hn sW fun st h=>let⟨rc,h1,h2⟩:=hlp st h;⟨rc,hg,h1,h2⟩
def pT(μ:Ro)(w:World)(g:Option Nat):Ro:=fun b=>if g=some b then w.heap[b]? else μ b
theorem mU(hM:aG P G w0 μ φ m w)(g:Option Nat):∀b o,μ b=some o→pT μ w g b=some o:=by
 intro b o hb;unfold pT;split
 ·exact hM.ro b o hb
 omega
noncomputable def uH(μ:Ro)(w:World)(S:Nat→Prop):Ro:=fun b=> @ite _ (S b) (Classical.propDecidable _) (w.heap[b]?) (μ b)
theorem tf(hM:aG P G w0 μ φ m w)(S:Nat→Prop):∀b o,μ b=some o→uH μ w S b=some o:=by
 intro b o hb;unfold uH;split
 ·exact hM.ro b o hb
 omega
theorem aG.SD(hM:aG P G w0 μ φ m w)(hm:m id=some b)(hlp:∀st,b≠.loop st)(hA:aP P (uH μ w (b.owns (φ id))) φ w id sz et es):aG P G w0 (uH μ w (b.owns (φ id))) φ (aB m id (.rE sz et es)) w:=by
 have mono:=tf hM (b.owns (φ id));have SE:∀i off,(bI.rE sz et es).rowAt i off=true→False:=fun i off h=>by simp[bI.rowAt]at h
 refine⟨hM.below,fun k o hb=>?_,fun g cs hg=>(hM.aF g cs hg).mono mono,fun j c hj=>?_,fun j c g' hj cV=>?_,fun i j b1 b2 g' h1 h2 g1 g2=>?_,fun j c hj=>?_,fun j cs i hj hh=>?_,fun k o hb bK=>?_,fun b o hb=>mono b o (hM.dG b o hb),fun j st hj=>?_,fun k o h=>⟨(hM.hid k o h).1,(hM.hid k o h).2.1,by
  unfold uH;rw[IT ((hM.hid k o h).2.2.2 id b hm)];exact(hM.hid k o h).2.2.1,fun j c hj cV=>by
  by_cases e:j=id
  ·subst e;rw[bB]at hj;cases hj;refine(hM.hid k o h).2.2.2 j b hm (.inl ?_);rcases cV with cV|⟨i,off,hr,_⟩
   ·exact cV
   ·exact(SE i off hr).elim
  ·rw[aA e]at hj;exact(hM.hid k o h).2.2.2 j c hj cV⟩⟩
 rotate_right
 ·by_cases e:j=id
  ·simp_all
  ·rw[aA e]at hj;exact hM.DL j st hj
 rotate_right
 ·unfold uH at hb;split at hb
  ·rename_i he;have:=(hM.own id b k hm he).1;omega
  ·exact hM.base k o hb bK
 ·unfold uH at hb;split at hb
  ·omega
  ·exact hM.ro k o hb
 ·by_cases e:j=id
  ·subst e;rw[bB]at hj;simp only[tb]at hj;subst hj;refine⟨hA,fun g hg=>?_⟩;have:=gK.FU (b:=.arr sz et es) hA (.inl hg);unfold uH;rw[BY (show b.owns (φ j) g from .inl hg)];simp[this]
  ·rw[aA e]at hj;exact(hM.dF j c hj).cG (fun _ _=>rfl) rfl mono (fun _ _=>rfl)
 ·by_cases e:j=id
  ·subst e;rw[bB]at hj;simp only[tb]at hj;subst hj;exact⟨(hM.own j b g' hm (.inl (ly SE cV))).1,by simp[bI.ke]⟩
  ·rw[aA e]at hj;obtain⟨h1,h2⟩:=hM.own j c g' hj cV;refine⟨h1,fun Nb=>?_⟩;unfold uH;split
   ·rename_i he;exact absurd (hM.inj j id c _ g' hj hm cV he) e
   ·exact h2 Nb
 ·have e1:∃c1,m i=some c1∧c1.owns (φ i) g':=by
   by_cases e:i=id
   ·subst e;rw[bB]at h1;simp only[tb]at h1;subst h1;exact⟨b,hm,.inl (ly SE g1)⟩
   simp_all[aA]
  have e2:∃c2,m j=some c2∧c2.owns (φ j) g':=by
   by_cases e:j=id
   ·subst e;rw[bB]at h2;simp only[tb]at h2;subst h2;exact⟨b,hm,.inl (ly SE g2)⟩
   simp_all[aA]
  obtain⟨c1,e1,o1⟩:=e1;obtain⟨c2,e2,o2⟩:=e2;exact hM.inj i j c1 c2 g' e1 e2 o1 o2
 ·by_cases e:j=id
  ·simp_all[bB,tb,s9]
  ·rw[aA e]at hj;exact hM.apart j c hj
 ·have:(m i).isSome=true:=by
   by_cases e:j=id
   ·simp_all
   ·rw[aA e]at hj;exact hM.fJ j cs i hj hh
  by_cases e:i=id
  ·subst e;simp
  ·rw[aA e];omega
theorem pZ:∀i off,(bI.arr sz et es).rowAt i off=true→False:=fun i off h=>by simp[bI.rowAt]at h
theorem aG.freeze(hM:aG P G w0 μ φ m w)(hm:m id=some (.arr sz et es)):aG P G w0 (pT μ w (φ id).g) φ (aB m id (.rE sz et es)) w:=by
 have e:uH μ w ((bI.arr sz et es).owns (φ id))=pT μ w (φ id).g:=by
  funext b;unfold uH pT;by_cases h:(φ id).g=some b
  ·rw[BY h,BY (show(bI.arr sz et es).owns (φ id) b from .inl h)]
  ·rw[IT h,IT fun ho=>h (ly pZ ho)]
 have:=hM.SD (sz:=sz) (et:=et) (es:=es) hm (fun st h=>by cases h) (aP.cG (hM.dF id _ hm) rfl (tf hM _) (fun _ _=>rfl));rwa[e]at this
theorem aG.SF(hM:aG P G w0 μ φ m w)(hm:m id=some (.nest sz et es)):aG P G w0 (uH μ w ((bI.nest sz et es).owns (φ id))) φ (aB m id (.rE sz et (es.map PV.strip))) w:=by have hN:bg P μ φ w id sz et es:=hM.dF id _ hm;refine hM.SD hm (fun st h=>by cases h) (hN.strip (tf hM _) fun i off g hr hg=>?_);unfold uH;rw[BY (show(bI.nest sz et es).owns (φ id) g from .inr ⟨i,off,hr,hg⟩)]
def cF(μ:Ro)(w w':World):Ro:=fun b=>if b<w.heap.size then μ b else w'.heap[b]?
theorem lz(hM:aG P G w0 μ φ m w)(w':World):∀b o,μ b=some o→cF μ w w' b=some o:=by intro b o hb;have:=(adW.1 (hM.ro b o hb)).1;simp[cF,this,hb]
theorem aG.called(hM:aG P G w0 μ φ m w)(hb:lr w.heap.size w w'):aG P G w0 (cF μ w w') φ m w':=by
 have mono:=lz hM w';refine⟨hM.below.trans (hb.mono hM.below.size),fun b o h=>?_,fun g cs hg=>(hM.aF g cs hg).mono mono,fun id b h=>?_,fun id b g h hg=>?_,hM.inj,hM.apart,hM.fJ,fun b o h bK=>?_,fun b o hb=>mono b o (hM.dG b o hb),fun j st hj=>?_,fun k o h=>(by obtain⟨h1,h2,h3,h4⟩:=hM.hid k o h;have bK:=(adW.1 h1).1;exact⟨by rw[hb.block k bK];exact h1,h2,by unfold cF;rw[BY bK];exact h3,h4⟩)⟩
 rotate_right
 ·obtain⟨g,rc,h1,h2,h3⟩:=hM.DL j st hj;exact⟨g,rc,h1,h2,by rw[hb.block g (adW.1 h3).1];omega⟩
 rotate_right
 ·have:w0.heap.size≤w.heap.size:=hM.below.size;unfold cF at h;rw[BY (by omega)]at h;exact hM.base b o h bK
 ·unfold cF at h;split at h
  ·rename_i bK;rw[hb.block b bK];exact hM.ro b o h
  omega
 ·have hR:=hM.dF id b h;exact hR.cG (fun _ _=>rfl) rfl mono (fun g hg=>hb.block g (hR.FU hg))
 ·obtain⟨h1,h2⟩:=hM.own id b g h hg;refine⟨h1,fun hm=>?_⟩;have:=(hM.dF id b h).FU hg;simp[cF,this,h2 hm]
def nJ(μ:Ro)(g:Option Nat):Ro:=fun b=>if g=some b then none else μ b
theorem NK{μ:Ro}{g:Option Nat}{b:Nat}{o:Obj}(h:nJ μ g b=some o):μ b=some o:=by simp_all[nJ]
theorem BH(hM:aG P G w0 μ φ m w)(w':World){g:Option Nat}(hg:∀b,g=some b→w.heap.size≤b):∀b o,μ b=some o→nJ (cF μ w w') g b=some o:=by intro b o hb;have bK:=(adW.1 (hM.ro b o hb)).1;unfold nJ;rw[IT fun e=>by have:=hg b e;omega];exact lz hM w' b o hb
theorem aG.JZ(hM:aG P G w0 μ φ m w)(hb:lr w.heap.size w w'){go:Option Nat}(DM:∀b,go=some b→w.heap.size≤b):aG P G w0 (nJ (cF μ w w') go) φ m w':=by
 have mono:=BH hM w' DM;have hC:=hM.called hb;refine⟨hC.below,fun b o h=>hC.ro b o (NK h),fun g cs hg=>(hM.aF g cs hg).mono mono,fun id b h=>?_,fun id b g h hg=>?_,hM.inj,hM.apart,hM.fJ,fun b o h bK=>hC.base b o (NK h) bK,fun b o hb=>mono b o (hM.dG b o hb),hC.DL,fun k o h=>(by obtain⟨h1,h2,h3,h4⟩:=hC.hid k o h;exact⟨h1,h2,by unfold nJ;rw[h3];simp,h4⟩)⟩
 ·have hR:=hM.dF id b h;exact hR.cG (fun _ _=>rfl) rfl mono (fun g hg=>hb.block g (hR.FU hg))
 ·obtain⟨h1,h2⟩:=hC.own id b g h hg;refine⟨h1,fun hm=>?_⟩;unfold nJ;simp_all
theorem aG.drew(hM:aG P G w0 μ φ m w):aG P G w0 μ φ m w.drew:=⟨hM.below.drew,hM.ro,hM.aF,fun id b h=>(hM.dF id b h).cG (fun _ _=>rfl) rfl (fun _ _ h=>h) (fun _ _=>rfl),hM.own,hM.inj,hM.apart,hM.fJ,hM.base,hM.dG,hM.DL,hM.hid⟩
end
end Go.Ab
