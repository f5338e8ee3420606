import Derived.Test.YtanikidijjaohaaGreatAbP1
import Derived.Laws.StructEq
import Derived.ChangeKeysEq
set_option linter.unusedVariables false
set_option linter.unusedSimpArgs false
namespace Go.Ab
open Go.RowKit (Below)
section
variable {P:Program} {G:Nat→Option (List PV)} {w0:bu} {μ:Ro} {φ:Nat→aA} {m:Mem} {w:World}
theorem toCells_ok{n:Nat}{v:V}{cs:List V}(h:toCells n v=some cs):cs.length=n∧(∀id,ck id cs=true→v.has id=true)∧∀(P:Program)(μ:Ro)(φ:Nat→aA)(x:Value),ae P μ φ v x→x.cells.size=n∧(∀(i:Nat)u y,cs[i]?=some u→x.cells[i]?=some y→ae P μ φ u y)∧(∀(i:Nat)(y:Value),x.cells[i]?=some y→y.oneCell'=true):=by
 have one:∀(v:V),(∀(P:Program)(μ:Ro)(φ:Nat→aA)(x:Value),ae P μ φ v x→x.oneCell'=true∧x.cells= #[x])→(if n=1 then some [v]else none)=some cs→cs.length=n∧(∀id,ck id cs=true→v.has id=true)∧∀(P:Program)(μ:Ro)(φ:Nat→aA)(x:Value),ae P μ φ v x→x.cells.size=n∧(∀(i:Nat)u y,cs[i]?=some u→x.cells[i]?=some y→ae P μ φ u y)∧(∀(i:Nat)(y:Value),x.cells[i]?=some y→y.oneCell'=true):=by
  intro v h1 h;split at h
  ·rename_i hn;simp only[AI]at h;subst h;subst hn;refine⟨rfl,fun id an=>by simpa[ck]using an,fun P μ φ x hx=>?_⟩;grind
  ·cases h
 have aen:∀x:Value,x.oneCell'=true→x.cells= #[x]:=by intro x hx;cases x<;>first|rfl|(simp[Value.oneCell']at hx)
 unfold toCells at h;split at h
 ·rename_i ps;split at h
  ·rename_i hn;simp only[AI]at h;subst h;refine⟨by simpa using hn,fun id an=>(by rw[Ph]at an;cases an),fun P μ φ x hx=>?_⟩;cases hx with
   |pv hx=>cases hx with
    |agg h1 h2 h3=>refine⟨by simp only[Value.cells];omega,fun i u y hu hy=>?_,h3⟩;simp only[IS,aaO]at hu;obtain⟨q,hq,rfl⟩:=hu;exact .pv (h2 i q y hq hy)
  ·cases h
 ·split at h
  ·rename_i hn;simp only[AI]at h;subst h;refine⟨hn,fun id an=>by simpa[V.has]using an,fun P μ φ x hx=>?_⟩;cases hx with
   |agg h1 h2 h3=>grind [Value.cells]
  ·cases h
 ·cases h
 ·cases h
 ·cases h
 ·cases h
 ·rename_i h1 h2 h3 h4 h5 h6;refine one v (fun P μ φ x hx=>?_) h;have:x.oneCell'=true:=by
   cases hx with
   |pv hp=>exact hp.one (fun cs e=>h1 cs (by rw[e])) (fun cs e=>h5 cs (by rw[e])) (fun e=>h6 (by rw[e]))
   |agg=>exact absurd rfl (h2 _)
   |bn=>exact absurd rfl (h4 _)
   |top=>exact absurd rfl h3
   |fn=>exact E4 _ _
   |_=>rfl
  simp_all
theorem sA:∀(d:Nat){v:V}{p:PV}{x:Value},kn cW d v=some p→ae P μ φ v x→af P μ p x
 |0,v,p,x,h,_=>by simp[kn]at h
 |d+1,v,p,x,h,hx=>by
  have ih:=fun{v p x}=> @sA d v p x;cases v with
  |pv q=>simp[kn]at h;subst h;cases hx with|pv hx=>exact hx
  |gF=>simp[kn]at h;subst h;cases hx;exact .ko
  |agg cs=>
   simp only[kn]at h;obtain⟨ps,ou,h⟩:=By.1 h;simp only[AI]at h;subst h;obtain⟨h1,h2⟩:=gz ou;cases hx with
   |agg g1 g2 g3=>refine .agg (by omega) (fun i q y hq hy=>?_) g3;obtain⟨u,hu,hg⟩:=h2 i q hq;exact ih hg (g2 i u y hu hy)
  |bn cs=>
   simp only[kn]at h;obtain⟨ps,ou,h⟩:=By.1 h;simp only[AI]at h;subst h;obtain⟨h1,h2⟩:=gz ou;cases hx with
   |bn g1 g2=>refine .bn (by omega) (fun i q y hq hy=>?_);obtain⟨u,hu,hg⟩:=h2 i q hq;exact ih hg (g2 i u y hu hy)
  |op id off=>simp[kn,cW]at h
  |oe id i off=>simp[kn,cW]at h
  |os id=>simp[kn,cW]at h
  |fx id lo len=>simp[kn,cW]at h
  |uF id i off=>simp[kn,cW]at h
  |yL id i off s j off2=>simp[kn]at h
  |om id=>simp[kn,cW]at h
  |fn f cs=>
   simp only[kn]at h;obtain⟨ps,ou,h⟩:=By.1 h;simp only[AI]at h;subst h;obtain⟨h1,h2⟩:=gz ou;cases hx with
   |fn g1 g2=>refine .fn (by omega) (fun i q y hq hy=>?_);obtain⟨u,hu,hg⟩:=h2 i q hq;exact ih hg (g2 i u y hu hy)
  |yl id=>simp[kn]at h
  |it id=>simp[kn]at h
  |top=>simp[kn]at h
def jK(w:World):Ro:=fun b=>w.heap[b]?
theorem aw.wB(hM:aw P G w0 μ φ m w):∀b o,μ b=some o→jK w b=some o:=hM.ro
variable{id s:Nat}{et:TypeId}{es:List PV}{ν:Ro}
theorem aK.GL(hA:aK P μ φ w id s et es){g:Nat}(hg:(φ id).g=some g){lo len:Nat}(hl:lo+len≤es.length){cap:Nat}(oz:cap≤(φ id).cap-lo)(hlc:len≤cap)(hν:∀b o,μ b=some o→ν b=some o)(EC:ν g=w.heap[g]?):af P ν (.rs s ((es.drop lo).take len)) (.slice (some ⟨g,lo*s,none⟩) len cap):=by
 have hle:=hA.nQ;obtain⟨a1,a2,a3,a4,a5,a6,a7⟩:=hA;rw[hg]at a7;obtain⟨c,T,c1,c2,c3,c4,c5⟩:=a7;have eH:∀(i:Nat)e,((es.drop lo).take len)[i]?=some e→i<len∧es[lo+i]?=some e:=fun i e hi=>nG hi;have hlen:((es.drop lo).take len).length=len:=by simp;omega
 have hb:∀(i:Nat)e(j:Nat)p,((es.drop lo).take len)[i]?=some e→e.cells[j]?=some p→(lo+i)*s+j<es.length*s:=by intro i e j p hi hj;obtain⟨_,hi⟩:=eH i e hi;have h1:=(HO.1 hi).1;have h2:=(HO.1 hj).1;have h3:=a5 _ e hi;have:(lo+i+1)*s≤es.length*s:=aaP _ (by omega);grind
 have hc:∀(i:Nat)e(j:Nat)p,((es.drop lo).take len)[i]?=some e→e.cells[j]?=some p→c[(lo+i)*s+j]?=some (c.getD ((lo+i)*s+j) undef):=by
  intro i e j p hi hj;obtain⟨_,hi⟩:=eH i e hi;have h1:=(HO.1 hi).1;have h2:=(HO.1 hj).1;have h3:=a5 _ e hi;have:(lo+i+1)*s≤(φ id).cap*s:=aaP _ (by omega);rw[ahj _ 1]at this;have bS:(lo+i)*s+j<c.size:=by omega
  simp_all
 have:=af.rs (P:=P) (μ:=ν) (sz:=s) (es:=(es.drop lo).take len) (b:=g) (o:=lo*s) (cap:=cap) (fun i j=>c.getD ((lo+i)*s+j) undef) (by omega) (by omega) (fun i e hi=>a5 _ e (eH i e hi).2) (fun i e j p hi hj=>by grind [cellAt,Nat.add_mul]) (fun i e j p hi hj=>((c4 _ e j p _ (eH i e hi).2 hj (hc i e j p hi hj)).mono hν)) (fun i e j p hi hj=>c5 _ _ (hb i e j p hi hj) (hc i e j p hi hj));simp_all
theorem aK.slice(hM:aw P G w0 μ φ m w)(hA:aK P μ φ w id s et es){g:Nat}(hg:(φ id).g=some g){lo len:Nat}(hl:lo+len≤es.length)(hν:∀b o,μ b=some o→ν b=some o)(EC:ν g=w.heap[g]?):af P ν (.rs s ((es.drop lo).take len)) (.slice (some ⟨g,lo*s,none⟩) len ((φ id).cap-lo)):=hA.GL hg hl (agM _) (by have:=hA.nQ;omega) hν EC
variable{x:Value}
theorem aK.Fb(hA:aK P μ φ w id s et es)(hx:ae P μ φ (.os id) x)(hν:∀b o,μ b=some o→ν b=some o)(EC:∀g,(φ id).g=some g→ν g=w.heap[g]?):af P ν (.rs s es) x:=by
 have xc:=hA;obtain⟨a1,a2,a3,a4,a5,a6,a7⟩:=hA;cases hx with
 |q6 hg=>rw[hg]at a7;rw[a7.1];exact .ko
 | @os _ g hg=>have hle:=xc.nQ;have:=xc.GL hg (lo:=0) (len:=es.length) (by omega) (cap:=(φ id).cap) (by omega) hle.1 hν (EC g hg);simp_all
theorem aK.full(hM:aw P G w0 μ φ m w)(hA:aK P μ φ w id s et es)(hx:ae P μ φ (.os id) x)(hν:∀b o,μ b=some o→ν b=some o)(EC:∀g,(φ id).g=some g→ν g=w.heap[g]?):af P ν (.rs s es) x:=hA.Fb hx hν EC
theorem eB.full{R:A6}{rs:List PV}(h:eB P μ R w s rs x)(hν:∀b o,μ b=some o→ν b=some o)(EC:∀g,R.g=some g→ν g=w.heap[g]?):af P ν (.rs s rs) x:=by obtain⟨⟨et,hA⟩,hV⟩:=h;exact hA.Fb hV hν EC
theorem Bb(e:PV):e.strip.cells=e.cells.map PV.mW:=by cases e<;>rfl
theorem aX.strip{sz:Nat}(h:aX P μ φ w id sz et es)(hν:∀b o,μ b=some o→ν b=some o)(EC:∀i off g,(bF.nest sz et es).rowAt i off=true→((φ id).row i off).g=some g→ν g=w.heap[g]?):aK P ν φ w id sz et (es.map PV.strip):=by
 obtain⟨a1,a2,a3,a4,a5,a6,a7⟩:=h;refine⟨by simpa using a1,a2,a3,a4,fun i e he=>?_,a6,?_⟩
 ·rw[IS,aaO]at he;obtain⟨e0,h0,rfl⟩:=he;grind [Bb,List.length_map]
 ·cases hg:(φ id).g with
  |none=>simp_all
  |some g=>
   rw[hg]at a7;obtain⟨c,T,c1,c2,c3,c4,c5⟩:=a7;refine⟨c,T,c1,c2,by simpa using c3,fun i e j p x he hp hx=>?_,fun i x hi hx=>c5 i x (by simpa using hi) hx⟩;rw[IS,aaO]at he;obtain⟨e0,h0,rfl⟩:=he;rw[Bb,IS,aaO]at hp;obtain⟨p0,GJ,rfl⟩:=hp;have hc:=c4 i e0 j p0 x h0 GJ hx;cases hr:p0.isRow with
   |false=>
    have:p0.mW=p0:=by cases p0<;>first|rfl|cases hr
    rw[this];exact(hc.Pg hr).mono hν
   |true=>
    cases p0<;>first|(cases hr;done)|skip
    rename_i s rs;exact eB.full (show eB P μ _ w s rs x from hc) hν fun g' cv=>EC i j g' (by simp[bF.rowAt,h0,GJ,PV.isRow]) cv
theorem QG{g o:Nat}{c:Array Value}{T:TypeId}{fz:Nat×Nat}{y:Value}(hν:ν g=w.heap[g]?)(h:w.heap[g]?=some (.cells c T fz))(hy:c[o]?=some y):cellAt ν g o=some y:=by simp[cellAt,hν,h,hy]
theorem su(hM:aw P G w0 μ φ m w){ν:Ro}(ro:∀b o,μ b=some o→ν b=some o)(own:∀id b g,m id=some b→b.dU (φ id) g→ν g=w.heap[g]?):∀(d:Nat){v:V}{p:PV}{x:Value},kn m d v=some p→ae P μ φ v x→af P ν p x
 |0,v,p,x,h,_=>by simp[kn]at h
 |d+1,v,p,x,h,hx=>by
  have ih:=fun{v p x}=> @su hM ν ro own d v p x;cases v with
  |pv q=>simp[kn]at h;subst h;cases hx with|pv hx=>exact hx.mono ro
  |gF=>simp[kn]at h;subst h;cases hx;exact .ko
  |agg cs=>
   simp only[kn]at h;obtain⟨ps,ou,h⟩:=By.1 h;simp only[AI]at h;subst h;obtain⟨h1,h2⟩:=gz ou;cases hx with
   |agg g1 g2 g3=>refine .agg (by omega) (fun i q y hq hy=>?_) g3;grind
  |bn cs=>
   simp only[kn]at h;obtain⟨ps,ou,h⟩:=By.1 h;simp only[AI]at h;subst h;obtain⟨h1,h2⟩:=gz ou;cases hx with
   |bn g1 g2=>refine .bn (by omega) (fun i q y hq hy=>?_);grind
  |op id off=>
   simp only[kn]at h;split at h
   ·rename_i cs hm;obtain⟨ps,ou,h⟩:=By.1 h;simp only[AI]at h;subst h;obtain⟨h1,h2⟩:=gz ou;obtain⟨g,c,T,hg,hh,hs,hv,sy,zJ⟩:=hM.du id _ hm;cases hx with
    |op cv=>
     rw[hg]at cv;simp only[AI]at cv;subst cv;have eH:∀(i:Nat)p,ps[i]?=some p→c[off+i]?=some (c.getD (off+i) undef):=by
      intro i p hi;have:=(HO.1 hi).1;rw[h1]at this;simp at this;have bS:off+i<c.size:=by omega
      simp_all
     refine .rp (fun i=>c.getD (off+i) undef) (fun i p hi=>QG (own _ _ _ hm (.inl hg)) hh (eH i p hi)) (fun i p hi=>?_) (fun i hi=>?_)
     ·grind
     ·exact sy _ _ (eH i _ (AS hi))
   ·cases h
  |oe id i off=>
   have key:∀(s:Nat)(et:TypeId)(es:List PV),(m id=some (.arr s et es)∨m id=some (.pt s et es))→((es[i]?).bind fun e=>some (PV.rp ((aC s e).drop off)))=some p→af P ν p x:=by
    intro s et es hm h;obtain⟨e,he,h⟩:=By.1 h;simp only[AI]at h;subst h;have hA:=hM.arr hm;have xc:=hA;have Y8:∀g,(φ id).g=some g→ν g=w.heap[g]?:=fun g hg=>by rcases hm with hm|hm<;>exact own _ _ _ hm (.inl hg)
    obtain⟨a1,a2,a3,a4,a5,a6,a7⟩:=hA;cases hx with
    | @oe _ _ _ g hg=>
     rw[a2];have B3:=xc.slice hM hg (lo:=0) (len:=es.length) (by omega) ro (Y8 _ hg);have aeo:af P ν (.rs s es) (.slice (some ⟨g,0,none⟩) es.length (φ id).cap):=by simpa using B3
     obtain⟨b,o,cap,e1,hr⟩:=aeo.Pj he;simp only[Value.slice.injEq,AI,Addr.mk.injEq]at e1;obtain⟨⟨rfl,rfl,_⟩,_⟩:=e1;have:=hr.GK off;simpa using this
   grind [kn]
  |os id=>
   simp only[kn]at h;split at h
   ·rename_i s et es hm;simp only[AI]at h;subst h;exact(hM.arr (.inl hm)).full hM hx ro (fun g hg=>own _ _ _ hm (.inl hg))
   ·rename_i s et es hm;simp only[AI]at h;subst h;exact(hM.arr (.inr hm)).full hM hx ro (fun g hg=>own _ _ _ hm (.inl hg))
   ·rename_i s et es hm;simp only[AI]at h;subst h;have hN:aX P μ φ w id s et es:=hM.du id _ hm;exact(hN.strip ro fun i off g hr hg=>own _ _ _ hm (.inr ⟨i,off,hr,hg⟩)).Fb (hx.w8 ro) (fun _ _ h=>h) fun g hg=>own _ _ _ hm (.inl hg)
   ·cases h
  |yL id i off s j off2=>simp[kn]at h
  |uF id i off=>
   simp only[kn]at h;split at h
   ·rename_i s et es hm;obtain⟨e,he,h⟩:=By.1 h;unfold aa1 at h;split at h
    ·rename_i s' rs hc;simp only[AI]at h;subst h;have hN:aX P μ φ w id s et es:=hM.du id _ hm;obtain⟨_,_,_,_,⟨⟨Eo,hA⟩,_⟩,hce⟩:=hN.row (s:=s') (rs:=rs) he (by rw[hc];simp[eK]);exact hA.Fb (hx.Li (ν:=μ)) ro fun g hg=>own _ _ _ hm (.inr ⟨i,off,by simp[bF.rowAt,he,hce,PV.isRow],hg⟩)
    ·cases h
   ·cases h
  |fx id lo len=>
   have key:∀(s:Nat)(et:TypeId)(es:List PV),(m id=some (.arr s et es)∨m id=some (.pt s et es))→af P ν (.rs s ((es.drop lo).take len)) x:=by
    intro s et es hm;have hA:=hM.arr hm;have xc:=hA;have Y8:∀g,(φ id).g=some g→ν g=w.heap[g]?:=fun g hg=>by rcases hm with hm|hm<;>exact own _ _ _ hm (.inl hg)
    have hle:=hA.nQ;obtain⟨a1,a2,a3,a4,a5,a6,a7⟩:=hA;cases hx with
    |pO hg=>simp;exact .ko
    | @fx _ _ _ cap g a hg hl ha Y6 SI=>
     rw[a1]at hl;rcases ha with rfl|⟨ha,_⟩
     ·rw[a2];exact xc.GL hg hl (by omega) Y6 ro (Y8 _ hg)
     ·have h0:len=0:=by omega
      subst h0;simp only[aid];exact .Ez (by omega)
   grind [kn,Option.some.injEq]
  |om id=>
   simp only[kn]at h;split at h
   ·rename_i kt es hm;simp only[AI]at h;subst h;obtain⟨g,en,clock,kk,hg,hh,hs,hk,Pk,_,hv⟩:=hM.du id _ hm;cases hx with
    |om cv=>
     rw[hg]at cv;simp only[AI]at cv;subst cv;refine .rm (show ν g=_ from(own _ _ _ hm (.inl hg)).trans hh) (by simp[hs]) (by simp) hk (fun i k hi=>?_) (fun i k e hi he=>?_) (fun i v e hi he=>?_)
     ·grind
     ·simp only[IS,aaO]at hi;obtain⟨⟨a,b⟩,hq,rfl⟩:=hi;exact(hv i a b e hq he).1.mono ro
     ·simp only[IS,aaO]at hi;obtain⟨⟨a,b⟩,hq,rfl⟩:=hi;exact(hv i a b e hq he).2.mono ro
   ·rename_i kt e0 es hm;simp only[AI]at h;subst h;obtain⟨g,en,clock,kk,hg,hh,hs,hk,Pk,_,hv⟩:=hM.du id _ hm;cases hx with
    |om cv=>
     rw[hg]at cv;simp only[AI]at cv;subst cv;refine .rm (show ν g=_ from(own _ _ _ hm (.inl hg)).trans hh) (by simp[hs]) (by simp) hk (fun i k hi=>?_) (fun i k e hi he=>?_) (fun i v e hi he=>?_)
     ·grind
     ·simp only[IS,aaO]at hi;obtain⟨⟨a,b⟩,hq,rfl⟩:=hi;exact(hv i a b e hq he).1.mono ro
     ·simp only[IS,aaO]at hi;obtain⟨⟨a,b⟩,hq,rfl⟩:=hi;have h2:=(hv i a b e hq he).2;cases hr:b.isRow with
      |false=>
       have e1:b.mW=b:=by cases b<;>first|rfl|cases hr
       simp only[e1];split at h2
       ·cases hr
       ·exact h2.mono ro
      |true=>
       cases b<;>first|(cases hr;done)|skip
       exact h2.1.Fb h2.2 ro fun g' cv=>own _ _ _ hm (.inr ⟨i,0,by simp[bF.rowAt,hq,PV.isRow],cv⟩)
   ·cases h
  |fn f cs=>
   simp only[kn]at h;obtain⟨ps,ou,h⟩:=By.1 h;simp only[AI]at h;subst h;obtain⟨h1,h2⟩:=gz ou;cases hx with
   |fn g1 g2=>refine .fn (by omega) (fun i q y hq hy=>?_);grind
  |yl id=>simp[kn]at h
  |it id=>simp[kn]at h
  |top=>simp[kn]at h
end
section
variable {P:Program} {w:World}
def valOf:PV→Value
 |.int k n=>.int k n
 |.bool b=>.bool b
 |.str s=>.string ⟨s.toArray⟩
 |_=>undef
def eD(P:Program)(t:TypeId)(ps:List PV):Value:=if ay P t then .agg (ps.map valOf).toArray else valOf (ps.headD .bad)
theorem Fc{μ:Ro}{k:Kd}{p:PV}{y:Value}(h:so k p=true)(hy:af P μ p y):y=valOf p:=by cases k<;>cases p<;>simp[so]at h<;>cases hy<;>rfl
theorem pg:∀{ks:List Kd}{ps:List PV},lI ks ps=true→ps.length=ks.length
 |[],[],_=>rfl
 |[],_::_,h=>by simp[lI]at h
 |_::_,[],h=>by simp[lI]at h
 |k::ks,p::ps,h=>by simp[lI]at h;simp[pg h.2]
theorem Pl:∀{ks:List Kd}{ps:List PV},lI ks ps=true→∀(i:Nat)p,ps[i]?=some p→∃k,ks[i]?=some k∧so k p=true
 |[],[],_,i,p,hi=>by simp at hi
 |[],_::_,h,_,_,_=>by simp[lI]at h
 |_::_,[],h,_,_,_=>by simp[lI]at h
 |k::ks,q::ps,h,i,p,hi=>by
  simp[lI]at h;cases i with
  |zero=>simp at hi;subst hi;exact⟨k,by simp,h.1⟩
  |succ i=>simp at hi;simpa using Pl h.2 i p hi
theorem pS:∀(a b:List Kd)(ps:List PV),lI (a++b) ps=true↔lI a (ps.take a.length)=true∧lI b (ps.drop a.length)=true
 |[],b,ps=>by simp[lI]
 |k::a,b,[]=>by simp[lI]
 |k::a,b,p::ps=>by simp[lI,pS a b ps,T2,ajT]
theorem uR:∀(n:Nat)(ps qs:List PV),n≤ps.length→n≤qs.length→dF ps qs=(dF (ps.take n) (qs.take n)&&dF (ps.drop n) (qs.drop n))
 |0,ps,qs,_,_=>by simp[dF]
 |n+1,[],_,h,_=>by simp at h
 |n+1,_::_,[],_,h=>by simp at h
 |n+1,p::ps,q::qs,h1,h2=>by simp only[agU,Nat.add_le_add_iff_right]at h1 h2;simp only[dF,List.take_succ_cons,List.drop_succ_cons,uR n ps qs h1 h2,Bool.and_assoc]
variable{ks:List Kd}{ps:List PV}
theorem rJ{μ:Ro}{xs:Array Value}(hk:lI ks ps=true)(hl:xs.size=ps.length)(hv:∀(i:Nat)p y,ps[i]?=some p→xs[i]?=some y→af P μ p y):xs=(ps.map valOf).toArray:=by
 apply aif;apply ag5;intro i;by_cases hi:i<ps.length
 ·have h1:ps[i]?=some ps[i]:=AS hi;have h2:xs[i]?=some xs[i]:=OF (by omega);obtain⟨k,_,hk⟩:=Pl hk i _ h1;have:=Fc hk (hv i _ _ h1 h2);simp only[agR,h2,IS,h1,adN,this]
 ·simp[hi,hl]
theorem xd(a:List Kd):∀n,(pJ a n).length=n*a.length
 |0=>by simp[pJ]
 |n+1=>by simp[pJ,xd a n,ahj];omega
theorem lZ{k:Kd}(h:lI [k] ps=true):∃p,ps=[p]∧so k p=true:=by
 cases ps with
 |nil=>simp[lI]at h
 |cons p r=>cases r with
  |nil=>exact⟨p,rfl,by simpa[lI]using h⟩
  |cons q r=>simp[lI]at h
theorem wC{d:Nat}{t:TypeId}(h:zI P d t=some ks):(ay P t=true→ks.length=aR P t)∧(ay P t=false→ks.length=1)∧∃de,P.underlying t=some de:=by
 cases d with
 |zero=>simp[zI]at h
 |succ d=>
  unfold zI at h;split at h
  ·rename_i q hu;simp at h;subst h;exact⟨by simp[ay,hu],by simp,_,hu⟩
  ·rename_i hu;simp at h;subst h;exact⟨by simp[ay,hu],by simp,_,hu⟩
  ·rename_i hu;simp at h;subst h;exact⟨by simp[ay,hu],by simp,_,hu⟩
  ·rename_i fs hu;split at h
   ·cases h
   ·obtain⟨a,ha,h⟩:=By.1 h;split at h
    ·rename_i hl;simp at h;subst h;exact⟨fun _=>hl,by simp[ay,hu],_,hu⟩
    ·cases h
  ·rename_i n e hu;obtain⟨a,ha,h⟩:=By.1 h;split at h
   ·rename_i hl;simp at h;subst h;refine⟨fun _=>?_,by simp[ay,hu],_,hu⟩;rw[←hl.2,xd]
   ·cases h
  ·cases h
theorem j6{d:Nat}{t:TypeId}{off:Nat}(h:zI P d t=some ks)(hl:off+ks.length≤ps.length):(part t (ps.map valOf).toArray off).run P w=.ok (eD P t ((ps.drop off).take ks.length)) w:=by
 obtain⟨h1,h2,de,hu⟩:=wC h;cases ha:ay P t with
 |true=>rw[yW ha];congr 1;simp only[eD,ha,T1];congr 1;rw[←h1 ha];simp[ajp,ai0,aji]
 |false=>
  have hk:=h2 ha;rw[hk]at hl⊢;have bS:off<ps.length:=by omega
  rw[yX hu ha (y:=valOf ps[off]) (by simp[bS])];congr 1;simp only[eD,ha,AT,Xq];rw[aie bS];rfl
theorem oA:∀(d:Nat)(t:TypeId)(ks:List Kd),zI P d t=some ks→∀(D:Nat)(w:World)(ps qs:List PV),lI ks ps=true→lI ks qs=true→(Op.equalIn (D+d) t (eD P t ps) (eD P t qs)).run P w=.ok (dF ps qs) w
 |0,t,ks,h,_,_,_,_,_,_=>by simp[zI]at h
 |d+1,t,ks,h,D,w,ps,qs,hp,hq=>by
  have ih:=oA d;have h0:=h;unfold zI at h;split at h
  ·rename_i q hu;simp only[AI]at h;subst h;have ha:ay P t=false:=by simp[ay,hu]
   obtain⟨p,rfl,Sc⟩:=lZ hp;obtain⟨q',rfl,hkq⟩:=lZ hq;clear hp hq;cases p<;>simp[so]at Sc;cases q'<;>simp[so]at hkq;subst Sc;subst hkq;simp[eD,ha,valOf,dF,peq,←ahm,Op.equalIn,run_underlying hu]
  ·rename_i hu;simp only[AI]at h;subst h;have ha:ay P t=false:=by simp[ay,hu]
   obtain⟨p,rfl,Sc⟩:=lZ hp;obtain⟨q',rfl,hkq⟩:=lZ hq;clear hp hq;cases p<;>simp[so]at Sc;cases q'<;>simp[so]at hkq;simp[eD,ha,valOf,dF,peq,←ahm,Op.equalIn,run_underlying hu]
  ·rename_i hu;simp only[AI]at h;subst h;have ha:ay P t=false:=by simp[ay,hu]
   obtain⟨p,rfl,Sc⟩:=lZ hp;obtain⟨q',rfl,hkq⟩:=lZ hq;clear hp hq;cases p<;>simp[so]at Sc;cases q'<;>simp[so]at hkq;simp only[eD,ha,valOf,dF,peq,←ahm,AT,Xq,List.headD_cons,ahY];rw[run_equalIn_string w _ _ _ _ hu,ByteArray.toList_eq,ByteArray.toList_eq]
  ·rename_i fs hu;split at h
   ·cases h
   ·rename_i pw;obtain⟨a,ha,h⟩:=By.1 h;split at h
    ·rename_i hlen;simp only[AI]at h;subst h;have KW:ay P t=true:=by simp[ay,hu]
     have hfo:P.fieldsOf t=fs:=by simp[Program.fieldsOf,hu]
     simp only[eD,KW,T1,←ahm];rw[run_equalIn_struct w (D+d) t _ _ (by rw[hfo];exact hu) (by simpa using pw),hfo];have key:∀(L:List Field)(off:Nat)(b:List Kd)(w:World),pI (zI P d) L off=some b→off≤ps.length→off≤qs.length→lI b (ps.drop off)=true→lI b (qs.drop off)=true→(Op.eqFields (D+d) (ps.map valOf).toArray (qs.map valOf).toArray L).run P w=.ok (dF (ps.drop off) (qs.drop off)) w:=by
      intro L;induction L with
      |nil=>
       intro off b w hb o1 o2 h1 h2;simp only[pI,AI]at hb;subst hb;have e1:ps.drop off=[]:=by cases hh:ps.drop off with|nil=>rfl|cons x r=>rw[hh]at h1;simp[lI]at h1
       have e2:qs.drop off=[]:=by cases hh:qs.drop off with|nil=>rfl|cons x r=>rw[hh]at h2;simp[lI]at h2
       simp[Op.eqFields,e1,e2,dF]
      |cons f L ihL=>
       intro off b w hb o1 o2 h1 h2;simp only[pI]at hb;split at hb
       ·rename_i hf;obtain⟨c,hc,hb⟩:=By.1 hb;obtain⟨b',gX,hb⟩:=By.1 hb;simp only[AI]at hb;subst hb;rw[pS]at h1 h2;have l1:=pg h1.1;have l2:=pg h2.1;simp only[ahu,air]at l1 l2;have p1:=j6 (w:=w) (ps:=ps) (off:=off) hc (by omega);have p2:=j6 (w:=w) (ps:=qs) (off:=off) hc (by omega);have p3:=ih f.type c hc D w _ _ h1.1 h2.1;have p4:=ihL (off+c.length) b' w gX (by omega) (by omega) (by rw[←ahz];exact h1.2) (by rw[←ahz];exact h2.2);simp only[Op.eqFields,hf.2,aj0,aiI,T1,Sem.run_bind,hf.1,p1,p2,p3,Result.andThen_ok];rw[uR c.length (ps.drop off) (qs.drop off) (by simp;omega) (by simp;omega),ahz,ahz];cases hr:dF ((ps.drop off).take c.length) ((qs.drop off).take c.length)with
        |false=>simp
        |true=>simpa using p4
       ·cases hb
     simpa using key fs.toList 0 a w ha (by simp) (by simp) (by simpa using hp) (by simpa using hq)
    ·cases h
  ·rename_i n e hu;obtain⟨a,ha,h⟩:=By.1 h;split at h
   ·rename_i hlen;simp only[AI]at h;subst h;have KW:ay P t=true:=by simp[ay,hu]
    obtain⟨_,_,de,hde⟩:=wC ha;obtain⟨i,hi⟩:∃i,P.info? e=some i:=by
     unfold Program.underlying at hde;cases hq:P.info? e with
     |none=>simp[hq]at hde
     |some i=>exact⟨i,rfl⟩
    have mP:P.cellsOf e=a.length:=hlen.1.symm;simp only[eD,KW,T1,←ahm];rw[run_equalIn_array w (D+d) _ _ hu hi,mP];have key:∀(k j:Nat)(w:World),j+k=n→j*a.length≤ps.length→j*a.length≤qs.length→lI (pJ a k) (ps.drop (j*a.length))=true→lI (pJ a k) (qs.drop (j*a.length))=true→(Op.eqItems (D+d) e a.length (ps.map valOf).toArray (qs.map valOf).toArray (List.range' j k)).run P w=.ok (dF (ps.drop (j*a.length)) (qs.drop (j*a.length))) w:=by
     intro k;induction k with
     |zero=>
      intro j w _ _ _ h1 h2;simp only[pJ]at h1 h2;have e1:ps.drop (j*a.length)=[]:=by cases hh:ps.drop (j*a.length)with|nil=>rfl|cons x r=>rw[hh]at h1;simp[lI]at h1
      have e2:qs.drop (j*a.length)=[]:=by cases hh:qs.drop (j*a.length)with|nil=>rfl|cons x r=>rw[hh]at h2;simp[lI]at h2
      simp[Op.eqItems,e1,e2,dF]
     |succ k Y9=>
      intro j w hj o1 o2 h1 h2;simp only[pJ]at h1 h2;rw[pS]at h1 h2;have l1:=pg h1.1;have l2:=pg h2.1;simp only[ahu,air]at l1 l2;have p1:=j6 (w:=w) (ps:=ps) (off:=j*a.length) ha (by omega);have p2:=j6 (w:=w) (ps:=qs) (off:=j*a.length) ha (by omega);have p3:=ih e a ha D w _ _ h1.1 h2.1;have ej:(j+1)*a.length=j*a.length+a.length:=by rw[ahj];omega
      have p4:=Y9 (j+1) w (by omega) (by omega) (by omega) (by rw[ej,←ahz];exact h1.2) (by rw[ej,←ahz];exact h2.2);rw[aiT];simp only[Op.eqItems,Sem.run_bind,p1,p2,p3,Result.andThen_ok];rw[uR a.length (ps.drop (j*a.length)) (qs.drop (j*a.length)) (by simp;omega) (by simp;omega),ahz,ahz,←ej];cases hr:dF ((ps.drop (j*a.length)).take a.length) ((qs.drop (j*a.length)).take a.length)with
      |false=>simp
      |true=>simpa using p4
    have:=key n 0 w (by omega) (by simp) (by simp) (by simpa using hp) (by simpa using hq);rw[aiY];simpa using this
   ·cases h
  ·cases h
end
section
variable {R:Type} {E:Env}
theorem VZ{k:IntKind}{x y:Int}(hx:(Lit.int k x).wf=true):(Lit.int k (x.tmod y)).wf=true:=by
 rw[nF]at*;have h0:k.min≤0∧0≤k.max:=by grind [IntKind.min,IntKind.max,IntKind.signed,IntKind.bits]
 rcases Int.le_total 0 x with h|h
 ·have h1:=Int.tmod_nonneg y h;have h2:x.tmod y≤x:=by have:=Int.natAbs_tmod x y;have h3:x.natAbs%y.natAbs≤x.natAbs:=Nat.mod_le _ _;omega
  omega
 ·have h1:x.tmod y= -((-x).tmod y):=by simp
  have h2:=Int.tmod_nonneg y (show 0≤-x by omega);have h3:(-x).tmod y≤-x:=by have:=Int.natAbs_tmod (-x) y;have h3:(-x).natAbs%y.natAbs≤(-x).natAbs:=Nat.mod_le _ _;omega
  omega
theorem V0{k:IntKind}{x:Int}(n:Nat)(hx:(Lit.int k x).wf=true):(Lit.int k (x.fdiv (2^n))).wf=true:=by
 rw[nF]at*;have h0:k.min≤0∧0≤k.max:=by grind [IntKind.min,IntKind.max,IntKind.signed,IntKind.bits]
 have hp:(0:Int)<2^n:=Int.pow_pos (by omega);rw[Int.fdiv_eq_ediv_of_nonneg _ (by omega)];rcases Int.le_total 0 x with h|h
 ·have h1:=Int.ediv_nonneg h (Int.le_of_lt hp);have h2:=Int.ediv_le_self (2^n) h;omega
 ·have h1:x/2^n≤0:=Int.ediv_nonpos_of_nonpos_of_neg h hp;have h2:x≤x/2^n:=by rw[Int.le_ediv_iff_mul_le hp];have:x*2^n≤x*1:=Int.mul_le_mul_of_nonpos_left h (by omega);omega
  omega
variable{P:Program}{t:TypeId}
theorem Fe{ps:List PV}(ha:ay P t=true):eD P t ps=.agg (ps.map valOf).toArray:=by simp[eD,ha]
def Ff(P:Program)(t:TypeId):Bool:=P.eqGuardType P.depth t
def rK(op:BinOp)(t:TypeId)(ox oy:Operand)(x y:Value):Sem Value:=do eqGuard op t ox oy x y;binOp op t x y
variable{x y:Value}{w:World}
theorem im{b:Bool}(hb:binOp .eql t x y=(do pure (.bool (←Op.equal t x y))))(h:(Op.equalIn 10000 t x y).run P w=.ok b w):(binOp .eql t x y).run P w=.ok (.bool b) w:=by simp_all[Op.equal,Op.maxDepth,Sem.run_bind,Result.andThen_ok,Sem.run_pure]
theorem iq{b:Bool}(hb:binOp .neq t x y=(do pure (.bool (!(←Op.equal t x y)))))(h:(Op.equalIn 10000 t x y).run P w=.ok b w):(binOp .neq t x y).run P w=.ok (.bool (!b)) w:=by simp_all[Op.equal,Op.maxDepth,Sem.run_bind,Result.andThen_ok,Sem.run_pure]
theorem bU{op:BinOp}{ox oy:Operand}{z:Value}(h1:(eqGuard op t ox oy x y).run P w=.ok () w)(h2:(binOp op t x y).run P w=.ok z w):(rK op t ox oy x y).run P w=.ok z w:=by simp_all[rK,Sem.run_bind,Result.andThen_ok]
theorem lK{e:TypeId}(hu:P.underlying t=some (.pointer e))(a:Option Addr):(Op.equalIn 10000 t (.pointer a) (.pointer none)).run P w=.ok a.isNone w:=by show(Op.equalIn (9999+1) t (.pointer a) (.pointer none)).run P w=.ok a.isNone w;cases a<;>(unfold Op.equalIn;simp only[Sem.run_bind,run_underlying hu,Result.andThen_ok];rfl)
theorem tu{a b:Array TypeId}{c:Bool}(hu:P.underlying t=some (.func a b c))(f:Fn)(xs ys:Array Value):(Op.equalIn 10000 t (.func f xs ys) .nilFunc).run P w=.ok false w:=by show(Op.equalIn (9999+1) t (.func f xs ys) .nilFunc).run P w=.ok false w;unfold Op.equalIn;simp only[Sem.run_bind,run_underlying hu,Result.andThen_ok];rfl
variable{k:PV→Option R}{a:V}{r:R}
theorem V1{op:BinOp}{b:V}(h:lQ E op t a b k=some r):∃q,(∀(R':Type)(k':PV→Option R'),lQ E op t a b k'=k' q)∧k q=some r∧∀(μ:Ro)(φ:Nat→aA)(w:World)(ox oy:Operand)(x y:Value),ae E.P μ φ a x→ae E.P μ φ b y→∃z,(rK op t ox oy x y).run E.P w=.ok z w∧af E.P μ q z:=by
 unfold lQ at h;split at h
 ·rename_i q x q' y;have ints:∀(μ:Ro)(φ:Nat→aA)(u v:Value),ae E.P μ φ (.pv (.int q x)) u→ae E.P μ φ (.pv (.int q' y)) v→u=.int q x∧v=.int q' y∧(Lit.int q x).wf=true:=by intro μ φ u v hu hv;cases hu with|pv hu=>cases hu with|int h1=>cases hv with|pv hv=>cases hv with|int h2=>exact⟨rfl,rfl,h1⟩
  cases op;case shl=>
   simp only at h;split at h
   ·cases h
   ·rename_i hy;refine⟨_,fun R' k'=>by simp[lQ,hy],h,fun μ φ w ox oy u v hu hv=>?_⟩;obtain⟨rfl,rfl,_⟩:=ints μ φ u v hu hv;exact⟨_,by simp[rK,eqGuard,binOp,Op.shift,hy],.int (wf_wrap _ _)⟩
  case shr=>
   simp only at h;split at h
   ·cases h
   ·rename_i hy;refine⟨_,fun R' k'=>by simp[lQ,hy],h,fun μ φ w ox oy u v hu hv=>?_⟩;obtain⟨rfl,rfl,hw⟩:=ints μ φ u v hu hv;exact⟨_,by simp[rK,eqGuard,binOp,Op.shift,hy],.int (V0 _ hw)⟩
  case quo=>
   simp only at h;split at h
   ·rename_i hq;subst hq;split at h
    ·cases h
    ·rename_i hy;refine⟨_,fun R' k'=>by simp[lQ,hy],h,fun μ φ w ox oy u v hu hv=>?_⟩;obtain⟨rfl,rfl,_⟩:=ints μ φ u v hu hv;exact⟨_,by simp[rK,eqGuard,binOp,Op.intDiv,hy],.int (wf_wrap _ _)⟩
   ·cases h
  case rem=>
   simp only at h;split at h
   ·rename_i hq;subst hq;split at h
    ·cases h
    ·rename_i hy;refine⟨_,fun R' k'=>by simp[lQ,hy],h,fun μ φ w ox oy u v hu hv=>?_⟩;obtain⟨rfl,rfl,hw⟩:=ints μ φ u v hu hv;exact⟨_,by simp[rK,eqGuard,binOp,Op.intDiv,hy],.int (VZ hw)⟩
   ·cases h
  case eql|neq|lss|leq|gtr|geq=>
   simp only at h;split at h
   ·rename_i hq;subst hq;refine⟨_,fun R' k'=>by simp[lQ],h,fun μ φ w ox oy u v hu hv=>?_⟩;obtain⟨rfl,rfl,_⟩:=ints μ φ u v hu hv;refine⟨_,bU (by rw[eqGuard_at_int];rfl) ?_,.bool⟩;first|rw[binOp_eql]|rw[binOp_neq]|rw[binOp_lss]|rw[binOp_leq]|rw[binOp_gtr]|rw[binOp_geq]
    rfl
   ·cases h
  all_goals
   simp only at h;split at h
   ·rename_i hq;subst hq;refine⟨_,fun R' k'=>by simp[lQ],h,fun μ φ w ox oy u v hu hv=>?_⟩;obtain⟨rfl,rfl,_⟩:=ints μ φ u v hu hv;refine⟨_,bU (by rw[eqGuard_at_int];rfl) ?_,.int (wf_wrap _ _)⟩;first|rw[binOp_add]|rw[binOp_sub]|rw[binOp_mul]|rw[binOp_and]|rw[binOp_or]|rw[binOp_xor]|rw[binOp_andNot]
    rfl
   ·cases h
 ·rename_i x y;have strs:∀(μ:Ro)(φ:Nat→aA)(u v:Value),ae E.P μ φ (.pv (.str x)) u→ae E.P μ φ (.pv (.str y)) v→u=.string ⟨x.toArray⟩∧v=.string ⟨y.toArray⟩:=by intro μ φ u v hu hv;cases hu with|pv hu=>cases hu with|str h1=>cases hv with|pv hv=>cases hv with|str h2=>exact⟨rfl,rfl⟩
  cases op;case add=>
   simp only at h;split at h
   ·rename_i gu;have hy:¬((x.length+y.length:Nat):Int)>IntKind.i64.max:=by have:=E.lp.th _ gu;omega
    refine⟨_,fun R' k'=>by simp only[lQ];rw[BY gu],h,fun μ φ w ox oy u v hu hv=>?_⟩;obtain⟨rfl,rfl⟩:=strs μ φ u v hu hv;refine⟨.string ⟨(x++y).toArray⟩,?_,.str ?_⟩
    ·simp only[rK,eqGuard,binOp,Op.stringOp,Sem.run_bind];have e:(⟨x.toArray⟩++⟨y.toArray⟩:ByteArray)=⟨(x++y).toArray⟩:=by apply ByteArray.ext;simp
     simp only[CD,e];rw[IN hy];simp
    ·simp only[maxLen];simp only[IntKind.max_i64]at hy;simp;omega
   ·cases h
  case eql|neq|lss|leq|gtr|geq=>simp only at h;refine⟨_,fun R' k'=>by simp only[lQ],h,fun μ φ w ox oy u v hu hv=>?_⟩;obtain⟨rfl,rfl⟩:=strs μ φ u v hu hv;refine⟨_,bU (by rw[eqGuard_at_string];rfl) ?_,.bool⟩;simp only[binOp,Op.stringOp,ByteArray.toList_eq];rfl
  all_goals (simp only at h;cases h)
 ·rename_i x y;have XP:∀(μ:Ro)(φ:Nat→aA)(u v:Value),ae E.P μ φ (.pv (.bool x)) u→ae E.P μ φ (.pv (.bool y)) v→u=.bool x∧v=.bool y:=by intro μ φ u v hu hv;cases hu with|pv hu=>cases hu with|bool=>cases hv with|pv hv=>cases hv with|bool=>exact⟨rfl,rfl⟩
  split at h
  ·rename_i pT;refine⟨_,fun R' k'=>by simp only[lQ,pT],h,fun μ φ w ox oy u v hu hv=>?_⟩;obtain⟨rfl,rfl⟩:=XP μ φ u v hu hv;exact⟨_,bU (by rw[eqGuard_at_bool];rfl) (im rfl (run_equalIn_bool w _ _ _ _ pT)),.bool⟩
  ·rename_i pT;refine⟨_,fun R' k'=>by simp only[lQ,pT],h,fun μ φ w ox oy u v hu hv=>?_⟩;obtain⟨rfl,rfl⟩:=XP μ φ u v hu hv;exact⟨_,bU (by rw[eqGuard_at_bool];rfl) (iq rfl (run_equalIn_bool w _ _ _ _ pT)),.bool⟩
  ·cases h
 ·split at h
  ·rename_i pT;refine⟨_,fun R' k'=>by simp only[lQ,pT],h,fun μ φ w ox oy u v hu hv=>?_⟩;cases hu with|pv hu=>cases hu;cases hv with|pv hv=>cases hv;exact⟨_,bU (by rw[eqGuard_at_pointer];rfl) (im rfl (lK pT none)),.bool⟩
  ·rename_i pT;refine⟨_,fun R' k'=>by simp only[lQ,pT],h,fun μ φ w ox oy u v hu hv=>?_⟩;cases hu with|pv hu=>cases hu;cases hv with|pv hv=>cases hv;exact⟨_,bU (by rw[eqGuard_at_pointer];rfl) (iq rfl (lK pT none)),.bool⟩
  ·cases h
 ·split at h
  ·rename_i pT;refine⟨_,fun R' k'=>by simp only[lQ,pT],h,fun μ φ w ox oy u v hu hv=>?_⟩;cases hu with| @fn f0 _ Za=>cases hv with|pv hv=>cases hv;obtain⟨g0,a0,b0,e0⟩:=pQ _ Za;rw[e0];exact⟨_,bU (by rw[eqGuard_at_func];rfl) (im rfl (tu pT _ _ _)),.bool⟩
  ·rename_i pT;refine⟨_,fun R' k'=>by simp only[lQ,pT],h,fun μ φ w ox oy u v hu hv=>?_⟩;cases hu with| @fn f0 _ Za=>cases hv with|pv hv=>cases hv;obtain⟨g0,a0,b0,e0⟩:=pQ _ Za;rw[e0];exact⟨_,bU (by rw[eqGuard_at_func];rfl) (iq rfl (tu pT _ _ _)),.bool⟩
  ·cases h
 ·split at h
  ·rename_i pT;refine⟨_,fun R' k'=>by simp only[lQ,pT],h,fun μ φ w ox oy u v hu hv=>?_⟩;cases hu with|pv hu=>cases hu with| @fn f0 _ Za=>cases hv with|pv hv=>cases hv;obtain⟨g0,a0,b0,e0⟩:=pQ _ Za;rw[e0];exact⟨_,bU (by rw[eqGuard_at_func];rfl) (im rfl (tu pT _ _ _)),.bool⟩
  ·rename_i pT;refine⟨_,fun R' k'=>by simp only[lQ,pT],h,fun μ φ w ox oy u v hu hv=>?_⟩;cases hu with|pv hu=>cases hu with| @fn f0 _ Za=>cases hv with|pv hv=>cases hv;obtain⟨g0,a0,b0,e0⟩:=pQ _ Za;rw[e0];exact⟨_,bU (by rw[eqGuard_at_func];rfl) (iq rfl (tu pT _ _ _)),.bool⟩
  ·cases h
 ·split at h
  ·rename_i pT;refine⟨_,fun R' k'=>by simp only[lQ,pT],h,fun μ φ w ox oy u v hu hv=>?_⟩;cases hu with|pv hu=>cases hu;cases hv with|pv hv=>cases hv;exact⟨_,bU (by rw[eqGuard_at_pointer];rfl) (im rfl (lK pT _)),.bool⟩
  ·rename_i pT;refine⟨_,fun R' k'=>by simp only[lQ,pT],h,fun μ φ w ox oy u v hu hv=>?_⟩;cases hu with|pv hu=>cases hu;cases hv with|pv hv=>cases hv;exact⟨_,bU (by rw[eqGuard_at_pointer];rfl) (iq rfl (lK pT _)),.bool⟩
  ·cases h
 ·split at h
  ·rename_i pT;refine⟨_,fun R' k'=>by simp only[lQ,pT],h,fun μ φ w ox oy u v hu hv=>?_⟩;cases hu with|op hg=>cases hv with|pv hv=>cases hv;exact⟨_,bU (by rw[eqGuard_at_pointer];rfl) (im rfl (lK pT _)),.bool⟩
  ·rename_i pT;refine⟨_,fun R' k'=>by simp only[lQ,pT],h,fun μ φ w ox oy u v hu hv=>?_⟩;cases hu with|op hg=>cases hv with|pv hv=>cases hv;exact⟨_,bU (by rw[eqGuard_at_pointer];rfl) (iq rfl (lK pT _)),.bool⟩
  ·cases h
 ·split at h
  ·rename_i pT;refine⟨_,fun R' k'=>by simp only[lQ,pT],h,fun μ φ w ox oy u v hu hv=>?_⟩;cases hu with|oe hg=>cases hv with|pv hv=>cases hv;exact⟨_,bU (by rw[eqGuard_at_pointer];rfl) (im rfl (lK pT _)),.bool⟩
  ·rename_i pT;refine⟨_,fun R' k'=>by simp only[lQ,pT],h,fun μ φ w ox oy u v hu hv=>?_⟩;cases hu with|oe hg=>cases hv with|pv hv=>cases hv;exact⟨_,bU (by rw[eqGuard_at_pointer];rfl) (iq rfl (lK pT _)),.bool⟩
  ·cases h
 ·rename_i n1 n2 n3 n4 m1 m2 n5 n6 n7;split at h
  ·rename_i ha;split at h
   ·rename_i ks as bs SL has hbs;split at h
    ·rename_i ps qs ou hqs;split at h
     ·rename_i hc;have hE:Ff E.P t=false∧zI E.P 8 t=some ks:=by
       unfold rj at SL;split at SL
       ·cases SL
       ·rename_i hg;exact⟨by simpa[Ff]using hg,SL⟩
      have key:∀(μ:Ro)(φ:Nat→aA)(w:World)(x y:Value),ae E.P μ φ a x→ae E.P μ φ b y→∃xs ys,x=.agg xs∧y=.agg ys∧(Op.equalIn 10000 t x y).run E.P w=.ok (dF ps qs) w:=by intro μ φ w x y hx hy;obtain⟨xs,rfl,g1,g2,g3⟩:=(nP has).2 _ _ _ _ hx;obtain⟨ys,rfl,g4,g5,g6⟩:=(nP hbs).2 _ _ _ _ hy;obtain⟨l1,l2⟩:=gz ou;obtain⟨l3,l4⟩:=gz hqs;have e1:=rJ (P:=E.P) (μ:=μ) (xs:=xs) hc.1 (by omega) (fun i p z hi hz=>by obtain⟨v,hv,hg⟩:=l2 i p hi;exact sA 1 hg (g2 i v z hv hz));have e2:=rJ (P:=E.P) (μ:=μ) (xs:=ys) hc.2 (by omega) (fun i p z hi hz=>by obtain⟨v,hv,hg⟩:=l4 i p hi;exact sA 1 hg (g5 i v z hv hz));refine⟨xs,ys,rfl,rfl,?_⟩;have:=oA 8 t ks hE.2 9992 w ps qs hc.1 hc.2;rw[Fe ha,Fe ha,←e1,←e2]at this;exact this
      have aep:∀(R':Type)(k':PV→Option R'),lQ E .eql t a b k'=k' (.bool (dF ps qs)):=by
       intro R' k';unfold lQ;split
       ·exact(n1 _ _ _ _ rfl rfl).elim
       ·exact(n2 _ _ rfl rfl).elim
       ·exact(n3 _ _ rfl rfl).elim
       ·exact(n4 rfl rfl).elim
       ·exact(m1 _ _ rfl rfl).elim
       ·exact(m2 _ _ rfl rfl).elim
       ·exact(n5 _ rfl rfl).elim
       ·exact(n6 _ _ rfl rfl).elim
       ·exact(n7 _ _ _ rfl rfl).elim
       ·rw[BY ha,SL,has,hbs];simp only[ou,hqs];rw[BY hc]
      have aeq:∀(R':Type)(k':PV→Option R'),lQ E .neq t a b k'=k' (.bool (!(dF ps qs))):=by
       intro R' k';unfold lQ;split
       ·exact(n1 _ _ _ _ rfl rfl).elim
       ·exact(n2 _ _ rfl rfl).elim
       ·exact(n3 _ _ rfl rfl).elim
       ·exact(n4 rfl rfl).elim
       ·exact(m1 _ _ rfl rfl).elim
       ·exact(m2 _ _ rfl rfl).elim
       ·exact(n5 _ rfl rfl).elim
       ·exact(n6 _ _ rfl rfl).elim
       ·exact(n7 _ _ _ rfl rfl).elim
       ·rw[BY ha,SL,has,hbs];simp only[ou,hqs];rw[BY hc]
      cases op;case eql=>refine⟨_,fun R' k'=>aep R' k',h,fun μ φ w ox oy x y hx hy=>?_⟩;obtain⟨xs,ys,rfl,rfl,hr⟩:=key μ φ w x y hx hy;exact⟨_,bU (run_eqGuard_agg w _ _ _ _ _ _ hE.1) (im rfl hr),.bool⟩
      case neq=>refine⟨_,fun R' k'=>aeq R' k',h,fun μ φ w ox oy x y hx hy=>?_⟩;obtain⟨xs,ys,rfl,rfl,hr⟩:=key μ φ w x y hx hy;exact⟨_,bU (run_eqGuard_agg w _ _ _ _ _ _ hE.1) (iq rfl hr),.bool⟩
      all_goals (simp only at h;cases h)
     ·cases h
    ·cases h
   ·cases h
  ·cases h
theorem Zb{op:UnOp}(h:xun op a k=some r):∃q,(∀(R':Type)(k':PV→Option R'),xun op a k'=k' q)∧k q=some r∧∀(P:Program)(μ:Ro)(φ:Nat→aA)(w:World)(x:Value),ae P μ φ a x→∃z,(Op.unary op x).run P w=.ok z w∧af P μ q z:=by
 unfold xun at h;split at h
 ·refine⟨_,fun R' k'=>rfl,h,fun P μ φ w x hx=>?_⟩;cases hx with|pv hx=>cases hx;exact⟨_,rfl,.bool⟩
 ·refine⟨_,fun R' k'=>rfl,h,fun P μ φ w x hx=>?_⟩;cases hx with|pv hx=>cases hx;exact⟨_,rfl,.int (wf_wrap _ _)⟩
 ·refine⟨_,fun R' k'=>rfl,h,fun P μ φ w x hx=>?_⟩;cases hx with|pv hx=>cases hx;exact⟨_,rfl,.int (wf_wrap _ _)⟩
 ·cases h
theorem V2{k:IntKind}{n:Int}(h:(Lit.int k n).wf=true):k.wrap n=n:=by rw[nF]at h;cases k<;>simp only[IntKind.wrap,IntKind.min,IntKind.max,IntKind.signed,IntKind.bits]at* <;>simp at* <;>(try split)<;>omega
theorem SM{s d:TypeId}(h:Cm E s d a k=some r):∃q,(∀(R':Type)(k':PV→Option R'),Cm E s d a k'=k' q)∧k q=some r∧∀(μ:Ro)(φ:Nat→aA)(w:World)(x:Value),ae E.P μ φ a x→∃z,(convert s d x).run E.P w=.ok z w∧af E.P μ q z:=by
 unfold Cm at h;split at h
 ·rename_i q q' q'' n hs hd;split at h
  ·rename_i e1;subst e1;split at h
   ·rename_i e2;subst e2;refine⟨_,fun R' k'=>by simp[Cm,hs,hd],h,fun μ φ w x hx=>?_⟩;cases hx with|pv hx=>cases hx with|int hw=>exact⟨_,by simp[convert,run_underlying hs,run_underlying hd,Conv.intToInt,V2 hw],.int hw⟩
   ·rename_i e2;refine⟨_,fun R' k'=>by simp[Cm,hs,hd,e2],h,fun μ φ w x hx=>?_⟩;cases hx with|pv hx=>cases hx with|int hw=>exact⟨_,by simp[convert,run_underlying hs,run_underlying hd,Conv.intToInt],.int (wf_wrap _ _)⟩
  ·cases h
 ·rename_i hs hd;refine⟨_,fun R' k'=>by simp[Cm,hs,hd],h,fun μ φ w x hx=>?_⟩;cases hx with|pv hx=>cases hx with|str hl=>exact⟨_,by simp[convert,run_underlying hs,run_underlying hd],.str hl⟩
 ·cases h
theorem SN{b:V}(h:Ii a b k=some r):∃q,(∀(R':Type)(k':PV→Option R'),Ii a b k'=k' q)∧k q=some r∧∀(P:Program)(μ:Ro)(φ:Nat→aA)(w:World)(x y:Value),ae P μ φ a x→ae P μ φ b y→∃z,(Builtin.min2 x y).run P w=.ok z w∧af P μ q z:=by
 unfold Ii at h;split at h
 ·split at h
  ·rename_i e;subst e;refine⟨_,fun R' k'=>by simp[Ii],h,fun P μ φ w x y hx hy=>?_⟩;cases hx with|pv hx=>cases hx with|int h1=>cases hy with|pv hy=>cases hy with|int h2=>exact⟨_,rfl,by split<;>exact .int (by assumption)⟩
  ·cases h
 ·cases h
theorem yY{b:V}(h:AY a b k=some r):∃q,(∀(R':Type)(k':PV→Option R'),AY a b k'=k' q)∧k q=some r∧∀(P:Program)(μ:Ro)(φ:Nat→aA)(w:World)(x y:Value),ae P μ φ a x→ae P μ φ b y→∃z,(Builtin.max2 x y).run P w=.ok z w∧af P μ q z:=by
 unfold AY at h;split at h
 ·split at h
  ·rename_i e;subst e;refine⟨_,fun R' k'=>by simp[AY],h,fun P μ φ w x y hx hy=>?_⟩;cases hx with|pv hx=>cases hx with|int h1=>cases hy with|pv hy=>cases hy with|int h2=>exact⟨_,rfl,by split<;>exact .int (by assumption)⟩
  ·cases h
 ·cases h
theorem SO{b c d:V}(h:Ij a b c d k=some r):∃q,(∀(R':Type)(k':PV→Option R'),Ij a b c d k'=k' q)∧k q=some r∧∀(P:Program)(μ:Ro)(φ:Nat→aA)(w:World)(x y z u:Value),ae P μ φ a x→ae P μ φ b y→ae P μ φ c z→ae P μ φ d u→∃v1 v2 v3,(Builtin.max2 x y).run P w=.ok v1 w∧(Builtin.max2 v1 z).run P w=.ok v2 w∧(Builtin.max2 v2 u).run P w=.ok v3 w∧af P μ q v3:=by unfold Ij at h;obtain⟨q1,a1,h,b1⟩:=yY h;obtain⟨q2,a2,h,b2⟩:=yY h;obtain⟨q3,a3,h,b3⟩:=yY h;refine⟨q3,fun R' k'=>by unfold Ij;rw[a1,a2,a3],h,fun P μ φ w x y z u hx hy hz hu=>?_⟩;obtain⟨v1,c1,d1⟩:=b1 P μ φ w x y hx hy;obtain⟨v2,c2,d2⟩:=b2 P μ φ w v1 z (.pv d1) hz;obtain⟨v3,c3,d3⟩:=b3 P μ φ w v2 u (.pv d2) hu;exact⟨v1,v2,v3,c1,c2,c3,d3⟩
end
section
variable {P:Program} {G:Nat→Option (List PV)} {w0:bu} {μ μ':Ro} {φ φ':Nat→aA} {m:Mem} {w w':World}
variable{b:bF}
@[simp] theorem bm(m:Mem)(d:Nat)(b:bF):al m d b d=some b:=by simp[al]
theorem ao{m:Mem}{d t:Nat}(h:t≠d):al m d b t=m t:=by simp[al,cond_eq_ite,h]
@[simp] theorem XQ(m:Mem)(d:Nat):bl m d d=none:=by simp[bl]
theorem fo{m:Mem}{d t:Nat}(h:t≠d):bl m d t=m t:=by simp[bl,cond_eq_ite,h]
@[simp] theorem xG(f:Fr)(d:Nat)(v:V):fY f d v d=v:=by simp[fY]
theorem pU{f:Fr}{d t:Nat}{v:V}(h:t≠d):fY f d v t=f t:=by simp[fY,cond_eq_ite,h]
variable{id sz:Nat}{et:TypeId}{es:List PV}
theorem aK.cr(h:aK P μ φ w id sz et es)(hφ:φ' id=φ id)(hμ:∀b o,μ b=some o→μ' b=some o)(hw:∀g,(φ id).g=some g→w'.heap[g]?=w.heap[g]?):aK P μ' φ' w' id sz et es:=by
 obtain⟨a1,a2,a3,a4,a5,a6,a7⟩:=h;unfold aK;rw[hφ];refine⟨a1,a2,a3,a4,a5,a6,?_⟩;cases hg:(φ id).g with
 |none=>rw[hg]at a7;omega
 |some g=>rw[hg]at a7;obtain⟨c,T,c1,c2,c3,c4,c5⟩:=a7;exact⟨c,T,by rw[hw g hg];omega,c2,c3,fun i e j p x h1 h2 h3=>(c4 i e j p x h1 h2 h3).mono hμ,c5⟩
theorem eB.cr{R:A6}{s:Nat}{rs:List PV}{x:Value}(h:eB P μ R w s rs x)(hμ:∀b o,μ b=some o→μ' b=some o)(hw:∀g,R.g=some g→w'.heap[g]?=w.heap[g]?):eB P μ' R w' s rs x:=
 let⟨⟨et,hA⟩,hV⟩:=h
 ⟨⟨et,hA.cr rfl hμ hw⟩,hV.w8 hμ⟩
theorem dW.cr{R:A6}{p:PV}{x:Value}(h:dW P μ R w p x)(hμ:∀b o,μ b=some o→μ' b=some o)(hw:p.isRow=true→∀g,R.g=some g→w'.heap[g]?=w.heap[g]?):dW P μ' R w' p x:=by
 unfold dW at*;split at h
 ·exact eB.cr h hμ (hw rfl)
 ·exact h.mono hμ
variable{i j:Nat}
theorem dq{e p:PV}(he:es[i]?=some e)(hp:e.cells[j]?=some p):(bF.nest sz et es).rowAt i j=p.isRow:=by simp[bF.rowAt,he,hp]
theorem aX.cr{id sz:Nat}{et:TypeId}{es:List PV}(h:aX P μ φ w id sz et es)(hφ:φ' id=φ id)(hμ:∀b o,μ b=some o→μ' b=some o)(hw:∀g,(bF.nest sz et es).dU (φ id) g→w'.heap[g]?=w.heap[g]?):aX P μ' φ' w' id sz et es:=by
 obtain⟨a1,a2,a3,a4,a5,a6,a7⟩:=h;unfold aX;rw[hφ];refine⟨a1,a2,a3,a4,a5,a6,?_⟩;cases hg:(φ id).g with
 |none=>rw[hg]at a7;omega
 |some g=>rw[hg]at a7;obtain⟨c,T,c1,c2,c3,c4,c5⟩:=a7;exact⟨c,T,by rw[hw g (.inl hg)];omega,c2,c3,fun i e j p x h1 h2 h3=>(c4 i e j p x h1 h2 h3).cr hμ fun hr g' cv=>hw g' (.inr ⟨i,j,by rw[dq h1 h2];omega,cv⟩),c5⟩
theorem jL{kt e:TypeId}{es:List (PV×PV)}{k v:PV}(he:es[i]?=some (k,v)):(bF.eY kt e es).rowAt i 0=v.isRow:=by simp[bF.rowAt,he]
theorem gm.cr{id:Nat}{b:bF}(h:gm P μ φ w id b)(hn:∀j,b.names j=true→φ' j=φ j)(hφ:φ' id=φ id)(hμ:∀b o,μ b=some o→μ' b=some o)(hw:∀g,b.dU (φ id) g→w'.heap[g]?=w.heap[g]?):gm P μ' φ' w' id b:=by
 cases b with
 |nest sz et es=>exact aX.cr h hφ hμ hw
 |eY kt e0 es=>
  obtain⟨g,en,clock,kk,hg,hh,hs,hk,hc,wx,hv⟩:=h;refine⟨g,en,clock,kk,by rw[hφ];omega,by rw[hw g (.inl hg)];omega,hs,hk,hc,wx,fun i k v e h1 h2=>⟨(hv i k v e h1 h2).1.mono hμ,?_⟩⟩;have h3:=(hv i k v e h1 h2).2;rw[hφ];split at h3
  ·exact⟨h3.1.cr rfl hμ fun g' cv=>hw g' (.inr ⟨i,0,by rw[jL h1];rfl,cv⟩),h3.2.w8 hμ⟩
  ·exact h3.mono hμ
 |box cs=>obtain⟨g,c,T,hg,hh,hs,hv,h1,zJ⟩:=h;exact⟨g,c,T,by rw[hφ];omega,by rw[hw g (.inl hg)];omega,hs,fun i v x hi hx=>(hv i v x hi hx).mono hμ (fun j hj=>hn j (bI (aaQ hi) hj)),h1,by rw[hφ];omega⟩
 |arr sz et es=>exact aK.cr h hφ hμ fun g hg=>hw g (.inl hg)
 |pt sz et es=>refine⟨aK.cr h.1 hφ hμ fun g hg=>hw g (.inl hg),fun g hg=>?_⟩;rw[hφ]at hg;have:=h.2 g hg;obtain⟨o,ho⟩:=agT.1 this;rw[hμ _ _ ho];rfl
 |map kt es=>obtain⟨g,en,clock,kk,hg,hh,hs,hk,hc,wx,hv⟩:=h;exact⟨g,en,clock,kk,by rw[hφ];omega,by rw[hw g (.inl hg)];omega,hs,hk,hc,wx,fun i k v e h1 h2=>⟨(hv i k v e h1 h2).1.mono hμ,(hv i k v e h1 h2).2.mono hμ⟩⟩
 |iter t es cur=>obtain⟨g,mg,en,clock,seen,hg,hh,ED,wx,zJ,hv,hcu⟩:=h;exact⟨g,mg,en,clock,seen,by rw[hφ];omega,by rw[hw g (.inl hg)];omega,hμ _ _ ED,wx,zJ,fun i k v e h1 h2=>⟨(hv i k v e h1 h2).1.mono hμ,(hv i k v e h1 h2).2.mono hμ⟩,fun k v hc=>let⟨i,e,h1,h2,h3,h4⟩:=hcu k v hc;⟨i,e,h1,h2,h3.mono hμ,h4.mono hμ⟩⟩
 |loop st=>obtain⟨g,rc,hg,hh⟩:=h;exact⟨g,rc,by rw[hφ];omega,by rw[hw g (.inl hg)];omega⟩
variable{g:Nat}
theorem eB.CH{R:A6}{s:Nat}{rs:List PV}{x:Value}(h:eB P μ R w s rs x)(hg:R.g=some g):g<w.heap.size:=by obtain⟨⟨et,_,_,_,_,_,_,a7⟩,_⟩:=h;have cv:R.up.g=some g:=hg;grind
theorem jM{off:Nat}(h:b.rowAt i off=true):(∃sz et es e s rs,b=.nest sz et es∧es[i]?=some e∧e.cells[off]?=some (.pd s rs))∨∃kt e0 es k s rs,b=.eY kt e0 es∧off=0∧es[i]?=some (k,.pd s rs):=by
 unfold bF.rowAt at h;split at h
 ·rename_i sz et es i off;split at h
  ·rename_i e he;split at h
   ·rename_i p hp;cases p<;>first|(cases h;done)|skip
    grind
   ·cases h
  ·cases h
 ·rename_i kt e0 es i;split at h
  ·rename_i x hx;obtain⟨k,v⟩:=x;cases v<;>first|(cases h;done)|skip
   grind
  ·cases h
 ·cases h
theorem gm.aa8{off:Nat}(h:gm P μ φ w id b)(hr:b.rowAt i off=true)(hg:((φ id).row i off).g=some g):g<w.heap.size:=by
 rcases jM hr with⟨sz,et,es,e,s,rs,rfl,he,hp⟩|⟨kt,e0,es,k,s,rs,rfl,rfl,he⟩
 ·have hN:aX P μ φ w id sz et es:=h;have hgg:∃g0,(φ id).g=some g0:=by
   cases hq:(φ id).g with
   |some g0=>simp
   |none=>have a7:=hN.2.2.2.2.2.2;simp_all
  obtain⟨g0,Lj⟩:=hgg;obtain⟨c,_,x,_,_,c3,_⟩:=hN.cell Lj he hp;exact eB.CH (show eB P μ _ w s rs x from c3) hg
 ·obtain⟨g0,en,clock,kk,Lj,hh,hs,hk,hc,wx,hv⟩:=h;have hi:i<en.size:=by grind
  have h3:=(hv i k _ en[i] he (OF hi)).2;exact eB.CH (P:=P) (μ:=μ) (R:=(φ id).row i 0) (s:=s) (rs:=rs) (x:=en[i].val) ⟨⟨_,h3.1⟩,h3.2⟩ hg
theorem gm.CH(h:gm P μ φ w id b)(hg:b.dU (φ id) g):g<w.heap.size:=by
 rcases hg with hg|⟨i,off,hr,hg⟩
 rotate_left
 ·exact h.aa8 hr hg
 have key:∀o,w.heap[g]?=some o→g<w.heap.size:=fun o ho=>(YH.1 ho).1;cases b with
 |nest sz et es=>obtain⟨_,_,_,_,_,_,a7⟩:=h;grind
 |eY kt e0 es=>obtain⟨g',en,clock,kk,cv,hh,_⟩:=h;simp_all
 |box cs=>obtain⟨g',c,T,cv,hh,_⟩:=h;simp_all
 |arr sz et es=>obtain⟨_,_,_,_,_,_,a7⟩:=h;grind
 |pt sz et es=>obtain⟨⟨_,_,_,_,_,_,a7⟩,_⟩:=h;grind
 |map kt es=>obtain⟨g',en,clock,kk,cv,hh,_⟩:=h;simp_all
 |iter t es cur=>obtain⟨g',mg,en,clock,seen,cv,hh,_⟩:=h;simp_all
 |loop st=>obtain⟨g',rc,cv,hh⟩:=h;simp_all
theorem aw.Lk(hM:aw P G w0 μ φ m w)(hm:m j=some b)(hn:b.names id=true):(m id).isSome=true:=by
 cases b with
 |box cs=>exact hM.fy j cs id hm hn
 |_=>simp[bF.names]at hn
theorem wE{cs:List V}(h:ck j (cs.map (rn id))=true):ck j cs=true∧j≠id:=by obtain⟨v,hv,hh⟩:=cF.1 h;obtain⟨u,hu,rfl⟩:=agZ.1 hv;grind [uP,bI]
theorem gm.kill{id j:Nat}{b:bF}(h:gm P μ φ w j b):gm P μ φ w j (fZ id b):=by
 cases b with
 |box cs=>obtain⟨g,c,T,hg,hh,hs,hv,h1,zJ⟩:=h;refine⟨g,c,T,hg,hh,by simpa using hs,fun i v x hi hx=>?_,h1,by simpa using zJ⟩;simp only[IS,aaO]at hi;obtain⟨u,hu,rfl⟩:=hi;exact(hv i u x hu hx).kill id
 |_=>exact h
theorem tv(id:Nat)(b:bF):(fZ id b).rowAt=b.rowAt:=by cases b<;>rfl
variable{p:aA}
theorem fU:(fZ id b).dU p g↔b.dU p g:=by unfold bF.dU;rw[tv]
theorem tw:(fZ id b).apart p↔b.apart p:=by unfold bF.apart;rw[tv]
theorem pV(h:∀i off,b.rowAt i off=true→False):b.apart p:=fun i off _ hr=>(h i off hr).elim
theorem nH(h:∀i off,b.rowAt i off=true→False)(ho:b.dU p g):p.g=some g:=by
 rcases ho with h1|⟨i,off,hr,_⟩
 ·omega
 simp_all
theorem CI(h:bB id m j=some b):∃b',m j=some b'∧b=fZ id b':=by unfold bB at h;grind
theorem wF(id:Nat)(b:bF):(fZ id b).jg=b.jg:=by cases b<;>rfl
theorem aw.forget(hM:aw P G w0 μ φ m w)(id:Nat):aw P G w0 μ φ (bl (bB id m) id) w:=by
 have key:∀j b,bl (bB id m) id j=some b→j≠id∧∃b',m j=some b'∧b=fZ id b':=by
  intro j b h;by_cases e:j=id
  ·subst e;simp at h
  simp_all[fo,CI]
 refine⟨hM.below,hM.ro,hM.aH,fun j b h=>?_,fun j b g h hg=>?_,fun i j b1 b2 g h1 h2 g1 g2=>?_,fun j b h=>?_,fun j cs i h hh=>?_,hM.base,hM.dx,fun j st h=>?_⟩
 rotate_right
 ·obtain⟨_,b',hb,e⟩:=key j _ h;cases b' with
  |loop st'=>simp only[fZ,bF.loop.injEq]at e;subst e;exact hM.A5 j st hb
  |_=>simp[fZ]at e
 ·obtain⟨_,b',hb,rfl⟩:=key j b h;exact(hM.du j b' hb).kill
 ·obtain⟨_,b',hb,rfl⟩:=key j b h;rw[wF];exact hM.own j b' g hb (fU.1 hg)
 ·obtain⟨_,b1',XR,rfl⟩:=key i b1 h1;obtain⟨_,b2',tf,rfl⟩:=key j b2 h2;exact hM.inj i j b1' b2' g XR tf (fU.1 g1) (fU.1 g2)
 ·obtain⟨_,b',hb,rfl⟩:=key j b h;exact tw.2 (hM.apart j b' hb)
 ·obtain⟨_,b',hb,e⟩:=key j _ h;cases b' with
  |box Ll=>simp only[fZ,bF.box.injEq]at e;subst e;obtain⟨h1,h2⟩:=wE hh;have:=hM.fy j Ll i hb h1;grind [fo,bB]
  |_=>simp[fZ]at e
theorem xe(m:Mem)(id:Nat)(b:bF):al (bl m id) id b=al m id b:=by
 funext t;by_cases h:t=id
 ·subst h;simp
 simp_all[ao,fo]
variable{b':bF}
theorem CJ(tq:∀i off,b'.rowAt i off=true→b.rowAt i off=true)(h:b'.dU p g):b.dU p g:=by
 rcases h with h|⟨i,off,hr,h⟩
 ·exact .inl h
 ·exact .inr ⟨i,off,tq i off hr,h⟩
theorem QH(tq:∀i off,b'.rowAt i off=true→b.rowAt i off=true)(h:b.apart p):b'.apart p:=fun i off g hr hg=>
 let⟨h1,h2⟩:=h i off g (tq i off hr) hg
 ⟨h1,fun i' rH yK cv=>h2 i' rH (tq i' rH yK) cv⟩
theorem aw.SP(hM:aw P G w0 μ φ m w)(hm:m id=some b)(Ln:b.jg=true)(hg:b.dU (φ id) g)(Lo:kv g w w')(Pm:w'.heap.size=w.heap.size)(hw:∀k,k≠g→w'.heap[k]?=w.heap[k]?)(hB:gm P μ φ w' id b')(XS:b'.jg=true)(hn:∀j,b'.names j=true→(m j).isSome=true)(tq:∀i off,b'.rowAt i off=true→b.rowAt i off=true)(Zc:∀st,b'=.loop st→∃rc,(φ id).g=some g∧w0.rc id=some (g,rc)∧w'.heap[g]?=some (.loop (st.obj rc)):=by intro st h;cases h):aw P G w0 μ φ (al m id b') w':=by
 obtain⟨uN,hμ⟩:=hM.own id b g hm hg;have hμ:=hμ Ln;refine⟨hM.below.trans (Lo.mono uN),fun k o hk=>?_,hM.aH,fun j c hj=>?_,fun j c g' hj cv=>?_,fun i j b1 b2 g' h1 h2 g1 g2=>?_,fun j c hj=>?_,fun j cs i hj hh=>?_,hM.base,hM.dx,fun j st hj=>?_⟩
 rotate_right
 ·by_cases e:j=id
  ·simp_all
  ·rw[ao e]at hj;obtain⟨g',rc,h1,h2,h3⟩:=hM.A5 j st hj;exact⟨g',rc,h1,h2,by rw[hw g' (fun e'=>by subst e';exact e (hM.inj j id _ b g' hj hm (.inl h1) hg))];omega⟩
 ·have:k≠g:=fun e=>by simp_all
  rw[hw k this];exact hM.ro k o hk
 ·by_cases e:j=id
  ·simp_all
  ·rw[ao e]at hj;refine(hM.du j c hj).cr (fun _ _=>rfl) rfl (fun _ _ h=>h) (fun g' cv=>hw g' (fun e'=>?_));subst e';exact e (hM.inj j id c b g' hj hm cv hg)
 ·by_cases e:j=id
  ·subst e;rw[bm]at hj;simp only[AI]at hj;subst hj;obtain⟨h1,h2⟩:=hM.own j b g' hm (CJ tq cv);simp_all
  ·rw[ao e]at hj;exact hM.own j c g' hj cv
 ·have e1:∃c1,m i=some c1∧c1.dU (φ i) g':=by grind [id,bm,Option.some.injEq,CJ,ao]
  have e2:∃c2,m j=some c2∧c2.dU (φ j) g':=by grind [id,bm,Option.some.injEq,CJ,ao]
  obtain⟨c1,e1,o1⟩:=e1;obtain⟨c2,e2,o2⟩:=e2;exact hM.inj i j c1 c2 g' e1 e2 o1 o2
 ·by_cases e:j=id
  ·subst e;rw[bm]at hj;simp only[AI]at hj;subst hj;exact QH tq (hM.apart j b hm)
  ·rw[ao e]at hj;exact hM.apart j c hj
 ·have:(m i).isSome=true:=by
   by_cases e:j=id
   ·subst e;rw[bm]at hj;simp only[AI]at hj;subst hj;exact hn i hh
   ·rw[ao e]at hj;exact hM.fy j cs i hj hh
  by_cases e:i=id
  ·subst e;simp
  ·rw[ao e];omega
theorem aw.write(hM:aw P G w0 μ φ m w)(hm:m id=some b)(Ln:b.jg=true)(hg:(φ id).g=some g)(Lo:kv g w w')(Pm:w'.heap.size=w.heap.size)(hw:∀k,k≠g→w'.heap[k]?=w.heap[k]?)(hB:gm P μ φ w' id b')(XS:b'.jg=true)(hn:∀j,b'.names j=true→(m j).isSome=true)(Zc:∀st,b'=.loop st→∃rc,w0.rc id=some (g,rc)∧w'.heap[g]?=some (.loop (st.obj rc)):=by intro st h;cases h)(tq:∀i off,b'.rowAt i off=true→b.rowAt i off=true:=by intro i off h;simp[bF.rowAt]at h):aw P G w0 μ φ (al m id b') w':=hM.SP hm Ln (.inl hg) Lo Pm hw hB XS hn tq fun st h=>let⟨rc,h1,h2⟩:=Zc st h;⟨rc,hg,h1,h2⟩
def oV(μ:Ro)(w:World)(g:Option Nat):Ro:=fun b=>if g=some b then w.heap[b]? else μ b
theorem lr(hM:aw P G w0 μ φ m w)(g:Option Nat):∀b o,μ b=some o→oV μ w g b=some o:=by
 intro b o hb;unfold oV;split
 ·exact hM.ro b o hb
 omega
noncomputable def sB(μ:Ro)(w:World)(S:Nat→Prop):Ro:=fun b=> @ite _ (S b) (Classical.propDecidable _) (w.heap[b]?) (μ b)
theorem pW(hM:aw P G w0 μ φ m w)(S:Nat→Prop):∀b o,μ b=some o→sB μ w S b=some o:=by
 intro b o hb;unfold sB;split
 ·exact hM.ro b o hb
 omega
theorem aw.Pn(hM:aw P G w0 μ φ m w)(hm:m id=some b)(Zc:∀st,b≠.loop st)(hA:aK P (sB μ w (b.dU (φ id))) φ w id sz et es):aw P G w0 (sB μ w (b.dU (φ id))) φ (al m id (.pt sz et es)) w:=by
 have mono:=pW hM (b.dU (φ id));have SQ:∀i off,(bF.pt sz et es).rowAt i off=true→False:=fun i off h=>by simp[bF.rowAt]at h
 refine⟨hM.below,fun k o hb=>?_,fun g cs hg=>(hM.aH g cs hg).mono mono,fun j c hj=>?_,fun j c g' hj cv=>?_,fun i j b1 b2 g' h1 h2 g1 g2=>?_,fun j c hj=>?_,fun j cs i hj hh=>?_,fun k o hb bS=>?_,fun b o hb=>mono b o (hM.dx b o hb),fun j st hj=>?_⟩
 rotate_right
 ·by_cases e:j=id
  ·simp_all
  ·rw[ao e]at hj;exact hM.A5 j st hj
 rotate_right
 ·unfold sB at hb;split at hb
  ·rename_i he;have:=(hM.own id b k hm he).1;omega
  ·exact hM.base k o hb bS
 ·unfold sB at hb;split at hb
  ·omega
  ·exact hM.ro k o hb
 ·by_cases e:j=id
  ·subst e;rw[bm]at hj;simp only[AI]at hj;subst hj;refine⟨hA,fun g hg=>?_⟩;have:=gm.CH (b:=.arr sz et es) hA (.inl hg);unfold sB;rw[BY (show b.dU (φ j) g from .inl hg)];simp[this]
  ·rw[ao e]at hj;exact(hM.du j c hj).cr (fun _ _=>rfl) rfl mono (fun _ _=>rfl)
 ·by_cases e:j=id
  ·subst e;rw[bm]at hj;simp only[AI]at hj;subst hj;exact⟨(hM.own j b g' hm (.inl (nH SQ cv))).1,by simp[bF.jg]⟩
  ·rw[ao e]at hj;obtain⟨h1,h2⟩:=hM.own j c g' hj cv;refine⟨h1,fun ED=>?_⟩;unfold sB;split
   ·rename_i he;exact absurd (hM.inj j id c _ g' hj hm cv he) e
   ·exact h2 ED
 ·have e1:∃c1,m i=some c1∧c1.dU (φ i) g':=by
   by_cases e:i=id
   ·subst e;rw[bm]at h1;simp only[AI]at h1;subst h1;exact⟨b,hm,.inl (nH SQ g1)⟩
   simp_all[ao]
  have e2:∃c2,m j=some c2∧c2.dU (φ j) g':=by
   by_cases e:j=id
   ·subst e;rw[bm]at h2;simp only[AI]at h2;subst h2;exact⟨b,hm,.inl (nH SQ g2)⟩
   simp_all[ao]
  obtain⟨c1,e1,o1⟩:=e1;obtain⟨c2,e2,o2⟩:=e2;exact hM.inj i j c1 c2 g' e1 e2 o1 o2
 ·by_cases e:j=id
  ·simp_all[bm,AI,pV]
  ·rw[ao e]at hj;exact hM.apart j c hj
 ·have:(m i).isSome=true:=by
   by_cases e:j=id
   ·simp_all
   ·rw[ao e]at hj;exact hM.fy j cs i hj hh
  by_cases e:i=id
  ·subst e;simp
  ·rw[ao e];omega
theorem px:∀i off,(bF.arr sz et es).rowAt i off=true→False:=fun i off h=>by simp[bF.rowAt]at h
theorem aw.freeze(hM:aw P G w0 μ φ m w)(hm:m id=some (.arr sz et es)):aw P G w0 (oV μ w (φ id).g) φ (al m id (.pt sz et es)) w:=by
 have e:sB μ w ((bF.arr sz et es).dU (φ id))=oV μ w (φ id).g:=by
  funext b;unfold sB oV;by_cases h:(φ id).g=some b
  ·rw[BY h,BY (show(bF.arr sz et es).dU (φ id) b from .inl h)]
  ·rw[IN h,IN fun ho=>h (nH px ho)]
 have:=hM.Pn (sz:=sz) (et:=et) (es:=es) hm (fun st h=>by cases h) (aK.cr (hM.du id _ hm) rfl (pW hM _) (fun _ _=>rfl));rwa[e]at this
theorem aw.Po(hM:aw P G w0 μ φ m w)(hm:m id=some (.nest sz et es)):aw P G w0 (sB μ w ((bF.nest sz et es).dU (φ id))) φ (al m id (.pt sz et (es.map PV.strip))) w:=by have hN:aX P μ φ w id sz et es:=hM.du id _ hm;refine hM.Pn hm (fun st h=>by cases h) (hN.strip (pW hM _) fun i off g hr hg=>?_);unfold sB;rw[BY (show(bF.nest sz et es).dU (φ id) g from .inr ⟨i,off,hr,hg⟩)]
def cu(μ:Ro)(w w':World):Ro:=fun b=>if b<w.heap.size then μ b else w'.heap[b]?
theorem j7(hM:aw P G w0 μ φ m w)(w':World):∀b o,μ b=some o→cu μ w w' b=some o:=by intro b o hb;have:=(YH.1 (hM.ro b o hb)).1;simp[cu,this,hb]
theorem aw.called(hM:aw P G w0 μ φ m w)(hb:kv w.heap.size w w'):aw P G w0 (cu μ w w') φ m w':=by
 have mono:=j7 hM w';refine⟨hM.below.trans (hb.mono hM.below.size),fun b o h=>?_,fun g cs hg=>(hM.aH g cs hg).mono mono,fun id b h=>?_,fun id b g h hg=>?_,hM.inj,hM.apart,hM.fy,fun b o h bS=>?_,fun b o hb=>mono b o (hM.dx b o hb),fun j st hj=>?_⟩
 rotate_right
 ·obtain⟨g,rc,h1,h2,h3⟩:=hM.A5 j st hj;exact⟨g,rc,h1,h2,by rw[hb.block g (YH.1 h3).1];omega⟩
 rotate_right
 ·have:w0.heap.size≤w.heap.size:=hM.below.size;unfold cu at h;rw[BY (by omega)]at h;exact hM.base b o h bS
 ·unfold cu at h;split at h
  ·rename_i bS;rw[hb.block b bS];exact hM.ro b o h
  omega
 ·have hR:=hM.du id b h;exact hR.cr (fun _ _=>rfl) rfl mono (fun g hg=>hb.block g (hR.CH hg))
 ·obtain⟨h1,h2⟩:=hM.own id b g h hg;refine⟨h1,fun hm=>?_⟩;have:=(hM.du id b h).CH hg;simp[cu,this,h2 hm]
def lW(μ:Ro)(g:Option Nat):Ro:=fun b=>if g=some b then none else μ b
theorem Iw{μ:Ro}{g:Option Nat}{b:Nat}{o:Obj}(h:lW μ g b=some o):μ b=some o:=by simp_all[lW]
theorem xH(hM:aw P G w0 μ φ m w)(w':World){g:Option Nat}(hg:∀b,g=some b→w.heap.size≤b):∀b o,μ b=some o→lW (cu μ w w') g b=some o:=by intro b o hb;have bS:=(YH.1 (hM.ro b o hb)).1;unfold lW;rw[IN fun e=>by have:=hg b e;omega];exact j7 hM w' b o hb
theorem aw.Fg(hM:aw P G w0 μ φ m w)(hb:kv w.heap.size w w'){go:Option Nat}(EE:∀b,go=some b→w.heap.size≤b):aw P G w0 (lW (cu μ w w') go) φ m w':=by
 have mono:=xH hM w' EE;have hC:=hM.called hb;refine⟨hC.below,fun b o h=>hC.ro b o (Iw h),fun g cs hg=>(hM.aH g cs hg).mono mono,fun id b h=>?_,fun id b g h hg=>?_,hM.inj,hM.apart,hM.fy,fun b o h bS=>hC.base b o (Iw h) bS,fun b o hb=>mono b o (hM.dx b o hb),hC.A5⟩
 ·have hR:=hM.du id b h;exact hR.cr (fun _ _=>rfl) rfl mono (fun g hg=>hb.block g (hR.CH hg))
 ·obtain⟨h1,h2⟩:=hC.own id b g h hg;refine⟨h1,fun hm=>?_⟩;unfold lW;simp_all
theorem aw.drew(hM:aw P G w0 μ φ m w):aw P G w0 μ φ m w.drew:=⟨hM.below.drew,hM.ro,hM.aH,fun id b h=>(hM.du id b h).cr (fun _ _=>rfl) rfl (fun _ _ h=>h) (fun _ _=>rfl),hM.own,hM.inj,hM.apart,hM.fy,hM.base,hM.dx,hM.A5⟩
end
end Go.Ab
