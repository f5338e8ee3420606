import Derived.Test.YtmbihgjlollbeaaGreatAbP1
import Derived.Laws.StructEq
import Derived.ChangeKeysEq
set_option linter.all false
namespace Go.Ab
open Go.RowKit (Below)
section
variable {P:Program} {G:Nat→Option (List PV)} {w0:bA} {μ:Ro} {φ:Nat→aA} {m:Mem} {w:World}
theorem toCells_ok{n:Nat}{v:V}{cs:List V}(h:toCells n v=some cs):cs.length=n∧(∀id,b8 id cs=true→v.has id=true)∧∀(P:Program)(μ:Ro)(φ:Nat→aA)(x:Value),af P μ φ v x→x.cells.size=n∧(∀(i:Nat)u y,cs[i]?=some u→x.cells[i]?=some y→af P μ φ u y)∧(∀(i:Nat)(y:Value),x.cells[i]?=some y→y.oneCell'=true):=by
 have one:∀(v:V),(∀(P:Program)(μ:Ro)(φ:Nat→aA)(x:Value),af P μ φ v x→x.oneCell'=true∧x.cells= #[x])→(if n=1 then some [v]else none)=some cs→cs.length=n∧(∀id,b8 id cs=true→v.has id=true)∧∀(P:Program)(μ:Ro)(φ:Nat→aA)(x:Value),af P μ φ v x→x.cells.size=n∧(∀(i:Nat)u y,cs[i]?=some u→x.cells[i]?=some y→af P μ φ u y)∧(∀(i:Nat)(y:Value),x.cells[i]?=some y→y.oneCell'=true):=by
  intro v h1 h;split at h
  ·rename_i hn;simp only[cO]at h;subst h;subst hn;refine⟨rfl,fun id hid=>by simpa[b8]using hid,fun P μ φ x hx=>?_⟩;grind
  ·cases h
 have ahX:∀x:Value,x.oneCell'=true→x.cells= #[x]:=by intro x hx;cases x<;>first|rfl|(simp[Value.oneCell']at hx)
 unfold toCells at h;split at h
 ·rename_i ps;split at h
  ·rename_i hn;simp only[cO]at h;subst h;refine⟨by simpa using hn,fun id hid=>(by rw[PY]at hid;cases hid),fun P μ φ x hx=>?_⟩;cases hx with
   |pv hx=>cases hx with
    |agg h1 h2 h3=>refine⟨by simp only[Value.cells];omega,fun i u y hu hy=>?_,h3⟩;simp only[IT,acG]at hu;obtain⟨q,hq,rfl⟩:=hu;exact .pv (h2 i q y hq hy)
  ·cases h
 ·split at h
  ·rename_i hn;simp only[cO]at h;subst h;refine⟨hn,fun id hid=>by simpa[V.has]using hid,fun P μ φ x hx=>?_⟩;cases hx with
   |agg h1 h2 h3=>grind [Value.cells]
  ·cases h
 ·cases h
 ·cases h
 ·cases h
 ·cases h
 ·rename_i h1 h2 h3 h4 h5 h6;refine one v (fun P μ φ x hx=>?_) h;have:x.oneCell'=true:=by
   cases hx with
   |pv hp=>exact hp.one (fun cs e=>h1 cs (by rw[e])) (fun cs e=>h5 cs (by rw[e])) (fun e=>h6 (by rw[e]))
   |agg=>exact absurd rfl (h2 _)
   |aO=>exact absurd rfl (h4 _)
   |top=>exact absurd rfl h3
   |fn=>exact HB _ _
   |_=>rfl
  simp_all
theorem uP:∀(d:Nat){v:V}{p:PV}{x:Value},lF cP d v=some p→af P μ φ v x→ah P μ p x
 |0,v,p,x,h,_=>by simp[lF]at h
 |d+1,v,p,x,h,hx=>by
  have ih:=fun{v p x}=> @uP d v p x;cases v with
  |pv q=>simp[lF]at h;subst h;cases hx with|pv hx=>exact hx
  |iy=>simp[lF]at h;subst h;cases hx;exact .lG
  |agg cs=>
   simp only[lF]at h;obtain⟨ps,qe,h⟩:=cT.1 h;simp only[cO]at h;subst h;obtain⟨h1,h2⟩:=gT qe;cases hx with
   |agg g1 g2 g3=>refine .agg (by omega) (fun i q y hq hy=>?_) g3;obtain⟨u,hu,hg⟩:=h2 i q hq;exact ih hg (g2 i u y hu hy)
  |aO cs=>
   simp only[lF]at h;obtain⟨ps,qe,h⟩:=cT.1 h;simp only[cO]at h;subst h;obtain⟨h1,h2⟩:=gT qe;cases hx with
   |aO g1 g2=>refine .aO (by omega) (fun i q y hq hy=>?_);obtain⟨u,hu,hg⟩:=h2 i q hq;exact ih hg (g2 i u y hu hy)
  |op id off=>simp[lF,cP]at h
  |oe id i off=>simp[lF,cP]at h
  |os id=>simp[lF,cP]at h
  |fR id lo len=>simp[lF,cP]at h
  |xn id i off=>simp[lF,cP]at h
  |AX id i off s j off2=>simp[lF]at h
  |om id=>simp[lF,cP]at h
  |fn f cs=>
   simp only[lF]at h;obtain⟨ps,qe,h⟩:=cT.1 h;simp only[cO]at h;subst h;obtain⟨h1,h2⟩:=gT qe;cases hx with
   |fn g1 g2=>refine .fn (by omega) (fun i q y hq hy=>?_);obtain⟨u,hu,hg⟩:=h2 i q hq;exact ih hg (g2 i u y hu hy)
  |yl id=>simp[lF]at h
  |it id=>simp[lF]at h
  |top=>simp[lF]at h
def jd(w:World):Ro:=fun b=>w.heap[b]?
theorem av.yW(hM:av P G w0 μ φ m w):∀b o,μ b=some o→jd w b=some o:=hM.ro
variable{id s:Nat}{et:TypeId}{es:List PV}{ν:Ro}
theorem aH.Jd(hA:aH P μ φ w id s et es){g:Nat}(hg:(φ id).g=some g){lo len:Nat}(hl:lo+len≤es.length){cap:Nat}(qW:cap≤(φ id).cap-lo)(hlc:len≤cap)(hν:∀b o,μ b=some o→ν b=some o)(G5:ν g=w.heap[g]?):ah P ν (.rs s ((es.drop lo).take len)) (.slice (some ⟨g,lo*s,none⟩) len cap):=by
 have hle:=hA.pN;obtain⟨a1,a2,a3,a4,a5,a6,a7⟩:=hA;rw[hg]at a7;obtain⟨c,T,c1,c2,c3,c4,c5⟩:=a7;have fe:∀(i:Nat)e,((es.drop lo).take len)[i]?=some e→i<len∧es[lo+i]?=some e:=fun i e hi=>pz hi;have hlen:((es.drop lo).take len).length=len:=by simp;omega
 have hb:∀(i:Nat)e(j:Nat)p,((es.drop lo).take len)[i]?=some e→e.cells[j]?=some p→(lo+i)*s+j<es.length*s:=by intro i e j p hi hj;obtain⟨_,hi⟩:=fe i e hi;have h1:=(By.1 hi).1;have h2:=(By.1 hj).1;have h3:=a5 _ e hi;have:(lo+i+1)*s≤es.length*s:=ahw _ (by omega);grind
 have hc:∀(i:Nat)e(j:Nat)p,((es.drop lo).take len)[i]?=some e→e.cells[j]?=some p→c[(lo+i)*s+j]?=some (c.getD ((lo+i)*s+j) undef):=by
  intro i e j p hi hj;obtain⟨_,hi⟩:=fe i e hi;have h1:=(By.1 hi).1;have h2:=(By.1 hj).1;have h3:=a5 _ e hi;have:(lo+i+1)*s≤(φ id).cap*s:=ahw _ (by omega);rw[akR _ 1]at this;have bZ:(lo+i)*s+j<c.size:=by omega
  simp_all
 have:=ah.rs (P:=P) (μ:=ν) (sz:=s) (es:=(es.drop lo).take len) (b:=g) (o:=lo*s) (cap:=cap) (fun i j=>c.getD ((lo+i)*s+j) undef) (by omega) (by omega) (fun i e hi=>a5 _ e (fe i e hi).2) (fun i e j p hi hj=>by grind [cellAt,Nat.add_mul]) (fun i e j p hi hj=>((c4 _ e j p _ (fe i e hi).2 hj (hc i e j p hi hj)).mono hν)) (fun i e j p hi hj=>c5 _ _ (hb i e j p hi hj) (hc i e j p hi hj));simp_all
theorem aH.slice(hM:av P G w0 μ φ m w)(hA:aH P μ φ w id s et es){g:Nat}(hg:(φ id).g=some g){lo len:Nat}(hl:lo+len≤es.length)(hν:∀b o,μ b=some o→ν b=some o)(G5:ν g=w.heap[g]?):ah P ν (.rs s ((es.drop lo).take len)) (.slice (some ⟨g,lo*s,none⟩) len ((φ id).cap-lo)):=hA.Jd hg hl (akk _) (by have:=hA.pN;omega) hν G5
variable{x:Value}
theorem aH.HI(hA:aH P μ φ w id s et es)(hx:af P μ φ (.os id) x)(hν:∀b o,μ b=some o→ν b=some o)(G5:∀g,(φ id).g=some g→ν g=w.heap[g]?):ah P ν (.rs s es) x:=by
 have Ai:=hA;obtain⟨a1,a2,a3,a4,a5,a6,a7⟩:=hA;cases hx with
 |tp hg=>rw[hg]at a7;rw[a7.1];exact .lG
 | @os _ g hg=>have hle:=Ai.pN;have:=Ai.Jd hg (lo:=0) (len:=es.length) (by omega) (cap:=(φ id).cap) (by omega) hle.1 hν (G5 g hg);simp_all
theorem aH.full(hM:av P G w0 μ φ m w)(hA:aH P μ φ w id s et es)(hx:af P μ φ (.os id) x)(hν:∀b o,μ b=some o→ν b=some o)(G5:∀g,(φ id).g=some g→ν g=w.heap[g]?):ah P ν (.rs s es) x:=hA.HI hx hν G5
theorem eF.full{R:C6}{rs:List PV}(h:eF P μ R w s rs x)(hν:∀b o,μ b=some o→ν b=some o)(G5:∀g,R.g=some g→ν g=w.heap[g]?):ah P ν (.rs s rs) x:=by obtain⟨⟨et,hA⟩,hV⟩:=h;exact hA.HI hV hν G5
theorem Db(e:PV):e.strip.cells=e.cells.map PV.oM:=by cases e<;>rfl
theorem aX.strip{sz:Nat}(h:aX P μ φ w id sz et es)(hν:∀b o,μ b=some o→ν b=some o)(G5:∀i off g,(bH.nest sz et es).rowAt i off=true→((φ id).row i off).g=some g→ν g=w.heap[g]?):aH P ν φ w id sz et (es.map PV.strip):=by
 obtain⟨a1,a2,a3,a4,a5,a6,a7⟩:=h;refine⟨by simpa using a1,a2,a3,a4,fun i e he=>?_,a6,?_⟩
 ·rw[IT,acG]at he;obtain⟨e0,h0,rfl⟩:=he;grind [Db,List.length_map]
 ·cases hg:(φ id).g with
  |none=>simp_all
  |some g=>
   rw[hg]at a7;obtain⟨c,T,c1,c2,c3,c4,c5⟩:=a7;refine⟨c,T,c1,c2,by simpa using c3,fun i e j p x he hp hx=>?_,fun i x hi hx=>c5 i x (by simpa using hi) hx⟩;rw[IT,acG]at he;obtain⟨e0,h0,rfl⟩:=he;rw[Db,IT,acG]at hp;obtain⟨p0,Kt,rfl⟩:=hp;have hc:=c4 i e0 j p0 x h0 Kt hx;cases hr:p0.isRow with
   |false=>
    have:p0.oM=p0:=by cases p0<;>first|rfl|cases hr
    rw[this];exact(hc.PX hr).mono hν
   |true=>
    cases p0<;>first|(cases hr;done)|skip
    rename_i s rs;exact eF.full (show eF P μ _ w s rs x from hc) hν fun g' cS=>G5 i j g' (by simp[bH.rowAt,h0,Kt,PV.isRow]) cS
theorem Sl{g o:Nat}{c:Array Value}{T:TypeId}{fz:Nat×Nat}{y:Value}(hν:ν g=w.heap[g]?)(h:w.heap[g]?=some (.cells c T fz))(hy:c[o]?=some y):cellAt ν g o=some y:=by simp[cellAt,hν,h,hy]
theorem uK(hM:av P G w0 μ φ m w){ν:Ro}(ro:∀b o,μ b=some o→ν b=some o)(own:∀id b g,m id=some b→b.owns (φ id) g→ν g=w.heap[g]?):∀(d:Nat){v:V}{p:PV}{x:Value},lF m d v=some p→af P μ φ v x→ah P ν p x
 |0,v,p,x,h,_=>by simp[lF]at h
 |d+1,v,p,x,h,hx=>by
  have ih:=fun{v p x}=> @uK hM ν ro own d v p x;cases v with
  |pv q=>simp[lF]at h;subst h;cases hx with|pv hx=>exact hx.mono ro
  |iy=>simp[lF]at h;subst h;cases hx;exact .lG
  |agg cs=>
   simp only[lF]at h;obtain⟨ps,qe,h⟩:=cT.1 h;simp only[cO]at h;subst h;obtain⟨h1,h2⟩:=gT qe;cases hx with
   |agg g1 g2 g3=>refine .agg (by omega) (fun i q y hq hy=>?_) g3;grind
  |aO cs=>
   simp only[lF]at h;obtain⟨ps,qe,h⟩:=cT.1 h;simp only[cO]at h;subst h;obtain⟨h1,h2⟩:=gT qe;cases hx with
   |aO g1 g2=>refine .aO (by omega) (fun i q y hq hy=>?_);grind
  |op id off=>
   simp only[lF]at h;split at h
   ·rename_i cs hm;obtain⟨ps,qe,h⟩:=cT.1 h;simp only[cO]at h;subst h;obtain⟨h1,h2⟩:=gT qe;obtain⟨g,c,T,hg,hh,hs,hv,uO,EP⟩:=hM.dy id _ hm;cases hx with
    |op cS=>
     rw[hg]at cS;simp only[cO]at cS;subst cS;have fe:∀(i:Nat)p,ps[i]?=some p→c[off+i]?=some (c.getD (off+i) undef):=by
      intro i p hi;have:=(By.1 hi).1;rw[h1]at this;simp at this;have bZ:off+i<c.size:=by omega
      simp_all
     refine .rp (fun i=>c.getD (off+i) undef) (fun i p hi=>Sl (own _ _ _ hm (.inl hg)) hh (fe i p hi)) (fun i p hi=>?_) (fun i hi=>?_)
     ·grind
     ·exact uO _ _ (fe i _ (cN hi))
   ·cases h
  |oe id i off=>
   have key:∀(s:Nat)(et:TypeId)(es:List PV),(m id=some (.arr s et es)∨m id=some (.rD s et es))→((es[i]?).bind fun e=>some (PV.rp ((aC s e).drop off)))=some p→ah P ν p x:=by
    intro s et es hm h;obtain⟨e,he,h⟩:=cT.1 h;simp only[cO]at h;subst h;have hA:=hM.arr hm;have Ai:=hA;have acP:∀g,(φ id).g=some g→ν g=w.heap[g]?:=fun g hg=>by rcases hm with hm|hm<;>exact own _ _ _ hm (.inl hg)
    obtain⟨a1,a2,a3,a4,a5,a6,a7⟩:=hA;cases hx with
    | @oe _ _ _ g hg=>
     rw[a2];have HJ:=Ai.slice hM hg (lo:=0) (len:=es.length) (by omega) ro (acP _ hg);have ahY:ah P ν (.rs s es) (.slice (some ⟨g,0,none⟩) es.length (φ id).cap):=by simpa using HJ
     obtain⟨b,o,cap,e1,hr⟩:=ahY.PZ he;simp only[Value.slice.injEq,cO,Addr.mk.injEq]at e1;obtain⟨⟨rfl,rfl,_⟩,_⟩:=e1;have:=hr.Jc off;simpa using this
   grind [lF]
  |os id=>
   simp only[lF]at h;split at h
   ·rename_i s et es hm;simp only[cO]at h;subst h;exact(hM.arr (.inl hm)).full hM hx ro (fun g hg=>own _ _ _ hm (.inl hg))
   ·rename_i s et es hm;simp only[cO]at h;subst h;exact(hM.arr (.inr hm)).full hM hx ro (fun g hg=>own _ _ _ hm (.inl hg))
   ·rename_i s et es hm;simp only[cO]at h;subst h;have hN:aX P μ φ w id s et es:=hM.dy id _ hm;exact(hN.strip ro fun i off g hr hg=>own _ _ _ hm (.inr ⟨i,off,hr,hg⟩)).HI (hx.zD ro) (fun _ _ h=>h) fun g hg=>own _ _ _ hm (.inl hg)
   ·cases h
  |AX id i off s j off2=>simp[lF]at h
  |xn id i off=>
   simp only[lF]at h;split at h
   ·rename_i s et es hm;obtain⟨e,he,h⟩:=cT.1 h;unfold aeJ at h;split at h
    ·rename_i s' rs hc;simp only[cO]at h;subst h;have hN:aX P μ φ w id s et es:=hM.dy id _ hm;obtain⟨_,_,_,_,⟨⟨GX,hA⟩,_⟩,hce⟩:=hN.row (s:=s') (rs:=rs) he (by rw[hc];simp[fi]);exact hA.HI (hx.Nv (ν:=μ)) ro fun g hg=>own _ _ _ hm (.inr ⟨i,off,by simp[bH.rowAt,he,hce,PV.isRow],hg⟩)
    ·cases h
   ·cases h
  |fR id lo len=>
   have key:∀(s:Nat)(et:TypeId)(es:List PV),(m id=some (.arr s et es)∨m id=some (.rD s et es))→ah P ν (.rs s ((es.drop lo).take len)) x:=by
    intro s et es hm;have hA:=hM.arr hm;have Ai:=hA;have acP:∀g,(φ id).g=some g→ν g=w.heap[g]?:=fun g hg=>by rcases hm with hm|hm<;>exact own _ _ _ hm (.inl hg)
    have hle:=hA.pN;obtain⟨a1,a2,a3,a4,a5,a6,a7⟩:=hA;cases hx with
    |rY hg=>simp;exact .lG
    | @fR _ _ _ cap g a hg hl ha hc1 Us=>
     rw[a1]at hl;rcases ha with rfl|⟨ha,_⟩
     ·rw[a2];exact Ai.Jd hg hl (by omega) hc1 ro (acP _ hg)
     ·have h0:len=0:=by omega
      subst h0;simp only[alZ];exact .G2 (by omega)
   grind [lF,Option.some.injEq]
  |om id=>
   simp only[lF]at h;split at h
   ·rename_i kt es hm;simp only[cO]at h;subst h;obtain⟨g,en,clock,kk,hg,hh,hs,hk,P0,_,hv⟩:=hM.dy id _ hm;cases hx with
    |om cS=>
     rw[hg]at cS;simp only[cO]at cS;subst cS;refine .rm (show ν g=_ from(own _ _ _ hm (.inl hg)).trans hh) (by simp[hs]) (by simp) hk (fun i k hi=>?_) (fun i k e hi he=>?_) (fun i v e hi he=>?_)
     ·grind
     ·simp only[IT,acG]at hi;obtain⟨⟨a,b⟩,hq,rfl⟩:=hi;exact(hv i a b e hq he).1.mono ro
     ·simp only[IT,acG]at hi;obtain⟨⟨a,b⟩,hq,rfl⟩:=hi;exact(hv i a b e hq he).2.mono ro
   ·rename_i kt e0 es hm;simp only[cO]at h;subst h;obtain⟨g,en,clock,kk,hg,hh,hs,hk,P0,_,hv⟩:=hM.dy id _ hm;cases hx with
    |om cS=>
     rw[hg]at cS;simp only[cO]at cS;subst cS;refine .rm (show ν g=_ from(own _ _ _ hm (.inl hg)).trans hh) (by simp[hs]) (by simp) hk (fun i k hi=>?_) (fun i k e hi he=>?_) (fun i v e hi he=>?_)
     ·grind
     ·simp only[IT,acG]at hi;obtain⟨⟨a,b⟩,hq,rfl⟩:=hi;exact(hv i a b e hq he).1.mono ro
     ·simp only[IT,acG]at hi;obtain⟨⟨a,b⟩,hq,rfl⟩:=hi;have h2:=(hv i a b e hq he).2;cases hr:b.isRow with
      |false=>
       have e1:b.oM=b:=by cases b<;>first|rfl|cases hr
       simp only[e1];split at h2
       ·cases hr
       ·exact h2.mono ro
      |true=>
       cases b<;>first|(cases hr;done)|skip
       exact h2.1.HI h2.2 ro fun g' cS=>own _ _ _ hm (.inr ⟨i,0,by simp[bH.rowAt,hq,PV.isRow],cS⟩)
   ·cases h
  |fn f cs=>
   simp only[lF]at h;obtain⟨ps,qe,h⟩:=cT.1 h;simp only[cO]at h;subst h;obtain⟨h1,h2⟩:=gT qe;cases hx with
   |fn g1 g2=>refine .fn (by omega) (fun i q y hq hy=>?_);grind
  |yl id=>simp[lF]at h
  |it id=>simp[lF]at h
  |top=>simp[lF]at h
end
section
variable {P:Program} {w:World}
def valOf:PV→Value
 |.int k n=>.int k n
 |.bool b=>.bool b
 |.str s=>.string ⟨s.toArray⟩
 |_=>undef
def eG(P:Program)(t:TypeId)(ps:List PV):Value:=if ax P t then .agg (ps.map valOf).toArray else valOf (ps.headD .bad)
theorem HK{μ:Ro}{k:Kd}{p:PV}{y:Value}(h:uF k p=true)(hy:ah P μ p y):y=valOf p:=by cases k<;>cases p<;>simp[uF]at h<;>cases hy<;>rfl
theorem qX:∀{ks:List Kd}{ps:List PV},lK ks ps=true→ps.length=ks.length
 |[],[],_=>rfl
 |[],_::_,h=>by simp[lK]at h
 |_::_,[],h=>by simp[lK]at h
 |k::ks,p::ps,h=>by simp[lK]at h;simp[qX h.2]
theorem P1:∀{ks:List Kd}{ps:List PV},lK ks ps=true→∀(i:Nat)p,ps[i]?=some p→∃k,ks[i]?=some k∧uF k p=true
 |[],[],_,i,p,hi=>by simp at hi
 |[],_::_,h,_,_,_=>by simp[lK]at h
 |_::_,[],h,_,_,_=>by simp[lK]at h
 |k::ks,q::ps,h,i,p,hi=>by
  simp[lK]at h;cases i with
  |zero=>simp at hi;subst hi;exact⟨k,by simp,h.1⟩
  |succ i=>simp at hi;simpa using P1 h.2 i p hi
theorem sc:∀(a b:List Kd)(ps:List PV),lK (a++b) ps=true↔lK a (ps.take a.length)=true∧lK b (ps.drop a.length)=true
 |[],b,ps=>by simp[lK]
 |k::a,b,[]=>by simp[lK]
 |k::a,b,p::ps=>by simp[lK,sc,No,and_assoc]
theorem xA:∀(n:Nat)(ps qs:List PV),n≤ps.length→n≤qs.length→cu ps qs=(cu (ps.take n) (qs.take n)&&cu (ps.drop n) (qs.drop n))
 |0,ps,qs,_,_=>by rfl
 |n+1,[],_,h,_=>by simp at h
 |n+1,_::_,[],_,h=>by rfl
 |n+1,p::ps,q::qs,h1,h2=>by simp only[akd,Nat.add_le_add_iff_right]at h1 h2;simp only[cu,List.take_succ_cons,List.drop_succ_cons,xA n ps qs h1 h2,Bool.and_assoc]
variable{ks:List Kd}{ps:List PV}
theorem tQ{μ:Ro}{xs:Array Value}(hk:lK ks ps=true)(hl:xs.size=ps.length)(hv:∀(i:Nat)p y,ps[i]?=some p→xs[i]?=some y→ah P μ p y):xs=(ps.map valOf).toArray:=by
 apply alG;apply aks;intro i;by_cases hi:i<ps.length
 ·have h1:ps[i]?=some ps[i]:=cN hi;grind [Array.getElem?_eq_getElem,P1,HK]
 ·simp[hi,hl]
theorem zH(a:List Kd):∀n,(rS a n).length=n*a.length
 |0=>by simp[rS]
 |n+1=>by simp[rS,zH a n,akR];omega
theorem ny{k:Kd}(h:lK [k] ps=true):∃p,ps=[p]∧uF k p=true:=by
 cases ps with
 |nil=>simp[lK]at h
 |cons p r=>cases r with
  |nil=>exact⟨p,rfl,by simpa[lK]using h⟩
  |cons q r=>simp[lK]at h
theorem yX{d:Nat}{t:TypeId}(h:B6 P d t=some ks):(ax P t=true→ks.length=aN P t)∧(ax P t=false→ks.length=1)∧∃de,P.underlying t=some de:=by
 cases d with
 |zero=>simp[B6]at h
 |succ d=>
  unfold B6 at h;split at h
  ·grind [ax]
  ·grind [ax]
  ·grind [ax]
  ·rename_i fs hu;split at h
   ·cases h
   ·obtain⟨a,ha,h⟩:=cT.1 h;grind [ax]
  ·rename_i n e hu;obtain⟨a,ha,h⟩:=cT.1 h;grind [ax,zH]
  ·cases h
theorem kT{d:Nat}{t:TypeId}{off:Nat}(h:B6 P d t=some ks)(hl:off+ks.length≤ps.length):(part t (ps.map valOf).toArray off).run P w=.ok (eG P t ((ps.drop off).take ks.length)) w:=by
 obtain⟨h1,h2,de,hu⟩:=yX h;cases ha:ax P t with
 |true=>rw[A8 ha];congr 1;simp only[eG,ha,Ko];simp_all
 |false=>
  have hk:=h2 ha;rw[hk]at hl⊢;have bZ:off<ps.length:=by omega
  rw[A9 hu ha (y:=valOf ps[off]) (by simp[bZ])];congr 1;simp only[eG,ha,cQ,abp];rw[ak0 bZ];rfl
theorem qf:∀(d:Nat)(t:TypeId)(ks:List Kd),B6 P d t=some ks→∀(D:Nat)(w:World)(ps qs:List PV),lK ks ps=true→lK ks qs=true→(Op.equalIn (D+d) t (eG P t ps) (eG P t qs)).run P w=.ok (cu ps qs) w
 |0,t,ks,h,_,_,_,_,_,_=>by simp[B6]at h
 |d+1,t,ks,h,D,w,ps,qs,hp,hq=>by
  have ih:=qf d;have h0:=h;unfold B6 at h;split at h
  ·rename_i q hu;simp only[cO]at h;subst h;have ha:ax P t=false:=by simp[ax,hu]
   obtain⟨p,rfl,ZM⟩:=ny hp;obtain⟨q',rfl,hkq⟩:=ny hq;clear hp hq;cases p<;>simp[uF]at ZM;cases q'<;>simp[uF]at hkq;subst ZM;subst hkq;simp[eG,ha,valOf,cu,peq,←akO,Op.equalIn,run_underlying hu]
  ·rename_i hu;simp only[cO]at h;subst h;have ha:ax P t=false:=by simp[ax,hu]
   obtain⟨p,rfl,ZM⟩:=ny hp;obtain⟨q',rfl,hkq⟩:=ny hq;clear hp hq;cases p<;>simp[uF]at ZM;cases q'<;>simp[uF]at hkq;simp[eG,ha,valOf,cu,peq,←akO,Op.equalIn,run_underlying hu]
  ·rename_i hu;simp only[cO]at h;subst h;have ha:ax P t=false:=by simp[ax,hu]
   obtain⟨p,rfl,ZM⟩:=ny hp;obtain⟨q',rfl,hkq⟩:=ny hq;clear hp hq;cases p<;>simp[uF]at ZM;cases q'<;>simp[uF]at hkq;simp only[eG,ha,valOf,cu,peq,←akO,cQ,abp,List.headD_cons,aln];simp_all[run_equalIn_string,ByteArray.toList_eq]
  ·rename_i fs hu;split at h
   ·cases h
   ·rename_i vp;obtain⟨a,ha,h⟩:=cT.1 h;split at h
    ·rename_i hlen;simp only[cO]at h;subst h;have M9:ax P t=true:=by simp[ax,hu]
     have hfo:P.fieldsOf t=fs:=by simp[Program.fieldsOf,hu]
     simp only[eG,M9,Ko,←akO];rw[run_equalIn_struct w (D+d) t _ _ (by rw[hfo];omega) (by simpa using vp),hfo];have key:∀(L:List Field)(off:Nat)(b:List Kd)(w:World),rR (B6 P d) L off=some b→off≤ps.length→off≤qs.length→lK b (ps.drop off)=true→lK b (qs.drop off)=true→(Op.eqFields (D+d) (ps.map valOf).toArray (qs.map valOf).toArray L).run P w=.ok (cu (ps.drop off) (qs.drop off)) w:=by
      intro L;induction L with
      |nil=>
       intro off b w hb o1 o2 h1 h2;simp only[rR,cO]at hb;subst hb;have e1:ps.drop off=[]:=by cases hh:ps.drop off with|nil=>rfl|cons x r=>rw[hh]at h1;simp[lK]at h1
       have e2:qs.drop off=[]:=by cases hh:qs.drop off with|nil=>rfl|cons x r=>rw[hh]at h2;simp[lK]at h2
       simp[Op.eqFields,e1,e2,cu]
      |cons f L ihL=>
       intro off b w hb o1 o2 h1 h2;simp only[rR]at hb;split at hb
       ·rename_i hf;obtain⟨c,hc,hb⟩:=cT.1 hb;obtain⟨b',jc,hb⟩:=cT.1 hb;simp only[cO]at hb;subst hb;rw[sc]at h1 h2;have l1:=qX h1.1;have l2:=qX h2.1;simp only[akI,alO]at l1 l2;have p1:=kT (w:=w) (ps:=ps) (off:=off) hc (by omega);have p2:=kT (w:=w) (ps:=qs) (off:=off) hc (by omega);have p3:=ih f.type c hc D w _ _ h1.1 h2.1;have p4:=ihL (off+c.length) b' w jc (by omega) (by omega) (by simp_all) (by simp_all);simp only[Op.eqFields,hf.2,ne_eq,not_false_eq_true,Ko,Sem.run_bind,hf.1,p1,p2,p3,Result.andThen_ok];rw[xA c.length (ps.drop off) (qs.drop off) (by simp;omega) (by simp;omega),alX,alX];cases hr:cu ((ps.drop off).take c.length) ((qs.drop off).take c.length)with
        |false=>simp
        |true=>simpa using p4
       ·cases hb
     grind
    ·cases h
  ·rename_i n e hu;obtain⟨a,ha,h⟩:=cT.1 h;split at h
   ·rename_i hlen;simp only[cO]at h;subst h;have M9:ax P t=true:=by simp[ax,hu]
    obtain⟨_,_,de,hde⟩:=yX ha;obtain⟨i,hi⟩:∃i,P.info? e=some i:=by unfold Program.underlying at hde;grind
    have oP:P.cellsOf e=a.length:=hlen.1.symm;simp only[eG,M9,Ko,←akO];rw[run_equalIn_array w (D+d) _ _ hu hi,oP];have key:∀(k j:Nat)(w:World),j+k=n→j*a.length≤ps.length→j*a.length≤qs.length→lK (rS a k) (ps.drop (j*a.length))=true→lK (rS a k) (qs.drop (j*a.length))=true→(Op.eqItems (D+d) e a.length (ps.map valOf).toArray (qs.map valOf).toArray (List.range' j k)).run P w=.ok (cu (ps.drop (j*a.length)) (qs.drop (j*a.length))) w:=by
     intro k;induction k with
     |zero=>
      intro j w _ _ _ h1 h2;simp only[rS]at h1 h2;have e1:ps.drop (j*a.length)=[]:=by cases hh:ps.drop (j*a.length)with|nil=>rfl|cons x r=>rw[hh]at h1;simp[lK]at h1
      have e2:qs.drop (j*a.length)=[]:=by cases hh:qs.drop (j*a.length)with|nil=>rfl|cons x r=>rw[hh]at h2;simp[lK]at h2
      simp[Op.eqItems,e1,e2,cu]
     |succ k ihk=>
      intro j w hj o1 o2 h1 h2;simp only[rS]at h1 h2;rw[sc]at h1 h2;have l1:=qX h1.1;have l2:=qX h2.1;simp only[akI,alO]at l1 l2;have p1:=kT (w:=w) (ps:=ps) (off:=j*a.length) ha (by omega);have p2:=kT (w:=w) (ps:=qs) (off:=j*a.length) ha (by omega);have p3:=ih e a ha D w _ _ h1.1 h2.1;have ej:(j+1)*a.length=j*a.length+a.length:=by rw[akR];omega
      have p4:=ihk (j+1) w (by omega) (by omega) (by omega) (by simp_all) (by simp_all);rw[al0];simp only[Op.eqItems,Sem.run_bind,p1,p2,p3,Result.andThen_ok];rw[xA a.length (ps.drop (j*a.length)) (qs.drop (j*a.length)) (by simp;omega) (by simp;omega),alX,alX,←ej];cases hr:cu ((ps.drop (j*a.length)).take a.length) ((qs.drop (j*a.length)).take a.length)with
      |false=>simp
      |true=>simpa using p4
    simp_all[alW]
   ·cases h
  ·cases h
end
section
variable {R:Type} {E:Env}
theorem ZN{k:IntKind}{x y:Int}(hx:(Lit.int k x).wf=true):(Lit.int k (x.tmod y)).wf=true:=by
 rw[mc]at*;have h0:k.min≤0∧0≤k.max:=by grind [IntKind.min,IntKind.max,IntKind.signed,IntKind.bits]
 rcases Int.le_total 0 x with h|h
 ·have h1:=Int.tmod_nonneg y h;have h2:x.tmod y≤x:=by have:=Int.natAbs_tmod x y;have h3:x.natAbs%y.natAbs≤x.natAbs:=Nat.mod_le _ _;omega
  omega
 ·have h1:x.tmod y= -((-x).tmod y):=by simp
  have h2:=Int.tmod_nonneg y (show 0≤-x by omega);have h3:(-x).tmod y≤-x:=by have:=Int.natAbs_tmod (-x) y;have h3:(-x).natAbs%y.natAbs≤(-x).natAbs:=Nat.mod_le _ _;omega
  omega
theorem ZO{k:IntKind}{x:Int}(n:Nat)(hx:(Lit.int k x).wf=true):(Lit.int k (x.fdiv (2^n))).wf=true:=by
 rw[mc]at*;have h0:k.min≤0∧0≤k.max:=by grind [IntKind.min,IntKind.max,IntKind.signed,IntKind.bits]
 have hp:(0:Int)<2^n:=Int.pow_pos (by omega);rw[amq _ (by omega)];rcases Int.le_total 0 x with h|h
 ·have h1:=amT h (Int.le_of_lt hp);have h2:=Int.ediv_le_self (2^n) h;omega
 ·have h1:x/2^n≤0:=Int.ediv_nonpos_of_nonpos_of_neg h hp;have h2:x≤x/2^n:=by rw[Int.le_ediv_iff_mul_le hp];have:x*2^n≤x*1:=Int.mul_le_mul_of_nonpos_left h (by omega);omega
  omega
variable{P:Program}{t:TypeId}
theorem HL{ps:List PV}(ha:ax P t=true):eG P t ps=.agg (ps.map valOf).toArray:=by simp[eG,ha]
def HM(P:Program)(t:TypeId):Bool:=P.eqGuardType P.depth t
def tR(op:BinOp)(t:TypeId)(ox oy:Operand)(x y:Value):Sem Value:=do eqGuard op t ox oy x y;binOp op t x y
variable{x y:Value}{w:World}
theorem je{b:Bool}(hb:binOp .eql t x y=(do pure (.bool (←Op.equal t x y))))(h:(Op.equalIn 10000 t x y).run P w=.ok b w):(binOp .eql t x y).run P w=.ok (.bool b) w:=by simp_all[Op.equal,Op.maxDepth,Sem.run_bind,Result.andThen_ok,Sem.run_pure]
theorem jf{b:Bool}(hb:binOp .neq t x y=(do pure (.bool (!(←Op.equal t x y)))))(h:(Op.equalIn 10000 t x y).run P w=.ok b w):(binOp .neq t x y).run P w=.ok (.bool (!b)) w:=by simp_all[Op.equal,Op.maxDepth,Sem.run_bind,Result.andThen_ok,Sem.run_pure]
theorem bN{op:BinOp}{ox oy:Operand}{z:Value}(h1:(eqGuard op t ox oy x y).run P w=.ok () w)(h2:(binOp op t x y).run P w=.ok z w):(tR op t ox oy x y).run P w=.ok z w:=by simp_all[tR,Sem.run_bind,Result.andThen_ok]
theorem mZ{e:TypeId}(hu:P.underlying t=some (.pointer e))(a:Option Addr):(Op.equalIn 10000 t (.pointer a) (.pointer none)).run P w=.ok a.isNone w:=by show(Op.equalIn (9999+1) t (.pointer a) (.pointer none)).run P w=.ok a.isNone w;cases a<;>(unfold Op.equalIn;simp only[Sem.run_bind,run_underlying hu,Result.andThen_ok];rfl)
theorem vC{a b:Array TypeId}{c:Bool}(hu:P.underlying t=some (.func a b c))(f:Fn)(xs ys:Array Value):(Op.equalIn 10000 t (.func f xs ys) .nilFunc).run P w=.ok false w:=by show(Op.equalIn (9999+1) t (.func f xs ys) .nilFunc).run P w=.ok false w;unfold Op.equalIn;simp only[Sem.run_bind,run_underlying hu,Result.andThen_ok];rfl
variable{k:PV→Option R}{a:V}{r:R}
theorem ZP{op:BinOp}{b:V}(h:nd E op t a b k=some r):∃q,(∀(R':Type)(k':PV→Option R'),nd E op t a b k'=k' q)∧k q=some r∧∀(μ:Ro)(φ:Nat→aA)(w:World)(ox oy:Operand)(x y:Value),af E.P μ φ a x→af E.P μ φ b y→∃z,(tR op t ox oy x y).run E.P w=.ok z w∧ah E.P μ q z:=by
 unfold nd at h;split at h
 ·rename_i q x q' y;have ints:∀(μ:Ro)(φ:Nat→aA)(u v:Value),af E.P μ φ (.pv (.int q x)) u→af E.P μ φ (.pv (.int q' y)) v→u=.int q x∧v=.int q' y∧(Lit.int q x).wf=true:=by intro μ φ u v hu hv;cases hu with|pv hu=>cases hu with|int h1=>cases hv with|pv hv=>cases hv with|int h2=>exact⟨rfl,rfl,h1⟩
  cases op;case shl=>
   simp only at h;split at h
   ·cases h
   ·rename_i hy;refine⟨_,fun R' k'=>by simp[nd,hy],h,fun μ φ w ox oy u v hu hv=>?_⟩;obtain⟨rfl,rfl,_⟩:=ints μ φ u v hu hv;exact⟨_,by simp[tR,eqGuard,binOp,Op.shift,hy],.int (wf_wrap _ _)⟩
  case shr=>
   simp only at h;split at h
   ·cases h
   ·rename_i hy;refine⟨_,fun R' k'=>by simp[nd,hy],h,fun μ φ w ox oy u v hu hv=>?_⟩;obtain⟨rfl,rfl,hw⟩:=ints μ φ u v hu hv;exact⟨_,by simp[tR,eqGuard,binOp,Op.shift,hy],.int (ZO _ hw)⟩
  case quo=>
   simp only at h;split at h
   ·rename_i hq;subst hq;split at h
    ·cases h
    ·rename_i hy;refine⟨_,fun R' k'=>by simp[nd,hy],h,fun μ φ w ox oy u v hu hv=>?_⟩;obtain⟨rfl,rfl,_⟩:=ints μ φ u v hu hv;exact⟨_,by simp[tR,eqGuard,binOp,Op.intDiv,hy],.int (wf_wrap _ _)⟩
   ·cases h
  case rem=>
   simp only at h;split at h
   ·rename_i hq;subst hq;split at h
    ·cases h
    ·rename_i hy;refine⟨_,fun R' k'=>by simp[nd,hy],h,fun μ φ w ox oy u v hu hv=>?_⟩;obtain⟨rfl,rfl,hw⟩:=ints μ φ u v hu hv;exact⟨_,by simp[tR,eqGuard,binOp,Op.intDiv,hy],.int (ZN hw)⟩
   ·cases h
  case eql|neq|lss|leq|gtr|geq=>
   simp only at h;split at h
   ·rename_i hq;subst hq;refine⟨_,fun R' k'=>by simp[nd],h,fun μ φ w ox oy u v hu hv=>?_⟩;obtain⟨rfl,rfl,_⟩:=ints μ φ u v hu hv;refine⟨_,bN (by rw[eqGuard_at_int];rfl) ?_,.bool⟩;first|rw[binOp_eql]|rw[binOp_neq]|rw[binOp_lss]|rw[binOp_leq]|rw[binOp_gtr]|rw[binOp_geq]
    rfl
   ·cases h
  all_goals
   simp only at h;split at h
   ·rename_i hq;subst hq;refine⟨_,fun R' k'=>by simp[nd],h,fun μ φ w ox oy u v hu hv=>?_⟩;obtain⟨rfl,rfl,_⟩:=ints μ φ u v hu hv;refine⟨_,bN (by rw[eqGuard_at_int];rfl) ?_,.int (wf_wrap _ _)⟩;first|rw[binOp_add]|rw[binOp_sub]|rw[binOp_mul]|rw[binOp_and]|rw[binOp_or]|rw[binOp_xor]|rw[binOp_andNot]
    rfl
   ·cases h
 ·rename_i x y;have strs:∀(μ:Ro)(φ:Nat→aA)(u v:Value),af E.P μ φ (.pv (.str x)) u→af E.P μ φ (.pv (.str y)) v→u=.string ⟨x.toArray⟩∧v=.string ⟨y.toArray⟩:=by intro μ φ u v hu hv;cases hu with|pv hu=>cases hu with|str h1=>cases hv with|pv hv=>cases hv with|str h2=>exact⟨rfl,rfl⟩
  cases op;case add=>
   simp only at h;split at h
   ·rename_i fm;have hy:¬((x.length+y.length:Nat):Int)>IntKind.i64.max:=by have:=E.lp.iX _ fm;omega
    refine⟨_,fun R' k'=>by simp only[nd];rw[AI fm],h,fun μ φ w ox oy u v hu hv=>?_⟩;obtain⟨rfl,rfl⟩:=strs μ φ u v hu hv;refine⟨.string ⟨(x++y).toArray⟩,?_,.str ?_⟩
    ·simp only[tR,eqGuard,binOp,Op.stringOp,Sem.run_bind];have e:(⟨x.toArray⟩++⟨y.toArray⟩:ByteArray)=⟨(x++y).toArray⟩:=by apply ByteArray.ext;simp
     simp only[ER,e];rw[IS hy];simp
    ·simp only[maxLen];simp only[IntKind.max_i64]at hy;simp;omega
   ·cases h
  case eql|neq|lss|leq|gtr|geq=>simp only at h;refine⟨_,fun R' k'=>by simp only[nd],h,fun μ φ w ox oy u v hu hv=>?_⟩;obtain⟨rfl,rfl⟩:=strs μ φ u v hu hv;refine⟨_,bN (by rw[eqGuard_at_string];rfl) ?_,.bool⟩;simp only[binOp,Op.stringOp,ByteArray.toList_eq];rfl
  all_goals (simp only at h;cases h)
 ·rename_i x y;have abK:∀(μ:Ro)(φ:Nat→aA)(u v:Value),af E.P μ φ (.pv (.bool x)) u→af E.P μ φ (.pv (.bool y)) v→u=.bool x∧v=.bool y:=by intro μ φ u v hu hv;cases hu with|pv hu=>cases hu with|bool=>cases hv with|pv hv=>cases hv with|bool=>exact⟨rfl,rfl⟩
  split at h
  ·rename_i sd;refine⟨_,fun R' k'=>by simp only[nd,sd],h,fun μ φ w ox oy u v hu hv=>?_⟩;obtain⟨rfl,rfl⟩:=abK μ φ u v hu hv;exact⟨_,bN (by rw[eqGuard_at_bool];rfl) (je rfl (run_equalIn_bool w _ _ _ _ sd)),.bool⟩
  ·rename_i sd;refine⟨_,fun R' k'=>by simp only[nd,sd],h,fun μ φ w ox oy u v hu hv=>?_⟩;obtain⟨rfl,rfl⟩:=abK μ φ u v hu hv;exact⟨_,bN (by rw[eqGuard_at_bool];rfl) (jf rfl (run_equalIn_bool w _ _ _ _ sd)),.bool⟩
  ·cases h
 ·split at h
  ·rename_i sd;refine⟨_,fun R' k'=>by simp only[nd,sd],h,fun μ φ w ox oy u v hu hv=>?_⟩;cases hu with|pv hu=>cases hu;cases hv with|pv hv=>cases hv;exact⟨_,bN (by rw[eqGuard_at_pointer];rfl) (je rfl (mZ sd none)),.bool⟩
  ·rename_i sd;refine⟨_,fun R' k'=>by simp only[nd,sd],h,fun μ φ w ox oy u v hu hv=>?_⟩;cases hu with|pv hu=>cases hu;cases hv with|pv hv=>cases hv;exact⟨_,bN (by rw[eqGuard_at_pointer];rfl) (jf rfl (mZ sd none)),.bool⟩
  ·cases h
 ·split at h
  ·rename_i sd;refine⟨_,fun R' k'=>by simp only[nd,sd],h,fun μ φ w ox oy u v hu hv=>?_⟩;cases hu with| @fn f0 _ xs0=>cases hv with|pv hv=>cases hv;obtain⟨g0,a0,b0,e0⟩:=sb _ xs0;rw[e0];exact⟨_,bN (by rw[eqGuard_at_func];rfl) (je rfl (vC sd _ _ _)),.bool⟩
  ·rename_i sd;refine⟨_,fun R' k'=>by simp only[nd,sd],h,fun μ φ w ox oy u v hu hv=>?_⟩;cases hu with| @fn f0 _ xs0=>cases hv with|pv hv=>cases hv;obtain⟨g0,a0,b0,e0⟩:=sb _ xs0;rw[e0];exact⟨_,bN (by rw[eqGuard_at_func];rfl) (jf rfl (vC sd _ _ _)),.bool⟩
  ·cases h
 ·split at h
  ·rename_i sd;refine⟨_,fun R' k'=>by simp only[nd,sd],h,fun μ φ w ox oy u v hu hv=>?_⟩;cases hu with|pv hu=>cases hu with| @fn f0 _ xs0=>cases hv with|pv hv=>cases hv;obtain⟨g0,a0,b0,e0⟩:=sb _ xs0;rw[e0];exact⟨_,bN (by rw[eqGuard_at_func];rfl) (je rfl (vC sd _ _ _)),.bool⟩
  ·rename_i sd;refine⟨_,fun R' k'=>by simp only[nd,sd],h,fun μ φ w ox oy u v hu hv=>?_⟩;cases hu with|pv hu=>cases hu with| @fn f0 _ xs0=>cases hv with|pv hv=>cases hv;obtain⟨g0,a0,b0,e0⟩:=sb _ xs0;rw[e0];exact⟨_,bN (by rw[eqGuard_at_func];rfl) (jf rfl (vC sd _ _ _)),.bool⟩
  ·cases h
 ·split at h
  ·rename_i sd;refine⟨_,fun R' k'=>by simp only[nd,sd],h,fun μ φ w ox oy u v hu hv=>?_⟩;cases hu with|pv hu=>cases hu;cases hv with|pv hv=>cases hv;exact⟨_,bN (by rw[eqGuard_at_pointer];rfl) (je rfl (mZ sd _)),.bool⟩
  ·rename_i sd;refine⟨_,fun R' k'=>by simp only[nd,sd],h,fun μ φ w ox oy u v hu hv=>?_⟩;cases hu with|pv hu=>cases hu;cases hv with|pv hv=>cases hv;exact⟨_,bN (by rw[eqGuard_at_pointer];rfl) (jf rfl (mZ sd _)),.bool⟩
  ·cases h
 ·split at h
  ·rename_i sd;refine⟨_,fun R' k'=>by simp only[nd,sd],h,fun μ φ w ox oy u v hu hv=>?_⟩;cases hu with|op hg=>cases hv with|pv hv=>cases hv;exact⟨_,bN (by rw[eqGuard_at_pointer];rfl) (je rfl (mZ sd _)),.bool⟩
  ·rename_i sd;refine⟨_,fun R' k'=>by simp only[nd,sd],h,fun μ φ w ox oy u v hu hv=>?_⟩;cases hu with|op hg=>cases hv with|pv hv=>cases hv;exact⟨_,bN (by rw[eqGuard_at_pointer];rfl) (jf rfl (mZ sd _)),.bool⟩
  ·cases h
 ·split at h
  ·rename_i sd;refine⟨_,fun R' k'=>by simp only[nd,sd],h,fun μ φ w ox oy u v hu hv=>?_⟩;cases hu with|oe hg=>cases hv with|pv hv=>cases hv;exact⟨_,bN (by rw[eqGuard_at_pointer];rfl) (je rfl (mZ sd _)),.bool⟩
  ·rename_i sd;refine⟨_,fun R' k'=>by simp only[nd,sd],h,fun μ φ w ox oy u v hu hv=>?_⟩;cases hu with|oe hg=>cases hv with|pv hv=>cases hv;exact⟨_,bN (by rw[eqGuard_at_pointer];rfl) (jf rfl (mZ sd _)),.bool⟩
  ·cases h
 ·rename_i n1 n2 n3 n4 m1 m2 n5 n6 n7;split at h
  ·rename_i ha;split at h
   ·rename_i ks as bs U0 has hbs;split at h
    ·rename_i ps qs qe hqs;split at h
     ·rename_i hc;have hE:HM E.P t=false∧B6 E.P 8 t=some ks:=by
       unfold tx at U0;split at U0
       ·cases U0
       ·rename_i hg;exact⟨by simpa[HM]using hg,U0⟩
      have key:∀(μ:Ro)(φ:Nat→aA)(w:World)(x y:Value),af E.P μ φ a x→af E.P μ φ b y→∃xs ys,x=.agg xs∧y=.agg ys∧(Op.equalIn 10000 t x y).run E.P w=.ok (cu ps qs) w:=by intro μ φ w x y hx hy;obtain⟨xs,rfl,g1,g2,g3⟩:=(pM has).2 _ _ _ _ hx;obtain⟨ys,rfl,g4,g5,g6⟩:=(pM hbs).2 _ _ _ _ hy;obtain⟨l1,l2⟩:=gT qe;obtain⟨l3,l4⟩:=gT hqs;have e1:=tQ (P:=E.P) (μ:=μ) (xs:=xs) hc.1 (by omega) (fun i p z hi hz=>by obtain⟨v,hv,hg⟩:=l2 i p hi;exact uP 1 hg (g2 i v z hv hz));have e2:=tQ (P:=E.P) (μ:=μ) (xs:=ys) hc.2 (by omega) (fun i p z hi hz=>by obtain⟨v,hv,hg⟩:=l4 i p hi;exact uP 1 hg (g5 i v z hv hz));refine⟨xs,ys,rfl,rfl,?_⟩;have:=qf 8 t ks hE.2 9992 w ps qs hc.1 hc.2;rw[HL ha,HL ha,←e1,←e2]at this;exact this
      have ahZ:∀(R':Type)(k':PV→Option R'),nd E .eql t a b k'=k' (.bool (cu ps qs)):=by
       intro R' k';unfold nd;split
       ·exact(n1 _ _ _ _ rfl rfl).elim
       ·exact(n2 _ _ rfl rfl).elim
       ·exact(n3 _ _ rfl rfl).elim
       ·exact(n4 rfl rfl).elim
       ·exact(m1 _ _ rfl rfl).elim
       ·exact(m2 _ _ rfl rfl).elim
       ·exact(n5 _ rfl rfl).elim
       ·exact(n6 _ _ rfl rfl).elim
       ·exact(n7 _ _ _ rfl rfl).elim
       ·rw[AI ha,U0,has,hbs];simp only[qe,hqs];rw[AI hc]
      have ah0:∀(R':Type)(k':PV→Option R'),nd E .neq t a b k'=k' (.bool (!(cu ps qs))):=by
       intro R' k';unfold nd;split
       ·exact(n1 _ _ _ _ rfl rfl).elim
       ·exact(n2 _ _ rfl rfl).elim
       ·exact(n3 _ _ rfl rfl).elim
       ·exact(n4 rfl rfl).elim
       ·exact(m1 _ _ rfl rfl).elim
       ·exact(m2 _ _ rfl rfl).elim
       ·exact(n5 _ rfl rfl).elim
       ·exact(n6 _ _ rfl rfl).elim
       ·exact(n7 _ _ _ rfl rfl).elim
       ·rw[AI ha,U0,has,hbs];simp only[qe,hqs];rw[AI hc]
      cases op;case eql=>refine⟨_,fun R' k'=>ahZ R' k',h,fun μ φ w ox oy x y hx hy=>?_⟩;obtain⟨xs,ys,rfl,rfl,hr⟩:=key μ φ w x y hx hy;exact⟨_,bN (run_eqGuard_agg w _ _ _ _ _ _ hE.1) (je rfl hr),.bool⟩
      case neq=>refine⟨_,fun R' k'=>ah0 R' k',h,fun μ φ w ox oy x y hx hy=>?_⟩;obtain⟨xs,ys,rfl,rfl,hr⟩:=key μ φ w x y hx hy;exact⟨_,bN (run_eqGuard_agg w _ _ _ _ _ _ hE.1) (jf rfl hr),.bool⟩
      all_goals (simp only at h;cases h)
     ·cases h
    ·cases h
   ·cases h
  ·cases h
theorem acQ{op:UnOp}(h:xun op a k=some r):∃q,(∀(R':Type)(k':PV→Option R'),xun op a k'=k' q)∧k q=some r∧∀(P:Program)(μ:Ro)(φ:Nat→aA)(w:World)(x:Value),af P μ φ a x→∃z,(Op.unary op x).run P w=.ok z w∧ah P μ q z:=by
 unfold xun at h;split at h
 ·refine⟨_,fun R' k'=>rfl,h,fun P μ φ w x hx=>?_⟩;cases hx with|pv hx=>cases hx;exact⟨_,rfl,.bool⟩
 ·refine⟨_,fun R' k'=>rfl,h,fun P μ φ w x hx=>?_⟩;cases hx with|pv hx=>cases hx;exact⟨_,rfl,.int (wf_wrap _ _)⟩
 ·refine⟨_,fun R' k'=>rfl,h,fun P μ φ w x hx=>?_⟩;cases hx with|pv hx=>cases hx;exact⟨_,rfl,.int (wf_wrap _ _)⟩
 ·cases h
theorem ZQ{k:IntKind}{n:Int}(h:(Lit.int k n).wf=true):k.wrap n=n:=by rw[mc]at h;cases k<;>simp only[IntKind.wrap,IntKind.min,IntKind.max,IntKind.signed,IntKind.bits]at* <;>simp at* <;>(try split)<;>omega
theorem U1{s d:TypeId}(h:Ey E s d a k=some r):∃q,(∀(R':Type)(k':PV→Option R'),Ey E s d a k'=k' q)∧k q=some r∧∀(μ:Ro)(φ:Nat→aA)(w:World)(x:Value),af E.P μ φ a x→∃z,(convert s d x).run E.P w=.ok z w∧ah E.P μ q z:=by
 unfold Ey at h;split at h
 ·rename_i q q' q'' n hs hd;split at h
  ·rename_i e1;subst e1;split at h
   ·rename_i e2;subst e2;refine⟨_,fun R' k'=>by simp[Ey,hs,hd],h,fun μ φ w x hx=>?_⟩;cases hx with|pv hx=>cases hx with|int hw=>exact⟨_,by simp[convert,run_underlying hs,run_underlying hd,Conv.intToInt,ZQ hw],.int hw⟩
   ·rename_i e2;refine⟨_,fun R' k'=>by simp[Ey,hs,hd,e2],h,fun μ φ w x hx=>?_⟩;cases hx with|pv hx=>cases hx with|int hw=>exact⟨_,by simp[convert,run_underlying hs,run_underlying hd,Conv.intToInt],.int (wf_wrap _ _)⟩
  ·cases h
 ·rename_i hs hd;refine⟨_,fun R' k'=>by simp[Ey,hs,hd],h,fun μ φ w x hx=>?_⟩;cases hx with|pv hx=>cases hx with|str hl=>exact⟨_,by simp[convert,run_underlying hs,run_underlying hd],.str hl⟩
 ·cases h
theorem U2{b:V}(h:KP a b k=some r):∃q,(∀(R':Type)(k':PV→Option R'),KP a b k'=k' q)∧k q=some r∧∀(P:Program)(μ:Ro)(φ:Nat→aA)(w:World)(x y:Value),af P μ φ a x→af P μ φ b y→∃z,(Builtin.min2 x y).run P w=.ok z w∧ah P μ q z:=by
 unfold KP at h;split at h
 ·split at h
  ·rename_i e;subst e;refine⟨_,fun R' k'=>by simp[KP],h,fun P μ φ w x y hx hy=>?_⟩;cases hx with|pv hx=>cases hx with|int h1=>cases hy with|pv hy=>cases hy with|int h2=>exact⟨_,rfl,by split<;>exact .int (by assumption)⟩
  ·cases h
 ·cases h
theorem Ba{b:V}(h:CZ a b k=some r):∃q,(∀(R':Type)(k':PV→Option R'),CZ a b k'=k' q)∧k q=some r∧∀(P:Program)(μ:Ro)(φ:Nat→aA)(w:World)(x y:Value),af P μ φ a x→af P μ φ b y→∃z,(Builtin.max2 x y).run P w=.ok z w∧ah P μ q z:=by
 unfold CZ at h;split at h
 ·split at h
  ·rename_i e;subst e;refine⟨_,fun R' k'=>by simp[CZ],h,fun P μ φ w x y hx hy=>?_⟩;cases hx with|pv hx=>cases hx with|int h1=>cases hy with|pv hy=>cases hy with|int h2=>exact⟨_,rfl,by split<;>exact .int (by assumption)⟩
  ·cases h
 ·cases h
theorem U3{b c d:V}(h:KQ a b c d k=some r):∃q,(∀(R':Type)(k':PV→Option R'),KQ a b c d k'=k' q)∧k q=some r∧∀(P:Program)(μ:Ro)(φ:Nat→aA)(w:World)(x y z u:Value),af P μ φ a x→af P μ φ b y→af P μ φ c z→af P μ φ d u→∃v1 v2 v3,(Builtin.max2 x y).run P w=.ok v1 w∧(Builtin.max2 v1 z).run P w=.ok v2 w∧(Builtin.max2 v2 u).run P w=.ok v3 w∧ah P μ q v3:=by unfold KQ at h;obtain⟨q1,a1,h,b1⟩:=Ba h;obtain⟨q2,a2,h,b2⟩:=Ba h;obtain⟨q3,a3,h,b3⟩:=Ba h;refine⟨q3,fun R' k'=>by unfold KQ;rw[a1,a2,a3],h,fun P μ φ w x y z u hx hy hz hu=>?_⟩;obtain⟨v1,c1,d1⟩:=b1 P μ φ w x y hx hy;obtain⟨v2,c2,d2⟩:=b2 P μ φ w v1 z (.pv d1) hz;obtain⟨v3,c3,d3⟩:=b3 P μ φ w v2 u (.pv d2) hu;exact⟨v1,v2,v3,c1,c2,c3,d3⟩
end
section
variable {P:Program} {G:Nat→Option (List PV)} {w0:bA} {μ μ':Ro} {φ φ':Nat→aA} {m:Mem} {w w':World}
variable{b:bH}
@[simp] theorem bL(m:Mem)(d:Nat)(b:bH):ao m d b d=some b:=by simp[ao]
theorem aq{m:Mem}{d t:Nat}(h:t≠d):ao m d b t=m t:=by simp[ao,cond_eq_ite,h]
@[simp] theorem abL(m:Mem)(d:Nat):bh m d d=none:=by simp[bh]
theorem gn{m:Mem}{d t:Nat}(h:t≠d):bh m d t=m t:=by simp[bh,cond_eq_ite,h]
@[simp] theorem Aj(f:Fr)(d:Nat)(v:V):gu f d v d=v:=by simp[gu]
theorem se{f:Fr}{d t:Nat}{v:V}(h:t≠d):gu f d v t=f t:=by simp[gu,cond_eq_ite,h]
variable{id sz:Nat}{et:TypeId}{es:List PV}
theorem aH.cj(h:aH P μ φ w id sz et es)(hφ:φ' id=φ id)(hμ:∀b o,μ b=some o→μ' b=some o)(hw:∀g,(φ id).g=some g→w'.heap[g]?=w.heap[g]?):aH P μ' φ' w' id sz et es:=by
 obtain⟨a1,a2,a3,a4,a5,a6,a7⟩:=h;unfold aH;rw[hφ];refine⟨a1,a2,a3,a4,a5,a6,?_⟩;cases hg:(φ id).g with
 |none=>rw[hg]at a7;omega
 |some g=>rw[hg]at a7;obtain⟨c,T,c1,c2,c3,c4,c5⟩:=a7;exact⟨c,T,by rw[hw g hg];omega,c2,c3,fun i e j p x h1 h2 h3=>(c4 i e j p x h1 h2 h3).mono hμ,c5⟩
theorem eF.cj{R:C6}{s:Nat}{rs:List PV}{x:Value}(h:eF P μ R w s rs x)(hμ:∀b o,μ b=some o→μ' b=some o)(hw:∀g,R.g=some g→w'.heap[g]?=w.heap[g]?):eF P μ' R w' s rs x:=
 let⟨⟨et,hA⟩,hV⟩:=h
 ⟨⟨et,hA.cj rfl hμ hw⟩,hV.zD hμ⟩
theorem ec.cj{R:C6}{p:PV}{x:Value}(h:ec P μ R w p x)(hμ:∀b o,μ b=some o→μ' b=some o)(hw:p.isRow=true→∀g,R.g=some g→w'.heap[g]?=w.heap[g]?):ec P μ' R w' p x:=by
 unfold ec at*;split at h
 ·exact eF.cj h hμ (hw rfl)
 ·exact h.mono hμ
variable{i j:Nat}
theorem du{e p:PV}(he:es[i]?=some e)(hp:e.cells[j]?=some p):(bH.nest sz et es).rowAt i j=p.isRow:=by simp[bH.rowAt,he,hp]
theorem aX.cj{id sz:Nat}{et:TypeId}{es:List PV}(h:aX P μ φ w id sz et es)(hφ:φ' id=φ id)(hμ:∀b o,μ b=some o→μ' b=some o)(hw:∀g,(bH.nest sz et es).owns (φ id) g→w'.heap[g]?=w.heap[g]?):aX P μ' φ' w' id sz et es:=by
 obtain⟨a1,a2,a3,a4,a5,a6,a7⟩:=h;unfold aX;rw[hφ];refine⟨a1,a2,a3,a4,a5,a6,?_⟩;cases hg:(φ id).g with
 |none=>rw[hg]at a7;omega
 |some g=>rw[hg]at a7;obtain⟨c,T,c1,c2,c3,c4,c5⟩:=a7;exact⟨c,T,by rw[hw g (.inl hg)];omega,c2,c3,fun i e j p x h1 h2 h3=>(c4 i e j p x h1 h2 h3).cj hμ fun hr g' cS=>hw g' (.inr ⟨i,j,by rw[du h1 h2];omega,cS⟩),c5⟩
theorem kv{kt e:TypeId}{es:List (PV×PV)}{k v:PV}(he:es[i]?=some (k,v)):(bH.fh kt e es).rowAt i 0=v.isRow:=by simp[bH.rowAt,he]
theorem gM.cj{id:Nat}{b:bH}(h:gM P μ φ w id b)(hn:∀j,b.names j=true→φ' j=φ j)(hφ:φ' id=φ id)(hμ:∀b o,μ b=some o→μ' b=some o)(hw:∀g,b.owns (φ id) g→w'.heap[g]?=w.heap[g]?):gM P μ' φ' w' id b:=by
 cases b with
 |nest sz et es=>exact aX.cj h hφ hμ hw
 |fh kt e0 es=>
  obtain⟨g,en,clock,kk,hg,hh,hs,hk,hc,yS,hv⟩:=h;refine⟨g,en,clock,kk,by rw[hφ];omega,by rw[hw g (.inl hg)];omega,hs,hk,hc,yS,fun i k v e h1 h2=>⟨(hv i k v e h1 h2).1.mono hμ,?_⟩⟩;have h3:=(hv i k v e h1 h2).2;rw[hφ];split at h3
  ·exact⟨h3.1.cj rfl hμ fun g' cS=>hw g' (.inr ⟨i,0,by rw[kv h1];rfl,cS⟩),h3.2.zD hμ⟩
  ·exact h3.mono hμ
 |box cs=>obtain⟨g,c,T,hg,hh,hs,hv,h1,EP⟩:=h;exact⟨g,c,T,by rw[hφ];omega,by rw[hw g (.inl hg)];omega,hs,fun i v x hi hx=>(hv i v x hi hx).mono hμ (fun j hj=>hn j (bJ (aeB hi) hj)),h1,by rw[hφ];omega⟩
 |arr sz et es=>exact aH.cj h hφ hμ fun g hg=>hw g (.inl hg)
 |rD sz et es=>refine⟨aH.cj h.1 hφ hμ fun g hg=>hw g (.inl hg),fun g hg=>?_⟩;rw[hφ]at hg;have:=h.2 g hg;obtain⟨o,ho⟩:=akq.1 this;rw[hμ _ _ ho];rfl
 |map kt es=>obtain⟨g,en,clock,kk,hg,hh,hs,hk,hc,yS,hv⟩:=h;exact⟨g,en,clock,kk,by rw[hφ];omega,by rw[hw g (.inl hg)];omega,hs,hk,hc,yS,fun i k v e h1 h2=>⟨(hv i k v e h1 h2).1.mono hμ,(hv i k v e h1 h2).2.mono hμ⟩⟩
 |iter t es cur=>obtain⟨g,mg,en,clock,seen,hg,hh,Kv,yS,EP,hv,hcu⟩:=h;exact⟨g,mg,en,clock,seen,by rw[hφ];omega,by rw[hw g (.inl hg)];omega,hμ _ _ Kv,yS,EP,fun i k v e h1 h2=>⟨(hv i k v e h1 h2).1.mono hμ,(hv i k v e h1 h2).2.mono hμ⟩,fun k v hc=>let⟨i,e,h1,h2,h3,h4⟩:=hcu k v hc;⟨i,e,h1,h2,h3.mono hμ,h4.mono hμ⟩⟩
 |loop st=>obtain⟨g,rc,hg,hh⟩:=h;exact⟨g,rc,by rw[hφ];omega,by rw[hw g (.inl hg)];omega⟩
variable{g:Nat}
theorem eF.EV{R:C6}{s:Nat}{rs:List PV}{x:Value}(h:eF P μ R w s rs x)(hg:R.g=some g):g<w.heap.size:=by obtain⟨⟨et,_,_,_,_,_,_,a7⟩,_⟩:=h;have cS:R.up.g=some g:=hg;grind
theorem kx{off:Nat}(h:b.rowAt i off=true):(∃sz et es e s rs,b=.nest sz et es∧es[i]?=some e∧e.cells[off]?=some (.qS s rs))∨∃kt e0 es k s rs,b=.fh kt e0 es∧off=0∧es[i]?=some (k,.qS s rs):=by
 unfold bH.rowAt at h;split at h
 ·rename_i sz et es i off;split at h
  ·rename_i e he;split at h
   ·rename_i p hp;cases p<;>first|(cases h;done)|skip
    grind
   ·cases h
  ·cases h
 ·rename_i kt e0 es i;split at h
  ·rename_i x hx;obtain⟨k,v⟩:=x;cases v<;>first|(cases h;done)|skip
   grind
  ·cases h
 ·cases h
theorem gM.aeQ{off:Nat}(h:gM P μ φ w id b)(hr:b.rowAt i off=true)(hg:((φ id).row i off).g=some g):g<w.heap.size:=by
 rcases kx hr with⟨sz,et,es,e,s,rs,rfl,he,hp⟩|⟨kt,e0,es,k,s,rs,rfl,rfl,he⟩
 ·have hN:aX P μ φ w id sz et es:=h;have hgg:∃g0,(φ id).g=some g0:=by
   cases hq:(φ id).g with
   |some g0=>simp
   |none=>have a7:=hN.2.2.2.2.2.2;simp_all
  obtain⟨g0,Nx⟩:=hgg;obtain⟨c,_,x,_,_,c3,_⟩:=hN.cell Nx he hp;exact eF.EV (show eF P μ _ w s rs x from c3) hg
 ·obtain⟨g0,en,clock,kk,Nx,hh,hs,hk,hc,yS,hv⟩:=h;have hi:i<en.size:=by grind
  have h3:=(hv i k _ en[i] he (OF hi)).2;exact eF.EV (P:=P) (μ:=μ) (R:=(φ id).row i 0) (s:=s) (rs:=rs) (x:=en[i].val) ⟨⟨_,h3.1⟩,h3.2⟩ hg
theorem gM.EV(h:gM P μ φ w id b)(hg:b.owns (φ id) g):g<w.heap.size:=by
 rcases hg with hg|⟨i,off,hr,hg⟩
 rotate_left
 ·exact h.aeQ hr hg
 have key:∀o,w.heap[g]?=some o→g<w.heap.size:=fun o ho=>(abq.1 ho).1;cases b with
 |nest sz et es=>obtain⟨_,_,_,_,_,_,a7⟩:=h;grind
 |fh kt e0 es=>obtain⟨g',en,clock,kk,cS,hh,_⟩:=h;simp_all
 |box cs=>obtain⟨g',c,T,cS,hh,_⟩:=h;simp_all
 |arr sz et es=>obtain⟨_,_,_,_,_,_,a7⟩:=h;grind
 |rD sz et es=>obtain⟨⟨_,_,_,_,_,_,a7⟩,_⟩:=h;grind
 |map kt es=>obtain⟨g',en,clock,kk,cS,hh,_⟩:=h;simp_all
 |iter t es cur=>obtain⟨g',mg,en,clock,seen,cS,hh,_⟩:=h;simp_all
 |loop st=>obtain⟨g',rc,cS,hh⟩:=h;simp_all
theorem av.Ny(hM:av P G w0 μ φ m w)(hm:m j=some b)(hn:b.names id=true):(m id).isSome=true:=by
 cases b with
 |box cs=>exact hM.fT j cs id hm hn
 |_=>simp[bH.names]at hn
theorem yY{cs:List V}(h:b8 j (cs.map (tz id))=true):b8 j cs=true∧j≠id:=by obtain⟨v,hv,hh⟩:=cz.1 h;obtain⟨u,hu,rfl⟩:=akt.1 hv;grind [xy,bJ]
theorem gM.kill{id j:Nat}{b:bH}(h:gM P μ φ w j b):gM P μ φ w j (gv id b):=by
 cases b with
 |box cs=>obtain⟨g,c,T,hg,hh,hs,hv,h1,EP⟩:=h;refine⟨g,c,T,hg,hh,by simpa using hs,fun i v x hi hx=>?_,h1,by simpa using EP⟩;simp only[IT,acG]at hi;obtain⟨u,hu,rfl⟩:=hi;exact(hv i u x hu hx).kill id
 |_=>exact h
theorem vD(id:Nat)(b:bH):(gv id b).rowAt=b.rowAt:=by cases b<;>rfl
variable{p:aA}
theorem gp:(gv id b).owns p g↔b.owns p g:=by unfold bH.owns;rw[vD]
theorem vE:(gv id b).apart p↔b.apart p:=by unfold bH.apart;rw[vD]
theorem sf(h:∀i off,b.rowAt i off=true→False):b.apart p:=fun i off _ hr=>(h i off hr).elim
theorem pA(h:∀i off,b.rowAt i off=true→False)(ho:b.owns p g):p.g=some g:=by
 rcases ho with h1|⟨i,off,hr,_⟩
 ·omega
 simp_all
theorem EW(h:bE id m j=some b):∃b',m j=some b'∧b=gv id b':=by unfold bE at h;grind
theorem yZ(id:Nat)(b:bH):(gv id b).jR=b.jR:=by cases b<;>rfl
theorem av.forget(hM:av P G w0 μ φ m w)(id:Nat):av P G w0 μ φ (bh (bE id m) id) w:=by
 have key:∀j b,bh (bE id m) id j=some b→j≠id∧∃b',m j=some b'∧b=gv id b':=by
  intro j b h;by_cases e:j=id
  ·subst e;simp at h
  simp_all[gn,EW]
 refine⟨hM.below,hM.ro,hM.aG,fun j b h=>?_,fun j b g h hg=>?_,fun i j b1 b2 g h1 h2 g1 g2=>?_,fun j b h=>?_,fun j cs i h hh=>?_,hM.base,hM.dC,fun j st h=>?_⟩
 rotate_right
 ·obtain⟨_,b',hb,e⟩:=key j _ h;cases b' with
  |loop st'=>simp only[gv,bH.loop.injEq]at e;subst e;exact hM.C5 j st hb
  |_=>simp[gv]at e
 ·obtain⟨_,b',hb,rfl⟩:=key j b h;exact(hM.dy j b' hb).kill
 ·obtain⟨_,b',hb,rfl⟩:=key j b h;rw[yZ];exact hM.own j b' g hb (gp.1 hg)
 ·obtain⟨_,b1',U4,rfl⟩:=key i b1 h1;obtain⟨_,b2',uQ,rfl⟩:=key j b2 h2;exact hM.inj i j b1' b2' g U4 uQ (gp.1 g1) (gp.1 g2)
 ·obtain⟨_,b',hb,rfl⟩:=key j b h;exact vE.2 (hM.apart j b' hb)
 ·obtain⟨_,b',hb,e⟩:=key j _ h;cases b' with
  |box Nz=>simp only[gv,bH.box.injEq]at e;subst e;obtain⟨h1,h2⟩:=yY hh;have:=hM.fT j Nz i hb h1;grind [gn,bE]
  |_=>simp[gv]at e
theorem zI(m:Mem)(id:Nat)(b:bH):ao (bh m id) id b=ao m id b:=by
 funext t;by_cases h:t=id
 ·subst h;simp
 simp_all[aq,gn]
variable{b':bH}
theorem EX(wA:∀i off,b'.rowAt i off=true→b.rowAt i off=true)(h:b'.owns p g):b.owns p g:=by
 rcases h with h|⟨i,off,hr,h⟩
 ·exact .inl h
 ·exact .inr ⟨i,off,wA i off hr,h⟩
theorem Sn(wA:∀i off,b'.rowAt i off=true→b.rowAt i off=true)(h:b.apart p):b'.apart p:=fun i off g hr hg=>
 let⟨h1,h2⟩:=h i off g (wA i off hr) hg
 ⟨h1,fun i' vz zJ cS=>h2 i' vz (wA i' vz zJ) cS⟩
theorem av.U5(hM:av P G w0 μ φ m w)(hm:m id=some b)(U6:b.jR=true)(hg:b.owns (φ id) g)(NA:lM g w w')(P2:w'.heap.size=w.heap.size)(hw:∀k,k≠g→w'.heap[k]?=w.heap[k]?)(hB:gM P μ φ w' id b')(abM:b'.jR=true)(hn:∀j,b'.names j=true→(m j).isSome=true)(wA:∀i off,b'.rowAt i off=true→b.rowAt i off=true)(hlp:∀st,b'=.loop st→∃rc,(φ id).g=some g∧w0.rc id=some (g,rc)∧w'.heap[g]?=some (.loop (st.obj rc)):=by intro st h;cases h):av P G w0 μ φ (ao m id b') w':=by
 obtain⟨Ci,hμ⟩:=hM.own id b g hm hg;have hμ:=hμ U6;refine⟨hM.below.trans (NA.mono Ci),fun k o hk=>?_,hM.aG,fun j c hj=>?_,fun j c g' hj cS=>?_,fun i j b1 b2 g' h1 h2 g1 g2=>?_,fun j c hj=>?_,fun j cs i hj hh=>?_,hM.base,hM.dC,fun j st hj=>?_⟩
 rotate_right
 ·by_cases e:j=id
  ·simp_all
  ·rw[aq e]at hj;obtain⟨g',rc,h1,h2,h3⟩:=hM.C5 j st hj;exact⟨g',rc,h1,h2,by rw[hw g' (fun e'=>by subst e';exact e (hM.inj j id _ b g' hj hm (.inl h1) hg))];omega⟩
 ·have:k≠g:=fun e=>by simp_all
  rw[hw k this];exact hM.ro k o hk
 ·by_cases e:j=id
  ·simp_all
  ·rw[aq e]at hj;refine(hM.dy j c hj).cj (fun _ _=>rfl) rfl (fun _ _ h=>h) (fun g' cS=>hw g' (fun e'=>?_));subst e';exact e (hM.inj j id c b g' hj hm cS hg)
 ·by_cases e:j=id
  ·subst e;rw[bL]at hj;simp only[cO]at hj;subst hj;obtain⟨h1,h2⟩:=hM.own j b g' hm (EX wA cS);simp_all
  ·rw[aq e]at hj;exact hM.own j c g' hj cS
 ·have e1:∃c1,m i=some c1∧c1.owns (φ i) g':=by grind [id,bL,Option.some.injEq,EX,aq]
  have e2:∃c2,m j=some c2∧c2.owns (φ j) g':=by grind [id,bL,Option.some.injEq,EX,aq]
  obtain⟨c1,e1,o1⟩:=e1;obtain⟨c2,e2,o2⟩:=e2;exact hM.inj i j c1 c2 g' e1 e2 o1 o2
 ·by_cases e:j=id
  ·subst e;rw[bL]at hj;simp only[cO]at hj;subst hj;exact Sn wA (hM.apart j b hm)
  ·rw[aq e]at hj;exact hM.apart j c hj
 ·have:(m i).isSome=true:=by
   by_cases e:j=id
   ·subst e;rw[bL]at hj;simp only[cO]at hj;subst hj;exact hn i hh
   ·rw[aq e]at hj;exact hM.fT j cs i hj hh
  by_cases e:i=id
  ·subst e;simp
  ·rw[aq e];omega
theorem av.write(hM:av P G w0 μ φ m w)(hm:m id=some b)(U6:b.jR=true)(hg:(φ id).g=some g)(NA:lM g w w')(P2:w'.heap.size=w.heap.size)(hw:∀k,k≠g→w'.heap[k]?=w.heap[k]?)(hB:gM P μ φ w' id b')(abM:b'.jR=true)(hn:∀j,b'.names j=true→(m j).isSome=true)(hlp:∀st,b'=.loop st→∃rc,w0.rc id=some (g,rc)∧w'.heap[g]?=some (.loop (st.obj rc)):=by intro st h;cases h)(wA:∀i off,b'.rowAt i off=true→b.rowAt i off=true:=by intro i off h;simp[bH.rowAt]at h):av P G w0 μ φ (ao m id b') w':=hM.U5 hm U6 (.inl hg) NA P2 hw hB abM hn wA fun st h=>let⟨rc,h1,h2⟩:=hlp st h;⟨rc,hg,h1,h2⟩
def qM(μ:Ro)(w:World)(g:Option Nat):Ro:=fun b=>if g=some b then w.heap[b]? else μ b
theorem mG(hM:av P G w0 μ φ m w)(g:Option Nat):∀b o,μ b=some o→qM μ w g b=some o:=by
 intro b o hb;unfold qM;split
 ·exact hM.ro b o hb
 omega
noncomputable def uR(μ:Ro)(w:World)(S:Nat→Prop):Ro:=fun b=> @ite _ (S b) (Classical.propDecidable _) (w.heap[b]?) (μ b)
theorem sg(hM:av P G w0 μ φ m w)(S:Nat→Prop):∀b o,μ b=some o→uR μ w S b=some o:=by
 intro b o hb;unfold uR;split
 ·exact hM.ro b o hb
 omega
theorem av.P3(hM:av P G w0 μ φ m w)(hm:m id=some b)(hlp:∀st,b≠.loop st)(hA:aH P (uR μ w (b.owns (φ id))) φ w id sz et es):av P G w0 (uR μ w (b.owns (φ id))) φ (ao m id (.rD sz et es)) w:=by
 have mono:=sg hM (b.owns (φ id));have U7:∀i off,(bH.rD sz et es).rowAt i off=true→False:=fun i off h=>by simp[bH.rowAt]at h
 refine⟨hM.below,fun k o hb=>?_,fun g cs hg=>(hM.aG g cs hg).mono mono,fun j c hj=>?_,fun j c g' hj cS=>?_,fun i j b1 b2 g' h1 h2 g1 g2=>?_,fun j c hj=>?_,fun j cs i hj hh=>?_,fun k o hb bZ=>?_,fun b o hb=>mono b o (hM.dC b o hb),fun j st hj=>?_⟩
 rotate_right
 ·by_cases e:j=id
  ·simp_all
  ·rw[aq e]at hj;exact hM.C5 j st hj
 rotate_right
 ·unfold uR at hb;split at hb
  ·rename_i he;have:=(hM.own id b k hm he).1;omega
  ·exact hM.base k o hb bZ
 ·unfold uR at hb;split at hb
  ·omega
  ·exact hM.ro k o hb
 ·by_cases e:j=id
  ·subst e;rw[bL]at hj;simp only[cO]at hj;subst hj;refine⟨hA,fun g hg=>?_⟩;have:=gM.EV (b:=.arr sz et es) hA (.inl hg);unfold uR;rw[AI (show b.owns (φ j) g from .inl hg)];simp[this]
  ·rw[aq e]at hj;exact(hM.dy j c hj).cj (fun _ _=>rfl) rfl mono (fun _ _=>rfl)
 ·by_cases e:j=id
  ·subst e;rw[bL]at hj;simp only[cO]at hj;subst hj;exact⟨(hM.own j b g' hm (.inl (pA U7 cS))).1,by simp[bH.jR]⟩
  ·rw[aq e]at hj;obtain⟨h1,h2⟩:=hM.own j c g' hj cS;refine⟨h1,fun Kv=>?_⟩;unfold uR;split
   ·rename_i he;exact absurd (hM.inj j id c _ g' hj hm cS he) e
   ·exact h2 Kv
 ·have e1:∃c1,m i=some c1∧c1.owns (φ i) g':=by
   by_cases e:i=id
   ·subst e;rw[bL]at h1;simp only[cO]at h1;subst h1;exact⟨b,hm,.inl (pA U7 g1)⟩
   simp_all[aq]
  have e2:∃c2,m j=some c2∧c2.owns (φ j) g':=by
   by_cases e:j=id
   ·subst e;rw[bL]at h2;simp only[cO]at h2;subst h2;exact⟨b,hm,.inl (pA U7 g2)⟩
   simp_all[aq]
  obtain⟨c1,e1,o1⟩:=e1;obtain⟨c2,e2,o2⟩:=e2;exact hM.inj i j c1 c2 g' e1 e2 o1 o2
 ·by_cases e:j=id
  ·simp_all[bL,cO,sf]
  ·rw[aq e]at hj;exact hM.apart j c hj
 ·have:(m i).isSome=true:=by
   by_cases e:j=id
   ·simp_all
   ·rw[aq e]at hj;exact hM.fT j cs i hj hh
  by_cases e:i=id
  ·subst e;simp
  ·rw[aq e];omega
theorem rE:∀i off,(bH.arr sz et es).rowAt i off=true→False:=fun i off h=>by simp[bH.rowAt]at h
theorem av.freeze(hM:av P G w0 μ φ m w)(hm:m id=some (.arr sz et es)):av P G w0 (qM μ w (φ id).g) φ (ao m id (.rD sz et es)) w:=by
 have e:uR μ w ((bH.arr sz et es).owns (φ id))=qM μ w (φ id).g:=by
  funext b;unfold uR qM;by_cases h:(φ id).g=some b
  ·rw[AI h,AI (show(bH.arr sz et es).owns (φ id) b from .inl h)]
  ·rw[IS h,IS fun ho=>h (pA rE ho)]
 have:=hM.P3 (sz:=sz) (et:=et) (es:=es) hm (fun st h=>by cases h) (aH.cj (hM.dy id _ hm) rfl (sg hM _) (fun _ _=>rfl));rwa[e]at this
theorem av.P4(hM:av P G w0 μ φ m w)(hm:m id=some (.nest sz et es)):av P G w0 (uR μ w ((bH.nest sz et es).owns (φ id))) φ (ao m id (.rD sz et (es.map PV.strip))) w:=by have hN:aX P μ φ w id sz et es:=hM.dy id _ hm;refine hM.P3 hm (fun st h=>by cases h) (hN.strip (sg hM _) fun i off g hr hg=>?_);unfold uR;rw[AI (show(bH.nest sz et es).owns (φ id) g from .inr ⟨i,off,hr,hg⟩)]
def cm(μ:Ro)(w w':World):Ro:=fun b=>if b<w.heap.size then μ b else w'.heap[b]?
theorem kU(hM:av P G w0 μ φ m w)(w':World):∀b o,μ b=some o→cm μ w w' b=some o:=by intro b o hb;have:=(abq.1 (hM.ro b o hb)).1;simp[cm,this,hb]
theorem av.called(hM:av P G w0 μ φ m w)(hb:lM w.heap.size w w'):av P G w0 (cm μ w w') φ m w':=by
 have mono:=kU hM w';refine⟨hM.below.trans (hb.mono hM.below.size),fun b o h=>?_,fun g cs hg=>(hM.aG g cs hg).mono mono,fun id b h=>?_,fun id b g h hg=>?_,hM.inj,hM.apart,hM.fT,fun b o h bZ=>?_,fun b o hb=>mono b o (hM.dC b o hb),fun j st hj=>?_⟩
 rotate_right
 ·obtain⟨g,rc,h1,h2,h3⟩:=hM.C5 j st hj;exact⟨g,rc,h1,h2,by rw[hb.block g (abq.1 h3).1];omega⟩
 rotate_right
 ·have:w0.heap.size≤w.heap.size:=hM.below.size;unfold cm at h;rw[AI (by omega)]at h;exact hM.base b o h bZ
 ·unfold cm at h;split at h
  ·rename_i bZ;rw[hb.block b bZ];exact hM.ro b o h
  omega
 ·have hR:=hM.dy id b h;exact hR.cj (fun _ _=>rfl) rfl mono (fun g hg=>hb.block g (hR.EV hg))
 ·obtain⟨h1,h2⟩:=hM.own id b g h hg;refine⟨h1,fun hm=>?_⟩;have:=(hM.dy id b h).EV hg;simp[cm,this,h2 hm]
def nu(μ:Ro)(g:Option Nat):Ro:=fun b=>if g=some b then none else μ b
theorem K3{μ:Ro}{g:Option Nat}{b:Nat}{o:Obj}(h:nu μ g b=some o):μ b=some o:=by simp_all[nu]
theorem Ak(hM:av P G w0 μ φ m w)(w':World){g:Option Nat}(hg:∀b,g=some b→w.heap.size≤b):∀b o,μ b=some o→nu (cm μ w w') g b=some o:=by intro b o hb;have bZ:=(abq.1 (hM.ro b o hb)).1;unfold nu;rw[IS fun e=>by have:=hg b e;omega];exact kU hM w' b o hb
theorem av.HN(hM:av P G w0 μ φ m w)(hb:lM w.heap.size w w'){go:Option Nat}(G6:∀b,go=some b→w.heap.size≤b):av P G w0 (nu (cm μ w w') go) φ m w':=by
 have mono:=Ak hM w' G6;have hC:=hM.called hb;refine⟨hC.below,fun b o h=>hC.ro b o (K3 h),fun g cs hg=>(hM.aG g cs hg).mono mono,fun id b h=>?_,fun id b g h hg=>?_,hM.inj,hM.apart,hM.fT,fun b o h bZ=>hC.base b o (K3 h) bZ,fun b o hb=>mono b o (hM.dC b o hb),hC.C5⟩
 ·have hR:=hM.dy id b h;exact hR.cj (fun _ _=>rfl) rfl mono (fun g hg=>hb.block g (hR.EV hg))
 ·obtain⟨h1,h2⟩:=hC.own id b g h hg;refine⟨h1,fun hm=>?_⟩;unfold nu;simp_all
theorem av.drew(hM:av P G w0 μ φ m w):av P G w0 μ φ m w.drew:=⟨hM.below.drew,hM.ro,hM.aG,fun id b h=>(hM.dy id b h).cj (fun _ _=>rfl) rfl (fun _ _ h=>h) (fun _ _=>rfl),hM.own,hM.inj,hM.apart,hM.fT,hM.base,hM.dC,hM.C5⟩
end
end Go.Ab
