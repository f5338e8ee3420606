import Derived.Test.YtmbihgjlollbeaaGreatAbP1
import Derived.Laws.StructEq
import Derived.ChangeKeysEq
set_option linter.unusedVariables false
set_option linter.unusedSimpArgs false
namespace Go.Ab
open Go.RowKit (Below)
section
variable {P:Program} {G:Nat→Option (List PV)} {w0:bw} {μ:Ro} {φ:Nat→aA} {m:Mem} {w:World}
theorem toCells_ok{n:Nat}{v:V}{cs:List V}(h:toCells n v=some cs):cs.length=n∧(∀id,cd id cs=true→v.has id=true)∧∀(P:Program)(μ:Ro)(φ:Nat→aA)(x:Value),ag P μ φ v x→x.cells.size=n∧(∀(i:Nat)u y,cs[i]?=some u→x.cells[i]?=some y→ag P μ φ u y)∧(∀(i:Nat)(y:Value),x.cells[i]?=some y→y.oneCell'=true):=by
 have one:∀(v:V),(∀(P:Program)(μ:Ro)(φ:Nat→aA)(x:Value),ag P μ φ v x→x.oneCell'=true∧x.cells= #[x])→(if n=1 then some [v]else none)=some cs→cs.length=n∧(∀id,cd id cs=true→v.has id=true)∧∀(P:Program)(μ:Ro)(φ:Nat→aA)(x:Value),ag P μ φ v x→x.cells.size=n∧(∀(i:Nat)u y,cs[i]?=some u→x.cells[i]?=some y→ag P μ φ u y)∧(∀(i:Nat)(y:Value),x.cells[i]?=some y→y.oneCell'=true):=by
  intro v h1 h;split at h
  ·rename_i hn;simp only[cN]at h;subst h;subst hn;refine⟨rfl,fun id hid=>by simpa[cd]using hid,fun P μ φ x hx=>?_⟩;grind
  ·cases h
 have agl:∀x:Value,x.oneCell'=true→x.cells= #[x]:=by intro x hx;cases x<;>first|rfl|(simp[Value.oneCell']at hx)
 unfold toCells at h;split at h
 ·rename_i ps;split at h
  ·rename_i hn;simp only[cN]at h;subst h;refine⟨by simpa using hn,fun id hid=>(by rw[Qs]at hid;cases hid),fun P μ φ x hx=>?_⟩;cases hx with
   |pv hx=>cases hx with
    |agg h1 h2 h3=>refine⟨by simp only[Value.cells];omega,fun i u y hu hy=>?_,h3⟩;simp only[GP,Yo]at hu;obtain⟨q,hq,rfl⟩:=hu;exact .pv (h2 i q y hq hy)
  ·cases h
 ·split at h
  ·rename_i hn;simp only[cN]at h;subst h;refine⟨hn,fun id hid=>by simpa[V.has]using hid,fun P μ φ x hx=>?_⟩;cases hx with
   |agg h1 h2 h3=>grind [Value.cells]
  ·cases h
 ·cases h
 ·cases h
 ·cases h
 ·cases h
 ·rename_i h1 h2 h3 h4 h5 h6;refine one v (fun P μ φ x hx=>?_) h;have:x.oneCell'=true:=by
   cases hx with
   |pv hp=>exact hp.one (fun cs e=>h1 cs (by rw[e])) (fun cs e=>h5 cs (by rw[e])) (fun e=>h6 (by rw[e]))
   |agg=>exact absurd rfl (h2 _)
   |aP=>exact absurd rfl (h4 _)
   |top=>exact absurd rfl h3
   |fn=>exact FL _ _
   |_=>rfl
  simp_all
theorem sJ:∀(d:Nat){v:V}{p:PV}{x:Value},jK cU d v=some p→ag P μ φ v x→ah P μ p x
 |0,v,p,x,h,_=>by simp[jK]at h
 |d+1,v,p,x,h,hx=>by
  have ih:=fun{v p x}=> @sJ d v p x;cases v with
  |pv q=>simp[jK]at h;subst h;cases hx with|pv hx=>exact hx
  |gy=>simp[jK]at h;subst h;cases hx;exact .jL
  |agg cs=>
   simp only[jK]at h;obtain⟨ps,oa,h⟩:=cQ.1 h;simp only[cN]at h;subst h;obtain⟨h1,h2⟩:=gr oa;cases hx with
   |agg g1 g2 g3=>refine .agg (by omega) (fun i q y hq hy=>?_) g3;obtain⟨u,hu,hg⟩:=h2 i q hq;exact ih hg (g2 i u y hu hy)
  |aP cs=>
   simp only[jK]at h;obtain⟨ps,oa,h⟩:=cQ.1 h;simp only[cN]at h;subst h;obtain⟨h1,h2⟩:=gr oa;cases hx with
   |aP g1 g2=>refine .aP (by omega) (fun i q y hq hy=>?_);obtain⟨u,hu,hg⟩:=h2 i q hq;exact ih hg (g2 i u y hu hy)
  |op id off=>simp[jK,cU]at h
  |oe id i off=>simp[jK,cU]at h
  |os id=>simp[jK,cU]at h
  |fq id lo len=>simp[jK,cU]at h
  |vg id i off=>simp[jK,cU]at h
  |y7 id i off s j off2=>simp[jK]at h
  |om id=>simp[jK,cU]at h
  |fn f cs=>
   simp only[jK]at h;obtain⟨ps,oa,h⟩:=cQ.1 h;simp only[cN]at h;subst h;obtain⟨h1,h2⟩:=gr oa;cases hx with
   |fn g1 g2=>refine .fn (by omega) (fun i q y hq hy=>?_);obtain⟨u,hu,hg⟩:=h2 i q hq;exact ih hg (g2 i u y hu hy)
  |yl id=>simp[jK]at h
  |it id=>simp[jK]at h
  |top=>simp[jK]at h
def jf(w:World):Ro:=fun b=>w.heap[b]?
theorem av.wO(hM:av P G w0 μ φ m w):∀b o,μ b=some o→jf w b=some o:=hM.ro
variable{id s:Nat}{et:TypeId}{es:List PV}{ν:Ro}
theorem aH.Hb(hA:aH P μ φ w id s et es){g:Nat}(hg:(φ id).g=some g){lo len:Nat}(hl:lo+len≤es.length){cap:Nat}(od:cap≤(φ id).cap-lo)(hlc:len≤cap)(hν:∀b o,μ b=some o→ν b=some o)(Ff:ν g=w.heap[g]?):ah P ν (.rs s ((es.drop lo).take len)) (.slice (some ⟨g,lo*s,none⟩) len cap):=by
 have hle:=hA.nI;obtain⟨a1,a2,a3,a4,a5,a6,a7⟩:=hA;rw[hg]at a7;obtain⟨c,T,c1,c2,c3,c4,c5⟩:=a7;have fh:∀(i:Nat)e,((es.drop lo).take len)[i]?=some e→i<len∧es[lo+i]?=some e:=fun i e hi=>nv hi;have hlen:((es.drop lo).take len).length=len:=by simp;omega
 have hb:∀(i:Nat)e(j:Nat)p,((es.drop lo).take len)[i]?=some e→e.cells[j]?=some p→(lo+i)*s+j<es.length*s:=by intro i e j p hi hj;obtain⟨_,hi⟩:=fh i e hi;have h1:=(AT.1 hi).1;have h2:=(AT.1 hj).1;have h3:=a5 _ e hi;have:(lo+i+1)*s≤es.length*s:=ZG _ (by omega);grind
 have hc:∀(i:Nat)e(j:Nat)p,((es.drop lo).take len)[i]?=some e→e.cells[j]?=some p→c[(lo+i)*s+j]?=some (c.getD ((lo+i)*s+j) undef):=by
  intro i e j p hi hj;obtain⟨_,hi⟩:=fh i e hi;have h1:=(AT.1 hi).1;have h2:=(AT.1 hj).1;have h3:=a5 _ e hi;have:(lo+i+1)*s≤(φ id).cap*s:=ZG _ (by omega);rw[ajc _ 1]at this;have bT:(lo+i)*s+j<c.size:=by omega
  simp_all
 have:=ah.rs (P:=P) (μ:=ν) (sz:=s) (es:=(es.drop lo).take len) (b:=g) (o:=lo*s) (cap:=cap) (fun i j=>c.getD ((lo+i)*s+j) undef) (by omega) (by omega) (fun i e hi=>a5 _ e (fh i e hi).2) (fun i e j p hi hj=>by grind [cellAt,Nat.add_mul]) (fun i e j p hi hj=>((c4 _ e j p _ (fh i e hi).2 hj (hc i e j p hi hj)).mono hν)) (fun i e j p hi hj=>c5 _ _ (hb i e j p hi hj) (hc i e j p hi hj));simp_all
theorem aH.slice(hM:av P G w0 μ φ m w)(hA:aH P μ φ w id s et es){g:Nat}(hg:(φ id).g=some g){lo len:Nat}(hl:lo+len≤es.length)(hν:∀b o,μ b=some o→ν b=some o)(Ff:ν g=w.heap[g]?):ah P ν (.rs s ((es.drop lo).take len)) (.slice (some ⟨g,lo*s,none⟩) len ((φ id).cap-lo)):=hA.Hb hg hl (aiJ _) (by have:=hA.nI;omega) hν Ff
variable{x:Value}
theorem aH.FV(hA:aH P μ φ w id s et es)(hx:ag P μ φ (.os id) x)(hν:∀b o,μ b=some o→ν b=some o)(Ff:∀g,(φ id).g=some g→ν g=w.heap[g]?):ah P ν (.rs s es) x:=by
 have xq:=hA;obtain⟨a1,a2,a3,a4,a5,a6,a7⟩:=hA;cases hx with
 |qY hg=>rw[hg]at a7;rw[a7.1];exact .jL
 | @os _ g hg=>have hle:=xq.nI;have:=xq.Hb hg (lo:=0) (len:=es.length) (by omega) (cap:=(φ id).cap) (by omega) hle.1 hν (Ff g hg);simp_all
theorem aH.full(hM:av P G w0 μ φ m w)(hA:aH P μ φ w id s et es)(hx:ag P μ φ (.os id) x)(hν:∀b o,μ b=some o→ν b=some o)(Ff:∀g,(φ id).g=some g→ν g=w.heap[g]?):ah P ν (.rs s es) x:=hA.FV hx hν Ff
theorem ez.full{R:BI}{rs:List PV}(h:ez P μ R w s rs x)(hν:∀b o,μ b=some o→ν b=some o)(Ff:∀g,R.g=some g→ν g=w.heap[g]?):ah P ν (.rs s rs) x:=by obtain⟨⟨et,hA⟩,hV⟩:=h;exact hA.FV hV hν Ff
theorem BN(e:PV):e.strip.cells=e.cells.map PV.mR:=by cases e<;>rfl
theorem aW.strip{sz:Nat}(h:aW P μ φ w id sz et es)(hν:∀b o,μ b=some o→ν b=some o)(Ff:∀i off g,(bF.nest sz et es).rowAt i off=true→((φ id).row i off).g=some g→ν g=w.heap[g]?):aH P ν φ w id sz et (es.map PV.strip):=by
 obtain⟨a1,a2,a3,a4,a5,a6,a7⟩:=h;refine⟨by simpa using a1,a2,a3,a4,fun i e he=>?_,a6,?_⟩
 ·rw[GP,Yo]at he;obtain⟨e0,h0,rfl⟩:=he;grind [BN,List.length_map]
 ·cases hg:(φ id).g with
  |none=>simp_all
  |some g=>
   rw[hg]at a7;obtain⟨c,T,c1,c2,c3,c4,c5⟩:=a7;refine⟨c,T,c1,c2,by simpa using c3,fun i e j p x he hp hx=>?_,fun i x hi hx=>c5 i x (by simpa using hi) hx⟩;rw[GP,Yo]at he;obtain⟨e0,h0,rfl⟩:=he;rw[BN,GP,Yo]at hp;obtain⟨p0,G9,rfl⟩:=hp;have hc:=c4 i e0 j p0 x h0 G9 hx;cases hr:p0.isRow with
   |false=>
    have:p0.mR=p0:=by cases p0<;>first|rfl|cases hr
    rw[this];exact(hc.Qr hr).mono hν
   |true=>
    cases p0<;>first|(cases hr;done)|skip
    rename_i s rs;exact ez.full (show ez P μ _ w s rs x from hc) hν fun g' cv=>Ff i j g' (by simp[bF.rowAt,h0,G9,PV.isRow]) cv
theorem RS{g o:Nat}{c:Array Value}{T:TypeId}{fz:Nat×Nat}{y:Value}(hν:ν g=w.heap[g]?)(h:w.heap[g]?=some (.cells c T fz))(hy:c[o]?=some y):cellAt ν g o=some y:=by simp[cellAt,hν,h,hy]
theorem sF(hM:av P G w0 μ φ m w){ν:Ro}(ro:∀b o,μ b=some o→ν b=some o)(own:∀id b g,m id=some b→b.owns (φ id) g→ν g=w.heap[g]?):∀(d:Nat){v:V}{p:PV}{x:Value},jK m d v=some p→ag P μ φ v x→ah P ν p x
 |0,v,p,x,h,_=>by simp[jK]at h
 |d+1,v,p,x,h,hx=>by
  have ih:=fun{v p x}=> @sF hM ν ro own d v p x;cases v with
  |pv q=>simp[jK]at h;subst h;cases hx with|pv hx=>exact hx.mono ro
  |gy=>simp[jK]at h;subst h;cases hx;exact .jL
  |agg cs=>
   simp only[jK]at h;obtain⟨ps,oa,h⟩:=cQ.1 h;simp only[cN]at h;subst h;obtain⟨h1,h2⟩:=gr oa;cases hx with
   |agg g1 g2 g3=>refine .agg (by omega) (fun i q y hq hy=>?_) g3;grind
  |aP cs=>
   simp only[jK]at h;obtain⟨ps,oa,h⟩:=cQ.1 h;simp only[cN]at h;subst h;obtain⟨h1,h2⟩:=gr oa;cases hx with
   |aP g1 g2=>refine .aP (by omega) (fun i q y hq hy=>?_);grind
  |op id off=>
   simp only[jK]at h;split at h
   ·rename_i cs hm;obtain⟨ps,oa,h⟩:=cQ.1 h;simp only[cN]at h;subst h;obtain⟨h1,h2⟩:=gr oa;obtain⟨g,c,T,hg,hh,hs,hv,sI,CJ⟩:=hM.dw id _ hm;cases hx with
    |op cv=>
     rw[hg]at cv;simp only[cN]at cv;subst cv;have fh:∀(i:Nat)p,ps[i]?=some p→c[off+i]?=some (c.getD (off+i) undef):=by
      intro i p hi;have:=(AT.1 hi).1;rw[h1]at this;simp at this;have bT:off+i<c.size:=by omega
      simp_all
     refine .rp (fun i=>c.getD (off+i) undef) (fun i p hi=>RS (own _ _ _ hm (.inl hg)) hh (fh i p hi)) (fun i p hi=>?_) (fun i hi=>?_)
     ·grind
     ·exact sI _ _ (fh i _ (cO hi))
   ·cases h
  |oe id i off=>
   have key:∀(s:Nat)(et:TypeId)(es:List PV),(m id=some (.arr s et es)∨m id=some (.pt s et es))→((es[i]?).bind fun e=>some (PV.rp ((aJ s e).drop off)))=some p→ah P ν p x:=by
    intro s et es hm h;obtain⟨e,he,h⟩:=cQ.1 h;simp only[cN]at h;subst h;have hA:=hM.arr hm;have xq:=hA;have Z9:∀g,(φ id).g=some g→ν g=w.heap[g]?:=fun g hg=>by rcases hm with hm|hm<;>exact own _ _ _ hm (.inl hg)
    obtain⟨a1,a2,a3,a4,a5,a6,a7⟩:=hA;cases hx with
    | @oe _ _ _ g hg=>
     rw[a2];have E3:=xq.slice hM hg (lo:=0) (len:=es.length) (by omega) ro (Z9 _ hg);have agm:ah P ν (.rs s es) (.slice (some ⟨g,0,none⟩) es.length (φ id).cap):=by simpa using E3
     obtain⟨b,o,cap,e1,hr⟩:=agm.Qt he;simp only[Value.slice.injEq,cN,Addr.mk.injEq]at e1;obtain⟨⟨rfl,rfl,_⟩,_⟩:=e1;have:=hr.Ha off;simpa using this
   grind [jK]
  |os id=>
   simp only[jK]at h;split at h
   ·rename_i s et es hm;simp only[cN]at h;subst h;exact(hM.arr (.inl hm)).full hM hx ro (fun g hg=>own _ _ _ hm (.inl hg))
   ·rename_i s et es hm;simp only[cN]at h;subst h;exact(hM.arr (.inr hm)).full hM hx ro (fun g hg=>own _ _ _ hm (.inl hg))
   ·rename_i s et es hm;simp only[cN]at h;subst h;have hN:aW P μ φ w id s et es:=hM.dw id _ hm;exact(hN.strip ro fun i off g hr hg=>own _ _ _ hm (.inr ⟨i,off,hr,hg⟩)).FV (hx.xn ro) (fun _ _ h=>h) fun g hg=>own _ _ _ hm (.inl hg)
   ·cases h
  |y7 id i off s j off2=>simp[jK]at h
  |vg id i off=>
   simp only[jK]at h;split at h
   ·rename_i s et es hm;obtain⟨e,he,h⟩:=cQ.1 h;unfold ace at h;split at h
    ·rename_i s' rs hc;simp only[cN]at h;subst h;have hN:aW P μ φ w id s et es:=hM.dw id _ hm;obtain⟨_,_,_,_,⟨⟨E2,hA⟩,_⟩,hce⟩:=hN.row (s:=s') (rs:=rs) he (by rw[hc];simp[eL]);exact hA.FV (hx.MI (ν:=μ)) ro fun g hg=>own _ _ _ hm (.inr ⟨i,off,by simp[bF.rowAt,he,hce,PV.isRow],hg⟩)
    ·cases h
   ·cases h
  |fq id lo len=>
   have key:∀(s:Nat)(et:TypeId)(es:List PV),(m id=some (.arr s et es)∨m id=some (.pt s et es))→ah P ν (.rs s ((es.drop lo).take len)) x:=by
    intro s et es hm;have hA:=hM.arr hm;have xq:=hA;have Z9:∀g,(φ id).g=some g→ν g=w.heap[g]?:=fun g hg=>by rcases hm with hm|hm<;>exact own _ _ _ hm (.inl hg)
    have hle:=hA.nI;obtain⟨a1,a2,a3,a4,a5,a6,a7⟩:=hA;cases hx with
    |pL hg=>simp;exact .jL
    | @fq _ _ _ cap g a hg hl ha Z7 T8=>
     rw[a1]at hl;rcases ha with rfl|⟨ha,_⟩
     ·rw[a2];exact xq.Hb hg hl (by omega) Z7 ro (Z9 _ hg)
     ·have h0:len=0:=by omega
      subst h0;simp only[ajU];exact .Jm (by omega)
   grind [jK,Option.some.injEq]
  |om id=>
   simp only[jK]at h;split at h
   ·rename_i kt es hm;simp only[cN]at h;subst h;obtain⟨g,en,clock,kk,hg,hh,hs,hk,Qu,_,hv⟩:=hM.dw id _ hm;cases hx with
    |om cv=>
     rw[hg]at cv;simp only[cN]at cv;subst cv;refine .rm (show ν g=_ from(own _ _ _ hm (.inl hg)).trans hh) (by simp[hs]) (by simp) hk (fun i k hi=>?_) (fun i k e hi he=>?_) (fun i v e hi he=>?_)
     ·grind
     ·simp only[GP,Yo]at hi;obtain⟨⟨a,b⟩,hq,rfl⟩:=hi;exact(hv i a b e hq he).1.mono ro
     ·simp only[GP,Yo]at hi;obtain⟨⟨a,b⟩,hq,rfl⟩:=hi;exact(hv i a b e hq he).2.mono ro
   ·rename_i kt e0 es hm;simp only[cN]at h;subst h;obtain⟨g,en,clock,kk,hg,hh,hs,hk,Qu,_,hv⟩:=hM.dw id _ hm;cases hx with
    |om cv=>
     rw[hg]at cv;simp only[cN]at cv;subst cv;refine .rm (show ν g=_ from(own _ _ _ hm (.inl hg)).trans hh) (by simp[hs]) (by simp) hk (fun i k hi=>?_) (fun i k e hi he=>?_) (fun i v e hi he=>?_)
     ·grind
     ·simp only[GP,Yo]at hi;obtain⟨⟨a,b⟩,hq,rfl⟩:=hi;exact(hv i a b e hq he).1.mono ro
     ·simp only[GP,Yo]at hi;obtain⟨⟨a,b⟩,hq,rfl⟩:=hi;have h2:=(hv i a b e hq he).2;cases hr:b.isRow with
      |false=>
       have e1:b.mR=b:=by cases b<;>first|rfl|cases hr
       simp only[e1];split at h2
       ·cases hr
       ·exact h2.mono ro
      |true=>
       cases b<;>first|(cases hr;done)|skip
       exact h2.1.FV h2.2 ro fun g' cv=>own _ _ _ hm (.inr ⟨i,0,by simp[bF.rowAt,hq,PV.isRow],cv⟩)
   ·cases h
  |fn f cs=>
   simp only[jK]at h;obtain⟨ps,oa,h⟩:=cQ.1 h;simp only[cN]at h;subst h;obtain⟨h1,h2⟩:=gr oa;cases hx with
   |fn g1 g2=>refine .fn (by omega) (fun i q y hq hy=>?_);grind
  |yl id=>simp[jK]at h
  |it id=>simp[jK]at h
  |top=>simp[jK]at h
end
section
variable {P:Program} {w:World}
def valOf:PV→Value
 |.int k n=>.int k n
 |.bool b=>.bool b
 |.str s=>.string ⟨s.toArray⟩
 |_=>undef
def eC(P:Program)(t:TypeId)(ps:List PV):Value:=if ax P t then .agg (ps.map valOf).toArray else valOf (ps.headD .bad)
theorem FW{μ:Ro}{k:Kd}{p:PV}{y:Value}(h:sC k p=true)(hy:ah P μ p y):y=valOf p:=by cases k<;>cases p<;>simp[sC]at h<;>cases hy<;>rfl
theorem pd:∀{ks:List Kd}{ps:List PV},jc ks ps=true→ps.length=ks.length
 |[],[],_=>rfl
 |[],_::_,h=>by simp[jc]at h
 |_::_,[],h=>by simp[jc]at h
 |k::ks,p::ps,h=>by simp[jc]at h;simp[pd h.2]
theorem Qv:∀{ks:List Kd}{ps:List PV},jc ks ps=true→∀(i:Nat)p,ps[i]?=some p→∃k,ks[i]?=some k∧sC k p=true
 |[],[],_,i,p,hi=>by simp at hi
 |[],_::_,h,_,_,_=>by simp[jc]at h
 |_::_,[],h,_,_,_=>by simp[jc]at h
 |k::ks,q::ps,h,i,p,hi=>by
  simp[jc]at h;cases i with
  |zero=>simp at hi;subst hi;exact⟨k,by simp,h.1⟩
  |succ i=>simp at hi;simpa using Qv h.2 i p hi
theorem pP:∀(a b:List Kd)(ps:List PV),jc (a++b) ps=true↔jc a (ps.take a.length)=true∧jc b (ps.drop a.length)=true
 |[],b,ps=>by simp[jc]
 |k::a,b,[]=>by simp[jc]
 |k::a,b,p::ps=>by simp[jc,pP a b ps,No,alu]
theorem vv:∀(n:Nat)(ps qs:List PV),n≤ps.length→n≤qs.length→dr ps qs=(dr (ps.take n) (qs.take n)&&dr (ps.drop n) (qs.drop n))
 |0,ps,qs,_,_=>by simp[dr]
 |n+1,[],_,h,_=>by simp at h
 |n+1,_::_,[],_,h=>by simp at h
 |n+1,p::ps,q::qs,h1,h2=>by simp only[aiV,Nat.add_le_add_iff_right]at h1 h2;simp only[dr,List.take_succ_cons,List.drop_succ_cons,vv n ps qs h1 h2,Bool.and_assoc]
variable{ks:List Kd}{ps:List PV}
theorem rR{μ:Ro}{xs:Array Value}(hk:jc ks ps=true)(hl:xs.size=ps.length)(hv:∀(i:Nat)p y,ps[i]?=some p→xs[i]?=some y→ah P μ p y):xs=(ps.map valOf).toArray:=by
 apply ajZ;apply aiY;intro i;by_cases hi:i<ps.length
 ·have h1:ps[i]?=some ps[i]:=cO hi;have h2:xs[i]?=some xs[i]:=IN (by omega);obtain⟨k,_,hk⟩:=Qv hk i _ h1;have:=FW hk (hv i _ _ h1 h2);simp only[aiM,h2,GP,h1,aff,this]
 ·simp[hi,hl]
theorem xr(a:List Kd):∀n,(pG a n).length=n*a.length
 |0=>by simp[pG]
 |n+1=>by simp[pG,xr a n,ajc];omega
theorem lR{k:Kd}(h:jc [k] ps=true):∃p,ps=[p]∧sC k p=true:=by
 cases ps with
 |nil=>simp[jc]at h
 |cons p r=>cases r with
  |nil=>exact⟨p,rfl,by simpa[jc]using h⟩
  |cons q r=>simp[jc]at h
theorem wP{d:Nat}{t:TypeId}(h:As P d t=some ks):(ax P t=true→ks.length=aQ P t)∧(ax P t=false→ks.length=1)∧∃de,P.underlying t=some de:=by
 cases d with
 |zero=>simp[As]at h
 |succ d=>
  unfold As at h;split at h
  ·rename_i q hu;simp at h;subst h;exact⟨by simp[ax,hu],by simp,_,hu⟩
  ·rename_i hu;simp at h;subst h;exact⟨by simp[ax,hu],by simp,_,hu⟩
  ·rename_i hu;simp at h;subst h;exact⟨by simp[ax,hu],by simp,_,hu⟩
  ·rename_i fs hu;split at h
   ·cases h
   ·obtain⟨a,ha,h⟩:=cQ.1 h;split at h
    ·rename_i hl;simp at h;subst h;exact⟨fun _=>hl,by simp[ax,hu],_,hu⟩
    ·cases h
  ·rename_i n e hu;obtain⟨a,ha,h⟩:=cQ.1 h;split at h
   ·rename_i hl;simp at h;subst h;refine⟨fun _=>?_,by simp[ax,hu],_,hu⟩;rw[←hl.2,xr]
   ·cases h
  ·cases h
theorem jz{d:Nat}{t:TypeId}{off:Nat}(h:As P d t=some ks)(hl:off+ks.length≤ps.length):(part t (ps.map valOf).toArray off).run P w=.ok (eC P t ((ps.drop off).take ks.length)) w:=by
 obtain⟨h1,h2,de,hu⟩:=wP h;cases ha:ax P t with
 |true=>rw[zj ha];congr 1;simp only[eC,ha,IS];congr 1;rw[←h1 ha];simp[List.map_drop,alv,akV]
 |false=>
  have hk:=h2 ha;rw[hk]at hl⊢;have bT:off<ps.length:=by omega
  rw[zk hu ha (y:=valOf ps[off]) (by simp[bT])];congr 1;simp only[eC,ha,cT,T1];rw[akg bT];rfl
theorem og:∀(d:Nat)(t:TypeId)(ks:List Kd),As P d t=some ks→∀(D:Nat)(w:World)(ps qs:List PV),jc ks ps=true→jc ks qs=true→(Op.equalIn (D+d) t (eC P t ps) (eC P t qs)).run P w=.ok (dr ps qs) w
 |0,t,ks,h,_,_,_,_,_,_=>by simp[As]at h
 |d+1,t,ks,h,D,w,ps,qs,hp,hq=>by
  have ih:=og d;have h0:=h;unfold As at h;split at h
  ·rename_i q hu;simp only[cN]at h;subst h;have ha:ax P t=false:=by simp[ax,hu]
   obtain⟨p,rfl,Tw⟩:=lR hp;obtain⟨q',rfl,hkq⟩:=lR hq;clear hp hq;cases p<;>simp[sC]at Tw;cases q'<;>simp[sC]at hkq;subst Tw;subst hkq;simp[eC,ha,valOf,dr,peq,←ajg,Op.equalIn,run_underlying hu]
  ·rename_i hu;simp only[cN]at h;subst h;have ha:ax P t=false:=by simp[ax,hu]
   obtain⟨p,rfl,Tw⟩:=lR hp;obtain⟨q',rfl,hkq⟩:=lR hq;clear hp hq;cases p<;>simp[sC]at Tw;cases q'<;>simp[sC]at hkq;simp[eC,ha,valOf,dr,peq,←ajg,Op.equalIn,run_underlying hu]
  ·rename_i hu;simp only[cN]at h;subst h;have ha:ax P t=false:=by simp[ax,hu]
   obtain⟨p,rfl,Tw⟩:=lR hp;obtain⟨q',rfl,hkq⟩:=lR hq;clear hp hq;cases p<;>simp[sC]at Tw;cases q'<;>simp[sC]at hkq;simp only[eC,ha,valOf,dr,peq,←ajg,cT,T1,List.headD_cons,akb];rw[run_equalIn_string w _ _ _ _ hu,ByteArray.toList_eq,ByteArray.toList_eq]
  ·rename_i fs hu;split at h
   ·cases h
   ·rename_i vw;obtain⟨a,ha,h⟩:=cQ.1 h;split at h
    ·rename_i hlen;simp only[cN]at h;subst h;have Ub:ax P t=true:=by simp[ax,hu]
     have hfo:P.fieldsOf t=fs:=by simp[Program.fieldsOf,hu]
     simp only[eC,Ub,IS,←ajg];rw[run_equalIn_struct w (D+d) t _ _ (by rw[hfo];exact hu) (by simpa using vw),hfo];have key:∀(L:List Field)(off:Nat)(b:List Kd)(w:World),pF (As P d) L off=some b→off≤ps.length→off≤qs.length→jc b (ps.drop off)=true→jc b (qs.drop off)=true→(Op.eqFields (D+d) (ps.map valOf).toArray (qs.map valOf).toArray L).run P w=.ok (dr (ps.drop off) (qs.drop off)) w:=by
      intro L;induction L with
      |nil=>
       intro off b w hb o1 o2 h1 h2;simp only[pF,cN]at hb;subst hb;have e1:ps.drop off=[]:=by cases hh:ps.drop off with|nil=>rfl|cons x r=>rw[hh]at h1;simp[jc]at h1
       have e2:qs.drop off=[]:=by cases hh:qs.drop off with|nil=>rfl|cons x r=>rw[hh]at h2;simp[jc]at h2
       simp[Op.eqFields,e1,e2,dr]
      |cons f L ihL=>
       intro off b w hb o1 o2 h1 h2;simp only[pF]at hb;split at hb
       ·rename_i hf;obtain⟨c,hc,hb⟩:=cQ.1 hb;obtain⟨b',gN,hb⟩:=cQ.1 hb;simp only[cN]at hb;subst hb;rw[pP]at h1 h2;have l1:=pd h1.1;have l2:=pd h2.1;simp only[ajo,aj4]at l1 l2;have p1:=jz (w:=w) (ps:=ps) (off:=off) hc (by omega);have p2:=jz (w:=w) (ps:=qs) (off:=off) hc (by omega);have p3:=ih f.type c hc D w _ _ h1.1 h2.1;have p4:=ihL (off+c.length) b' w gN (by omega) (by omega) (by rw[←ajt];exact h1.2) (by rw[←ajt];exact h2.2);simp only[Op.eqFields,hf.2,alC,akr,IS,Sem.run_bind,hf.1,p1,p2,p3,Result.andThen_ok];rw[vv c.length (ps.drop off) (qs.drop off) (by simp;omega) (by simp;omega),ajt,ajt];cases hr:dr ((ps.drop off).take c.length) ((qs.drop off).take c.length)with
        |false=>simp
        |true=>simpa using p4
       ·cases hb
     simpa using key fs.toList 0 a w ha (by simp) (by simp) (by simpa using hp) (by simpa using hq)
    ·cases h
  ·rename_i n e hu;obtain⟨a,ha,h⟩:=cQ.1 h;split at h
   ·rename_i hlen;simp only[cN]at h;subst h;have Ub:ax P t=true:=by simp[ax,hu]
    obtain⟨_,_,de,hde⟩:=wP ha;obtain⟨i,hi⟩:∃i,P.info? e=some i:=by
     unfold Program.underlying at hde;cases hq:P.info? e with
     |none=>simp[hq]at hde
     |some i=>exact⟨i,rfl⟩
    have mI:P.cellsOf e=a.length:=hlen.1.symm;simp only[eC,Ub,IS,←ajg];rw[run_equalIn_array w (D+d) _ _ hu hi,mI];have key:∀(k j:Nat)(w:World),j+k=n→j*a.length≤ps.length→j*a.length≤qs.length→jc (pG a k) (ps.drop (j*a.length))=true→jc (pG a k) (qs.drop (j*a.length))=true→(Op.eqItems (D+d) e a.length (ps.map valOf).toArray (qs.map valOf).toArray (List.range' j k)).run P w=.ok (dr (ps.drop (j*a.length)) (qs.drop (j*a.length))) w:=by
     intro k;induction k with
     |zero=>
      intro j w _ _ _ h1 h2;simp only[pG]at h1 h2;have e1:ps.drop (j*a.length)=[]:=by cases hh:ps.drop (j*a.length)with|nil=>rfl|cons x r=>rw[hh]at h1;simp[jc]at h1
      have e2:qs.drop (j*a.length)=[]:=by cases hh:qs.drop (j*a.length)with|nil=>rfl|cons x r=>rw[hh]at h2;simp[jc]at h2
      simp[Op.eqItems,e1,e2,dr]
     |succ k ihk=>
      intro j w hj o1 o2 h1 h2;simp only[pG]at h1 h2;rw[pP]at h1 h2;have l1:=pd h1.1;have l2:=pd h2.1;simp only[ajo,aj4]at l1 l2;have p1:=jz (w:=w) (ps:=ps) (off:=j*a.length) ha (by omega);have p2:=jz (w:=w) (ps:=qs) (off:=j*a.length) ha (by omega);have p3:=ih e a ha D w _ _ h1.1 h2.1;have ej:(j+1)*a.length=j*a.length+a.length:=by rw[ajc];omega
      have p4:=ihk (j+1) w (by omega) (by omega) (by omega) (by rw[ej,←ajt];exact h1.2) (by rw[ej,←ajt];exact h2.2);rw[akx];simp only[Op.eqItems,Sem.run_bind,p1,p2,p3,Result.andThen_ok];rw[vv a.length (ps.drop (j*a.length)) (qs.drop (j*a.length)) (by simp;omega) (by simp;omega),ajt,ajt,←ej];cases hr:dr ((ps.drop (j*a.length)).take a.length) ((qs.drop (j*a.length)).take a.length)with
      |false=>simp
      |true=>simpa using p4
    have:=key n 0 w (by omega) (by simp) (by simp) (by simpa using hp) (by simpa using hq);rw[akG];simpa using this
   ·cases h
  ·cases h
end
section
variable {R:Type} {E:Env}
theorem Xd{k:IntKind}{x y:Int}(hx:(Lit.int k x).wf=true):(Lit.int k (x.tmod y)).wf=true:=by
 rw[lP]at*;have h0:k.min≤0∧0≤k.max:=by grind [IntKind.min,IntKind.max,IntKind.signed,IntKind.bits]
 rcases Int.le_total 0 x with h|h
 ·have h1:=Int.tmod_nonneg y h;have h2:x.tmod y≤x:=by have:=Int.natAbs_tmod x y;have h3:x.natAbs%y.natAbs≤x.natAbs:=Nat.mod_le _ _;omega
  omega
 ·have h1:x.tmod y= -((-x).tmod y):=by simp
  have h2:=Int.tmod_nonneg y (show 0≤-x by omega);have h3:(-x).tmod y≤-x:=by have:=Int.natAbs_tmod (-x) y;have h3:(-x).natAbs%y.natAbs≤(-x).natAbs:=Nat.mod_le _ _;omega
  omega
theorem Xe{k:IntKind}{x:Int}(n:Nat)(hx:(Lit.int k x).wf=true):(Lit.int k (x.fdiv (2^n))).wf=true:=by
 rw[lP]at*;have h0:k.min≤0∧0≤k.max:=by grind [IntKind.min,IntKind.max,IntKind.signed,IntKind.bits]
 have hp:(0:Int)<2^n:=Int.pow_pos (by omega);rw[Int.fdiv_eq_ediv_of_nonneg _ (by omega)];rcases Int.le_total 0 x with h|h
 ·have h1:=Int.ediv_nonneg h (Int.le_of_lt hp);have h2:=Int.ediv_le_self (2^n) h;omega
 ·have h1:x/2^n≤0:=Int.ediv_nonpos_of_nonpos_of_neg h hp;have h2:x≤x/2^n:=by rw[Int.le_ediv_iff_mul_le hp];have:x*2^n≤x*1:=Int.mul_le_mul_of_nonpos_left h (by omega);omega
  omega
variable{P:Program}{t:TypeId}
theorem FX{ps:List PV}(ha:ax P t=true):eC P t ps=.agg (ps.map valOf).toArray:=by simp[eC,ha]
def FY(P:Program)(t:TypeId):Bool:=P.eqGuardType P.depth t
def rS(op:BinOp)(t:TypeId)(ox oy:Operand)(x y:Value):Sem Value:=do eqGuard op t ox oy x y;binOp op t x y
variable{x y:Value}{w:World}
theorem gX{b:Bool}(hb:binOp .eql t x y=(do pure (.bool (←Op.equal t x y))))(h:(Op.equalIn 10000 t x y).run P w=.ok b w):(binOp .eql t x y).run P w=.ok (.bool b) w:=by simp_all[Op.equal,Op.maxDepth,Sem.run_bind,Result.andThen_ok,Sem.run_pure]
theorem gY{b:Bool}(hb:binOp .neq t x y=(do pure (.bool (!(←Op.equal t x y)))))(h:(Op.equalIn 10000 t x y).run P w=.ok b w):(binOp .neq t x y).run P w=.ok (.bool (!b)) w:=by simp_all[Op.equal,Op.maxDepth,Sem.run_bind,Result.andThen_ok,Sem.run_pure]
theorem bS{op:BinOp}{ox oy:Operand}{z:Value}(h1:(eqGuard op t ox oy x y).run P w=.ok () w)(h2:(binOp op t x y).run P w=.ok z w):(rS op t ox oy x y).run P w=.ok z w:=by simp_all[rS,Sem.run_bind,Result.andThen_ok]
theorem lh{e:TypeId}(hu:P.underlying t=some (.pointer e))(a:Option Addr):(Op.equalIn 10000 t (.pointer a) (.pointer none)).run P w=.ok a.isNone w:=by show(Op.equalIn (9999+1) t (.pointer a) (.pointer none)).run P w=.ok a.isNone w;cases a<;>(unfold Op.equalIn;simp only[Sem.run_bind,run_underlying hu,Result.andThen_ok];rfl)
theorem tB{a b:Array TypeId}{c:Bool}(hu:P.underlying t=some (.func a b c))(f:Fn)(xs ys:Array Value):(Op.equalIn 10000 t (.func f xs ys) .nilFunc).run P w=.ok false w:=by show(Op.equalIn (9999+1) t (.func f xs ys) .nilFunc).run P w=.ok false w;unfold Op.equalIn;simp only[Sem.run_bind,run_underlying hu,Result.andThen_ok];rfl
variable{k:PV→Option R}{a:V}{r:R}
theorem Xf{op:BinOp}{b:V}(h:lC E op t a b k=some r):∃q,(∀(R':Type)(k':PV→Option R'),lC E op t a b k'=k' q)∧k q=some r∧∀(μ:Ro)(φ:Nat→aA)(w:World)(ox oy:Operand)(x y:Value),ag E.P μ φ a x→ag E.P μ φ b y→∃z,(rS op t ox oy x y).run E.P w=.ok z w∧ah E.P μ q z:=by
 unfold lC at h;split at h
 ·rename_i q x q' y;have ints:∀(μ:Ro)(φ:Nat→aA)(u v:Value),ag E.P μ φ (.pv (.int q x)) u→ag E.P μ φ (.pv (.int q' y)) v→u=.int q x∧v=.int q' y∧(Lit.int q x).wf=true:=by intro μ φ u v hu hv;cases hu with|pv hu=>cases hu with|int h1=>cases hv with|pv hv=>cases hv with|int h2=>exact⟨rfl,rfl,h1⟩
  cases op;case shl=>
   simp only at h;split at h
   ·cases h
   ·rename_i hy;refine⟨_,fun R' k'=>by simp[lC,hy],h,fun μ φ w ox oy u v hu hv=>?_⟩;obtain⟨rfl,rfl,_⟩:=ints μ φ u v hu hv;exact⟨_,by simp[rS,eqGuard,binOp,Op.shift,hy],.int (wf_wrap _ _)⟩
  case shr=>
   simp only at h;split at h
   ·cases h
   ·rename_i hy;refine⟨_,fun R' k'=>by simp[lC,hy],h,fun μ φ w ox oy u v hu hv=>?_⟩;obtain⟨rfl,rfl,hw⟩:=ints μ φ u v hu hv;exact⟨_,by simp[rS,eqGuard,binOp,Op.shift,hy],.int (Xe _ hw)⟩
  case quo=>
   simp only at h;split at h
   ·rename_i hq;subst hq;split at h
    ·cases h
    ·rename_i hy;refine⟨_,fun R' k'=>by simp[lC,hy],h,fun μ φ w ox oy u v hu hv=>?_⟩;obtain⟨rfl,rfl,_⟩:=ints μ φ u v hu hv;exact⟨_,by simp[rS,eqGuard,binOp,Op.intDiv,hy],.int (wf_wrap _ _)⟩
   ·cases h
  case rem=>
   simp only at h;split at h
   ·rename_i hq;subst hq;split at h
    ·cases h
    ·rename_i hy;refine⟨_,fun R' k'=>by simp[lC,hy],h,fun μ φ w ox oy u v hu hv=>?_⟩;obtain⟨rfl,rfl,hw⟩:=ints μ φ u v hu hv;exact⟨_,by simp[rS,eqGuard,binOp,Op.intDiv,hy],.int (Xd hw)⟩
   ·cases h
  case eql|neq|lss|leq|gtr|geq=>
   simp only at h;split at h
   ·rename_i hq;subst hq;refine⟨_,fun R' k'=>by simp[lC],h,fun μ φ w ox oy u v hu hv=>?_⟩;obtain⟨rfl,rfl,_⟩:=ints μ φ u v hu hv;refine⟨_,bS (by rw[eqGuard_at_int];rfl) ?_,.bool⟩;first|rw[binOp_eql]|rw[binOp_neq]|rw[binOp_lss]|rw[binOp_leq]|rw[binOp_gtr]|rw[binOp_geq]
    rfl
   ·cases h
  all_goals
   simp only at h;split at h
   ·rename_i hq;subst hq;refine⟨_,fun R' k'=>by simp[lC],h,fun μ φ w ox oy u v hu hv=>?_⟩;obtain⟨rfl,rfl,_⟩:=ints μ φ u v hu hv;refine⟨_,bS (by rw[eqGuard_at_int];rfl) ?_,.int (wf_wrap _ _)⟩;first|rw[binOp_add]|rw[binOp_sub]|rw[binOp_mul]|rw[binOp_and]|rw[binOp_or]|rw[binOp_xor]|rw[binOp_andNot]
    rfl
   ·cases h
 ·rename_i x y;have strs:∀(μ:Ro)(φ:Nat→aA)(u v:Value),ag E.P μ φ (.pv (.str x)) u→ag E.P μ φ (.pv (.str y)) v→u=.string ⟨x.toArray⟩∧v=.string ⟨y.toArray⟩:=by intro μ φ u v hu hv;cases hu with|pv hu=>cases hu with|str h1=>cases hv with|pv hv=>cases hv with|str h2=>exact⟨rfl,rfl⟩
  cases op;case add=>
   simp only at h;split at h
   ·rename_i gn;have hy:¬((x.length+y.length:Nat):Int)>IntKind.i64.max:=by have:=E.lp.e9 _ gn;omega
    refine⟨_,fun R' k'=>by simp only[lC];rw[AI gn],h,fun μ φ w ox oy u v hu hv=>?_⟩;obtain⟨rfl,rfl⟩:=strs μ φ u v hu hv;refine⟨.string ⟨(x++y).toArray⟩,?_,.str ?_⟩
    ·simp only[rS,eqGuard,binOp,Op.stringOp,Sem.run_bind];have e:(⟨x.toArray⟩++⟨y.toArray⟩:ByteArray)=⟨(x++y).toArray⟩:=by apply ByteArray.ext;simp
     simp only[Dh,e];rw[By hy];simp
    ·simp only[maxLen];simp only[IntKind.max_i64]at hy;simp;omega
   ·cases h
  case eql|neq|lss|leq|gtr|geq=>simp only at h;refine⟨_,fun R' k'=>by simp only[lC],h,fun μ φ w ox oy u v hu hv=>?_⟩;obtain⟨rfl,rfl⟩:=strs μ φ u v hu hv;refine⟨_,bS (by rw[eqGuard_at_string];rfl) ?_,.bool⟩;simp only[binOp,Op.stringOp,ByteArray.toList_eq];rfl
  all_goals (simp only at h;cases h)
 ·rename_i x y;have YY:∀(μ:Ro)(φ:Nat→aA)(u v:Value),ag E.P μ φ (.pv (.bool x)) u→ag E.P μ φ (.pv (.bool y)) v→u=.bool x∧v=.bool y:=by intro μ φ u v hu hv;cases hu with|pv hu=>cases hu with|bool=>cases hv with|pv hv=>cases hv with|bool=>exact⟨rfl,rfl⟩
  split at h
  ·rename_i pQ;refine⟨_,fun R' k'=>by simp only[lC,pQ],h,fun μ φ w ox oy u v hu hv=>?_⟩;obtain⟨rfl,rfl⟩:=YY μ φ u v hu hv;exact⟨_,bS (by rw[eqGuard_at_bool];rfl) (gX rfl (run_equalIn_bool w _ _ _ _ pQ)),.bool⟩
  ·rename_i pQ;refine⟨_,fun R' k'=>by simp only[lC,pQ],h,fun μ φ w ox oy u v hu hv=>?_⟩;obtain⟨rfl,rfl⟩:=YY μ φ u v hu hv;exact⟨_,bS (by rw[eqGuard_at_bool];rfl) (gY rfl (run_equalIn_bool w _ _ _ _ pQ)),.bool⟩
  ·cases h
 ·split at h
  ·rename_i pQ;refine⟨_,fun R' k'=>by simp only[lC,pQ],h,fun μ φ w ox oy u v hu hv=>?_⟩;cases hu with|pv hu=>cases hu;cases hv with|pv hv=>cases hv;exact⟨_,bS (by rw[eqGuard_at_pointer];rfl) (gX rfl (lh pQ none)),.bool⟩
  ·rename_i pQ;refine⟨_,fun R' k'=>by simp only[lC,pQ],h,fun μ φ w ox oy u v hu hv=>?_⟩;cases hu with|pv hu=>cases hu;cases hv with|pv hv=>cases hv;exact⟨_,bS (by rw[eqGuard_at_pointer];rfl) (gY rfl (lh pQ none)),.bool⟩
  ·cases h
 ·split at h
  ·rename_i pQ;refine⟨_,fun R' k'=>by simp only[lC,pQ],h,fun μ φ w ox oy u v hu hv=>?_⟩;cases hu with| @fn f0 _ xs0=>cases hv with|pv hv=>cases hv;obtain⟨g0,a0,b0,e0⟩:=pN _ xs0;rw[e0];exact⟨_,bS (by rw[eqGuard_at_func];rfl) (gX rfl (tB pQ _ _ _)),.bool⟩
  ·rename_i pQ;refine⟨_,fun R' k'=>by simp only[lC,pQ],h,fun μ φ w ox oy u v hu hv=>?_⟩;cases hu with| @fn f0 _ xs0=>cases hv with|pv hv=>cases hv;obtain⟨g0,a0,b0,e0⟩:=pN _ xs0;rw[e0];exact⟨_,bS (by rw[eqGuard_at_func];rfl) (gY rfl (tB pQ _ _ _)),.bool⟩
  ·cases h
 ·split at h
  ·rename_i pQ;refine⟨_,fun R' k'=>by simp only[lC,pQ],h,fun μ φ w ox oy u v hu hv=>?_⟩;cases hu with|pv hu=>cases hu with| @fn f0 _ xs0=>cases hv with|pv hv=>cases hv;obtain⟨g0,a0,b0,e0⟩:=pN _ xs0;rw[e0];exact⟨_,bS (by rw[eqGuard_at_func];rfl) (gX rfl (tB pQ _ _ _)),.bool⟩
  ·rename_i pQ;refine⟨_,fun R' k'=>by simp only[lC,pQ],h,fun μ φ w ox oy u v hu hv=>?_⟩;cases hu with|pv hu=>cases hu with| @fn f0 _ xs0=>cases hv with|pv hv=>cases hv;obtain⟨g0,a0,b0,e0⟩:=pN _ xs0;rw[e0];exact⟨_,bS (by rw[eqGuard_at_func];rfl) (gY rfl (tB pQ _ _ _)),.bool⟩
  ·cases h
 ·split at h
  ·rename_i pQ;refine⟨_,fun R' k'=>by simp only[lC,pQ],h,fun μ φ w ox oy u v hu hv=>?_⟩;cases hu with|pv hu=>cases hu;cases hv with|pv hv=>cases hv;exact⟨_,bS (by rw[eqGuard_at_pointer];rfl) (gX rfl (lh pQ _)),.bool⟩
  ·rename_i pQ;refine⟨_,fun R' k'=>by simp only[lC,pQ],h,fun μ φ w ox oy u v hu hv=>?_⟩;cases hu with|pv hu=>cases hu;cases hv with|pv hv=>cases hv;exact⟨_,bS (by rw[eqGuard_at_pointer];rfl) (gY rfl (lh pQ _)),.bool⟩
  ·cases h
 ·split at h
  ·rename_i pQ;refine⟨_,fun R' k'=>by simp only[lC,pQ],h,fun μ φ w ox oy u v hu hv=>?_⟩;cases hu with|op hg=>cases hv with|pv hv=>cases hv;exact⟨_,bS (by rw[eqGuard_at_pointer];rfl) (gX rfl (lh pQ _)),.bool⟩
  ·rename_i pQ;refine⟨_,fun R' k'=>by simp only[lC,pQ],h,fun μ φ w ox oy u v hu hv=>?_⟩;cases hu with|op hg=>cases hv with|pv hv=>cases hv;exact⟨_,bS (by rw[eqGuard_at_pointer];rfl) (gY rfl (lh pQ _)),.bool⟩
  ·cases h
 ·split at h
  ·rename_i pQ;refine⟨_,fun R' k'=>by simp only[lC,pQ],h,fun μ φ w ox oy u v hu hv=>?_⟩;cases hu with|oe hg=>cases hv with|pv hv=>cases hv;exact⟨_,bS (by rw[eqGuard_at_pointer];rfl) (gX rfl (lh pQ _)),.bool⟩
  ·rename_i pQ;refine⟨_,fun R' k'=>by simp only[lC,pQ],h,fun μ φ w ox oy u v hu hv=>?_⟩;cases hu with|oe hg=>cases hv with|pv hv=>cases hv;exact⟨_,bS (by rw[eqGuard_at_pointer];rfl) (gY rfl (lh pQ _)),.bool⟩
  ·cases h
 ·rename_i n1 n2 n3 n4 m1 m2 n5 n6 n7;split at h
  ·rename_i ha;split at h
   ·rename_i ks as bs Uc has hbs;split at h
    ·rename_i ps qs oa hqs;split at h
     ·rename_i hc;have hE:FY E.P t=false∧As E.P 8 t=some ks:=by
       unfold re at Uc;split at Uc
       ·cases Uc
       ·rename_i hg;exact⟨by simpa[FY]using hg,Uc⟩
      have key:∀(μ:Ro)(φ:Nat→aA)(w:World)(x y:Value),ag E.P μ φ a x→ag E.P μ φ b y→∃xs ys,x=.agg xs∧y=.agg ys∧(Op.equalIn 10000 t x y).run E.P w=.ok (dr ps qs) w:=by intro μ φ w x y hx hy;obtain⟨xs,rfl,g1,g2,g3⟩:=(nH has).2 _ _ _ _ hx;obtain⟨ys,rfl,g4,g5,g6⟩:=(nH hbs).2 _ _ _ _ hy;obtain⟨l1,l2⟩:=gr oa;obtain⟨l3,l4⟩:=gr hqs;have e1:=rR (P:=E.P) (μ:=μ) (xs:=xs) hc.1 (by omega) (fun i p z hi hz=>by obtain⟨v,hv,hg⟩:=l2 i p hi;exact sJ 1 hg (g2 i v z hv hz));have e2:=rR (P:=E.P) (μ:=μ) (xs:=ys) hc.2 (by omega) (fun i p z hi hz=>by obtain⟨v,hv,hg⟩:=l4 i p hi;exact sJ 1 hg (g5 i v z hv hz));refine⟨xs,ys,rfl,rfl,?_⟩;have:=og 8 t ks hE.2 9992 w ps qs hc.1 hc.2;rw[FX ha,FX ha,←e1,←e2]at this;exact this
      have agn:∀(R':Type)(k':PV→Option R'),lC E .eql t a b k'=k' (.bool (dr ps qs)):=by
       intro R' k';unfold lC;split
       ·exact(n1 _ _ _ _ rfl rfl).elim
       ·exact(n2 _ _ rfl rfl).elim
       ·exact(n3 _ _ rfl rfl).elim
       ·exact(n4 rfl rfl).elim
       ·exact(m1 _ _ rfl rfl).elim
       ·exact(m2 _ _ rfl rfl).elim
       ·exact(n5 _ rfl rfl).elim
       ·exact(n6 _ _ rfl rfl).elim
       ·exact(n7 _ _ _ rfl rfl).elim
       ·rw[AI ha,Uc,has,hbs];simp only[oa,hqs];rw[AI hc]
      have ago:∀(R':Type)(k':PV→Option R'),lC E .neq t a b k'=k' (.bool (!(dr ps qs))):=by
       intro R' k';unfold lC;split
       ·exact(n1 _ _ _ _ rfl rfl).elim
       ·exact(n2 _ _ rfl rfl).elim
       ·exact(n3 _ _ rfl rfl).elim
       ·exact(n4 rfl rfl).elim
       ·exact(m1 _ _ rfl rfl).elim
       ·exact(m2 _ _ rfl rfl).elim
       ·exact(n5 _ rfl rfl).elim
       ·exact(n6 _ _ rfl rfl).elim
       ·exact(n7 _ _ _ rfl rfl).elim
       ·rw[AI ha,Uc,has,hbs];simp only[oa,hqs];rw[AI hc]
      cases op;case eql=>refine⟨_,fun R' k'=>agn R' k',h,fun μ φ w ox oy x y hx hy=>?_⟩;obtain⟨xs,ys,rfl,rfl,hr⟩:=key μ φ w x y hx hy;exact⟨_,bS (run_eqGuard_agg w _ _ _ _ _ _ hE.1) (gX rfl hr),.bool⟩
      case neq=>refine⟨_,fun R' k'=>ago R' k',h,fun μ φ w ox oy x y hx hy=>?_⟩;obtain⟨xs,ys,rfl,rfl,hr⟩:=key μ φ w x y hx hy;exact⟨_,bS (run_eqGuard_agg w _ _ _ _ _ _ hE.1) (gY rfl hr),.bool⟩
      all_goals (simp only at h;cases h)
     ·cases h
    ·cases h
   ·cases h
  ·cases h
theorem aaa{op:UnOp}(h:xun op a k=some r):∃q,(∀(R':Type)(k':PV→Option R'),xun op a k'=k' q)∧k q=some r∧∀(P:Program)(μ:Ro)(φ:Nat→aA)(w:World)(x:Value),ag P μ φ a x→∃z,(Op.unary op x).run P w=.ok z w∧ah P μ q z:=by
 unfold xun at h;split at h
 ·refine⟨_,fun R' k'=>rfl,h,fun P μ φ w x hx=>?_⟩;cases hx with|pv hx=>cases hx;exact⟨_,rfl,.bool⟩
 ·refine⟨_,fun R' k'=>rfl,h,fun P μ φ w x hx=>?_⟩;cases hx with|pv hx=>cases hx;exact⟨_,rfl,.int (wf_wrap _ _)⟩
 ·refine⟨_,fun R' k'=>rfl,h,fun P μ φ w x hx=>?_⟩;cases hx with|pv hx=>cases hx;exact⟨_,rfl,.int (wf_wrap _ _)⟩
 ·cases h
theorem Xg{k:IntKind}{n:Int}(h:(Lit.int k n).wf=true):k.wrap n=n:=by rw[lP]at h;cases k<;>simp only[IntKind.wrap,IntKind.min,IntKind.max,IntKind.signed,IntKind.bits]at* <;>simp at* <;>(try split)<;>omega
theorem Ud{s d:TypeId}(h:C1 E s d a k=some r):∃q,(∀(R':Type)(k':PV→Option R'),C1 E s d a k'=k' q)∧k q=some r∧∀(μ:Ro)(φ:Nat→aA)(w:World)(x:Value),ag E.P μ φ a x→∃z,(convert s d x).run E.P w=.ok z w∧ah E.P μ q z:=by
 unfold C1 at h;split at h
 ·rename_i q q' q'' n hs hd;split at h
  ·rename_i e1;subst e1;split at h
   ·rename_i e2;subst e2;refine⟨_,fun R' k'=>by simp[C1,hs,hd],h,fun μ φ w x hx=>?_⟩;cases hx with|pv hx=>cases hx with|int hw=>exact⟨_,by simp[convert,run_underlying hs,run_underlying hd,Conv.intToInt,Xg hw],.int hw⟩
   ·rename_i e2;refine⟨_,fun R' k'=>by simp[C1,hs,hd,e2],h,fun μ φ w x hx=>?_⟩;cases hx with|pv hx=>cases hx with|int hw=>exact⟨_,by simp[convert,run_underlying hs,run_underlying hd,Conv.intToInt],.int (wf_wrap _ _)⟩
  ·cases h
 ·rename_i hs hd;refine⟨_,fun R' k'=>by simp[C1,hs,hd],h,fun μ φ w x hx=>?_⟩;cases hx with|pv hx=>cases hx with|str hl=>exact⟨_,by simp[convert,run_underlying hs,run_underlying hd],.str hl⟩
 ·cases h
theorem Ue{b:V}(h:Jz a b k=some r):∃q,(∀(R':Type)(k':PV→Option R'),Jz a b k'=k' q)∧k q=some r∧∀(P:Program)(μ:Ro)(φ:Nat→aA)(w:World)(x y:Value),ag P μ φ a x→ag P μ φ b y→∃z,(Builtin.min2 x y).run P w=.ok z w∧ah P μ q z:=by
 unfold Jz at h;split at h
 ·split at h
  ·rename_i e;subst e;refine⟨_,fun R' k'=>by simp[Jz],h,fun P μ φ w x y hx hy=>?_⟩;cases hx with|pv hx=>cases hx with|int h1=>cases hy with|pv hy=>cases hy with|int h2=>exact⟨_,rfl,by split<;>exact .int (by assumption)⟩
  ·cases h
 ·cases h
theorem zl{b:V}(h:BA a b k=some r):∃q,(∀(R':Type)(k':PV→Option R'),BA a b k'=k' q)∧k q=some r∧∀(P:Program)(μ:Ro)(φ:Nat→aA)(w:World)(x y:Value),ag P μ φ a x→ag P μ φ b y→∃z,(Builtin.max2 x y).run P w=.ok z w∧ah P μ q z:=by
 unfold BA at h;split at h
 ·split at h
  ·rename_i e;subst e;refine⟨_,fun R' k'=>by simp[BA],h,fun P μ φ w x y hx hy=>?_⟩;cases hx with|pv hx=>cases hx with|int h1=>cases hy with|pv hy=>cases hy with|int h2=>exact⟨_,rfl,by split<;>exact .int (by assumption)⟩
  ·cases h
 ·cases h
theorem Uf{b c d:V}(h:JA a b c d k=some r):∃q,(∀(R':Type)(k':PV→Option R'),JA a b c d k'=k' q)∧k q=some r∧∀(P:Program)(μ:Ro)(φ:Nat→aA)(w:World)(x y z u:Value),ag P μ φ a x→ag P μ φ b y→ag P μ φ c z→ag P μ φ d u→∃v1 v2 v3,(Builtin.max2 x y).run P w=.ok v1 w∧(Builtin.max2 v1 z).run P w=.ok v2 w∧(Builtin.max2 v2 u).run P w=.ok v3 w∧ah P μ q v3:=by unfold JA at h;obtain⟨q1,a1,h,b1⟩:=zl h;obtain⟨q2,a2,h,b2⟩:=zl h;obtain⟨q3,a3,h,b3⟩:=zl h;refine⟨q3,fun R' k'=>by unfold JA;rw[a1,a2,a3],h,fun P μ φ w x y z u hx hy hz hu=>?_⟩;obtain⟨v1,c1,d1⟩:=b1 P μ φ w x y hx hy;obtain⟨v2,c2,d2⟩:=b2 P μ φ w v1 z (.pv d1) hz;obtain⟨v3,c3,d3⟩:=b3 P μ φ w v2 u (.pv d2) hu;exact⟨v1,v2,v3,c1,c2,c3,d3⟩
end
section
variable {P:Program} {G:Nat→Option (List PV)} {w0:bw} {μ μ':Ro} {φ φ':Nat→aA} {m:Mem} {w w':World}
variable{b:bF}
@[simp] theorem bm(m:Mem)(d:Nat)(b:bF):al m d b d=some b:=by simp[al]
theorem ao{m:Mem}{d t:Nat}(h:t≠d):al m d b t=m t:=by simp[al,cond_eq_ite,h]
@[simp] theorem YZ(m:Mem)(d:Nat):bj m d d=none:=by simp[bj]
theorem fi{m:Mem}{d t:Nat}(h:t≠d):bj m d t=m t:=by simp[bj,cond_eq_ite,h]
@[simp] theorem yf(f:Fr)(d:Nat)(v:V):fT f d v d=v:=by simp[fT]
theorem pR{f:Fr}{d t:Nat}{v:V}(h:t≠d):fT f d v t=f t:=by simp[fT,cond_eq_ite,h]
variable{id sz:Nat}{et:TypeId}{es:List PV}
theorem aH.cn(h:aH P μ φ w id sz et es)(hφ:φ' id=φ id)(hμ:∀b o,μ b=some o→μ' b=some o)(hw:∀g,(φ id).g=some g→w'.heap[g]?=w.heap[g]?):aH P μ' φ' w' id sz et es:=by
 obtain⟨a1,a2,a3,a4,a5,a6,a7⟩:=h;unfold aH;rw[hφ];refine⟨a1,a2,a3,a4,a5,a6,?_⟩;cases hg:(φ id).g with
 |none=>rw[hg]at a7;omega
 |some g=>rw[hg]at a7;obtain⟨c,T,c1,c2,c3,c4,c5⟩:=a7;exact⟨c,T,by rw[hw g hg];omega,c2,c3,fun i e j p x h1 h2 h3=>(c4 i e j p x h1 h2 h3).mono hμ,c5⟩
theorem ez.cn{R:BI}{s:Nat}{rs:List PV}{x:Value}(h:ez P μ R w s rs x)(hμ:∀b o,μ b=some o→μ' b=some o)(hw:∀g,R.g=some g→w'.heap[g]?=w.heap[g]?):ez P μ' R w' s rs x:=
 let⟨⟨et,hA⟩,hV⟩:=h
 ⟨⟨et,hA.cn rfl hμ hw⟩,hV.xn hμ⟩
theorem dV.cn{R:BI}{p:PV}{x:Value}(h:dV P μ R w p x)(hμ:∀b o,μ b=some o→μ' b=some o)(hw:p.isRow=true→∀g,R.g=some g→w'.heap[g]?=w.heap[g]?):dV P μ' R w' p x:=by
 unfold dV at*;split at h
 ·exact ez.cn h hμ (hw rfl)
 ·exact h.mono hμ
variable{i j:Nat}
theorem du{e p:PV}(he:es[i]?=some e)(hp:e.cells[j]?=some p):(bF.nest sz et es).rowAt i j=p.isRow:=by simp[bF.rowAt,he,hp]
theorem aW.cn{id sz:Nat}{et:TypeId}{es:List PV}(h:aW P μ φ w id sz et es)(hφ:φ' id=φ id)(hμ:∀b o,μ b=some o→μ' b=some o)(hw:∀g,(bF.nest sz et es).owns (φ id) g→w'.heap[g]?=w.heap[g]?):aW P μ' φ' w' id sz et es:=by
 obtain⟨a1,a2,a3,a4,a5,a6,a7⟩:=h;unfold aW;rw[hφ];refine⟨a1,a2,a3,a4,a5,a6,?_⟩;cases hg:(φ id).g with
 |none=>rw[hg]at a7;omega
 |some g=>rw[hg]at a7;obtain⟨c,T,c1,c2,c3,c4,c5⟩:=a7;exact⟨c,T,by rw[hw g (.inl hg)];omega,c2,c3,fun i e j p x h1 h2 h3=>(c4 i e j p x h1 h2 h3).cn hμ fun hr g' cv=>hw g' (.inr ⟨i,j,by rw[du h1 h2];omega,cv⟩),c5⟩
theorem jg{kt e:TypeId}{es:List (PV×PV)}{k v:PV}(he:es[i]?=some (k,v)):(bF.eV kt e es).rowAt i 0=v.isRow:=by simp[bF.rowAt,he]
theorem gf.cn{id:Nat}{b:bF}(h:gf P μ φ w id b)(hn:∀j,b.names j=true→φ' j=φ j)(hφ:φ' id=φ id)(hμ:∀b o,μ b=some o→μ' b=some o)(hw:∀g,b.owns (φ id) g→w'.heap[g]?=w.heap[g]?):gf P μ' φ' w' id b:=by
 cases b with
 |nest sz et es=>exact aW.cn h hφ hμ hw
 |eV kt e0 es=>
  obtain⟨g,en,clock,kk,hg,hh,hs,hk,hc,wK,hv⟩:=h;refine⟨g,en,clock,kk,by rw[hφ];omega,by rw[hw g (.inl hg)];omega,hs,hk,hc,wK,fun i k v e h1 h2=>⟨(hv i k v e h1 h2).1.mono hμ,?_⟩⟩;have h3:=(hv i k v e h1 h2).2;rw[hφ];split at h3
  ·exact⟨h3.1.cn rfl hμ fun g' cv=>hw g' (.inr ⟨i,0,by rw[jg h1];rfl,cv⟩),h3.2.xn hμ⟩
  ·exact h3.mono hμ
 |box cs=>obtain⟨g,c,T,hg,hh,hs,hv,h1,CJ⟩:=h;exact⟨g,c,T,by rw[hφ];omega,by rw[hw g (.inl hg)];omega,hs,fun i v x hi hx=>(hv i v x hi hx).mono hμ (fun j hj=>hn j (bH (abV hi) hj)),h1,by rw[hφ];omega⟩
 |arr sz et es=>exact aH.cn h hφ hμ fun g hg=>hw g (.inl hg)
 |pt sz et es=>refine⟨aH.cn h.1 hφ hμ fun g hg=>hw g (.inl hg),fun g hg=>?_⟩;rw[hφ]at hg;have:=h.2 g hg;obtain⟨o,ho⟩:=aiO.1 this;rw[hμ _ _ ho];rfl
 |map kt es=>obtain⟨g,en,clock,kk,hg,hh,hs,hk,hc,wK,hv⟩:=h;exact⟨g,en,clock,kk,by rw[hφ];omega,by rw[hw g (.inl hg)];omega,hs,hk,hc,wK,fun i k v e h1 h2=>⟨(hv i k v e h1 h2).1.mono hμ,(hv i k v e h1 h2).2.mono hμ⟩⟩
 |iter t es cur=>obtain⟨g,mg,en,clock,seen,hg,hh,Fg,wK,CJ,hv,hcu⟩:=h;exact⟨g,mg,en,clock,seen,by rw[hφ];omega,by rw[hw g (.inl hg)];omega,hμ _ _ Fg,wK,CJ,fun i k v e h1 h2=>⟨(hv i k v e h1 h2).1.mono hμ,(hv i k v e h1 h2).2.mono hμ⟩,fun k v hc=>let⟨i,e,h1,h2,h3,h4⟩:=hcu k v hc;⟨i,e,h1,h2,h3.mono hμ,h4.mono hμ⟩⟩
 |loop st=>obtain⟨g,rc,hg,hh⟩:=h;exact⟨g,rc,by rw[hφ];omega,by rw[hw g (.inl hg)];omega⟩
variable{g:Nat}
theorem ez.Dl{R:BI}{s:Nat}{rs:List PV}{x:Value}(h:ez P μ R w s rs x)(hg:R.g=some g):g<w.heap.size:=by obtain⟨⟨et,_,_,_,_,_,_,a7⟩,_⟩:=h;have cv:R.up.g=some g:=hg;grind
theorem jh{off:Nat}(h:b.rowAt i off=true):(∃sz et es e s rs,b=.nest sz et es∧es[i]?=some e∧e.cells[off]?=some (.oX s rs))∨∃kt e0 es k s rs,b=.eV kt e0 es∧off=0∧es[i]?=some (k,.oX s rs):=by
 unfold bF.rowAt at h;split at h
 ·rename_i sz et es i off;split at h
  ·rename_i e he;split at h
   ·rename_i p hp;cases p<;>first|(cases h;done)|skip
    grind
   ·cases h
  ·cases h
 ·rename_i kt e0 es i;split at h
  ·rename_i x hx;obtain⟨k,v⟩:=x;cases v<;>first|(cases h;done)|skip
   grind
  ·cases h
 ·cases h
theorem gf.acm{off:Nat}(h:gf P μ φ w id b)(hr:b.rowAt i off=true)(hg:((φ id).row i off).g=some g):g<w.heap.size:=by
 rcases jh hr with⟨sz,et,es,e,s,rs,rfl,he,hp⟩|⟨kt,e0,es,k,s,rs,rfl,rfl,he⟩
 ·have hN:aW P μ φ w id sz et es:=h;have hgg:∃g0,(φ id).g=some g0:=by
   cases hq:(φ id).g with
   |some g0=>simp
   |none=>have a7:=hN.2.2.2.2.2.2;simp_all
  obtain⟨g0,MJ⟩:=hgg;obtain⟨c,_,x,_,_,c3,_⟩:=hN.cell MJ he hp;exact ez.Dl (show ez P μ _ w s rs x from c3) hg
 ·obtain⟨g0,en,clock,kk,MJ,hh,hs,hk,hc,wK,hv⟩:=h;have hi:i<en.size:=by grind
  have h3:=(hv i k _ en[i] he (IN hi)).2;exact ez.Dl (P:=P) (μ:=μ) (R:=(φ id).row i 0) (s:=s) (rs:=rs) (x:=en[i].val) ⟨⟨_,h3.1⟩,h3.2⟩ hg
theorem gf.Dl(h:gf P μ φ w id b)(hg:b.owns (φ id) g):g<w.heap.size:=by
 rcases hg with hg|⟨i,off,hr,hg⟩
 rotate_left
 ·exact h.acm hr hg
 have key:∀o,w.heap[g]?=some o→g<w.heap.size:=fun o ho=>(OF.1 ho).1;cases b with
 |nest sz et es=>obtain⟨_,_,_,_,_,_,a7⟩:=h;grind
 |eV kt e0 es=>obtain⟨g',en,clock,kk,cv,hh,_⟩:=h;simp_all
 |box cs=>obtain⟨g',c,T,cv,hh,_⟩:=h;simp_all
 |arr sz et es=>obtain⟨_,_,_,_,_,_,a7⟩:=h;grind
 |pt sz et es=>obtain⟨⟨_,_,_,_,_,_,a7⟩,_⟩:=h;grind
 |map kt es=>obtain⟨g',en,clock,kk,cv,hh,_⟩:=h;simp_all
 |iter t es cur=>obtain⟨g',mg,en,clock,seen,cv,hh,_⟩:=h;simp_all
 |loop st=>obtain⟨g',rc,cv,hh⟩:=h;simp_all
theorem av.MK(hM:av P G w0 μ φ m w)(hm:m j=some b)(hn:b.names id=true):(m id).isSome=true:=by
 cases b with
 |box cs=>exact hM.fu j cs id hm hn
 |_=>simp[bF.names]at hn
theorem wQ{cs:List V}(h:cd j (cs.map (rf id))=true):cd j cs=true∧j≠id:=by obtain⟨v,hv,hh⟩:=cC.1 h;obtain⟨u,hu,rfl⟩:=aiR.1 hv;grind [vt,bH]
theorem gf.kill{id j:Nat}{b:bF}(h:gf P μ φ w j b):gf P μ φ w j (fU id b):=by
 cases b with
 |box cs=>obtain⟨g,c,T,hg,hh,hs,hv,h1,CJ⟩:=h;refine⟨g,c,T,hg,hh,by simpa using hs,fun i v x hi hx=>?_,h1,by simpa using CJ⟩;simp only[GP,Yo]at hi;obtain⟨u,hu,rfl⟩:=hi;exact(hv i u x hu hx).kill id
 |_=>exact h
theorem tC(id:Nat)(b:bF):(fU id b).rowAt=b.rowAt:=by cases b<;>rfl
variable{p:aA}
theorem fN:(fU id b).owns p g↔b.owns p g:=by unfold bF.owns;rw[tC]
theorem tD:(fU id b).apart p↔b.apart p:=by unfold bF.apart;rw[tC]
theorem pS(h:∀i off,b.rowAt i off=true→False):b.apart p:=fun i off _ hr=>(h i off hr).elim
theorem ny(h:∀i off,b.rowAt i off=true→False)(ho:b.owns p g):p.g=some g:=by
 rcases ho with h1|⟨i,off,hr,_⟩
 ·omega
 simp_all
theorem Dm(h:bB id m j=some b):∃b',m j=some b'∧b=fU id b':=by unfold bB at h;grind
theorem wR(id:Nat)(b:bF):(fU id b).iO=b.iO:=by cases b<;>rfl
theorem av.forget(hM:av P G w0 μ φ m w)(id:Nat):av P G w0 μ φ (bj (bB id m) id) w:=by
 have key:∀j b,bj (bB id m) id j=some b→j≠id∧∃b',m j=some b'∧b=fU id b':=by
  intro j b h;by_cases e:j=id
  ·subst e;simp at h
  simp_all[fi,Dm]
 refine⟨hM.below,hM.ro,hM.aF,fun j b h=>?_,fun j b g h hg=>?_,fun i j b1 b2 g h1 h2 g1 g2=>?_,fun j b h=>?_,fun j cs i h hh=>?_,hM.base,hM.dy,fun j st h=>?_⟩
 rotate_right
 ·obtain⟨_,b',hb,e⟩:=key j _ h;cases b' with
  |loop st'=>simp only[fU,bF.loop.injEq]at e;subst e;exact hM.BH j st hb
  |_=>simp[fU]at e
 ·obtain⟨_,b',hb,rfl⟩:=key j b h;exact(hM.dw j b' hb).kill
 ·obtain⟨_,b',hb,rfl⟩:=key j b h;rw[wR];exact hM.own j b' g hb (fN.1 hg)
 ·obtain⟨_,b1',Y0,rfl⟩:=key i b1 h1;obtain⟨_,b2',uw,rfl⟩:=key j b2 h2;exact hM.inj i j b1' b2' g Y0 uw (fN.1 g1) (fN.1 g2)
 ·obtain⟨_,b',hb,rfl⟩:=key j b h;exact tD.2 (hM.apart j b' hb)
 ·obtain⟨_,b',hb,e⟩:=key j _ h;cases b' with
  |box ML=>simp only[fU,bF.box.injEq]at e;subst e;obtain⟨h1,h2⟩:=wQ hh;have:=hM.fu j ML i hb h1;grind [fi,bB]
  |_=>simp[fU]at e
theorem xt(m:Mem)(id:Nat)(b:bF):al (bj m id) id b=al m id b:=by
 funext t;by_cases h:t=id
 ·subst h;simp
 simp_all[ao,fi]
variable{b':bF}
theorem Dn(tx:∀i off,b'.rowAt i off=true→b.rowAt i off=true)(h:b'.owns p g):b.owns p g:=by
 rcases h with h|⟨i,off,hr,h⟩
 ·exact .inl h
 ·exact .inr ⟨i,off,tx i off hr,h⟩
theorem RT(tx:∀i off,b'.rowAt i off=true→b.rowAt i off=true)(h:b.apart p):b'.apart p:=fun i off g hr hg=>
 let⟨h1,h2⟩:=h i off g (tx i off hr) hg
 ⟨h1,fun i' rP yY cv=>h2 i' rP (tx i' rP yY) cv⟩
theorem av.Ug(hM:av P G w0 μ φ m w)(hm:m id=some b)(MM:b.iO=true)(hg:b.owns (φ id) g)(MN:jS g w w')(Qw:w'.heap.size=w.heap.size)(hw:∀k,k≠g→w'.heap[k]?=w.heap[k]?)(hB:gf P μ φ w' id b')(Y1:b'.iO=true)(hn:∀j,b'.names j=true→(m j).isSome=true)(tx:∀i off,b'.rowAt i off=true→b.rowAt i off=true)(hlp:∀st,b'=.loop st→∃rc,(φ id).g=some g∧w0.rc id=some (g,rc)∧w'.heap[g]?=some (.loop (st.obj rc)):=by intro st h;cases h):av P G w0 μ φ (al m id b') w':=by
 obtain⟨vp,hμ⟩:=hM.own id b g hm hg;have hμ:=hμ MM;refine⟨hM.below.trans (MN.mono vp),fun k o hk=>?_,hM.aF,fun j c hj=>?_,fun j c g' hj cv=>?_,fun i j b1 b2 g' h1 h2 g1 g2=>?_,fun j c hj=>?_,fun j cs i hj hh=>?_,hM.base,hM.dy,fun j st hj=>?_⟩
 rotate_right
 ·by_cases e:j=id
  ·simp_all
  ·rw[ao e]at hj;obtain⟨g',rc,h1,h2,h3⟩:=hM.BH j st hj;exact⟨g',rc,h1,h2,by rw[hw g' (fun e'=>by subst e';exact e (hM.inj j id _ b g' hj hm (.inl h1) hg))];omega⟩
 ·have:k≠g:=fun e=>by simp_all
  rw[hw k this];exact hM.ro k o hk
 ·by_cases e:j=id
  ·simp_all
  ·rw[ao e]at hj;refine(hM.dw j c hj).cn (fun _ _=>rfl) rfl (fun _ _ h=>h) (fun g' cv=>hw g' (fun e'=>?_));subst e';exact e (hM.inj j id c b g' hj hm cv hg)
 ·by_cases e:j=id
  ·subst e;rw[bm]at hj;simp only[cN]at hj;subst hj;obtain⟨h1,h2⟩:=hM.own j b g' hm (Dn tx cv);simp_all
  ·rw[ao e]at hj;exact hM.own j c g' hj cv
 ·have e1:∃c1,m i=some c1∧c1.owns (φ i) g':=by grind [id,bm,Option.some.injEq,Dn,ao]
  have e2:∃c2,m j=some c2∧c2.owns (φ j) g':=by grind [id,bm,Option.some.injEq,Dn,ao]
  obtain⟨c1,e1,o1⟩:=e1;obtain⟨c2,e2,o2⟩:=e2;exact hM.inj i j c1 c2 g' e1 e2 o1 o2
 ·by_cases e:j=id
  ·subst e;rw[bm]at hj;simp only[cN]at hj;subst hj;exact RT tx (hM.apart j b hm)
  ·rw[ao e]at hj;exact hM.apart j c hj
 ·have:(m i).isSome=true:=by
   by_cases e:j=id
   ·subst e;rw[bm]at hj;simp only[cN]at hj;subst hj;exact hn i hh
   ·rw[ao e]at hj;exact hM.fu j cs i hj hh
  by_cases e:i=id
  ·subst e;simp
  ·rw[ao e];omega
theorem av.write(hM:av P G w0 μ φ m w)(hm:m id=some b)(MM:b.iO=true)(hg:(φ id).g=some g)(MN:jS g w w')(Qw:w'.heap.size=w.heap.size)(hw:∀k,k≠g→w'.heap[k]?=w.heap[k]?)(hB:gf P μ φ w' id b')(Y1:b'.iO=true)(hn:∀j,b'.names j=true→(m j).isSome=true)(hlp:∀st,b'=.loop st→∃rc,w0.rc id=some (g,rc)∧w'.heap[g]?=some (.loop (st.obj rc)):=by intro st h;cases h)(tx:∀i off,b'.rowAt i off=true→b.rowAt i off=true:=by intro i off h;simp[bF.rowAt]at h):av P G w0 μ φ (al m id b') w':=hM.Ug hm MM (.inl hg) MN Qw hw hB Y1 hn tx fun st h=>let⟨rc,h1,h2⟩:=hlp st h;⟨rc,hg,h1,h2⟩
def oN(μ:Ro)(w:World)(g:Option Nat):Ro:=fun b=>if g=some b then w.heap[b]? else μ b
theorem kM(hM:av P G w0 μ φ m w)(g:Option Nat):∀b o,μ b=some o→oN μ w g b=some o:=by
 intro b o hb;unfold oN;split
 ·exact hM.ro b o hb
 omega
noncomputable def sK(μ:Ro)(w:World)(S:Nat→Prop):Ro:=fun b=> @ite _ (S b) (Classical.propDecidable _) (w.heap[b]?) (μ b)
theorem pT(hM:av P G w0 μ φ m w)(S:Nat→Prop):∀b o,μ b=some o→sK μ w S b=some o:=by
 intro b o hb;unfold sK;split
 ·exact hM.ro b o hb
 omega
theorem av.Qx(hM:av P G w0 μ φ m w)(hm:m id=some b)(hlp:∀st,b≠.loop st)(hA:aH P (sK μ w (b.owns (φ id))) φ w id sz et es):av P G w0 (sK μ w (b.owns (φ id))) φ (al m id (.pt sz et es)) w:=by
 have mono:=pT hM (b.owns (φ id));have Uh:∀i off,(bF.pt sz et es).rowAt i off=true→False:=fun i off h=>by simp[bF.rowAt]at h
 refine⟨hM.below,fun k o hb=>?_,fun g cs hg=>(hM.aF g cs hg).mono mono,fun j c hj=>?_,fun j c g' hj cv=>?_,fun i j b1 b2 g' h1 h2 g1 g2=>?_,fun j c hj=>?_,fun j cs i hj hh=>?_,fun k o hb bT=>?_,fun b o hb=>mono b o (hM.dy b o hb),fun j st hj=>?_⟩
 rotate_right
 ·by_cases e:j=id
  ·simp_all
  ·rw[ao e]at hj;exact hM.BH j st hj
 rotate_right
 ·unfold sK at hb;split at hb
  ·rename_i he;have:=(hM.own id b k hm he).1;omega
  ·exact hM.base k o hb bT
 ·unfold sK at hb;split at hb
  ·omega
  ·exact hM.ro k o hb
 ·by_cases e:j=id
  ·subst e;rw[bm]at hj;simp only[cN]at hj;subst hj;refine⟨hA,fun g hg=>?_⟩;have:=gf.Dl (b:=.arr sz et es) hA (.inl hg);unfold sK;rw[AI (show b.owns (φ j) g from .inl hg)];simp[this]
  ·rw[ao e]at hj;exact(hM.dw j c hj).cn (fun _ _=>rfl) rfl mono (fun _ _=>rfl)
 ·by_cases e:j=id
  ·subst e;rw[bm]at hj;simp only[cN]at hj;subst hj;exact⟨(hM.own j b g' hm (.inl (ny Uh cv))).1,by simp[bF.iO]⟩
  ·rw[ao e]at hj;obtain⟨h1,h2⟩:=hM.own j c g' hj cv;refine⟨h1,fun Fg=>?_⟩;unfold sK;split
   ·rename_i he;exact absurd (hM.inj j id c _ g' hj hm cv he) e
   ·exact h2 Fg
 ·have e1:∃c1,m i=some c1∧c1.owns (φ i) g':=by
   by_cases e:i=id
   ·subst e;rw[bm]at h1;simp only[cN]at h1;subst h1;exact⟨b,hm,.inl (ny Uh g1)⟩
   simp_all[ao]
  have e2:∃c2,m j=some c2∧c2.owns (φ j) g':=by
   by_cases e:j=id
   ·subst e;rw[bm]at h2;simp only[cN]at h2;subst h2;exact⟨b,hm,.inl (ny Uh g2)⟩
   simp_all[ao]
  obtain⟨c1,e1,o1⟩:=e1;obtain⟨c2,e2,o2⟩:=e2;exact hM.inj i j c1 c2 g' e1 e2 o1 o2
 ·by_cases e:j=id
  ·simp_all[bm,cN,pS]
  ·rw[ao e]at hj;exact hM.apart j c hj
 ·have:(m i).isSome=true:=by
   by_cases e:j=id
   ·simp_all
   ·rw[ao e]at hj;exact hM.fu j cs i hj hh
  by_cases e:i=id
  ·subst e;simp
  ·rw[ao e];omega
theorem pw:∀i off,(bF.arr sz et es).rowAt i off=true→False:=fun i off h=>by simp[bF.rowAt]at h
theorem av.freeze(hM:av P G w0 μ φ m w)(hm:m id=some (.arr sz et es)):av P G w0 (oN μ w (φ id).g) φ (al m id (.pt sz et es)) w:=by
 have e:sK μ w ((bF.arr sz et es).owns (φ id))=oN μ w (φ id).g:=by
  funext b;unfold sK oN;by_cases h:(φ id).g=some b
  ·rw[AI h,AI (show(bF.arr sz et es).owns (φ id) b from .inl h)]
  ·rw[By h,By fun ho=>h (ny pw ho)]
 have:=hM.Qx (sz:=sz) (et:=et) (es:=es) hm (fun st h=>by cases h) (aH.cn (hM.dw id _ hm) rfl (pT hM _) (fun _ _=>rfl));rwa[e]at this
theorem av.Qy(hM:av P G w0 μ φ m w)(hm:m id=some (.nest sz et es)):av P G w0 (sK μ w ((bF.nest sz et es).owns (φ id))) φ (al m id (.pt sz et (es.map PV.strip))) w:=by have hN:aW P μ φ w id sz et es:=hM.dw id _ hm;refine hM.Qx hm (fun st h=>by cases h) (hN.strip (pT hM _) fun i off g hr hg=>?_);unfold sK;rw[AI (show(bF.nest sz et es).owns (φ id) g from .inr ⟨i,off,hr,hg⟩)]
def cr(μ:Ro)(w w':World):Ro:=fun b=>if b<w.heap.size then μ b else w'.heap[b]?
theorem jA(hM:av P G w0 μ φ m w)(w':World):∀b o,μ b=some o→cr μ w w' b=some o:=by intro b o hb;have:=(OF.1 (hM.ro b o hb)).1;simp[cr,this,hb]
theorem av.called(hM:av P G w0 μ φ m w)(hb:jS w.heap.size w w'):av P G w0 (cr μ w w') φ m w':=by
 have mono:=jA hM w';refine⟨hM.below.trans (hb.mono hM.below.size),fun b o h=>?_,fun g cs hg=>(hM.aF g cs hg).mono mono,fun id b h=>?_,fun id b g h hg=>?_,hM.inj,hM.apart,hM.fu,fun b o h bT=>?_,fun b o hb=>mono b o (hM.dy b o hb),fun j st hj=>?_⟩
 rotate_right
 ·obtain⟨g,rc,h1,h2,h3⟩:=hM.BH j st hj;exact⟨g,rc,h1,h2,by rw[hb.block g (OF.1 h3).1];omega⟩
 rotate_right
 ·have:w0.heap.size≤w.heap.size:=hM.below.size;unfold cr at h;rw[AI (by omega)]at h;exact hM.base b o h bT
 ·unfold cr at h;split at h
  ·rename_i bT;rw[hb.block b bT];exact hM.ro b o h
  omega
 ·have hR:=hM.dw id b h;exact hR.cn (fun _ _=>rfl) rfl mono (fun g hg=>hb.block g (hR.Dl hg))
 ·obtain⟨h1,h2⟩:=hM.own id b g h hg;refine⟨h1,fun hm=>?_⟩;have:=(hM.dw id b h).Dl hg;simp[cr,this,h2 hm]
def lO(μ:Ro)(g:Option Nat):Ro:=fun b=>if g=some b then none else μ b
theorem JO{μ:Ro}{g:Option Nat}{b:Nat}{o:Obj}(h:lO μ g b=some o):μ b=some o:=by simp_all[lO]
theorem yg(hM:av P G w0 μ φ m w)(w':World){g:Option Nat}(hg:∀b,g=some b→w.heap.size≤b):∀b o,μ b=some o→lO (cr μ w w') g b=some o:=by intro b o hb;have bT:=(OF.1 (hM.ro b o hb)).1;unfold lO;rw[By fun e=>by have:=hg b e;omega];exact jA hM w' b o hb
theorem av.FZ(hM:av P G w0 μ φ m w)(hb:jS w.heap.size w w'){go:Option Nat}(Fh:∀b,go=some b→w.heap.size≤b):av P G w0 (lO (cr μ w w') go) φ m w':=by
 have mono:=yg hM w' Fh;have hC:=hM.called hb;refine⟨hC.below,fun b o h=>hC.ro b o (JO h),fun g cs hg=>(hM.aF g cs hg).mono mono,fun id b h=>?_,fun id b g h hg=>?_,hM.inj,hM.apart,hM.fu,fun b o h bT=>hC.base b o (JO h) bT,fun b o hb=>mono b o (hM.dy b o hb),hC.BH⟩
 ·have hR:=hM.dw id b h;exact hR.cn (fun _ _=>rfl) rfl mono (fun g hg=>hb.block g (hR.Dl hg))
 ·obtain⟨h1,h2⟩:=hC.own id b g h hg;refine⟨h1,fun hm=>?_⟩;unfold lO;simp_all
theorem av.drew(hM:av P G w0 μ φ m w):av P G w0 μ φ m w.drew:=⟨hM.below.drew,hM.ro,hM.aF,fun id b h=>(hM.dw id b h).cn (fun _ _=>rfl) rfl (fun _ _ h=>h) (fun _ _=>rfl),hM.own,hM.inj,hM.apart,hM.fu,hM.base,hM.dy,hM.BH⟩
end
end Go.Ab
