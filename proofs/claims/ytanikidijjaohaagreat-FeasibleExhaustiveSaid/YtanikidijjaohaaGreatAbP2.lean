import Derived.Test.YtanikidijjaohaaGreatAbP1
import Derived.Laws.StructEq
import Derived.ChangeKeysEq
set_option linter.unusedVariables false
set_option linter.unusedSimpArgs false
namespace Go.Ab
open Go.RowKit (Below)
section
variable {P:Program} {G:Nat→Option (List PV)} {w0:bI} {μ:Ro} {φ:Nat→aH} {m:Mem} {w:World}
theorem toCells_ok{n:Nat}{v:V}{cs:List V}(h:toCells n v=some cs):cs.length=n∧(∀id,cD id cs=true→v.has id=true)∧∀(P:Program)(μ:Ro)(φ:Nat→aH)(x:Value),ah P μ φ v x→x.cells.size=n∧(∀(i:Nat)u y,cs[i]?=some u→x.cells[i]?=some y→ah P μ φ u y)∧(∀(i:Nat)(y:Value),x.cells[i]?=some y→y.oneCell'=true):=by
 have one:∀(v:V),(∀(P:Program)(μ:Ro)(φ:Nat→aH)(x:Value),ah P μ φ v x→x.oneCell'=true∧x.cells= #[x])→(if n=1 then some [v]else none)=some cs→cs.length=n∧(∀id,cD id cs=true→v.has id=true)∧∀(P:Program)(μ:Ro)(φ:Nat→aH)(x:Value),ah P μ φ v x→x.cells.size=n∧(∀(i:Nat)u y,cs[i]?=some u→x.cells[i]?=some y→ah P μ φ u y)∧(∀(i:Nat)(y:Value),x.cells[i]?=some y→y.oneCell'=true):=by
  intro v h1 h;split at h
  ·rename_i hn;simp only[AT]at h;subst h;subst hn;refine⟨rfl,fun id av=>by simpa[cD]using av,fun P μ φ x hx=>?_⟩;grind
  ·cases h
 have ag5:∀x:Value,x.oneCell'=true→x.cells= #[x]:=by intro x hx;cases x<;>first|rfl|(simp[Value.oneCell']at hx)
 unfold toCells at h;split at h
 ·rename_i ps;split at h
  ·rename_i hn;simp only[AT]at h;subst h;refine⟨by simpa using hn,fun id av=>(by rw[Sn]at av;cases av),fun P μ φ x hx=>?_⟩;cases hx with
   |pv hx=>cases hx with
    |agg h1 h2 h3=>refine⟨by simp only[Value.cells];omega,fun i u y hu hy=>?_,h3⟩;simp only[IT,ah2]at hu;obtain⟨q,hq,rfl⟩:=hu;exact .pv (h2 i q y hq hy)
  ·cases h
 ·split at h
  ·rename_i hn;simp only[AT]at h;subst h;refine⟨hn,fun id av=>by simpa[V.has]using av,fun P μ φ x hx=>?_⟩;cases hx with
   |agg h1 h2 h3=>grind [Value.cells]
  ·cases h
 ·cases h
 ·cases h
 ·cases h
 ·cases h
 ·rename_i h1 h2 h3 h4 h5 h6;refine one v (fun P μ φ x hx=>?_) h;have:x.oneCell'=true:=by
   cases hx with
   |pv hp=>exact hp.one (fun cs e=>h1 cs (by rw[e])) (fun cs e=>h5 cs (by rw[e])) (fun e=>h6 (by rw[e]))
   |agg=>exact absurd rfl (h2 _)
   |bu=>exact absurd rfl (h4 _)
   |top=>exact absurd rfl h3
   |fn=>exact HE _ _
   |_=>rfl
  simp_all
theorem uv:∀(d:Nat){v:V}{p:PV}{x:Value},lj dh d v=some p→ah P μ φ v x→ai P μ p x
 |0,v,p,x,h,_=>by simp[lj]at h
 |d+1,v,p,x,h,hx=>by
  have ih:=fun{v p x}=> @uv d v p x;cases v with
  |pv q=>simp[lj]at h;subst h;cases hx with|pv hx=>exact hx
  |iK=>simp[lj]at h;subst h;cases hx;exact .lk
  |agg cs=>
   simp only[lj]at h;obtain⟨ps,pX,h⟩:=BY.1 h;simp only[AT]at h;subst h;obtain⟨h1,h2⟩:=iE pX;cases hx with
   |agg g1 g2 g3=>refine .agg (by omega) (fun i q y hq hy=>?_) g3;obtain⟨u,hu,hg⟩:=h2 i q hq;exact ih hg (g2 i u y hu hy)
  |bu cs=>
   simp only[lj]at h;obtain⟨ps,pX,h⟩:=BY.1 h;simp only[AT]at h;subst h;obtain⟨h1,h2⟩:=iE pX;cases hx with
   |bu g1 g2=>refine .bu (by omega) (fun i q y hq hy=>?_);obtain⟨u,hu,hg⟩:=h2 i q hq;exact ih hg (g2 i u y hu hy)
  |op id off=>simp[lj,dh]at h
  |oe id i off=>simp[lj,dh]at h
  |os id=>simp[lj,dh]at h
  |fX id lo len=>simp[lj,dh]at h
  |wR id i off=>simp[lj,dh]at h
  |AM id i off s j off2=>simp[lj]at h
  |om id=>simp[lj,dh]at h
  |fn f cs=>
   simp only[lj]at h;obtain⟨ps,pX,h⟩:=BY.1 h;simp only[AT]at h;subst h;obtain⟨h1,h2⟩:=iE pX;cases hx with
   |fn g1 g2=>refine .fn (by omega) (fun i q y hq hy=>?_);obtain⟨u,hu,hg⟩:=h2 i q hq;exact ih hg (g2 i u y hu hy)
  |yl id=>simp[lj]at h
  |it id=>simp[lj]at h
  |top=>simp[lj]at h
def kx(w:World):Ro:=fun b=>w.heap[b]?
theorem az.yI(hM:az P G w0 μ φ m w):∀b o,μ b=some o→kx w b=some o:=hM.ro
variable{id s:Nat}{et:TypeId}{es:List PV}{ν:Ro}
theorem aN.Jm(hA:aN P μ φ w id s et es){g:Nat}(hg:(φ id).g=some g){lo len:Nat}(hl:lo+len≤es.length){cap:Nat}(qd:cap≤(φ id).cap-lo)(hlc:len≤cap)(hν:∀b o,μ b=some o→ν b=some o)(Hc:ν g=w.heap[g]?):ai P ν (.rs s ((es.drop lo).take len)) (.slice (some ⟨g,lo*s,none⟩) len cap):=by
 have hle:=hA.pz;obtain⟨a1,a2,a3,a4,a5,a6,a7⟩:=hA;rw[hg]at a7;obtain⟨c,T,c1,c2,c3,c4,c5⟩:=a7;have ec:∀(i:Nat)e,((es.drop lo).take len)[i]?=some e→i<len∧es[lo+i]?=some e:=fun i e hi=>pf hi;have hlen:((es.drop lo).take len).length=len:=by simp;omega
 have hb:∀(i:Nat)e(j:Nat)p,((es.drop lo).take len)[i]?=some e→e.cells[j]?=some p→(lo+i)*s+j<es.length*s:=by intro i e j p hi hj;obtain⟨_,hi⟩:=ec i e hi;have h1:=(IS.1 hi).1;have h2:=(IS.1 hj).1;have h3:=a5 _ e hi;have:(lo+i+1)*s≤es.length*s:=adq _ (by omega);grind
 have hc:∀(i:Nat)e(j:Nat)p,((es.drop lo).take len)[i]?=some e→e.cells[j]?=some p→c[(lo+i)*s+j]?=some (c.getD ((lo+i)*s+j) undef):=by
  intro i e j p hi hj;obtain⟨_,hi⟩:=ec i e hi;have h1:=(IS.1 hi).1;have h2:=(IS.1 hj).1;have h3:=a5 _ e hi;have:(lo+i+1)*s≤(φ id).cap*s:=adq _ (by omega);rw[ake _ 1]at this;have cd:(lo+i)*s+j<c.size:=by omega
  simp_all
 have:=ai.rs (P:=P) (μ:=ν) (sz:=s) (es:=(es.drop lo).take len) (b:=g) (o:=lo*s) (cap:=cap) (fun i j=>c.getD ((lo+i)*s+j) undef) (by omega) (by omega) (fun i e hi=>a5 _ e (ec i e hi).2) (fun i e j p hi hj=>by grind [cellAt,Nat.add_mul]) (fun i e j p hi hj=>((c4 _ e j p _ (ec i e hi).2 hj (hc i e j p hi hj)).mono hν)) (fun i e j p hi hj=>c5 _ _ (hb i e j p hi hj) (hc i e j p hi hj));simp_all
theorem aN.slice(hM:az P G w0 μ φ m w)(hA:aN P μ φ w id s et es){g:Nat}(hg:(φ id).g=some g){lo len:Nat}(hl:lo+len≤es.length)(hν:∀b o,μ b=some o→ν b=some o)(Hc:ν g=w.heap[g]?):ai P ν (.rs s ((es.drop lo).take len)) (.slice (some ⟨g,lo*s,none⟩) len ((φ id).cap-lo)):=hA.Jm hg hl (ajC _) (by have:=hA.pz;omega) hν Hc
variable{x:Value}
theorem aN.HM(hA:aN P μ φ w id s et es)(hx:ah P μ φ (.os id) x)(hν:∀b o,μ b=some o→ν b=some o)(Hc:∀g,(φ id).g=some g→ν g=w.heap[g]?):ai P ν (.rs s es) x:=by
 have zi:=hA;obtain⟨a1,a2,a3,a4,a5,a6,a7⟩:=hA;cases hx with
 |s9 hg=>rw[hg]at a7;rw[a7.1];exact .lk
 | @os _ g hg=>have hle:=zi.pz;have:=zi.Jm hg (lo:=0) (len:=es.length) (by omega) (cap:=(φ id).cap) (by omega) hle.1 hν (Hc g hg);simp_all
theorem aN.full(hM:az P G w0 μ φ m w)(hA:aN P μ φ w id s et es)(hx:ah P μ φ (.os id) x)(hν:∀b o,μ b=some o→ν b=some o)(Hc:∀g,(φ id).g=some g→ν g=w.heap[g]?):ai P ν (.rs s es) x:=hA.HM hx hν Hc
theorem eY.full{R:Dd}{rs:List PV}(h:eY P μ R w s rs x)(hν:∀b o,μ b=some o→ν b=some o)(Hc:∀g,R.g=some g→ν g=w.heap[g]?):ai P ν (.rs s rs) x:=by obtain⟨⟨et,hA⟩,hV⟩:=h;exact hA.HM hV hν Hc
theorem Di(e:PV):e.strip.cells=e.cells.map PV.oD:=by cases e<;>rfl
theorem bd.strip{sz:Nat}(h:bd P μ φ w id sz et es)(hν:∀b o,μ b=some o→ν b=some o)(Hc:∀i off g,(bR.nest sz et es).rowAt i off=true→((φ id).row i off).g=some g→ν g=w.heap[g]?):aN P ν φ w id sz et (es.map PV.strip):=by
 obtain⟨a1,a2,a3,a4,a5,a6,a7⟩:=h;refine⟨by simpa using a1,a2,a3,a4,fun i e he=>?_,a6,?_⟩
 ·rw[IT,ah2]at he;obtain⟨e0,h0,rfl⟩:=he;grind [Di,List.length_map]
 ·cases hg:(φ id).g with
  |none=>simp_all
  |some g=>
   rw[hg]at a7;obtain⟨c,T,c1,c2,c3,c4,c5⟩:=a7;refine⟨c,T,c1,c2,by simpa using c3,fun i e j p x he hp hx=>?_,fun i x hi hx=>c5 i x (by simpa using hi) hx⟩;rw[IT,ah2]at he;obtain⟨e0,h0,rfl⟩:=he;rw[Di,IT,ah2]at hp;obtain⟨p0,HL,rfl⟩:=hp;have hc:=c4 i e0 j p0 x h0 HL hx;cases hr:p0.isRow with
   |false=>
    have:p0.oD=p0:=by cases p0<;>first|rfl|cases hr
    rw[this];exact(hc.Sl hr).mono hν
   |true=>
    cases p0<;>first|(cases hr;done)|skip
    rename_i s rs;exact eY.full (show eY P μ _ w s rs x from hc) hν fun g' cO=>Hc i j g' (by simp[bR.rowAt,h0,HL,PV.isRow]) cO
theorem TW{g o:Nat}{c:Array Value}{T:TypeId}{fz:Nat×Nat}{y:Value}(hν:ν g=w.heap[g]?)(h:w.heap[g]?=some (.cells c T fz))(hy:c[o]?=some y):cellAt ν g o=some y:=by simp[cellAt,hν,h,hy]
theorem uq(hM:az P G w0 μ φ m w){ν:Ro}(ro:∀b o,μ b=some o→ν b=some o)(own:∀id b g,m id=some b→b.ev (φ id) g→ν g=w.heap[g]?):∀(d:Nat){v:V}{p:PV}{x:Value},lj m d v=some p→ah P μ φ v x→ai P ν p x
 |0,v,p,x,h,_=>by simp[lj]at h
 |d+1,v,p,x,h,hx=>by
  have ih:=fun{v p x}=> @uq hM ν ro own d v p x;cases v with
  |pv q=>simp[lj]at h;subst h;cases hx with|pv hx=>exact hx.mono ro
  |iK=>simp[lj]at h;subst h;cases hx;exact .lk
  |agg cs=>
   simp only[lj]at h;obtain⟨ps,pX,h⟩:=BY.1 h;simp only[AT]at h;subst h;obtain⟨h1,h2⟩:=iE pX;cases hx with
   |agg g1 g2 g3=>refine .agg (by omega) (fun i q y hq hy=>?_) g3;grind
  |bu cs=>
   simp only[lj]at h;obtain⟨ps,pX,h⟩:=BY.1 h;simp only[AT]at h;subst h;obtain⟨h1,h2⟩:=iE pX;cases hx with
   |bu g1 g2=>refine .bu (by omega) (fun i q y hq hy=>?_);grind
  |op id off=>
   simp only[lj]at h;split at h
   ·rename_i cs hm;obtain⟨ps,pX,h⟩:=BY.1 h;simp only[AT]at h;subst h;obtain⟨h1,h2⟩:=iE pX;obtain⟨g,c,T,hg,hh,hs,hv,ta,BN⟩:=hM.dH id _ hm;cases hx with
    |op cO=>
     rw[hg]at cO;simp only[AT]at cO;subst cO;have ec:∀(i:Nat)p,ps[i]?=some p→c[off+i]?=some (c.getD (off+i) undef):=by
      intro i p hi;have:=(IS.1 hi).1;rw[h1]at this;simp at this;have cd:off+i<c.size:=by omega
      simp_all
     refine .rp (fun i=>c.getD (off+i) undef) (fun i p hi=>TW (own _ _ _ hm (.inl hg)) hh (ec i p hi)) (fun i p hi=>?_) (fun i hi=>?_)
     ·grind
     ·exact ta _ _ (ec i _ (AI hi))
   ·cases h
  |oe id i off=>
   have key:∀(s:Nat)(et:TypeId)(es:List PV),(m id=some (.arr s et es)∨m id=some (.ri s et es))→((es[i]?).bind fun e=>some (PV.rp ((aJ s e).drop off)))=some p→ai P ν p x:=by
    intro s et es hm h;obtain⟨e,he,h⟩:=BY.1 h;simp only[AT]at h;subst h;have hA:=hM.arr hm;have zi:=hA;have abR:∀g,(φ id).g=some g→ν g=w.heap[g]?:=fun g hg=>by rcases hm with hm|hm<;>exact own _ _ _ hm (.inl hg)
    obtain⟨a1,a2,a3,a4,a5,a6,a7⟩:=hA;cases hx with
    | @oe _ _ _ g hg=>
     rw[a2];have Ej:=zi.slice hM hg (lo:=0) (len:=es.length) (by omega) ro (abR _ hg);have ag6:ai P ν (.rs s es) (.slice (some ⟨g,0,none⟩) es.length (φ id).cap):=by simpa using Ej
     obtain⟨b,o,cap,e1,hr⟩:=ag6.Sq he;simp only[Value.slice.injEq,AT,Addr.mk.injEq]at e1;obtain⟨⟨rfl,rfl,_⟩,_⟩:=e1;have:=hr.Jl off;simpa using this
   grind [lj]
  |os id=>
   simp only[lj]at h;split at h
   ·rename_i s et es hm;simp only[AT]at h;subst h;exact(hM.arr (.inl hm)).full hM hx ro (fun g hg=>own _ _ _ hm (.inl hg))
   ·rename_i s et es hm;simp only[AT]at h;subst h;exact(hM.arr (.inr hm)).full hM hx ro (fun g hg=>own _ _ _ hm (.inl hg))
   ·rename_i s et es hm;simp only[AT]at h;subst h;have hN:bd P μ φ w id s et es:=hM.dH id _ hm;exact(hN.strip ro fun i off g hr hg=>own _ _ _ hm (.inr ⟨i,off,hr,hg⟩)).HM (hx.zf ro) (fun _ _ h=>h) fun g hg=>own _ _ _ hm (.inl hg)
   ·cases h
  |AM id i off s j off2=>simp[lj]at h
  |wR id i off=>
   simp only[lj]at h;split at h
   ·rename_i s et es hm;obtain⟨e,he,h⟩:=BY.1 h;unfold adF at h;split at h
    ·rename_i s' rs hc;simp only[AT]at h;subst h;have hN:bd P μ φ w id s et es:=hM.dH id _ hm;obtain⟨_,_,_,_,⟨⟨GZ,hA⟩,_⟩,hce⟩:=hN.row (s:=s') (rs:=rs) he (by rw[hc];simp[fh]);exact hA.HM (hx.Oq (ν:=μ)) ro fun g hg=>own _ _ _ hm (.inr ⟨i,off,by simp[bR.rowAt,he,hce,PV.isRow],hg⟩)
    ·cases h
   ·cases h
  |fX id lo len=>
   have key:∀(s:Nat)(et:TypeId)(es:List PV),(m id=some (.arr s et es)∨m id=some (.ri s et es))→ai P ν (.rs s ((es.drop lo).take len)) x:=by
    intro s et es hm;have hA:=hM.arr hm;have zi:=hA;have abR:∀g,(φ id).g=some g→ν g=w.heap[g]?:=fun g hg=>by rcases hm with hm|hm<;>exact own _ _ _ hm (.inl hg)
    have hle:=hA.pz;obtain⟨a1,a2,a3,a4,a5,a6,a7⟩:=hA;cases hx with
    |rJ hg=>simp;exact .lk
    | @fX _ _ _ cap g a hg hl ha hc1 Wf=>
     rw[a1]at hl;rcases ha with rfl|⟨ha,_⟩
     ·rw[a2];exact zi.Jm hg hl (by omega) hc1 ro (abR _ hg)
     ·have h0:len=0:=by omega
      subst h0;simp only[alh];exact .G9 (by omega)
   grind [lj,Option.some.injEq]
  |om id=>
   simp only[lj]at h;split at h
   ·rename_i kt es hm;simp only[AT]at h;subst h;obtain⟨g,en,clock,kk,hg,hh,hs,hk,Sr,_,hv⟩:=hM.dH id _ hm;cases hx with
    |om cO=>
     rw[hg]at cO;simp only[AT]at cO;subst cO;refine .rm (show ν g=_ from(own _ _ _ hm (.inl hg)).trans hh) (by simp[hs]) (by simp) hk (fun i k hi=>?_) (fun i k e hi he=>?_) (fun i v e hi he=>?_)
     ·grind
     ·simp only[IT,ah2]at hi;obtain⟨⟨a,b⟩,hq,rfl⟩:=hi;exact(hv i a b e hq he).1.mono ro
     ·simp only[IT,ah2]at hi;obtain⟨⟨a,b⟩,hq,rfl⟩:=hi;exact(hv i a b e hq he).2.mono ro
   ·rename_i kt e0 es hm;simp only[AT]at h;subst h;obtain⟨g,en,clock,kk,hg,hh,hs,hk,Sr,_,hv⟩:=hM.dH id _ hm;cases hx with
    |om cO=>
     rw[hg]at cO;simp only[AT]at cO;subst cO;refine .rm (show ν g=_ from(own _ _ _ hm (.inl hg)).trans hh) (by simp[hs]) (by simp) hk (fun i k hi=>?_) (fun i k e hi he=>?_) (fun i v e hi he=>?_)
     ·grind
     ·simp only[IT,ah2]at hi;obtain⟨⟨a,b⟩,hq,rfl⟩:=hi;exact(hv i a b e hq he).1.mono ro
     ·simp only[IT,ah2]at hi;obtain⟨⟨a,b⟩,hq,rfl⟩:=hi;have h2:=(hv i a b e hq he).2;cases hr:b.isRow with
      |false=>
       have e1:b.oD=b:=by cases b<;>first|rfl|cases hr
       simp only[e1];split at h2
       ·cases hr
       ·exact h2.mono ro
      |true=>
       cases b<;>first|(cases hr;done)|skip
       exact h2.1.HM h2.2 ro fun g' cO=>own _ _ _ hm (.inr ⟨i,0,by simp[bR.rowAt,hq,PV.isRow],cO⟩)
   ·cases h
  |fn f cs=>
   simp only[lj]at h;obtain⟨ps,pX,h⟩:=BY.1 h;simp only[AT]at h;subst h;obtain⟨h1,h2⟩:=iE pX;cases hx with
   |fn g1 g2=>refine .fn (by omega) (fun i q y hq hy=>?_);grind
  |yl id=>simp[lj]at h
  |it id=>simp[lj]at h
  |top=>simp[lj]at h
end
section
variable {P:Program} {w:World}
def valOf:PV→Value
 |.int k n=>.int k n
 |.bool b=>.bool b
 |.str s=>.string ⟨s.toArray⟩
 |_=>undef
def e8(P:Program)(t:TypeId)(ps:List PV):Value:=if aF P t then .agg (ps.map valOf).toArray else valOf (ps.headD .bad)
theorem HN{μ:Ro}{k:Kd}{p:PV}{y:Value}(h:uj k p=true)(hy:ai P μ p y):y=valOf p:=by cases k<;>cases p<;>simp[uj]at h<;>cases hy<;>rfl
theorem qY:∀{ks:List Kd}{ps:List PV},mP ks ps=true→ps.length=ks.length
 |[],[],_=>rfl
 |[],_::_,h=>by simp[mP]at h
 |_::_,[],h=>by simp[mP]at h
 |k::ks,p::ps,h=>by simp[mP]at h;simp[qY h.2]
theorem Ss:∀{ks:List Kd}{ps:List PV},mP ks ps=true→∀(i:Nat)p,ps[i]?=some p→∃k,ks[i]?=some k∧uj k p=true
 |[],[],_,i,p,hi=>by simp at hi
 |[],_::_,h,_,_,_=>by simp[mP]at h
 |_::_,[],h,_,_,_=>by simp[mP]at h
 |k::ks,q::ps,h,i,p,hi=>by
  simp[mP]at h;cases i with
  |zero=>simp at hi;subst hi;exact⟨k,by simp,h.1⟩
  |succ i=>simp at hi;simpa using Ss h.2 i p hi
theorem rN:∀(a b:List Kd)(ps:List PV),mP (a++b) ps=true↔mP a (ps.take a.length)=true∧mP b (ps.drop a.length)=true
 |[],b,ps=>by simp[mP]
 |k::a,b,[]=>by simp[mP]
 |k::a,b,p::ps=>by simp[mP,rN a b ps,T1,am3]
theorem xb:∀(n:Nat)(ps qs:List PV),n≤ps.length→n≤qs.length→dW ps qs=(dW (ps.take n) (qs.take n)&&dW (ps.drop n) (qs.drop n))
 |0,ps,qs,_,_=>by simp[dW]
 |n+1,[],_,h,_=>by simp at h
 |n+1,_::_,[],_,h=>by simp at h
 |n+1,p::ps,q::qs,h1,h2=>by simp only[ajv,Nat.add_le_add_iff_right]at h1 h2;simp only[dW,List.take_succ_cons,List.drop_succ_cons,xb n ps qs h1 h2,Bool.and_assoc]
variable{ks:List Kd}{ps:List PV}
theorem tE{μ:Ro}{xs:Array Value}(hk:mP ks ps=true)(hl:xs.size=ps.length)(hv:∀(i:Nat)p y,ps[i]?=some p→xs[i]?=some y→ai P μ p y):xs=(ps.map valOf).toArray:=by
 apply alj;apply ajY;intro i;by_cases hi:i<ps.length
 ·have h1:ps[i]?=some ps[i]:=AI hi;have h2:xs[i]?=some xs[i]:=T0 (by omega);obtain⟨k,_,hk⟩:=Ss hk i _ h1;have:=HN hk (hv i _ _ h1 h2);simp only[ajL,h2,IT,h1,ah5,this]
 ·simp[hi,hl]
theorem zj(a:List Kd):∀n,(rE a n).length=n*a.length
 |0=>by simp[rE]
 |n+1=>by simp[rE,zj a n,ake];omega
theorem nh{k:Kd}(h:mP [k] ps=true):∃p,ps=[p]∧uj k p=true:=by
 cases ps with
 |nil=>simp[mP]at h
 |cons p r=>cases r with
  |nil=>exact⟨p,rfl,by simpa[mP]using h⟩
  |cons q r=>simp[mP]at h
theorem yJ{d:Nat}{t:TypeId}(h:BM P d t=some ks):(aF P t=true→ks.length=aV P t)∧(aF P t=false→ks.length=1)∧∃de,P.underlying t=some de:=by
 cases d with
 |zero=>simp[BM]at h
 |succ d=>
  unfold BM at h;split at h
  ·rename_i q hu;simp at h;subst h;exact⟨by simp[aF,hu],by simp,_,hu⟩
  ·rename_i hu;simp at h;subst h;exact⟨by simp[aF,hu],by simp,_,hu⟩
  ·rename_i hu;simp at h;subst h;exact⟨by simp[aF,hu],by simp,_,hu⟩
  ·rename_i fs hu;split at h
   ·cases h
   ·obtain⟨a,ha,h⟩:=BY.1 h;split at h
    ·rename_i hl;simp at h;subst h;exact⟨fun _=>hl,by simp[aF,hu],_,hu⟩
    ·cases h
  ·rename_i n e hu;obtain⟨a,ha,h⟩:=BY.1 h;split at h
   ·rename_i hl;simp at h;subst h;refine⟨fun _=>?_,by simp[aF,hu],_,hu⟩;rw[←hl.2,zj]
   ·cases h
  ·cases h
theorem kV{d:Nat}{t:TypeId}{off:Nat}(h:BM P d t=some ks)(hl:off+ks.length≤ps.length):(part t (ps.map valOf).toArray off).run P w=.ok (e8 P t ((ps.drop off).take ks.length)) w:=by
 obtain⟨h1,h2,de,hu⟩:=yJ h;cases ha:aF P t with
 |true=>rw[AY ha];congr 1;simp only[e8,ha,aaV];congr 1;rw[←h1 ha];simp[amy,al2,amq]
 |false=>
  have hk:=h2 ha;rw[hk]at hl⊢;have cd:off<ps.length:=by omega
  rw[AZ hu ha (y:=valOf ps[off]) (by simp[cd])];congr 1;simp only[e8,ha,By,abG];rw[alg cd];rfl
theorem qe:∀(d:Nat)(t:TypeId)(ks:List Kd),BM P d t=some ks→∀(D:Nat)(w:World)(ps qs:List PV),mP ks ps=true→mP ks qs=true→(Op.equalIn (D+d) t (e8 P t ps) (e8 P t qs)).run P w=.ok (dW ps qs) w
 |0,t,ks,h,_,_,_,_,_,_=>by simp[BM]at h
 |d+1,t,ks,h,D,w,ps,qs,hp,hq=>by
  have ih:=qe d;have h0:=h;unfold BM at h;split at h
  ·rename_i q hu;simp only[AT]at h;subst h;have ha:aF P t=false:=by simp[aF,hu]
   obtain⟨p,rfl,VI⟩:=nh hp;obtain⟨q',rfl,hkq⟩:=nh hq;clear hp hq;cases p<;>simp[uj]at VI;cases q'<;>simp[uj]at hkq;subst VI;subst hkq;simp[e8,ha,valOf,dW,peq,←akl,Op.equalIn,run_underlying hu]
  ·rename_i hu;simp only[AT]at h;subst h;have ha:aF P t=false:=by simp[aF,hu]
   obtain⟨p,rfl,VI⟩:=nh hp;obtain⟨q',rfl,hkq⟩:=nh hq;clear hp hq;cases p<;>simp[uj]at VI;cases q'<;>simp[uj]at hkq;simp[e8,ha,valOf,dW,peq,←akl,Op.equalIn,run_underlying hu]
  ·rename_i hu;simp only[AT]at h;subst h;have ha:aF P t=false:=by simp[aF,hu]
   obtain⟨p,rfl,VI⟩:=nh hp;obtain⟨q',rfl,hkq⟩:=nh hq;clear hp hq;cases p<;>simp[uj]at VI;cases q'<;>simp[uj]at hkq;simp only[e8,ha,valOf,dW,peq,←akl,By,abG,List.headD_cons,akY];rw[run_equalIn_string w _ _ _ _ hu,ByteArray.toList_eq,ByteArray.toList_eq]
  ·rename_i fs hu;split at h
   ·cases h
   ·rename_i ov;obtain⟨a,ha,h⟩:=BY.1 h;split at h
    ·rename_i hlen;simp only[AT]at h;subst h;have N5:aF P t=true:=by simp[aF,hu]
     have hfo:P.fieldsOf t=fs:=by simp[Program.fieldsOf,hu]
     simp only[e8,N5,aaV,←akl];rw[run_equalIn_struct w (D+d) t _ _ (by rw[hfo];exact hu) (by simpa using ov),hfo];have key:∀(L:List Field)(off:Nat)(b:List Kd)(w:World),rD (BM P d) L off=some b→off≤ps.length→off≤qs.length→mP b (ps.drop off)=true→mP b (qs.drop off)=true→(Op.eqFields (D+d) (ps.map valOf).toArray (qs.map valOf).toArray L).run P w=.ok (dW (ps.drop off) (qs.drop off)) w:=by
      intro L;induction L with
      |nil=>
       intro off b w hb o1 o2 h1 h2;simp only[rD,AT]at hb;subst hb;have e1:ps.drop off=[]:=by cases hh:ps.drop off with|nil=>rfl|cons x r=>rw[hh]at h1;simp[mP]at h1
       have e2:qs.drop off=[]:=by cases hh:qs.drop off with|nil=>rfl|cons x r=>rw[hh]at h2;simp[mP]at h2
       simp[Op.eqFields,e1,e2,dW]
      |cons f L ihL=>
       intro off b w hb o1 o2 h1 h2;simp only[rD]at hb;split at hb
       ·rename_i hf;obtain⟨c,hc,hb⟩:=BY.1 hb;obtain⟨b',iv,hb⟩:=BY.1 hb;simp only[AT]at hb;subst hb;rw[rN]at h1 h2;have l1:=qY h1.1;have l2:=qY h2.1;simp only[akt,akP]at l1 l2;have p1:=kV (w:=w) (ps:=ps) (off:=off) hc (by omega);have p2:=kV (w:=w) (ps:=qs) (off:=off) hc (by omega);have p3:=ih f.type c hc D w _ _ h1.1 h2.1;have p4:=ihL (off+c.length) b' w iv (by omega) (by omega) (by rw[←akD];exact h1.2) (by rw[←akD];exact h2.2);simp only[Op.eqFields,hf.2,am9,alN,aaV,Sem.run_bind,hf.1,p1,p2,p3,Result.andThen_ok];rw[xb c.length (ps.drop off) (qs.drop off) (by simp;omega) (by simp;omega),akD,akD];cases hr:dW ((ps.drop off).take c.length) ((qs.drop off).take c.length)with
        |false=>simp
        |true=>simpa using p4
       ·cases hb
     simpa using key fs.toList 0 a w ha (by simp) (by simp) (by simpa using hp) (by simpa using hq)
    ·cases h
  ·rename_i n e hu;obtain⟨a,ha,h⟩:=BY.1 h;split at h
   ·rename_i hlen;simp only[AT]at h;subst h;have N5:aF P t=true:=by simp[aF,hu]
    obtain⟨_,_,de,hde⟩:=yJ ha;obtain⟨i,hi⟩:∃i,P.info? e=some i:=by
     unfold Program.underlying at hde;cases hq:P.info? e with
     |none=>simp[hq]at hde
     |some i=>exact⟨i,rfl⟩
    have oh:P.cellsOf e=a.length:=hlen.1.symm;simp only[e8,N5,aaV,←akl];rw[run_equalIn_array w (D+d) _ _ hu hi,oh];have key:∀(k j:Nat)(w:World),j+k=n→j*a.length≤ps.length→j*a.length≤qs.length→mP (rE a k) (ps.drop (j*a.length))=true→mP (rE a k) (qs.drop (j*a.length))=true→(Op.eqItems (D+d) e a.length (ps.map valOf).toArray (qs.map valOf).toArray (List.range' j k)).run P w=.ok (dW (ps.drop (j*a.length)) (qs.drop (j*a.length))) w:=by
     intro k;induction k with
     |zero=>
      intro j w _ _ _ h1 h2;simp only[rE]at h1 h2;have e1:ps.drop (j*a.length)=[]:=by cases hh:ps.drop (j*a.length)with|nil=>rfl|cons x r=>rw[hh]at h1;simp[mP]at h1
      have e2:qs.drop (j*a.length)=[]:=by cases hh:qs.drop (j*a.length)with|nil=>rfl|cons x r=>rw[hh]at h2;simp[mP]at h2
      simp[Op.eqItems,e1,e2,dW]
     |succ k ihk=>
      intro j w hj o1 o2 h1 h2;simp only[rE]at h1 h2;rw[rN]at h1 h2;have l1:=qY h1.1;have l2:=qY h2.1;simp only[akt,akP]at l1 l2;have p1:=kV (w:=w) (ps:=ps) (off:=j*a.length) ha (by omega);have p2:=kV (w:=w) (ps:=qs) (off:=j*a.length) ha (by omega);have p3:=ih e a ha D w _ _ h1.1 h2.1;have ej:(j+1)*a.length=j*a.length+a.length:=by rw[ake];omega
      have p4:=ihk (j+1) w (by omega) (by omega) (by omega) (by rw[ej,←akD];exact h1.2) (by rw[ej,←akD];exact h2.2);rw[alV];simp only[Op.eqItems,Sem.run_bind,p1,p2,p3,Result.andThen_ok];rw[xb a.length (ps.drop (j*a.length)) (qs.drop (j*a.length)) (by simp;omega) (by simp;omega),akD,akD,←ej];cases hr:dW ((ps.drop (j*a.length)).take a.length) ((qs.drop (j*a.length)).take a.length)with
      |false=>simp
      |true=>simpa using p4
    have:=key n 0 w (by omega) (by simp) (by simp) (by simpa using hp) (by simpa using hq);rw[alY];simpa using this
   ·cases h
  ·cases h
end
section
variable {R:Type} {E:Env}
theorem ZE{k:IntKind}{x y:Int}(hx:(Lit.int k x).wf=true):(Lit.int k (x.tmod y)).wf=true:=by
 rw[nf]at*;have h0:k.min≤0∧0≤k.max:=by grind [IntKind.min,IntKind.max,IntKind.signed,IntKind.bits]
 rcases Int.le_total 0 x with h|h
 ·have h1:=Int.tmod_nonneg y h;have h2:x.tmod y≤x:=by have:=Int.natAbs_tmod x y;have h3:x.natAbs%y.natAbs≤x.natAbs:=Nat.mod_le _ _;omega
  omega
 ·have h1:x.tmod y= -((-x).tmod y):=by simp
  have h2:=Int.tmod_nonneg y (show 0≤-x by omega);have h3:(-x).tmod y≤-x:=by have:=Int.natAbs_tmod (-x) y;have h3:(-x).natAbs%y.natAbs≤(-x).natAbs:=Nat.mod_le _ _;omega
  omega
theorem ZF{k:IntKind}{x:Int}(n:Nat)(hx:(Lit.int k x).wf=true):(Lit.int k (x.fdiv (2^n))).wf=true:=by
 rw[nf]at*;have h0:k.min≤0∧0≤k.max:=by grind [IntKind.min,IntKind.max,IntKind.signed,IntKind.bits]
 have hp:(0:Int)<2^n:=Int.pow_pos (by omega);rw[Int.fdiv_eq_ediv_of_nonneg _ (by omega)];rcases Int.le_total 0 x with h|h
 ·have h1:=Int.ediv_nonneg h (Int.le_of_lt hp);have h2:=Int.ediv_le_self (2^n) h;omega
 ·have h1:x/2^n≤0:=Int.ediv_nonpos_of_nonpos_of_neg h hp;have h2:x≤x/2^n:=by rw[Int.le_ediv_iff_mul_le hp];have:x*2^n≤x*1:=Int.mul_le_mul_of_nonpos_left h (by omega);omega
  omega
variable{P:Program}{t:TypeId}
theorem HO{ps:List PV}(ha:aF P t=true):e8 P t ps=.agg (ps.map valOf).toArray:=by simp[e8,ha]
def HP(P:Program)(t:TypeId):Bool:=P.eqGuardType P.depth t
def tF(op:BinOp)(t:TypeId)(ox oy:Operand)(x y:Value):Sem Value:=do eqGuard op t ox oy x y;binOp op t x y
variable{x y:Value}{w:World}
theorem js{b:Bool}(hb:binOp .eql t x y=(do pure (.bool (←Op.equal t x y))))(h:(Op.equalIn 10000 t x y).run P w=.ok b w):(binOp .eql t x y).run P w=.ok (.bool b) w:=by simp_all[Op.equal,Op.maxDepth,Sem.run_bind,Result.andThen_ok,Sem.run_pure]
theorem jt{b:Bool}(hb:binOp .neq t x y=(do pure (.bool (!(←Op.equal t x y)))))(h:(Op.equalIn 10000 t x y).run P w=.ok b w):(binOp .neq t x y).run P w=.ok (.bool (!b)) w:=by simp_all[Op.equal,Op.maxDepth,Sem.run_bind,Result.andThen_ok,Sem.run_pure]
theorem ck{op:BinOp}{ox oy:Operand}{z:Value}(h1:(eqGuard op t ox oy x y).run P w=.ok () w)(h2:(binOp op t x y).run P w=.ok z w):(tF op t ox oy x y).run P w=.ok z w:=by simp_all[tF,Sem.run_bind,Result.andThen_ok]
theorem mR{e:TypeId}(hu:P.underlying t=some (.pointer e))(a:Option Addr):(Op.equalIn 10000 t (.pointer a) (.pointer none)).run P w=.ok a.isNone w:=by show(Op.equalIn (9999+1) t (.pointer a) (.pointer none)).run P w=.ok a.isNone w;cases a<;>(unfold Op.equalIn;simp only[Sem.run_bind,run_underlying hu,Result.andThen_ok];rfl)
theorem vt{a b:Array TypeId}{c:Bool}(hu:P.underlying t=some (.func a b c))(f:Fn)(xs ys:Array Value):(Op.equalIn 10000 t (.func f xs ys) .nilFunc).run P w=.ok false w:=by show(Op.equalIn (9999+1) t (.func f xs ys) .nilFunc).run P w=.ok false w;unfold Op.equalIn;simp only[Sem.run_bind,run_underlying hu,Result.andThen_ok];rfl
variable{k:PV→Option R}{a:V}{r:R}
theorem ZG{op:BinOp}{b:V}(h:mX E op t a b k=some r):∃q,(∀(R':Type)(k':PV→Option R'),mX E op t a b k'=k' q)∧k q=some r∧∀(μ:Ro)(φ:Nat→aH)(w:World)(ox oy:Operand)(x y:Value),ah E.P μ φ a x→ah E.P μ φ b y→∃z,(tF op t ox oy x y).run E.P w=.ok z w∧ai E.P μ q z:=by
 unfold mX at h;split at h
 ·rename_i q x q' y;have ints:∀(μ:Ro)(φ:Nat→aH)(u v:Value),ah E.P μ φ (.pv (.int q x)) u→ah E.P μ φ (.pv (.int q' y)) v→u=.int q x∧v=.int q' y∧(Lit.int q x).wf=true:=by intro μ φ u v hu hv;cases hu with|pv hu=>cases hu with|int h1=>cases hv with|pv hv=>cases hv with|int h2=>exact⟨rfl,rfl,h1⟩
  cases op;case shl=>
   simp only at h;split at h
   ·cases h
   ·rename_i hy;refine⟨_,fun R' k'=>by simp[mX,hy],h,fun μ φ w ox oy u v hu hv=>?_⟩;obtain⟨rfl,rfl,_⟩:=ints μ φ u v hu hv;exact⟨_,by simp[tF,eqGuard,binOp,Op.shift,hy],.int (wf_wrap _ _)⟩
  case shr=>
   simp only at h;split at h
   ·cases h
   ·rename_i hy;refine⟨_,fun R' k'=>by simp[mX,hy],h,fun μ φ w ox oy u v hu hv=>?_⟩;obtain⟨rfl,rfl,hw⟩:=ints μ φ u v hu hv;exact⟨_,by simp[tF,eqGuard,binOp,Op.shift,hy],.int (ZF _ hw)⟩
  case quo=>
   simp only at h;split at h
   ·rename_i hq;subst hq;split at h
    ·cases h
    ·rename_i hy;refine⟨_,fun R' k'=>by simp[mX,hy],h,fun μ φ w ox oy u v hu hv=>?_⟩;obtain⟨rfl,rfl,_⟩:=ints μ φ u v hu hv;exact⟨_,by simp[tF,eqGuard,binOp,Op.intDiv,hy],.int (wf_wrap _ _)⟩
   ·cases h
  case rem=>
   simp only at h;split at h
   ·rename_i hq;subst hq;split at h
    ·cases h
    ·rename_i hy;refine⟨_,fun R' k'=>by simp[mX,hy],h,fun μ φ w ox oy u v hu hv=>?_⟩;obtain⟨rfl,rfl,hw⟩:=ints μ φ u v hu hv;exact⟨_,by simp[tF,eqGuard,binOp,Op.intDiv,hy],.int (ZE hw)⟩
   ·cases h
  case eql|neq|lss|leq|gtr|geq=>
   simp only at h;split at h
   ·rename_i hq;subst hq;refine⟨_,fun R' k'=>by simp[mX],h,fun μ φ w ox oy u v hu hv=>?_⟩;obtain⟨rfl,rfl,_⟩:=ints μ φ u v hu hv;refine⟨_,ck (by rw[eqGuard_at_int];rfl) ?_,.bool⟩;first|rw[binOp_eql]|rw[binOp_neq]|rw[binOp_lss]|rw[binOp_leq]|rw[binOp_gtr]|rw[binOp_geq]
    rfl
   ·cases h
  all_goals
   simp only at h;split at h
   ·rename_i hq;subst hq;refine⟨_,fun R' k'=>by simp[mX],h,fun μ φ w ox oy u v hu hv=>?_⟩;obtain⟨rfl,rfl,_⟩:=ints μ φ u v hu hv;refine⟨_,ck (by rw[eqGuard_at_int];rfl) ?_,.int (wf_wrap _ _)⟩;first|rw[binOp_add]|rw[binOp_sub]|rw[binOp_mul]|rw[binOp_and]|rw[binOp_or]|rw[binOp_xor]|rw[binOp_andNot]
    rfl
   ·cases h
 ·rename_i x y;have strs:∀(μ:Ro)(φ:Nat→aH)(u v:Value),ah E.P μ φ (.pv (.str x)) u→ah E.P μ φ (.pv (.str y)) v→u=.string ⟨x.toArray⟩∧v=.string ⟨y.toArray⟩:=by intro μ φ u v hu hv;cases hu with|pv hu=>cases hu with|str h1=>cases hv with|pv hv=>cases hv with|str h2=>exact⟨rfl,rfl⟩
  cases op;case add=>
   simp only at h;split at h
   ·rename_i e9;have hy:¬((x.length+y.length:Nat):Int)>IntKind.i64.max:=by have:=E.lp.vi _ e9;omega
    refine⟨_,fun R' k'=>by simp only[mX];rw[BK e9],h,fun μ φ w ox oy u v hu hv=>?_⟩;obtain⟨rfl,rfl⟩:=strs μ φ u v hu hv;refine⟨.string ⟨(x++y).toArray⟩,?_,.str ?_⟩
    ·simp only[tF,eqGuard,binOp,Op.stringOp,Sem.run_bind];have e:(⟨x.toArray⟩++⟨y.toArray⟩:ByteArray)=⟨(x++y).toArray⟩:=by apply ByteArray.ext;simp
     simp only[EX,e];rw[IN hy];simp
    ·simp only[maxLen];simp only[IntKind.max_i64]at hy;simp;omega
   ·cases h
  case eql|neq|lss|leq|gtr|geq=>simp only at h;refine⟨_,fun R' k'=>by simp only[mX],h,fun μ φ w ox oy u v hu hv=>?_⟩;obtain⟨rfl,rfl⟩:=strs μ φ u v hu hv;refine⟨_,ck (by rw[eqGuard_at_string];rfl) ?_,.bool⟩;simp only[binOp,Op.stringOp,ByteArray.toList_eq];rfl
  all_goals (simp only at h;cases h)
 ·rename_i x y;have aa3:∀(μ:Ro)(φ:Nat→aH)(u v:Value),ah E.P μ φ (.pv (.bool x)) u→ah E.P μ φ (.pv (.bool y)) v→u=.bool x∧v=.bool y:=by intro μ φ u v hu hv;cases hu with|pv hu=>cases hu with|bool=>cases hv with|pv hv=>cases hv with|bool=>exact⟨rfl,rfl⟩
  split at h
  ·rename_i rO;refine⟨_,fun R' k'=>by simp only[mX,rO],h,fun μ φ w ox oy u v hu hv=>?_⟩;obtain⟨rfl,rfl⟩:=aa3 μ φ u v hu hv;exact⟨_,ck (by rw[eqGuard_at_bool];rfl) (js rfl (run_equalIn_bool w _ _ _ _ rO)),.bool⟩
  ·rename_i rO;refine⟨_,fun R' k'=>by simp only[mX,rO],h,fun μ φ w ox oy u v hu hv=>?_⟩;obtain⟨rfl,rfl⟩:=aa3 μ φ u v hu hv;exact⟨_,ck (by rw[eqGuard_at_bool];rfl) (jt rfl (run_equalIn_bool w _ _ _ _ rO)),.bool⟩
  ·cases h
 ·split at h
  ·rename_i rO;refine⟨_,fun R' k'=>by simp only[mX,rO],h,fun μ φ w ox oy u v hu hv=>?_⟩;cases hu with|pv hu=>cases hu;cases hv with|pv hv=>cases hv;exact⟨_,ck (by rw[eqGuard_at_pointer];rfl) (js rfl (mR rO none)),.bool⟩
  ·rename_i rO;refine⟨_,fun R' k'=>by simp only[mX,rO],h,fun μ φ w ox oy u v hu hv=>?_⟩;cases hu with|pv hu=>cases hu;cases hv with|pv hv=>cases hv;exact⟨_,ck (by rw[eqGuard_at_pointer];rfl) (jt rfl (mR rO none)),.bool⟩
  ·cases h
 ·split at h
  ·rename_i rO;refine⟨_,fun R' k'=>by simp only[mX,rO],h,fun μ φ w ox oy u v hu hv=>?_⟩;cases hu with| @fn f0 _ xs0=>cases hv with|pv hv=>cases hv;obtain⟨g0,a0,b0,e0⟩:=rL _ xs0;rw[e0];exact⟨_,ck (by rw[eqGuard_at_func];rfl) (js rfl (vt rO _ _ _)),.bool⟩
  ·rename_i rO;refine⟨_,fun R' k'=>by simp only[mX,rO],h,fun μ φ w ox oy u v hu hv=>?_⟩;cases hu with| @fn f0 _ xs0=>cases hv with|pv hv=>cases hv;obtain⟨g0,a0,b0,e0⟩:=rL _ xs0;rw[e0];exact⟨_,ck (by rw[eqGuard_at_func];rfl) (jt rfl (vt rO _ _ _)),.bool⟩
  ·cases h
 ·split at h
  ·rename_i rO;refine⟨_,fun R' k'=>by simp only[mX,rO],h,fun μ φ w ox oy u v hu hv=>?_⟩;cases hu with|pv hu=>cases hu with| @fn f0 _ xs0=>cases hv with|pv hv=>cases hv;obtain⟨g0,a0,b0,e0⟩:=rL _ xs0;rw[e0];exact⟨_,ck (by rw[eqGuard_at_func];rfl) (js rfl (vt rO _ _ _)),.bool⟩
  ·rename_i rO;refine⟨_,fun R' k'=>by simp only[mX,rO],h,fun μ φ w ox oy u v hu hv=>?_⟩;cases hu with|pv hu=>cases hu with| @fn f0 _ xs0=>cases hv with|pv hv=>cases hv;obtain⟨g0,a0,b0,e0⟩:=rL _ xs0;rw[e0];exact⟨_,ck (by rw[eqGuard_at_func];rfl) (jt rfl (vt rO _ _ _)),.bool⟩
  ·cases h
 ·split at h
  ·rename_i rO;refine⟨_,fun R' k'=>by simp only[mX,rO],h,fun μ φ w ox oy u v hu hv=>?_⟩;cases hu with|pv hu=>cases hu;cases hv with|pv hv=>cases hv;exact⟨_,ck (by rw[eqGuard_at_pointer];rfl) (js rfl (mR rO _)),.bool⟩
  ·rename_i rO;refine⟨_,fun R' k'=>by simp only[mX,rO],h,fun μ φ w ox oy u v hu hv=>?_⟩;cases hu with|pv hu=>cases hu;cases hv with|pv hv=>cases hv;exact⟨_,ck (by rw[eqGuard_at_pointer];rfl) (jt rfl (mR rO _)),.bool⟩
  ·cases h
 ·split at h
  ·rename_i rO;refine⟨_,fun R' k'=>by simp only[mX,rO],h,fun μ φ w ox oy u v hu hv=>?_⟩;cases hu with|op hg=>cases hv with|pv hv=>cases hv;exact⟨_,ck (by rw[eqGuard_at_pointer];rfl) (js rfl (mR rO _)),.bool⟩
  ·rename_i rO;refine⟨_,fun R' k'=>by simp only[mX,rO],h,fun μ φ w ox oy u v hu hv=>?_⟩;cases hu with|op hg=>cases hv with|pv hv=>cases hv;exact⟨_,ck (by rw[eqGuard_at_pointer];rfl) (jt rfl (mR rO _)),.bool⟩
  ·cases h
 ·split at h
  ·rename_i rO;refine⟨_,fun R' k'=>by simp only[mX,rO],h,fun μ φ w ox oy u v hu hv=>?_⟩;cases hu with|oe hg=>cases hv with|pv hv=>cases hv;exact⟨_,ck (by rw[eqGuard_at_pointer];rfl) (js rfl (mR rO _)),.bool⟩
  ·rename_i rO;refine⟨_,fun R' k'=>by simp only[mX,rO],h,fun μ φ w ox oy u v hu hv=>?_⟩;cases hu with|oe hg=>cases hv with|pv hv=>cases hv;exact⟨_,ck (by rw[eqGuard_at_pointer];rfl) (jt rfl (mR rO _)),.bool⟩
  ·cases h
 ·rename_i n1 n2 n3 n4 m1 m2 n5 n6 n7;split at h
  ·rename_i ha;split at h
   ·rename_i ks as bs Wi has hbs;split at h
    ·rename_i ps qs pX hqs;split at h
     ·rename_i hc;have hE:HP E.P t=false∧BM E.P 8 t=some ks:=by
       unfold tg at Wi;split at Wi
       ·cases Wi
       ·rename_i hg;exact⟨by simpa[HP]using hg,Wi⟩
      have key:∀(μ:Ro)(φ:Nat→aH)(w:World)(x y:Value),ah E.P μ φ a x→ah E.P μ φ b y→∃xs ys,x=.agg xs∧y=.agg ys∧(Op.equalIn 10000 t x y).run E.P w=.ok (dW ps qs) w:=by intro μ φ w x y hx hy;obtain⟨xs,rfl,g1,g2,g3⟩:=(py has).2 _ _ _ _ hx;obtain⟨ys,rfl,g4,g5,g6⟩:=(py hbs).2 _ _ _ _ hy;obtain⟨l1,l2⟩:=iE pX;obtain⟨l3,l4⟩:=iE hqs;have e1:=tE (P:=E.P) (μ:=μ) (xs:=xs) hc.1 (by omega) (fun i p z hi hz=>by obtain⟨v,hv,hg⟩:=l2 i p hi;exact uv 1 hg (g2 i v z hv hz));have e2:=tE (P:=E.P) (μ:=μ) (xs:=ys) hc.2 (by omega) (fun i p z hi hz=>by obtain⟨v,hv,hg⟩:=l4 i p hi;exact uv 1 hg (g5 i v z hv hz));refine⟨xs,ys,rfl,rfl,?_⟩;have:=qe 8 t ks hE.2 9992 w ps qs hc.1 hc.2;rw[HO ha,HO ha,←e1,←e2]at this;exact this
      have ag7:∀(R':Type)(k':PV→Option R'),mX E .eql t a b k'=k' (.bool (dW ps qs)):=by
       intro R' k';unfold mX;split
       ·exact(n1 _ _ _ _ rfl rfl).elim
       ·exact(n2 _ _ rfl rfl).elim
       ·exact(n3 _ _ rfl rfl).elim
       ·exact(n4 rfl rfl).elim
       ·exact(m1 _ _ rfl rfl).elim
       ·exact(m2 _ _ rfl rfl).elim
       ·exact(n5 _ rfl rfl).elim
       ·exact(n6 _ _ rfl rfl).elim
       ·exact(n7 _ _ _ rfl rfl).elim
       ·rw[BK ha,Wi,has,hbs];simp only[pX,hqs];rw[BK hc]
      have ag8:∀(R':Type)(k':PV→Option R'),mX E .neq t a b k'=k' (.bool (!(dW ps qs))):=by
       intro R' k';unfold mX;split
       ·exact(n1 _ _ _ _ rfl rfl).elim
       ·exact(n2 _ _ rfl rfl).elim
       ·exact(n3 _ _ rfl rfl).elim
       ·exact(n4 rfl rfl).elim
       ·exact(m1 _ _ rfl rfl).elim
       ·exact(m2 _ _ rfl rfl).elim
       ·exact(n5 _ rfl rfl).elim
       ·exact(n6 _ _ rfl rfl).elim
       ·exact(n7 _ _ _ rfl rfl).elim
       ·rw[BK ha,Wi,has,hbs];simp only[pX,hqs];rw[BK hc]
      cases op;case eql=>refine⟨_,fun R' k'=>ag7 R' k',h,fun μ φ w ox oy x y hx hy=>?_⟩;obtain⟨xs,ys,rfl,rfl,hr⟩:=key μ φ w x y hx hy;exact⟨_,ck (run_eqGuard_agg w _ _ _ _ _ _ hE.1) (js rfl hr),.bool⟩
      case neq=>refine⟨_,fun R' k'=>ag8 R' k',h,fun μ φ w ox oy x y hx hy=>?_⟩;obtain⟨xs,ys,rfl,rfl,hr⟩:=key μ φ w x y hx hy;exact⟨_,ck (run_eqGuard_agg w _ _ _ _ _ _ hE.1) (jt rfl hr),.bool⟩
      all_goals (simp only at h;cases h)
     ·cases h
    ·cases h
   ·cases h
  ·cases h
theorem abS{op:UnOp}(h:xun op a k=some r):∃q,(∀(R':Type)(k':PV→Option R'),xun op a k'=k' q)∧k q=some r∧∀(P:Program)(μ:Ro)(φ:Nat→aH)(w:World)(x:Value),ah P μ φ a x→∃z,(Op.unary op x).run P w=.ok z w∧ai P μ q z:=by
 unfold xun at h;split at h
 ·refine⟨_,fun R' k'=>rfl,h,fun P μ φ w x hx=>?_⟩;cases hx with|pv hx=>cases hx;exact⟨_,rfl,.bool⟩
 ·refine⟨_,fun R' k'=>rfl,h,fun P μ φ w x hx=>?_⟩;cases hx with|pv hx=>cases hx;exact⟨_,rfl,.int (wf_wrap _ _)⟩
 ·refine⟨_,fun R' k'=>rfl,h,fun P μ φ w x hx=>?_⟩;cases hx with|pv hx=>cases hx;exact⟨_,rfl,.int (wf_wrap _ _)⟩
 ·cases h
theorem ZH{k:IntKind}{n:Int}(h:(Lit.int k n).wf=true):k.wrap n=n:=by rw[nf]at h;cases k<;>simp only[IntKind.wrap,IntKind.min,IntKind.max,IntKind.signed,IntKind.bits]at* <;>simp at* <;>(try split)<;>omega
theorem Wj{s d:TypeId}(h:EF E s d a k=some r):∃q,(∀(R':Type)(k':PV→Option R'),EF E s d a k'=k' q)∧k q=some r∧∀(μ:Ro)(φ:Nat→aH)(w:World)(x:Value),ah E.P μ φ a x→∃z,(convert s d x).run E.P w=.ok z w∧ai E.P μ q z:=by
 unfold EF at h;split at h
 ·rename_i q q' q'' n hs hd;split at h
  ·rename_i e1;subst e1;split at h
   ·rename_i e2;subst e2;refine⟨_,fun R' k'=>by simp[EF,hs,hd],h,fun μ φ w x hx=>?_⟩;cases hx with|pv hx=>cases hx with|int hw=>exact⟨_,by simp[convert,run_underlying hs,run_underlying hd,Conv.intToInt,ZH hw],.int hw⟩
   ·rename_i e2;refine⟨_,fun R' k'=>by simp[EF,hs,hd,e2],h,fun μ φ w x hx=>?_⟩;cases hx with|pv hx=>cases hx with|int hw=>exact⟨_,by simp[convert,run_underlying hs,run_underlying hd,Conv.intToInt],.int (wf_wrap _ _)⟩
  ·cases h
 ·rename_i hs hd;refine⟨_,fun R' k'=>by simp[EF,hs,hd],h,fun μ φ w x hx=>?_⟩;cases hx with|pv hx=>cases hx with|str hl=>exact⟨_,by simp[convert,run_underlying hs,run_underlying hd],.str hl⟩
 ·cases h
theorem Wk{b:V}(h:K8 a b k=some r):∃q,(∀(R':Type)(k':PV→Option R'),K8 a b k'=k' q)∧k q=some r∧∀(P:Program)(μ:Ro)(φ:Nat→aH)(w:World)(x y:Value),ah P μ φ a x→ah P μ φ b y→∃z,(Builtin.min2 x y).run P w=.ok z w∧ai P μ q z:=by
 unfold K8 at h;split at h
 ·split at h
  ·rename_i e;subst e;refine⟨_,fun R' k'=>by simp[K8],h,fun P μ φ w x y hx hy=>?_⟩;cases hx with|pv hx=>cases hx with|int h1=>cases hy with|pv hy=>cases hy with|int h2=>exact⟨_,rfl,by split<;>exact .int (by assumption)⟩
  ·cases h
 ·cases h
theorem A0{b:V}(h:C5 a b k=some r):∃q,(∀(R':Type)(k':PV→Option R'),C5 a b k'=k' q)∧k q=some r∧∀(P:Program)(μ:Ro)(φ:Nat→aH)(w:World)(x y:Value),ah P μ φ a x→ah P μ φ b y→∃z,(Builtin.max2 x y).run P w=.ok z w∧ai P μ q z:=by
 unfold C5 at h;split at h
 ·split at h
  ·rename_i e;subst e;refine⟨_,fun R' k'=>by simp[C5],h,fun P μ φ w x y hx hy=>?_⟩;cases hx with|pv hx=>cases hx with|int h1=>cases hy with|pv hy=>cases hy with|int h2=>exact⟨_,rfl,by split<;>exact .int (by assumption)⟩
  ·cases h
 ·cases h
theorem Wl{b c d:V}(h:K9 a b c d k=some r):∃q,(∀(R':Type)(k':PV→Option R'),K9 a b c d k'=k' q)∧k q=some r∧∀(P:Program)(μ:Ro)(φ:Nat→aH)(w:World)(x y z u:Value),ah P μ φ a x→ah P μ φ b y→ah P μ φ c z→ah P μ φ d u→∃v1 v2 v3,(Builtin.max2 x y).run P w=.ok v1 w∧(Builtin.max2 v1 z).run P w=.ok v2 w∧(Builtin.max2 v2 u).run P w=.ok v3 w∧ai P μ q v3:=by unfold K9 at h;obtain⟨q1,a1,h,b1⟩:=A0 h;obtain⟨q2,a2,h,b2⟩:=A0 h;obtain⟨q3,a3,h,b3⟩:=A0 h;refine⟨q3,fun R' k'=>by unfold K9;rw[a1,a2,a3],h,fun P μ φ w x y z u hx hy hz hu=>?_⟩;obtain⟨v1,c1,d1⟩:=b1 P μ φ w x y hx hy;obtain⟨v2,c2,d2⟩:=b2 P μ φ w v1 z (.pv d1) hz;obtain⟨v3,c3,d3⟩:=b3 P μ φ w v2 u (.pv d2) hu;exact⟨v1,v2,v3,c1,c2,c3,d3⟩
end
section
variable {P:Program} {G:Nat→Option (List PV)} {w0:bI} {μ μ':Ro} {φ φ':Nat→aH} {m:Mem} {w w':World}
variable{b:bR}
@[simp] theorem bw(m:Mem)(d:Nat)(b:bR):aq m d b d=some b:=by simp[aq]
theorem aw{m:Mem}{d t:Nat}(h:t≠d):aq m d b t=m t:=by simp[aq,cond_eq_ite,h]
@[simp] theorem aa4(m:Mem)(d:Nat):bq m d d=none:=by simp[bq]
theorem fR{m:Mem}{d t:Nat}(h:t≠d):bq m d t=m t:=by simp[bq,cond_eq_ite,h]
@[simp] theorem zN(f:Fr)(d:Nat)(v:V):gO f d v d=v:=by simp[gO]
theorem rP{f:Fr}{d t:Nat}{v:V}(h:t≠d):gO f d v t=f t:=by simp[gO,cond_eq_ite,h]
variable{id sz:Nat}{et:TypeId}{es:List PV}
theorem aN.cL(h:aN P μ φ w id sz et es)(hφ:φ' id=φ id)(hμ:∀b o,μ b=some o→μ' b=some o)(hw:∀g,(φ id).g=some g→w'.heap[g]?=w.heap[g]?):aN P μ' φ' w' id sz et es:=by
 obtain⟨a1,a2,a3,a4,a5,a6,a7⟩:=h;unfold aN;rw[hφ];refine⟨a1,a2,a3,a4,a5,a6,?_⟩;cases hg:(φ id).g with
 |none=>rw[hg]at a7;omega
 |some g=>rw[hg]at a7;obtain⟨c,T,c1,c2,c3,c4,c5⟩:=a7;exact⟨c,T,by rw[hw g hg];omega,c2,c3,fun i e j p x h1 h2 h3=>(c4 i e j p x h1 h2 h3).mono hμ,c5⟩
theorem eY.cL{R:Dd}{s:Nat}{rs:List PV}{x:Value}(h:eY P μ R w s rs x)(hμ:∀b o,μ b=some o→μ' b=some o)(hw:∀g,R.g=some g→w'.heap[g]?=w.heap[g]?):eY P μ' R w' s rs x:=
 let⟨⟨et,hA⟩,hV⟩:=h
 ⟨⟨et,hA.cL rfl hμ hw⟩,hV.zf hμ⟩
theorem eB.cL{R:Dd}{p:PV}{x:Value}(h:eB P μ R w p x)(hμ:∀b o,μ b=some o→μ' b=some o)(hw:p.isRow=true→∀g,R.g=some g→w'.heap[g]?=w.heap[g]?):eB P μ' R w' p x:=by
 unfold eB at*;split at h
 ·exact eY.cL h hμ (hw rfl)
 ·exact h.mono hμ
variable{i j:Nat}
theorem dE{e p:PV}(he:es[i]?=some e)(hp:e.cells[j]?=some p):(bR.nest sz et es).rowAt i j=p.isRow:=by simp[bR.rowAt,he,hp]
theorem bd.cL{id sz:Nat}{et:TypeId}{es:List PV}(h:bd P μ φ w id sz et es)(hφ:φ' id=φ id)(hμ:∀b o,μ b=some o→μ' b=some o)(hw:∀g,(bR.nest sz et es).ev (φ id) g→w'.heap[g]?=w.heap[g]?):bd P μ' φ' w' id sz et es:=by
 obtain⟨a1,a2,a3,a4,a5,a6,a7⟩:=h;unfold bd;rw[hφ];refine⟨a1,a2,a3,a4,a5,a6,?_⟩;cases hg:(φ id).g with
 |none=>rw[hg]at a7;omega
 |some g=>rw[hg]at a7;obtain⟨c,T,c1,c2,c3,c4,c5⟩:=a7;exact⟨c,T,by rw[hw g (.inl hg)];omega,c2,c3,fun i e j p x h1 h2 h3=>(c4 i e j p x h1 h2 h3).cL hμ fun hr g' cO=>hw g' (.inr ⟨i,j,by rw[dE h1 h2];omega,cO⟩),c5⟩
theorem ky{kt e:TypeId}{es:List (PV×PV)}{k v:PV}(he:es[i]?=some (k,v)):(bR.fv kt e es).rowAt i 0=v.isRow:=by simp[bR.rowAt,he]
theorem hU.cL{id:Nat}{b:bR}(h:hU P μ φ w id b)(hn:∀j,b.names j=true→φ' j=φ j)(hφ:φ' id=φ id)(hμ:∀b o,μ b=some o→μ' b=some o)(hw:∀g,b.ev (φ id) g→w'.heap[g]?=w.heap[g]?):hU P μ' φ' w' id b:=by
 cases b with
 |nest sz et es=>exact bd.cL h hφ hμ hw
 |fv kt e0 es=>
  obtain⟨g,en,clock,kk,hg,hh,hs,hk,hc,yE,hv⟩:=h;refine⟨g,en,clock,kk,by rw[hφ];omega,by rw[hw g (.inl hg)];omega,hs,hk,hc,yE,fun i k v e h1 h2=>⟨(hv i k v e h1 h2).1.mono hμ,?_⟩⟩;have h3:=(hv i k v e h1 h2).2;rw[hφ];split at h3
  ·exact⟨h3.1.cL rfl hμ fun g' cO=>hw g' (.inr ⟨i,0,by rw[ky h1];rfl,cO⟩),h3.2.zf hμ⟩
  ·exact h3.mono hμ
 |box cs=>obtain⟨g,c,T,hg,hh,hs,hv,h1,BN⟩:=h;exact⟨g,c,T,by rw[hφ];omega,by rw[hw g (.inl hg)];omega,hs,fun i v x hi hx=>(hv i v x hi hx).mono hμ (fun j hj=>hn j (bU (ah3 hi) hj)),h1,by rw[hφ];omega⟩
 |arr sz et es=>exact aN.cL h hφ hμ fun g hg=>hw g (.inl hg)
 |ri sz et es=>refine⟨aN.cL h.1 hφ hμ fun g hg=>hw g (.inl hg),fun g hg=>?_⟩;rw[hφ]at hg;have:=h.2 g hg;obtain⟨o,ho⟩:=ajR.1 this;rw[hμ _ _ ho];rfl
 |map kt es=>obtain⟨g,en,clock,kk,hg,hh,hs,hk,hc,yE,hv⟩:=h;exact⟨g,en,clock,kk,by rw[hφ];omega,by rw[hw g (.inl hg)];omega,hs,hk,hc,yE,fun i k v e h1 h2=>⟨(hv i k v e h1 h2).1.mono hμ,(hv i k v e h1 h2).2.mono hμ⟩⟩
 |iter t es cur=>obtain⟨g,mg,en,clock,seen,hg,hh,Hd,yE,BN,hv,hcu⟩:=h;exact⟨g,mg,en,clock,seen,by rw[hφ];omega,by rw[hw g (.inl hg)];omega,hμ _ _ Hd,yE,BN,fun i k v e h1 h2=>⟨(hv i k v e h1 h2).1.mono hμ,(hv i k v e h1 h2).2.mono hμ⟩,fun k v hc=>let⟨i,e,h1,h2,h3,h4⟩:=hcu k v hc;⟨i,e,h1,h2,h3.mono hμ,h4.mono hμ⟩⟩
 |loop st=>obtain⟨g,rc,hg,hh⟩:=h;exact⟨g,rc,by rw[hφ];omega,by rw[hw g (.inl hg)];omega⟩
variable{g:Nat}
theorem eY.E1{R:Dd}{s:Nat}{rs:List PV}{x:Value}(h:eY P μ R w s rs x)(hg:R.g=some g):g<w.heap.size:=by obtain⟨⟨et,_,_,_,_,_,_,a7⟩,_⟩:=h;have cO:R.up.g=some g:=hg;grind
theorem kA{off:Nat}(h:b.rowAt i off=true):(∃sz et es e s rs,b=.nest sz et es∧es[i]?=some e∧e.cells[off]?=some (.qV s rs))∨∃kt e0 es k s rs,b=.fv kt e0 es∧off=0∧es[i]?=some (k,.qV s rs):=by
 unfold bR.rowAt at h;split at h
 ·rename_i sz et es i off;split at h
  ·rename_i e he;split at h
   ·rename_i p hp;cases p<;>first|(cases h;done)|skip
    grind
   ·cases h
  ·cases h
 ·rename_i kt e0 es i;split at h
  ·rename_i x hx;obtain⟨k,v⟩:=x;cases v<;>first|(cases h;done)|skip
   grind
  ·cases h
 ·cases h
theorem hU.adM{off:Nat}(h:hU P μ φ w id b)(hr:b.rowAt i off=true)(hg:((φ id).row i off).g=some g):g<w.heap.size:=by
 rcases kA hr with⟨sz,et,es,e,s,rs,rfl,he,hp⟩|⟨kt,e0,es,k,s,rs,rfl,rfl,he⟩
 ·have hN:bd P μ φ w id sz et es:=h;have hgg:∃g0,(φ id).g=some g0:=by
   cases hq:(φ id).g with
   |some g0=>simp
   |none=>have a7:=hN.2.2.2.2.2.2;simp_all
  obtain⟨g0,Ot⟩:=hgg;obtain⟨c,_,x,_,_,c3,_⟩:=hN.cell Ot he hp;exact eY.E1 (show eY P μ _ w s rs x from c3) hg
 ·obtain⟨g0,en,clock,kk,Ot,hh,hs,hk,hc,yE,hv⟩:=h;have hi:i<en.size:=by grind
  have h3:=(hv i k _ en[i] he (T0 hi)).2;exact eY.E1 (P:=P) (μ:=μ) (R:=(φ id).row i 0) (s:=s) (rs:=rs) (x:=en[i].val) ⟨⟨_,h3.1⟩,h3.2⟩ hg
theorem hU.E1(h:hU P μ φ w id b)(hg:b.ev (φ id) g):g<w.heap.size:=by
 rcases hg with hg|⟨i,off,hr,hg⟩
 rotate_left
 ·exact h.adM hr hg
 have key:∀o,w.heap[g]?=some o→g<w.heap.size:=fun o ho=>(adp.1 ho).1;cases b with
 |nest sz et es=>obtain⟨_,_,_,_,_,_,a7⟩:=h;grind
 |fv kt e0 es=>obtain⟨g',en,clock,kk,cO,hh,_⟩:=h;simp_all
 |box cs=>obtain⟨g',c,T,cO,hh,_⟩:=h;simp_all
 |arr sz et es=>obtain⟨_,_,_,_,_,_,a7⟩:=h;grind
 |ri sz et es=>obtain⟨⟨_,_,_,_,_,_,a7⟩,_⟩:=h;grind
 |map kt es=>obtain⟨g',en,clock,kk,cO,hh,_⟩:=h;simp_all
 |iter t es cur=>obtain⟨g',mg,en,clock,seen,cO,hh,_⟩:=h;simp_all
 |loop st=>obtain⟨g',rc,cO,hh⟩:=h;simp_all
theorem az.Ou(hM:az P G w0 μ φ m w)(hm:m j=some b)(hn:b.names id=true):(m id).isSome=true:=by
 cases b with
 |box cs=>exact hM.fY j cs id hm hn
 |_=>simp[bR.names]at hn
theorem yK{cs:List V}(h:cD j (cs.map (th id))=true):cD j cs=true∧j≠id:=by obtain⟨v,hv,hh⟩:=cW.1 h;obtain⟨u,hu,rfl⟩:=ajJ.1 hv;grind [w8,bU]
theorem hU.kill{id j:Nat}{b:bR}(h:hU P μ φ w j b):hU P μ φ w j (gP id b):=by
 cases b with
 |box cs=>obtain⟨g,c,T,hg,hh,hs,hv,h1,BN⟩:=h;refine⟨g,c,T,hg,hh,by simpa using hs,fun i v x hi hx=>?_,h1,by simpa using BN⟩;simp only[IT,ah2]at hi;obtain⟨u,hu,rfl⟩:=hi;exact(hv i u x hu hx).kill id
 |_=>exact h
theorem vu(id:Nat)(b:bR):(gP id b).rowAt=b.rowAt:=by cases b<;>rfl
variable{p:aH}
theorem gJ:(gP id b).ev p g↔b.ev p g:=by unfold bR.ev;rw[vu]
theorem vv:(gP id b).apart p↔b.apart p:=by unfold bR.apart;rw[vu]
theorem rQ(h:∀i off,b.rowAt i off=true→False):b.apart p:=fun i off _ hr=>(h i off hr).elim
theorem pg(h:∀i off,b.rowAt i off=true→False)(ho:b.ev p g):p.g=some g:=by
 rcases ho with h1|⟨i,off,hr,_⟩
 ·omega
 simp_all
theorem E2(h:bM id m j=some b):∃b',m j=some b'∧b=gP id b':=by unfold bM at h;grind
theorem yL(id:Nat)(b:bR):(gP id b).j7=b.j7:=by cases b<;>rfl
theorem az.forget(hM:az P G w0 μ φ m w)(id:Nat):az P G w0 μ φ (bq (bM id m) id) w:=by
 have key:∀j b,bq (bM id m) id j=some b→j≠id∧∃b',m j=some b'∧b=gP id b':=by
  intro j b h;by_cases e:j=id
  ·subst e;simp at h
  simp_all[fR,E2]
 refine⟨hM.below,hM.ro,hM.aM,fun j b h=>?_,fun j b g h hg=>?_,fun i j b1 b2 g h1 h2 g1 g2=>?_,fun j b h=>?_,fun j cs i h hh=>?_,hM.base,hM.dJ,fun j st h=>?_⟩
 rotate_right
 ·obtain⟨_,b',hb,e⟩:=key j _ h;cases b' with
  |loop st'=>simp only[gP,bR.loop.injEq]at e;subst e;exact hM.Dc j st hb
  |_=>simp[gP]at e
 ·obtain⟨_,b',hb,rfl⟩:=key j b h;exact(hM.dH j b' hb).kill
 ·obtain⟨_,b',hb,rfl⟩:=key j b h;rw[yL];exact hM.own j b' g hb (gJ.1 hg)
 ·obtain⟨_,b1',hb1,rfl⟩:=key i b1 h1;obtain⟨_,b2',vg,rfl⟩:=key j b2 h2;exact hM.inj i j b1' b2' g hb1 vg (gJ.1 g1) (gJ.1 g2)
 ·obtain⟨_,b',hb,rfl⟩:=key j b h;exact vv.2 (hM.apart j b' hb)
 ·obtain⟨_,b',hb,e⟩:=key j _ h;cases b' with
  |box Ov=>simp only[gP,bR.box.injEq]at e;subst e;obtain⟨h1,h2⟩:=yK hh;have:=hM.fY j Ov i hb h1;grind [fR,bM]
  |_=>simp[gP]at e
theorem zk(m:Mem)(id:Nat)(b:bR):aq (bq m id) id b=aq m id b:=by
 funext t;by_cases h:t=id
 ·subst h;simp
 simp_all[aw,fR]
variable{b':bR}
theorem E3(vo:∀i off,b'.rowAt i off=true→b.rowAt i off=true)(h:b'.ev p g):b.ev p g:=by
 rcases h with h|⟨i,off,hr,h⟩
 ·exact .inl h
 ·exact .inr ⟨i,off,vo i off hr,h⟩
theorem TX(vo:∀i off,b'.rowAt i off=true→b.rowAt i off=true)(h:b.apart p):b'.apart p:=fun i off g hr hg=>
 let⟨h1,h2⟩:=h i off g (vo i off hr) hg
 ⟨h1,fun i' tC AL cO=>h2 i' tC (vo i' tC AL) cO⟩
theorem az.Wm(hM:az P G w0 μ φ m w)(hm:m id=some b)(Ow:b.j7=true)(hg:b.ev (φ id) g)(Ox:lA g w w')(St:w'.heap.size=w.heap.size)(hw:∀k,k≠g→w'.heap[k]?=w.heap[k]?)(hB:hU P μ φ w' id b')(aa5:b'.j7=true)(hn:∀j,b'.names j=true→(m j).isSome=true)(vo:∀i off,b'.rowAt i off=true→b.rowAt i off=true)(hlp:∀st,b'=.loop st→∃rc,(φ id).g=some g∧w0.rc id=some (g,rc)∧w'.heap[g]?=some (.loop (st.obj rc)):=by intro st h;cases h):az P G w0 μ φ (aq m id b') w':=by
 obtain⟨wZ,hμ⟩:=hM.own id b g hm hg;have hμ:=hμ Ow;refine⟨hM.below.trans (Ox.mono wZ),fun k o hk=>?_,hM.aM,fun j c hj=>?_,fun j c g' hj cO=>?_,fun i j b1 b2 g' h1 h2 g1 g2=>?_,fun j c hj=>?_,fun j cs i hj hh=>?_,hM.base,hM.dJ,fun j st hj=>?_⟩
 rotate_right
 ·by_cases e:j=id
  ·simp_all
  ·rw[aw e]at hj;obtain⟨g',rc,h1,h2,h3⟩:=hM.Dc j st hj;exact⟨g',rc,h1,h2,by rw[hw g' (fun e'=>by subst e';exact e (hM.inj j id _ b g' hj hm (.inl h1) hg))];omega⟩
 ·have:k≠g:=fun e=>by simp_all
  rw[hw k this];exact hM.ro k o hk
 ·by_cases e:j=id
  ·simp_all
  ·rw[aw e]at hj;refine(hM.dH j c hj).cL (fun _ _=>rfl) rfl (fun _ _ h=>h) (fun g' cO=>hw g' (fun e'=>?_));subst e';exact e (hM.inj j id c b g' hj hm cO hg)
 ·by_cases e:j=id
  ·subst e;rw[bw]at hj;simp only[AT]at hj;subst hj;obtain⟨h1,h2⟩:=hM.own j b g' hm (E3 vo cO);simp_all
  ·rw[aw e]at hj;exact hM.own j c g' hj cO
 ·have e1:∃c1,m i=some c1∧c1.ev (φ i) g':=by grind [id,bw,Option.some.injEq,E3,aw]
  have e2:∃c2,m j=some c2∧c2.ev (φ j) g':=by grind [id,bw,Option.some.injEq,E3,aw]
  obtain⟨c1,e1,o1⟩:=e1;obtain⟨c2,e2,o2⟩:=e2;exact hM.inj i j c1 c2 g' e1 e2 o1 o2
 ·by_cases e:j=id
  ·subst e;rw[bw]at hj;simp only[AT]at hj;subst hj;exact TX vo (hM.apart j b hm)
  ·rw[aw e]at hj;exact hM.apart j c hj
 ·have:(m i).isSome=true:=by
   by_cases e:j=id
   ·subst e;rw[bw]at hj;simp only[AT]at hj;subst hj;exact hn i hh
   ·rw[aw e]at hj;exact hM.fY j cs i hj hh
  by_cases e:i=id
  ·subst e;simp
  ·rw[aw e];omega
theorem az.write(hM:az P G w0 μ φ m w)(hm:m id=some b)(Ow:b.j7=true)(hg:(φ id).g=some g)(Ox:lA g w w')(St:w'.heap.size=w.heap.size)(hw:∀k,k≠g→w'.heap[k]?=w.heap[k]?)(hB:hU P μ φ w' id b')(aa5:b'.j7=true)(hn:∀j,b'.names j=true→(m j).isSome=true)(hlp:∀st,b'=.loop st→∃rc,w0.rc id=some (g,rc)∧w'.heap[g]?=some (.loop (st.obj rc)):=by intro st h;cases h)(vo:∀i off,b'.rowAt i off=true→b.rowAt i off=true:=by intro i off h;simp[bR.rowAt]at h):az P G w0 μ φ (aq m id b') w':=hM.Wm hm Ow (.inl hg) Ox St hw hB aa5 hn vo fun st h=>let⟨rc,h1,h2⟩:=hlp st h;⟨rc,hg,h1,h2⟩
def qP(μ:Ro)(w:World)(g:Option Nat):Ro:=fun b=>if g=some b then w.heap[b]? else μ b
theorem mC(hM:az P G w0 μ φ m w)(g:Option Nat):∀b o,μ b=some o→qP μ w g b=some o:=by
 intro b o hb;unfold qP;split
 ·exact hM.ro b o hb
 omega
noncomputable def uw(μ:Ro)(w:World)(S:Nat→Prop):Ro:=fun b=> @ite _ (S b) (Classical.propDecidable _) (w.heap[b]?) (μ b)
theorem rR(hM:az P G w0 μ φ m w)(S:Nat→Prop):∀b o,μ b=some o→uw μ w S b=some o:=by
 intro b o hb;unfold uw;split
 ·exact hM.ro b o hb
 omega
theorem az.Su(hM:az P G w0 μ φ m w)(hm:m id=some b)(hlp:∀st,b≠.loop st)(hA:aN P (uw μ w (b.ev (φ id))) φ w id sz et es):az P G w0 (uw μ w (b.ev (φ id))) φ (aq m id (.ri sz et es)) w:=by
 have mono:=rR hM (b.ev (φ id));have Wn:∀i off,(bR.ri sz et es).rowAt i off=true→False:=fun i off h=>by simp[bR.rowAt]at h
 refine⟨hM.below,fun k o hb=>?_,fun g cs hg=>(hM.aM g cs hg).mono mono,fun j c hj=>?_,fun j c g' hj cO=>?_,fun i j b1 b2 g' h1 h2 g1 g2=>?_,fun j c hj=>?_,fun j cs i hj hh=>?_,fun k o hb cd=>?_,fun b o hb=>mono b o (hM.dJ b o hb),fun j st hj=>?_⟩
 rotate_right
 ·by_cases e:j=id
  ·simp_all
  ·rw[aw e]at hj;exact hM.Dc j st hj
 rotate_right
 ·unfold uw at hb;split at hb
  ·rename_i he;have:=(hM.own id b k hm he).1;omega
  ·exact hM.base k o hb cd
 ·unfold uw at hb;split at hb
  ·omega
  ·exact hM.ro k o hb
 ·by_cases e:j=id
  ·subst e;rw[bw]at hj;simp only[AT]at hj;subst hj;refine⟨hA,fun g hg=>?_⟩;have:=hU.E1 (b:=.arr sz et es) hA (.inl hg);unfold uw;rw[BK (show b.ev (φ j) g from .inl hg)];simp[this]
  ·rw[aw e]at hj;exact(hM.dH j c hj).cL (fun _ _=>rfl) rfl mono (fun _ _=>rfl)
 ·by_cases e:j=id
  ·subst e;rw[bw]at hj;simp only[AT]at hj;subst hj;exact⟨(hM.own j b g' hm (.inl (pg Wn cO))).1,by simp[bR.j7]⟩
  ·rw[aw e]at hj;obtain⟨h1,h2⟩:=hM.own j c g' hj cO;refine⟨h1,fun Hd=>?_⟩;unfold uw;split
   ·rename_i he;exact absurd (hM.inj j id c _ g' hj hm cO he) e
   ·exact h2 Hd
 ·have e1:∃c1,m i=some c1∧c1.ev (φ i) g':=by
   by_cases e:i=id
   ·subst e;rw[bw]at h1;simp only[AT]at h1;subst h1;exact⟨b,hm,.inl (pg Wn g1)⟩
   simp_all[aw]
  have e2:∃c2,m j=some c2∧c2.ev (φ j) g':=by
   by_cases e:j=id
   ·subst e;rw[bw]at h2;simp only[AT]at h2;subst h2;exact⟨b,hm,.inl (pg Wn g2)⟩
   simp_all[aw]
  obtain⟨c1,e1,o1⟩:=e1;obtain⟨c2,e2,o2⟩:=e2;exact hM.inj i j c1 c2 g' e1 e2 o1 o2
 ·by_cases e:j=id
  ·simp_all[bw,AT,rQ]
  ·rw[aw e]at hj;exact hM.apart j c hj
 ·have:(m i).isSome=true:=by
   by_cases e:j=id
   ·simp_all
   ·rw[aw e]at hj;exact hM.fY j cs i hj hh
  by_cases e:i=id
  ·subst e;simp
  ·rw[aw e];omega
theorem rj:∀i off,(bR.arr sz et es).rowAt i off=true→False:=fun i off h=>by simp[bR.rowAt]at h
theorem az.freeze(hM:az P G w0 μ φ m w)(hm:m id=some (.arr sz et es)):az P G w0 (qP μ w (φ id).g) φ (aq m id (.ri sz et es)) w:=by
 have e:uw μ w ((bR.arr sz et es).ev (φ id))=qP μ w (φ id).g:=by
  funext b;unfold uw qP;by_cases h:(φ id).g=some b
  ·rw[BK h,BK (show(bR.arr sz et es).ev (φ id) b from .inl h)]
  ·rw[IN h,IN fun ho=>h (pg rj ho)]
 have:=hM.Su (sz:=sz) (et:=et) (es:=es) hm (fun st h=>by cases h) (aN.cL (hM.dH id _ hm) rfl (rR hM _) (fun _ _=>rfl));rwa[e]at this
theorem az.Sv(hM:az P G w0 μ φ m w)(hm:m id=some (.nest sz et es)):az P G w0 (uw μ w ((bR.nest sz et es).ev (φ id))) φ (aq m id (.ri sz et (es.map PV.strip))) w:=by have hN:bd P μ φ w id sz et es:=hM.dH id _ hm;refine hM.Su hm (fun st h=>by cases h) (hN.strip (rR hM _) fun i off g hr hg=>?_);unfold uw;rw[BK (show(bR.nest sz et es).ev (φ id) g from .inr ⟨i,off,hr,hg⟩)]
def cN(μ:Ro)(w w':World):Ro:=fun b=>if b<w.heap.size then μ b else w'.heap[b]?
theorem kW(hM:az P G w0 μ φ m w)(w':World):∀b o,μ b=some o→cN μ w w' b=some o:=by intro b o hb;have:=(adp.1 (hM.ro b o hb)).1;simp[cN,this,hb]
theorem az.called(hM:az P G w0 μ φ m w)(hb:lA w.heap.size w w'):az P G w0 (cN μ w w') φ m w':=by
 have mono:=kW hM w';refine⟨hM.below.trans (hb.mono hM.below.size),fun b o h=>?_,fun g cs hg=>(hM.aM g cs hg).mono mono,fun id b h=>?_,fun id b g h hg=>?_,hM.inj,hM.apart,hM.fY,fun b o h cd=>?_,fun b o hb=>mono b o (hM.dJ b o hb),fun j st hj=>?_⟩
 rotate_right
 ·obtain⟨g,rc,h1,h2,h3⟩:=hM.Dc j st hj;exact⟨g,rc,h1,h2,by rw[hb.block g (adp.1 h3).1];omega⟩
 rotate_right
 ·have:w0.heap.size≤w.heap.size:=hM.below.size;unfold cN at h;rw[BK (by omega)]at h;exact hM.base b o h cd
 ·unfold cN at h;split at h
  ·rename_i cd;rw[hb.block b cd];exact hM.ro b o h
  omega
 ·have hR:=hM.dH id b h;exact hR.cL (fun _ _=>rfl) rfl mono (fun g hg=>hb.block g (hR.E1 hg))
 ·obtain⟨h1,h2⟩:=hM.own id b g h hg;refine⟨h1,fun hm=>?_⟩;have:=(hM.dH id b h).E1 hg;simp[cN,this,h2 hm]
def nd(μ:Ro)(g:Option Nat):Ro:=fun b=>if g=some b then none else μ b
theorem Ll{μ:Ro}{g:Option Nat}{b:Nat}{o:Obj}(h:nd μ g b=some o):μ b=some o:=by simp_all[nd]
theorem zO(hM:az P G w0 μ φ m w)(w':World){g:Option Nat}(hg:∀b,g=some b→w.heap.size≤b):∀b o,μ b=some o→nd (cN μ w w') g b=some o:=by intro b o hb;have cd:=(adp.1 (hM.ro b o hb)).1;unfold nd;rw[IN fun e=>by have:=hg b e;omega];exact kW hM w' b o hb
theorem az.HQ(hM:az P G w0 μ φ m w)(hb:lA w.heap.size w w'){go:Option Nat}(He:∀b,go=some b→w.heap.size≤b):az P G w0 (nd (cN μ w w') go) φ m w':=by
 have mono:=zO hM w' He;have hC:=hM.called hb;refine⟨hC.below,fun b o h=>hC.ro b o (Ll h),fun g cs hg=>(hM.aM g cs hg).mono mono,fun id b h=>?_,fun id b g h hg=>?_,hM.inj,hM.apart,hM.fY,fun b o h cd=>hC.base b o (Ll h) cd,fun b o hb=>mono b o (hM.dJ b o hb),hC.Dc⟩
 ·have hR:=hM.dH id b h;exact hR.cL (fun _ _=>rfl) rfl mono (fun g hg=>hb.block g (hR.E1 hg))
 ·obtain⟨h1,h2⟩:=hC.own id b g h hg;refine⟨h1,fun hm=>?_⟩;unfold nd;simp_all
theorem az.drew(hM:az P G w0 μ φ m w):az P G w0 μ φ m w.drew:=⟨hM.below.drew,hM.ro,hM.aM,fun id b h=>(hM.dH id b h).cL (fun _ _=>rfl) rfl (fun _ _ h=>h) (fun _ _=>rfl),hM.own,hM.inj,hM.apart,hM.fY,hM.base,hM.dJ,hM.Dc⟩
end
end Go.Ab
