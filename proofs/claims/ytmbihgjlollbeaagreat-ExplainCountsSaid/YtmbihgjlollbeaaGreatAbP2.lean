import Derived.Test.YtmbihgjlollbeaaGreatAbP1
import Derived.Laws.StructEq
import Derived.ChangeKeysEq
set_option linter.unusedVariables false
set_option linter.unusedSimpArgs false
namespace Go.Ab
open Go.RowKit (Below)
section
variable {P:Program} {G:Nat→Option (List PV)} {w0:bx} {μ:Ro} {φ:Nat→aA} {m:Mem} {w:World}
theorem toCells_ok{n:Nat}{v:V}{cs:List V}(h:toCells n v=some cs):cs.length=n∧(∀id,b8 id cs=true→v.has id=true)∧∀(P:Program)(μ:Ro)(φ:Nat→aA)(x:Value),af P μ φ v x→x.cells.size=n∧(∀(i:Nat)u y,cs[i]?=some u→x.cells[i]?=some y→af P μ φ u y)∧(∀(i:Nat)(y:Value),x.cells[i]?=some y→y.oneCell'=true):=by
 have one:∀(v:V),(∀(P:Program)(μ:Ro)(φ:Nat→aA)(x:Value),af P μ φ v x→x.oneCell'=true∧x.cells= #[x])→(if n=1 then some [v]else none)=some cs→cs.length=n∧(∀id,b8 id cs=true→v.has id=true)∧∀(P:Program)(μ:Ro)(φ:Nat→aA)(x:Value),af P μ φ v x→x.cells.size=n∧(∀(i:Nat)u y,cs[i]?=some u→x.cells[i]?=some y→af P μ φ u y)∧(∀(i:Nat)(y:Value),x.cells[i]?=some y→y.oneCell'=true):=by
  intro v h1 h;split at h
  ·rename_i hn;simp only[cN]at h;subst h;subst hn;refine⟨rfl,fun id hid=>by simpa[b8]using hid,fun P μ φ x hx=>?_⟩;grind
  ·cases h
 have agZ:∀x:Value,x.oneCell'=true→x.cells= #[x]:=by intro x hx;cases x<;>first|rfl|(simp[Value.oneCell']at hx)
 unfold toCells at h;split at h
 ·rename_i ps;split at h
  ·rename_i hn;simp only[cN]at h;subst h;refine⟨by simpa using hn,fun id hid=>(by rw[O2]at hid;cases hid),fun P μ φ x hx=>?_⟩;cases hx with
   |pv hx=>cases hx with
    |agg h1 h2 h3=>refine⟨by simp only[Value.cells];omega,fun i u y hu hy=>?_,h3⟩;simp only[IN,adr]at hu;obtain⟨q,hq,rfl⟩:=hu;exact .pv (h2 i q y hq hy)
  ·cases h
 ·split at h
  ·rename_i hn;simp only[cN]at h;subst h;refine⟨hn,fun id hid=>by simpa[V.has]using hid,fun P μ φ x hx=>?_⟩;cases hx with
   |agg h1 h2 h3=>grind [Value.cells]
  ·cases h
 ·cases h
 ·cases h
 ·cases h
 ·cases h
 ·rename_i h1 h2 h3 h4 h5 h6;refine one v (fun P μ φ x hx=>?_) h;have:x.oneCell'=true:=by
   cases hx with
   |pv hp=>exact hp.one (fun cs e=>h1 cs (by rw[e])) (fun cs e=>h5 cs (by rw[e])) (fun e=>h6 (by rw[e]))
   |agg=>exact absurd rfl (h2 _)
   |aP=>exact absurd rfl (h4 _)
   |top=>exact absurd rfl h3
   |fn=>exact Hd _ _
   |_=>rfl
  simp_all
theorem uw:∀(d:Nat){v:V}{p:PV}{x:Value},lx cM d v=some p→af P μ φ v x→ai P μ p x
 |0,v,p,x,h,_=>by simp[lx]at h
 |d+1,v,p,x,h,hx=>by
  have ih:=fun{v p x}=> @uw d v p x;cases v with
  |pv q=>simp[lx]at h;subst h;cases hx with|pv hx=>exact hx
  |iq=>simp[lx]at h;subst h;cases hx;exact .ly
  |agg cs=>
   simp only[lx]at h;obtain⟨ps,pM,h⟩:=cT.1 h;simp only[cN]at h;subst h;obtain⟨h1,h2⟩:=gP pM;cases hx with
   |agg g1 g2 g3=>refine .agg (by omega) (fun i q y hq hy=>?_) g3;obtain⟨u,hu,hg⟩:=h2 i q hq;exact ih hg (g2 i u y hu hy)
  |aP cs=>
   simp only[lx]at h;obtain⟨ps,pM,h⟩:=cT.1 h;simp only[cN]at h;subst h;obtain⟨h1,h2⟩:=gP pM;cases hx with
   |aP g1 g2=>refine .aP (by omega) (fun i q y hq hy=>?_);obtain⟨u,hu,hg⟩:=h2 i q hq;exact ih hg (g2 i u y hu hy)
  |op id off=>simp[lx,cM]at h
  |oe id i off=>simp[lx,cM]at h
  |os id=>simp[lx,cM]at h
  |fL id lo len=>simp[lx,cM]at h
  |wI id i off=>simp[lx,cM]at h
  |Ar id i off s j off2=>simp[lx]at h
  |om id=>simp[lx,cM]at h
  |fn f cs=>
   simp only[lx]at h;obtain⟨ps,pM,h⟩:=cT.1 h;simp only[cN]at h;subst h;obtain⟨h1,h2⟩:=gP pM;cases hx with
   |fn g1 g2=>refine .fn (by omega) (fun i q y hq hy=>?_);obtain⟨u,hu,hg⟩:=h2 i q hq;exact ih hg (g2 i u y hu hy)
  |yl id=>simp[lx]at h
  |it id=>simp[lx]at h
  |top=>simp[lx]at h
def kg(w:World):Ro:=fun b=>w.heap[b]?
theorem av.yw(hM:av P G w0 μ φ m w):∀b o,μ b=some o→kg w b=some o:=hM.ro
variable{id s:Nat}{et:TypeId}{es:List PV}{ν:Ro}
theorem aH.IE(hA:aH P μ φ w id s et es){g:Nat}(hg:(φ id).g=some g){lo len:Nat}(hl:lo+len≤es.length){cap:Nat}(qI:cap≤(φ id).cap-lo)(hlc:len≤cap)(hν:∀b o,μ b=some o→ν b=some o)(Gz:ν g=w.heap[g]?):ai P ν (.rs s ((es.drop lo).take len)) (.slice (some ⟨g,lo*s,none⟩) len cap):=by
 have hle:=hA.pz;obtain⟨a1,a2,a3,a4,a5,a6,a7⟩:=hA;rw[hg]at a7;obtain⟨c,T,c1,c2,c3,c4,c5⟩:=a7;have eX:∀(i:Nat)e,((es.drop lo).take len)[i]?=some e→i<len∧es[lo+i]?=some e:=fun i e hi=>oY hi;have hlen:((es.drop lo).take len).length=len:=by simp;omega
 have hb:∀(i:Nat)e(j:Nat)p,((es.drop lo).take len)[i]?=some e→e.cells[j]?=some p→(lo+i)*s+j<es.length*s:=by intro i e j p hi hj;obtain⟨_,hi⟩:=eX i e hi;have h1:=(By.1 hi).1;have h2:=(By.1 hj).1;have h3:=a5 _ e hi;have:(lo+i+1)*s≤es.length*s:=agw _ (by omega);grind
 have hc:∀(i:Nat)e(j:Nat)p,((es.drop lo).take len)[i]?=some e→e.cells[j]?=some p→c[(lo+i)*s+j]?=some (c.getD ((lo+i)*s+j) undef):=by
  intro i e j p hi hj;obtain⟨_,hi⟩:=eX i e hi;have h1:=(By.1 hi).1;have h2:=(By.1 hj).1;have h3:=a5 _ e hi;have:(lo+i+1)*s≤(φ id).cap*s:=agw _ (by omega);rw[ajV _ 1]at this;have bT:(lo+i)*s+j<c.size:=by omega
  simp_all
 have:=ai.rs (P:=P) (μ:=ν) (sz:=s) (es:=(es.drop lo).take len) (b:=g) (o:=lo*s) (cap:=cap) (fun i j=>c.getD ((lo+i)*s+j) undef) (by omega) (by omega) (fun i e hi=>a5 _ e (eX i e hi).2) (fun i e j p hi hj=>by grind [cellAt,Nat.add_mul]) (fun i e j p hi hj=>((c4 _ e j p _ (eX i e hi).2 hj (hc i e j p hi hj)).mono hν)) (fun i e j p hi hj=>c5 _ _ (hb i e j p hi hj) (hc i e j p hi hj));simp_all
theorem aH.slice(hM:av P G w0 μ φ m w)(hA:aH P μ φ w id s et es){g:Nat}(hg:(φ id).g=some g){lo len:Nat}(hl:lo+len≤es.length)(hν:∀b o,μ b=some o→ν b=some o)(Gz:ν g=w.heap[g]?):ai P ν (.rs s ((es.drop lo).take len)) (.slice (some ⟨g,lo*s,none⟩) len ((φ id).cap-lo)):=hA.IE hg hl (ajo _) (by have:=hA.pz;omega) hν Gz
variable{x:Value}
theorem aH.Hk(hA:aH P μ φ w id s et es)(hx:af P μ φ (.os id) x)(hν:∀b o,μ b=some o→ν b=some o)(Gz:∀g,(φ id).g=some g→ν g=w.heap[g]?):ai P ν (.rs s es) x:=by
 have zG:=hA;obtain⟨a1,a2,a3,a4,a5,a6,a7⟩:=hA;cases hx with
 |sK hg=>rw[hg]at a7;rw[a7.1];exact .ly
 | @os _ g hg=>have hle:=zG.pz;have:=zG.IE hg (lo:=0) (len:=es.length) (by omega) (cap:=(φ id).cap) (by omega) hle.1 hν (Gz g hg);simp_all
theorem aH.full(hM:av P G w0 μ φ m w)(hA:aH P μ φ w id s et es)(hx:af P μ φ (.os id) x)(hν:∀b o,μ b=some o→ν b=some o)(Gz:∀g,(φ id).g=some g→ν g=w.heap[g]?):ai P ν (.rs s es) x:=hA.Hk hx hν Gz
theorem eC.full{R:CP}{rs:List PV}(h:eC P μ R w s rs x)(hν:∀b o,μ b=some o→ν b=some o)(Gz:∀g,R.g=some g→ν g=w.heap[g]?):ai P ν (.rs s rs) x:=by obtain⟨⟨et,hA⟩,hV⟩:=h;exact hA.Hk hV hν Gz
theorem CU(e:PV):e.strip.cells=e.cells.map PV.oA:=by cases e<;>rfl
theorem aX.strip{sz:Nat}(h:aX P μ φ w id sz et es)(hν:∀b o,μ b=some o→ν b=some o)(Gz:∀i off g,(bH.nest sz et es).rowAt i off=true→((φ id).row i off).g=some g→ν g=w.heap[g]?):aH P ν φ w id sz et (es.map PV.strip):=by
 obtain⟨a1,a2,a3,a4,a5,a6,a7⟩:=h;refine⟨by simpa using a1,a2,a3,a4,fun i e he=>?_,a6,?_⟩
 ·rw[IN,adr]at he;obtain⟨e0,h0,rfl⟩:=he;grind [CU,List.length_map]
 ·cases hg:(φ id).g with
  |none=>simp_all
  |some g=>
   rw[hg]at a7;obtain⟨c,T,c1,c2,c3,c4,c5⟩:=a7;refine⟨c,T,c1,c2,by simpa using c3,fun i e j p x he hp hx=>?_,fun i x hi hx=>c5 i x (by simpa using hi) hx⟩;rw[IN,adr]at he;obtain⟨e0,h0,rfl⟩:=he;rw[CU,IN,adr]at hp;obtain⟨p0,JQ,rfl⟩:=hp;have hc:=c4 i e0 j p0 x h0 JQ hx;cases hr:p0.isRow with
   |false=>
    have:p0.oA=p0:=by cases p0<;>first|rfl|cases hr
    rw[this];exact(hc.O1 hr).mono hν
   |true=>
    cases p0<;>first|(cases hr;done)|skip
    rename_i s rs;exact eC.full (show eC P μ _ w s rs x from hc) hν fun g' cP=>Gz i j g' (by simp[bH.rowAt,h0,JQ,PV.isRow]) cP
theorem Rg{g o:Nat}{c:Array Value}{T:TypeId}{fz:Nat×Nat}{y:Value}(hν:ν g=w.heap[g]?)(h:w.heap[g]?=some (.cells c T fz))(hy:c[o]?=some y):cellAt ν g o=some y:=by simp[cellAt,hν,h,hy]
theorem uo(hM:av P G w0 μ φ m w){ν:Ro}(ro:∀b o,μ b=some o→ν b=some o)(own:∀id b g,m id=some b→b.owns (φ id) g→ν g=w.heap[g]?):∀(d:Nat){v:V}{p:PV}{x:Value},lx m d v=some p→af P μ φ v x→ai P ν p x
 |0,v,p,x,h,_=>by simp[lx]at h
 |d+1,v,p,x,h,hx=>by
  have ih:=fun{v p x}=> @uo hM ν ro own d v p x;cases v with
  |pv q=>simp[lx]at h;subst h;cases hx with|pv hx=>exact hx.mono ro
  |iq=>simp[lx]at h;subst h;cases hx;exact .ly
  |agg cs=>
   simp only[lx]at h;obtain⟨ps,pM,h⟩:=cT.1 h;simp only[cN]at h;subst h;obtain⟨h1,h2⟩:=gP pM;cases hx with
   |agg g1 g2 g3=>refine .agg (by omega) (fun i q y hq hy=>?_) g3;grind
  |aP cs=>
   simp only[lx]at h;obtain⟨ps,pM,h⟩:=cT.1 h;simp only[cN]at h;subst h;obtain⟨h1,h2⟩:=gP pM;cases hx with
   |aP g1 g2=>refine .aP (by omega) (fun i q y hq hy=>?_);grind
  |op id off=>
   simp only[lx]at h;split at h
   ·rename_i cs hm;obtain⟨ps,pM,h⟩:=cT.1 h;simp only[cN]at h;subst h;obtain⟨h1,h2⟩:=gP pM;obtain⟨g,c,T,hg,hh,hs,hv,uv,Ep⟩:=hM.dx id _ hm;cases hx with
    |op cP=>
     rw[hg]at cP;simp only[cN]at cP;subst cP;have eX:∀(i:Nat)p,ps[i]?=some p→c[off+i]?=some (c.getD (off+i) undef):=by
      intro i p hi;have:=(By.1 hi).1;rw[h1]at this;simp at this;have bT:off+i<c.size:=by omega
      simp_all
     refine .rp (fun i=>c.getD (off+i) undef) (fun i p hi=>Rg (own _ _ _ hm (.inl hg)) hh (eX i p hi)) (fun i p hi=>?_) (fun i hi=>?_)
     ·grind
     ·exact uv _ _ (eX i _ (cO hi))
   ·cases h
  |oe id i off=>
   have key:∀(s:Nat)(et:TypeId)(es:List PV),(m id=some (.arr s et es)∨m id=some (.qT s et es))→((es[i]?).bind fun e=>some (PV.rp ((aC s e).drop off)))=some p→ai P ν p x:=by
    intro s et es hm h;obtain⟨e,he,h⟩:=cT.1 h;simp only[cN]at h;subst h;have hA:=hM.arr hm;have zG:=hA;have abt:∀g,(φ id).g=some g→ν g=w.heap[g]?:=fun g hg=>by rcases hm with hm|hm<;>exact own _ _ _ hm (.inl hg)
    obtain⟨a1,a2,a3,a4,a5,a6,a7⟩:=hA;cases hx with
    | @oe _ _ _ g hg=>
     rw[a2];have Hl:=zG.slice hM hg (lo:=0) (len:=es.length) (by omega) ro (abt _ hg);have ag0:ai P ν (.rs s es) (.slice (some ⟨g,0,none⟩) es.length (φ id).cap):=by simpa using Hl
     obtain⟨b,o,cap,e1,hr⟩:=ag0.O3 he;simp only[Value.slice.injEq,cN,Addr.mk.injEq]at e1;obtain⟨⟨rfl,rfl,_⟩,_⟩:=e1;have:=hr.ID off;simpa using this
   grind [lx]
  |os id=>
   simp only[lx]at h;split at h
   ·rename_i s et es hm;simp only[cN]at h;subst h;exact(hM.arr (.inl hm)).full hM hx ro (fun g hg=>own _ _ _ hm (.inl hg))
   ·rename_i s et es hm;simp only[cN]at h;subst h;exact(hM.arr (.inr hm)).full hM hx ro (fun g hg=>own _ _ _ hm (.inl hg))
   ·rename_i s et es hm;simp only[cN]at h;subst h;have hN:aX P μ φ w id s et es:=hM.dx id _ hm;exact(hN.strip ro fun i off g hr hg=>own _ _ _ hm (.inr ⟨i,off,hr,hg⟩)).Hk (hx.za ro) (fun _ _ h=>h) fun g hg=>own _ _ _ hm (.inl hg)
   ·cases h
  |Ar id i off s j off2=>simp[lx]at h
  |wI id i off=>
   simp only[lx]at h;split at h
   ·rename_i s et es hm;obtain⟨e,he,h⟩:=cT.1 h;unfold adz at h;split at h
    ·rename_i s' rs hc;simp only[cN]at h;subst h;have hN:aX P μ φ w id s et es:=hM.dx id _ hm;obtain⟨_,_,_,_,⟨⟨Gq,hA⟩,_⟩,hce⟩:=hN.row (s:=s') (rs:=rs) he (by rw[hc];simp[fb]);exact hA.Hk (hx.MO (ν:=μ)) ro fun g hg=>own _ _ _ hm (.inr ⟨i,off,by simp[bH.rowAt,he,hce,PV.isRow],hg⟩)
    ·cases h
   ·cases h
  |fL id lo len=>
   have key:∀(s:Nat)(et:TypeId)(es:List PV),(m id=some (.arr s et es)∨m id=some (.qT s et es))→ai P ν (.rs s ((es.drop lo).take len)) x:=by
    intro s et es hm;have hA:=hM.arr hm;have zG:=hA;have abt:∀g,(φ id).g=some g→ν g=w.heap[g]?:=fun g hg=>by rcases hm with hm|hm<;>exact own _ _ _ hm (.inl hg)
    have hle:=hA.pz;obtain⟨a1,a2,a3,a4,a5,a6,a7⟩:=hA;cases hx with
    |rq hg=>simp;exact .ly
    | @fL _ _ _ cap g a hg hl ha hc1 Tm=>
     rw[a1]at hl;rcases ha with rfl|⟨ha,_⟩
     ·rw[a2];exact zG.IE hg hl (by omega) hc1 ro (abt _ hg)
     ·have h0:len=0:=by omega
      subst h0;simp only[ak0];exact .Gw (by omega)
   grind [lx,Option.some.injEq]
  |om id=>
   simp only[lx]at h;split at h
   ·rename_i kt es hm;simp only[cN]at h;subst h;obtain⟨g,en,clock,kk,hg,hh,hs,hk,O4,_,hv⟩:=hM.dx id _ hm;cases hx with
    |om cP=>
     rw[hg]at cP;simp only[cN]at cP;subst cP;refine .rm (show ν g=_ from(own _ _ _ hm (.inl hg)).trans hh) (by simp[hs]) (by simp) hk (fun i k hi=>?_) (fun i k e hi he=>?_) (fun i v e hi he=>?_)
     ·grind
     ·simp only[IN,adr]at hi;obtain⟨⟨a,b⟩,hq,rfl⟩:=hi;exact(hv i a b e hq he).1.mono ro
     ·simp only[IN,adr]at hi;obtain⟨⟨a,b⟩,hq,rfl⟩:=hi;exact(hv i a b e hq he).2.mono ro
   ·rename_i kt e0 es hm;simp only[cN]at h;subst h;obtain⟨g,en,clock,kk,hg,hh,hs,hk,O4,_,hv⟩:=hM.dx id _ hm;cases hx with
    |om cP=>
     rw[hg]at cP;simp only[cN]at cP;subst cP;refine .rm (show ν g=_ from(own _ _ _ hm (.inl hg)).trans hh) (by simp[hs]) (by simp) hk (fun i k hi=>?_) (fun i k e hi he=>?_) (fun i v e hi he=>?_)
     ·grind
     ·simp only[IN,adr]at hi;obtain⟨⟨a,b⟩,hq,rfl⟩:=hi;exact(hv i a b e hq he).1.mono ro
     ·simp only[IN,adr]at hi;obtain⟨⟨a,b⟩,hq,rfl⟩:=hi;have h2:=(hv i a b e hq he).2;cases hr:b.isRow with
      |false=>
       have e1:b.oA=b:=by cases b<;>first|rfl|cases hr
       simp only[e1];split at h2
       ·cases hr
       ·exact h2.mono ro
      |true=>
       cases b<;>first|(cases hr;done)|skip
       exact h2.1.Hk h2.2 ro fun g' cP=>own _ _ _ hm (.inr ⟨i,0,by simp[bH.rowAt,hq,PV.isRow],cP⟩)
   ·cases h
  |fn f cs=>
   simp only[lx]at h;obtain⟨ps,pM,h⟩:=cT.1 h;simp only[cN]at h;subst h;obtain⟨h1,h2⟩:=gP pM;cases hx with
   |fn g1 g2=>refine .fn (by omega) (fun i q y hq hy=>?_);grind
  |yl id=>simp[lx]at h
  |it id=>simp[lx]at h
  |top=>simp[lx]at h
end
section
variable {P:Program} {w:World}
def valOf:PV→Value
 |.int k n=>.int k n
 |.bool b=>.bool b
 |.str s=>.string ⟨s.toArray⟩
 |_=>undef
def eD(P:Program)(t:TypeId)(ps:List PV):Value:=if ax P t then .agg (ps.map valOf).toArray else valOf (ps.headD .bad)
theorem Hm{μ:Ro}{k:Kd}{p:PV}{y:Value}(h:ug k p=true)(hy:ai P μ p y):y=valOf p:=by cases k<;>cases p<;>simp[ug]at h<;>cases hy<;>rfl
theorem qJ:∀{ks:List Kd}{ps:List PV},lN ks ps=true→ps.length=ks.length
 |[],[],_=>rfl
 |[],_::_,h=>by simp[lN]at h
 |_::_,[],h=>by simp[lN]at h
 |k::ks,p::ps,h=>by simp[lN]at h;simp[qJ h.2]
theorem O5:∀{ks:List Kd}{ps:List PV},lN ks ps=true→∀(i:Nat)p,ps[i]?=some p→∃k,ks[i]?=some k∧ug k p=true
 |[],[],_,i,p,hi=>by simp at hi
 |[],_::_,h,_,_,_=>by simp[lN]at h
 |_::_,[],h,_,_,_=>by simp[lN]at h
 |k::ks,q::ps,h,i,p,hi=>by
  simp[lN]at h;cases i with
  |zero=>simp at hi;subst hi;exact⟨k,by simp,h.1⟩
  |succ i=>simp at hi;simpa using O5 h.2 i p hi
theorem rA:∀(a b:List Kd)(ps:List PV),lN (a++b) ps=true↔lN a (ps.take a.length)=true∧lN b (ps.drop a.length)=true
 |[],b,ps=>by simp[lN]
 |k::a,b,[]=>by simp[lN]
 |k::a,b,p::ps=>by simp[lN,rA,OF,and_assoc]
theorem wT:∀(n:Nat)(ps qs:List PV),n≤ps.length→n≤qs.length→cz ps qs=(cz (ps.take n) (qs.take n)&&cz (ps.drop n) (qs.drop n))
 |0,ps,qs,_,_=>by rfl
 |n+1,[],_,h,_=>by simp at h
 |n+1,_::_,[],_,h=>by rfl
 |n+1,p::ps,q::qs,h1,h2=>by simp only[ajj,Nat.add_le_add_iff_right]at h1 h2;simp only[cz,List.take_succ_cons,List.drop_succ_cons,wT n ps qs h1 h2,Bool.and_assoc]
variable{ks:List Kd}{ps:List PV}
theorem tp{μ:Ro}{xs:Array Value}(hk:lN ks ps=true)(hl:xs.size=ps.length)(hv:∀(i:Nat)p y,ps[i]?=some p→xs[i]?=some y→ai P μ p y):xs=(ps.map valOf).toArray:=by
 apply akJ;apply ajw;intro i;by_cases hi:i<ps.length
 ·have h1:ps[i]?=some ps[i]:=cO hi;grind [Array.getElem?_eq_getElem,O5,Hm]
 ·simp[hi,hl]
theorem ze(a:List Kd):∀n,(re a n).length=n*a.length
 |0=>by simp[re]
 |n+1=>by simp[re,ze a n,ajV];omega
theorem ng{k:Kd}(h:lN [k] ps=true):∃p,ps=[p]∧ug k p=true:=by
 cases ps with
 |nil=>simp[lN]at h
 |cons p r=>cases r with
  |nil=>exact⟨p,rfl,by simpa[lN]using h⟩
  |cons q r=>simp[lN]at h
theorem yy{d:Nat}{t:TypeId}(h:BP P d t=some ks):(ax P t=true→ks.length=aO P t)∧(ax P t=false→ks.length=1)∧∃de,P.underlying t=some de:=by
 cases d with
 |zero=>simp[BP]at h
 |succ d=>
  unfold BP at h;split at h
  ·grind [ax]
  ·grind [ax]
  ·grind [ax]
  ·rename_i fs hu;split at h
   ·cases h
   ·obtain⟨a,ha,h⟩:=cT.1 h;grind [ax]
  ·rename_i n e hu;obtain⟨a,ha,h⟩:=cT.1 h;grind [ax,ze]
  ·cases h
theorem kK{d:Nat}{t:TypeId}{off:Nat}(h:BP P d t=some ks)(hl:off+ks.length≤ps.length):(part t (ps.map valOf).toArray off).run P w=.ok (eD P t ((ps.drop off).take ks.length)) w:=by
 obtain⟨h1,h2,de,hu⟩:=yy h;cases ha:ax P t with
 |true=>rw[AD ha];congr 1;simp only[eD,ha,IS];simp_all
 |false=>
  have hk:=h2 ha;rw[hk]at hl⊢;have bT:off<ps.length:=by omega
  rw[AE hu ha (y:=valOf ps[off]) (by simp[bT])];congr 1;simp only[eD,ha,cQ,S3];rw[aj8 bT];rfl
theorem pN:∀(d:Nat)(t:TypeId)(ks:List Kd),BP P d t=some ks→∀(D:Nat)(w:World)(ps qs:List PV),lN ks ps=true→lN ks qs=true→(Op.equalIn (D+d) t (eD P t ps) (eD P t qs)).run P w=.ok (cz ps qs) w
 |0,t,ks,h,_,_,_,_,_,_=>by simp[BP]at h
 |d+1,t,ks,h,D,w,ps,qs,hp,hq=>by
  have ih:=pN d;have h0:=h;unfold BP at h;split at h
  ·rename_i q hu;simp only[cN]at h;subst h;have ha:ax P t=false:=by simp[ax,hu]
   obtain⟨p,rfl,YH⟩:=ng hp;obtain⟨q',rfl,hkq⟩:=ng hq;clear hp hq;cases p<;>simp[ug]at YH;cases q'<;>simp[ug]at hkq;subst YH;subst hkq;simp[eD,ha,valOf,cz,peq,←ajU,Op.equalIn,run_underlying hu]
  ·rename_i hu;simp only[cN]at h;subst h;have ha:ax P t=false:=by simp[ax,hu]
   obtain⟨p,rfl,YH⟩:=ng hp;obtain⟨q',rfl,hkq⟩:=ng hq;clear hp hq;cases p<;>simp[ug]at YH;cases q'<;>simp[ug]at hkq;simp[eD,ha,valOf,cz,peq,←ajU,Op.equalIn,run_underlying hu]
  ·rename_i hu;simp only[cN]at h;subst h;have ha:ax P t=false:=by simp[ax,hu]
   obtain⟨p,rfl,YH⟩:=ng hp;obtain⟨q',rfl,hkq⟩:=ng hq;clear hp hq;cases p<;>simp[ug]at YH;cases q'<;>simp[ug]at hkq;simp only[eD,ha,valOf,cz,peq,←ajU,cQ,S3,List.headD_cons,akw];simp_all[run_equalIn_string,ByteArray.toList_eq]
  ·rename_i fs hu;split at h
   ·cases h
   ·rename_i uf;obtain⟨a,ha,h⟩:=cT.1 h;split at h
    ·rename_i hlen;simp only[cN]at h;subst h;have My:ax P t=true:=by simp[ax,hu]
     have hfo:P.fieldsOf t=fs:=by simp[Program.fieldsOf,hu]
     simp only[eD,My,IS,←ajU];rw[run_equalIn_struct w (D+d) t _ _ (by rw[hfo];omega) (by simpa using uf),hfo];have key:∀(L:List Field)(off:Nat)(b:List Kd)(w:World),q9 (BP P d) L off=some b→off≤ps.length→off≤qs.length→lN b (ps.drop off)=true→lN b (qs.drop off)=true→(Op.eqFields (D+d) (ps.map valOf).toArray (qs.map valOf).toArray L).run P w=.ok (cz (ps.drop off) (qs.drop off)) w:=by
      intro L;induction L with
      |nil=>
       intro off b w hb o1 o2 h1 h2;simp only[q9,cN]at hb;subst hb;have e1:ps.drop off=[]:=by cases hh:ps.drop off with|nil=>rfl|cons x r=>rw[hh]at h1;simp[lN]at h1
       have e2:qs.drop off=[]:=by cases hh:qs.drop off with|nil=>rfl|cons x r=>rw[hh]at h2;simp[lN]at h2
       simp[Op.eqFields,e1,e2,cz]
      |cons f L ihL=>
       intro off b w hb o1 o2 h1 h2;simp only[q9]at hb;split at hb
       ·rename_i hf;obtain⟨c,hc,hb⟩:=cT.1 hb;obtain⟨b',jG,hb⟩:=cT.1 hb;simp only[cN]at hb;subst hb;rw[rA]at h1 h2;have l1:=qJ h1.1;have l2:=qJ h2.1;simp only[ajP,alj]at l1 l2;have p1:=kK (w:=w) (ps:=ps) (off:=off) hc (by omega);have p2:=kK (w:=w) (ps:=qs) (off:=off) hc (by omega);have p3:=ih f.type c hc D w _ _ h1.1 h2.1;have p4:=ihL (off+c.length) b' w jG (by omega) (by omega) (by simp_all) (by simp_all);simp only[Op.eqFields,hf.2,ne_eq,not_false_eq_true,IS,Sem.run_bind,hf.1,p1,p2,p3,Result.andThen_ok];rw[wT c.length (ps.drop off) (qs.drop off) (by simp;omega) (by simp;omega),ak1,ak1];cases hr:cz ((ps.drop off).take c.length) ((qs.drop off).take c.length)with
        |false=>simp
        |true=>simpa using p4
       ·cases hb
     grind
    ·cases h
  ·rename_i n e hu;obtain⟨a,ha,h⟩:=cT.1 h;split at h
   ·rename_i hlen;simp only[cN]at h;subst h;have My:ax P t=true:=by simp[ax,hu]
    obtain⟨_,_,de,hde⟩:=yy ha;obtain⟨i,hi⟩:∃i,P.info? e=some i:=by unfold Program.underlying at hde;grind
    have oD:P.cellsOf e=a.length:=hlen.1.symm;simp only[eD,My,IS,←ajU];rw[run_equalIn_array w (D+d) _ _ hu hi,oD];have key:∀(k j:Nat)(w:World),j+k=n→j*a.length≤ps.length→j*a.length≤qs.length→lN (re a k) (ps.drop (j*a.length))=true→lN (re a k) (qs.drop (j*a.length))=true→(Op.eqItems (D+d) e a.length (ps.map valOf).toArray (qs.map valOf).toArray (List.range' j k)).run P w=.ok (cz (ps.drop (j*a.length)) (qs.drop (j*a.length))) w:=by
     intro k;induction k with
     |zero=>
      intro j w _ _ _ h1 h2;simp only[re]at h1 h2;have e1:ps.drop (j*a.length)=[]:=by cases hh:ps.drop (j*a.length)with|nil=>rfl|cons x r=>rw[hh]at h1;simp[lN]at h1
      have e2:qs.drop (j*a.length)=[]:=by cases hh:qs.drop (j*a.length)with|nil=>rfl|cons x r=>rw[hh]at h2;simp[lN]at h2
      simp[Op.eqItems,e1,e2,cz]
     |succ k ihk=>
      intro j w hj o1 o2 h1 h2;simp only[re]at h1 h2;rw[rA]at h1 h2;have l1:=qJ h1.1;have l2:=qJ h2.1;simp only[ajP,alj]at l1 l2;have p1:=kK (w:=w) (ps:=ps) (off:=j*a.length) ha (by omega);have p2:=kK (w:=w) (ps:=qs) (off:=j*a.length) ha (by omega);have p3:=ih e a ha D w _ _ h1.1 h2.1;have ej:(j+1)*a.length=j*a.length+a.length:=by rw[ajV];omega
      have p4:=ihk (j+1) w (by omega) (by omega) (by omega) (by simp_all) (by simp_all);rw[ak4];simp only[Op.eqItems,Sem.run_bind,p1,p2,p3,Result.andThen_ok];rw[wT a.length (ps.drop (j*a.length)) (qs.drop (j*a.length)) (by simp;omega) (by simp;omega),ak1,ak1,←ej];cases hr:cz ((ps.drop (j*a.length)).take a.length) ((qs.drop (j*a.length)).take a.length)with
      |false=>simp
      |true=>simpa using p4
    simp_all[akZ]
   ·cases h
  ·cases h
end
section
variable {R:Type} {E:Env}
theorem YI{k:IntKind}{x y:Int}(hx:(Lit.int k x).wf=true):(Lit.int k (x.tmod y)).wf=true:=by
 rw[oX]at*;have h0:k.min≤0∧0≤k.max:=by grind [IntKind.min,IntKind.max,IntKind.signed,IntKind.bits]
 rcases Int.le_total 0 x with h|h
 ·have h1:=Int.tmod_nonneg y h;have h2:x.tmod y≤x:=by have:=Int.natAbs_tmod x y;have h3:x.natAbs%y.natAbs≤x.natAbs:=Nat.mod_le _ _;omega
  omega
 ·have h1:x.tmod y= -((-x).tmod y):=by simp
  have h2:=Int.tmod_nonneg y (show 0≤-x by omega);have h3:(-x).tmod y≤-x:=by have:=Int.natAbs_tmod (-x) y;have h3:(-x).natAbs%y.natAbs≤(-x).natAbs:=Nat.mod_le _ _;omega
  omega
theorem YJ{k:IntKind}{x:Int}(n:Nat)(hx:(Lit.int k x).wf=true):(Lit.int k (x.fdiv (2^n))).wf=true:=by
 rw[oX]at*;have h0:k.min≤0∧0≤k.max:=by grind [IntKind.min,IntKind.max,IntKind.signed,IntKind.bits]
 have hp:(0:Int)<2^n:=Int.pow_pos (by omega);rw[aly _ (by omega)];rcases Int.le_total 0 x with h|h
 ·have h1:=alZ h (Int.le_of_lt hp);have h2:=Int.ediv_le_self (2^n) h;omega
 ·have h1:x/2^n≤0:=Int.ediv_nonpos_of_nonpos_of_neg h hp;have h2:x≤x/2^n:=by rw[Int.le_ediv_iff_mul_le hp];have:x*2^n≤x*1:=Int.mul_le_mul_of_nonpos_left h (by omega);omega
  omega
variable{P:Program}{t:TypeId}
theorem Hn{ps:List PV}(ha:ax P t=true):eD P t ps=.agg (ps.map valOf).toArray:=by simp[eD,ha]
def Ho(P:Program)(t:TypeId):Bool:=P.eqGuardType P.depth t
def tt(op:BinOp)(t:TypeId)(ox oy:Operand)(x y:Value):Sem Value:=do eqGuard op t ox oy x y;binOp op t x y
variable{x y:Value}{w:World}
theorem iY{b:Bool}(hb:binOp .eql t x y=(do pure (.bool (←Op.equal t x y))))(h:(Op.equalIn 10000 t x y).run P w=.ok b w):(binOp .eql t x y).run P w=.ok (.bool b) w:=by simp_all[Op.equal,Op.maxDepth,Sem.run_bind,Result.andThen_ok,Sem.run_pure]
theorem iZ{b:Bool}(hb:binOp .neq t x y=(do pure (.bool (!(←Op.equal t x y)))))(h:(Op.equalIn 10000 t x y).run P w=.ok b w):(binOp .neq t x y).run P w=.ok (.bool (!b)) w:=by simp_all[Op.equal,Op.maxDepth,Sem.run_bind,Result.andThen_ok,Sem.run_pure]
theorem bP{op:BinOp}{ox oy:Operand}{z:Value}(h1:(eqGuard op t ox oy x y).run P w=.ok () w)(h2:(binOp op t x y).run P w=.ok z w):(tt op t ox oy x y).run P w=.ok z w:=by simp_all[tt,Sem.run_bind,Result.andThen_ok]
theorem mM{e:TypeId}(hu:P.underlying t=some (.pointer e))(a:Option Addr):(Op.equalIn 10000 t (.pointer a) (.pointer none)).run P w=.ok a.isNone w:=by show(Op.equalIn (9999+1) t (.pointer a) (.pointer none)).run P w=.ok a.isNone w;cases a<;>(unfold Op.equalIn;simp only[Sem.run_bind,run_underlying hu,Result.andThen_ok];rfl)
theorem ve{a b:Array TypeId}{c:Bool}(hu:P.underlying t=some (.func a b c))(f:Fn)(xs ys:Array Value):(Op.equalIn 10000 t (.func f xs ys) .nilFunc).run P w=.ok false w:=by show(Op.equalIn (9999+1) t (.func f xs ys) .nilFunc).run P w=.ok false w;unfold Op.equalIn;simp only[Sem.run_bind,run_underlying hu,Result.andThen_ok];rfl
variable{k:PV→Option R}{a:V}{r:R}
theorem YK{op:BinOp}{b:V}(h:mQ E op t a b k=some r):∃q,(∀(R':Type)(k':PV→Option R'),mQ E op t a b k'=k' q)∧k q=some r∧∀(μ:Ro)(φ:Nat→aA)(w:World)(ox oy:Operand)(x y:Value),af E.P μ φ a x→af E.P μ φ b y→∃z,(tt op t ox oy x y).run E.P w=.ok z w∧ai E.P μ q z:=by
 unfold mQ at h;split at h
 ·rename_i q x q' y;have ints:∀(μ:Ro)(φ:Nat→aA)(u v:Value),af E.P μ φ (.pv (.int q x)) u→af E.P μ φ (.pv (.int q' y)) v→u=.int q x∧v=.int q' y∧(Lit.int q x).wf=true:=by intro μ φ u v hu hv;cases hu with|pv hu=>cases hu with|int h1=>cases hv with|pv hv=>cases hv with|int h2=>exact⟨rfl,rfl,h1⟩
  cases op;case shl=>
   simp only at h;split at h
   ·cases h
   ·rename_i hy;refine⟨_,fun R' k'=>by simp[mQ,hy],h,fun μ φ w ox oy u v hu hv=>?_⟩;obtain⟨rfl,rfl,_⟩:=ints μ φ u v hu hv;exact⟨_,by simp[tt,eqGuard,binOp,Op.shift,hy],.int (wf_wrap _ _)⟩
  case shr=>
   simp only at h;split at h
   ·cases h
   ·rename_i hy;refine⟨_,fun R' k'=>by simp[mQ,hy],h,fun μ φ w ox oy u v hu hv=>?_⟩;obtain⟨rfl,rfl,hw⟩:=ints μ φ u v hu hv;exact⟨_,by simp[tt,eqGuard,binOp,Op.shift,hy],.int (YJ _ hw)⟩
  case quo=>
   simp only at h;split at h
   ·rename_i hq;subst hq;split at h
    ·cases h
    ·rename_i hy;refine⟨_,fun R' k'=>by simp[mQ,hy],h,fun μ φ w ox oy u v hu hv=>?_⟩;obtain⟨rfl,rfl,_⟩:=ints μ φ u v hu hv;exact⟨_,by simp[tt,eqGuard,binOp,Op.intDiv,hy],.int (wf_wrap _ _)⟩
   ·cases h
  case rem=>
   simp only at h;split at h
   ·rename_i hq;subst hq;split at h
    ·cases h
    ·rename_i hy;refine⟨_,fun R' k'=>by simp[mQ,hy],h,fun μ φ w ox oy u v hu hv=>?_⟩;obtain⟨rfl,rfl,hw⟩:=ints μ φ u v hu hv;exact⟨_,by simp[tt,eqGuard,binOp,Op.intDiv,hy],.int (YI hw)⟩
   ·cases h
  case eql|neq|lss|leq|gtr|geq=>
   simp only at h;split at h
   ·rename_i hq;subst hq;refine⟨_,fun R' k'=>by simp[mQ],h,fun μ φ w ox oy u v hu hv=>?_⟩;obtain⟨rfl,rfl,_⟩:=ints μ φ u v hu hv;refine⟨_,bP (by rw[eqGuard_at_int];rfl) ?_,.bool⟩;first|rw[binOp_eql]|rw[binOp_neq]|rw[binOp_lss]|rw[binOp_leq]|rw[binOp_gtr]|rw[binOp_geq]
    rfl
   ·cases h
  all_goals
   simp only at h;split at h
   ·rename_i hq;subst hq;refine⟨_,fun R' k'=>by simp[mQ],h,fun μ φ w ox oy u v hu hv=>?_⟩;obtain⟨rfl,rfl,_⟩:=ints μ φ u v hu hv;refine⟨_,bP (by rw[eqGuard_at_int];rfl) ?_,.int (wf_wrap _ _)⟩;first|rw[binOp_add]|rw[binOp_sub]|rw[binOp_mul]|rw[binOp_and]|rw[binOp_or]|rw[binOp_xor]|rw[binOp_andNot]
    rfl
   ·cases h
 ·rename_i x y;have strs:∀(μ:Ro)(φ:Nat→aA)(u v:Value),af E.P μ φ (.pv (.str x)) u→af E.P μ φ (.pv (.str y)) v→u=.string ⟨x.toArray⟩∧v=.string ⟨y.toArray⟩:=by intro μ φ u v hu hv;cases hu with|pv hu=>cases hu with|str h1=>cases hv with|pv hv=>cases hv with|str h2=>exact⟨rfl,rfl⟩
  cases op;case add=>
   simp only at h;split at h
   ·rename_i fg;have hy:¬((x.length+y.length:Nat):Int)>IntKind.i64.max:=by have:=E.lp.uW _ fg;omega
    refine⟨_,fun R' k'=>by simp only[mQ];rw[GW fg],h,fun μ φ w ox oy u v hu hv=>?_⟩;obtain⟨rfl,rfl⟩:=strs μ φ u v hu hv;refine⟨.string ⟨(x++y).toArray⟩,?_,.str ?_⟩
    ·simp only[tt,eqGuard,binOp,Op.stringOp,Sem.run_bind];have e:(⟨x.toArray⟩++⟨y.toArray⟩:ByteArray)=⟨(x++y).toArray⟩:=by apply ByteArray.ext;simp
     simp only[Er,e];rw[No hy];simp
    ·simp only[maxLen];simp only[IntKind.max_i64]at hy;simp;omega
   ·cases h
  case eql|neq|lss|leq|gtr|geq=>simp only at h;refine⟨_,fun R' k'=>by simp only[mQ],h,fun μ φ w ox oy u v hu hv=>?_⟩;obtain⟨rfl,rfl⟩:=strs μ φ u v hu hv;refine⟨_,bP (by rw[eqGuard_at_string];rfl) ?_,.bool⟩;simp only[binOp,Op.stringOp,ByteArray.toList_eq];rfl
  all_goals (simp only at h;cases h)
 ·rename_i x y;have aat:∀(μ:Ro)(φ:Nat→aA)(u v:Value),af E.P μ φ (.pv (.bool x)) u→af E.P μ φ (.pv (.bool y)) v→u=.bool x∧v=.bool y:=by intro μ φ u v hu hv;cases hu with|pv hu=>cases hu with|bool=>cases hv with|pv hv=>cases hv with|bool=>exact⟨rfl,rfl⟩
  split at h
  ·rename_i rB;refine⟨_,fun R' k'=>by simp only[mQ,rB],h,fun μ φ w ox oy u v hu hv=>?_⟩;obtain⟨rfl,rfl⟩:=aat μ φ u v hu hv;exact⟨_,bP (by rw[eqGuard_at_bool];rfl) (iY rfl (run_equalIn_bool w _ _ _ _ rB)),.bool⟩
  ·rename_i rB;refine⟨_,fun R' k'=>by simp only[mQ,rB],h,fun μ φ w ox oy u v hu hv=>?_⟩;obtain⟨rfl,rfl⟩:=aat μ φ u v hu hv;exact⟨_,bP (by rw[eqGuard_at_bool];rfl) (iZ rfl (run_equalIn_bool w _ _ _ _ rB)),.bool⟩
  ·cases h
 ·split at h
  ·rename_i rB;refine⟨_,fun R' k'=>by simp only[mQ,rB],h,fun μ φ w ox oy u v hu hv=>?_⟩;cases hu with|pv hu=>cases hu;cases hv with|pv hv=>cases hv;exact⟨_,bP (by rw[eqGuard_at_pointer];rfl) (iY rfl (mM rB none)),.bool⟩
  ·rename_i rB;refine⟨_,fun R' k'=>by simp only[mQ,rB],h,fun μ φ w ox oy u v hu hv=>?_⟩;cases hu with|pv hu=>cases hu;cases hv with|pv hv=>cases hv;exact⟨_,bP (by rw[eqGuard_at_pointer];rfl) (iZ rfl (mM rB none)),.bool⟩
  ·cases h
 ·split at h
  ·rename_i rB;refine⟨_,fun R' k'=>by simp only[mQ,rB],h,fun μ φ w ox oy u v hu hv=>?_⟩;cases hu with| @fn f0 _ xs0=>cases hv with|pv hv=>cases hv;obtain⟨g0,a0,b0,e0⟩:=rz _ xs0;rw[e0];exact⟨_,bP (by rw[eqGuard_at_func];rfl) (iY rfl (ve rB _ _ _)),.bool⟩
  ·rename_i rB;refine⟨_,fun R' k'=>by simp only[mQ,rB],h,fun μ φ w ox oy u v hu hv=>?_⟩;cases hu with| @fn f0 _ xs0=>cases hv with|pv hv=>cases hv;obtain⟨g0,a0,b0,e0⟩:=rz _ xs0;rw[e0];exact⟨_,bP (by rw[eqGuard_at_func];rfl) (iZ rfl (ve rB _ _ _)),.bool⟩
  ·cases h
 ·split at h
  ·rename_i rB;refine⟨_,fun R' k'=>by simp only[mQ,rB],h,fun μ φ w ox oy u v hu hv=>?_⟩;cases hu with|pv hu=>cases hu with| @fn f0 _ xs0=>cases hv with|pv hv=>cases hv;obtain⟨g0,a0,b0,e0⟩:=rz _ xs0;rw[e0];exact⟨_,bP (by rw[eqGuard_at_func];rfl) (iY rfl (ve rB _ _ _)),.bool⟩
  ·rename_i rB;refine⟨_,fun R' k'=>by simp only[mQ,rB],h,fun μ φ w ox oy u v hu hv=>?_⟩;cases hu with|pv hu=>cases hu with| @fn f0 _ xs0=>cases hv with|pv hv=>cases hv;obtain⟨g0,a0,b0,e0⟩:=rz _ xs0;rw[e0];exact⟨_,bP (by rw[eqGuard_at_func];rfl) (iZ rfl (ve rB _ _ _)),.bool⟩
  ·cases h
 ·split at h
  ·rename_i rB;refine⟨_,fun R' k'=>by simp only[mQ,rB],h,fun μ φ w ox oy u v hu hv=>?_⟩;cases hu with|pv hu=>cases hu;cases hv with|pv hv=>cases hv;exact⟨_,bP (by rw[eqGuard_at_pointer];rfl) (iY rfl (mM rB _)),.bool⟩
  ·rename_i rB;refine⟨_,fun R' k'=>by simp only[mQ,rB],h,fun μ φ w ox oy u v hu hv=>?_⟩;cases hu with|pv hu=>cases hu;cases hv with|pv hv=>cases hv;exact⟨_,bP (by rw[eqGuard_at_pointer];rfl) (iZ rfl (mM rB _)),.bool⟩
  ·cases h
 ·split at h
  ·rename_i rB;refine⟨_,fun R' k'=>by simp only[mQ,rB],h,fun μ φ w ox oy u v hu hv=>?_⟩;cases hu with|op hg=>cases hv with|pv hv=>cases hv;exact⟨_,bP (by rw[eqGuard_at_pointer];rfl) (iY rfl (mM rB _)),.bool⟩
  ·rename_i rB;refine⟨_,fun R' k'=>by simp only[mQ,rB],h,fun μ φ w ox oy u v hu hv=>?_⟩;cases hu with|op hg=>cases hv with|pv hv=>cases hv;exact⟨_,bP (by rw[eqGuard_at_pointer];rfl) (iZ rfl (mM rB _)),.bool⟩
  ·cases h
 ·split at h
  ·rename_i rB;refine⟨_,fun R' k'=>by simp only[mQ,rB],h,fun μ φ w ox oy u v hu hv=>?_⟩;cases hu with|oe hg=>cases hv with|pv hv=>cases hv;exact⟨_,bP (by rw[eqGuard_at_pointer];rfl) (iY rfl (mM rB _)),.bool⟩
  ·rename_i rB;refine⟨_,fun R' k'=>by simp only[mQ,rB],h,fun μ φ w ox oy u v hu hv=>?_⟩;cases hu with|oe hg=>cases hv with|pv hv=>cases hv;exact⟨_,bP (by rw[eqGuard_at_pointer];rfl) (iZ rfl (mM rB _)),.bool⟩
  ·cases h
 ·rename_i n1 n2 n3 n4 m1 m2 n5 n6 n7;split at h
  ·rename_i ha;split at h
   ·rename_i ks as bs TS has hbs;split at h
    ·rename_i ps qs pM hqs;split at h
     ·rename_i hc;have hE:Ho E.P t=false∧BP E.P 8 t=some ks:=by
       unfold sU at TS;split at TS
       ·cases TS
       ·rename_i hg;exact⟨by simpa[Ho]using hg,TS⟩
      have key:∀(μ:Ro)(φ:Nat→aA)(w:World)(x y:Value),af E.P μ φ a x→af E.P μ φ b y→∃xs ys,x=.agg xs∧y=.agg ys∧(Op.equalIn 10000 t x y).run E.P w=.ok (cz ps qs) w:=by intro μ φ w x y hx hy;obtain⟨xs,rfl,g1,g2,g3⟩:=(py has).2 _ _ _ _ hx;obtain⟨ys,rfl,g4,g5,g6⟩:=(py hbs).2 _ _ _ _ hy;obtain⟨l1,l2⟩:=gP pM;obtain⟨l3,l4⟩:=gP hqs;have e1:=tp (P:=E.P) (μ:=μ) (xs:=xs) hc.1 (by omega) (fun i p z hi hz=>by obtain⟨v,hv,hg⟩:=l2 i p hi;exact uw 1 hg (g2 i v z hv hz));have e2:=tp (P:=E.P) (μ:=μ) (xs:=ys) hc.2 (by omega) (fun i p z hi hz=>by obtain⟨v,hv,hg⟩:=l4 i p hi;exact uw 1 hg (g5 i v z hv hz));refine⟨xs,ys,rfl,rfl,?_⟩;have:=pN 8 t ks hE.2 9992 w ps qs hc.1 hc.2;rw[Hn ha,Hn ha,←e1,←e2]at this;exact this
      have ag1:∀(R':Type)(k':PV→Option R'),mQ E .eql t a b k'=k' (.bool (cz ps qs)):=by
       intro R' k';unfold mQ;split
       ·exact(n1 _ _ _ _ rfl rfl).elim
       ·exact(n2 _ _ rfl rfl).elim
       ·exact(n3 _ _ rfl rfl).elim
       ·exact(n4 rfl rfl).elim
       ·exact(m1 _ _ rfl rfl).elim
       ·exact(m2 _ _ rfl rfl).elim
       ·exact(n5 _ rfl rfl).elim
       ·exact(n6 _ _ rfl rfl).elim
       ·exact(n7 _ _ _ rfl rfl).elim
       ·rw[GW ha,TS,has,hbs];simp only[pM,hqs];rw[GW hc]
      have ag2:∀(R':Type)(k':PV→Option R'),mQ E .neq t a b k'=k' (.bool (!(cz ps qs))):=by
       intro R' k';unfold mQ;split
       ·exact(n1 _ _ _ _ rfl rfl).elim
       ·exact(n2 _ _ rfl rfl).elim
       ·exact(n3 _ _ rfl rfl).elim
       ·exact(n4 rfl rfl).elim
       ·exact(m1 _ _ rfl rfl).elim
       ·exact(m2 _ _ rfl rfl).elim
       ·exact(n5 _ rfl rfl).elim
       ·exact(n6 _ _ rfl rfl).elim
       ·exact(n7 _ _ _ rfl rfl).elim
       ·rw[GW ha,TS,has,hbs];simp only[pM,hqs];rw[GW hc]
      cases op;case eql=>refine⟨_,fun R' k'=>ag1 R' k',h,fun μ φ w ox oy x y hx hy=>?_⟩;obtain⟨xs,ys,rfl,rfl,hr⟩:=key μ φ w x y hx hy;exact⟨_,bP (run_eqGuard_agg w _ _ _ _ _ _ hE.1) (iY rfl hr),.bool⟩
      case neq=>refine⟨_,fun R' k'=>ag2 R' k',h,fun μ φ w ox oy x y hx hy=>?_⟩;obtain⟨xs,ys,rfl,rfl,hr⟩:=key μ φ w x y hx hy;exact⟨_,bP (run_eqGuard_agg w _ _ _ _ _ _ hE.1) (iZ rfl hr),.bool⟩
      all_goals (simp only at h;cases h)
     ·cases h
    ·cases h
   ·cases h
  ·cases h
theorem abu{op:UnOp}(h:xun op a k=some r):∃q,(∀(R':Type)(k':PV→Option R'),xun op a k'=k' q)∧k q=some r∧∀(P:Program)(μ:Ro)(φ:Nat→aA)(w:World)(x:Value),af P μ φ a x→∃z,(Op.unary op x).run P w=.ok z w∧ai P μ q z:=by
 unfold xun at h;split at h
 ·refine⟨_,fun R' k'=>rfl,h,fun P μ φ w x hx=>?_⟩;cases hx with|pv hx=>cases hx;exact⟨_,rfl,.bool⟩
 ·refine⟨_,fun R' k'=>rfl,h,fun P μ φ w x hx=>?_⟩;cases hx with|pv hx=>cases hx;exact⟨_,rfl,.int (wf_wrap _ _)⟩
 ·refine⟨_,fun R' k'=>rfl,h,fun P μ φ w x hx=>?_⟩;cases hx with|pv hx=>cases hx;exact⟨_,rfl,.int (wf_wrap _ _)⟩
 ·cases h
theorem YM{k:IntKind}{n:Int}(h:(Lit.int k n).wf=true):k.wrap n=n:=by rw[oX]at h;cases k<;>simp only[IntKind.wrap,IntKind.min,IntKind.max,IntKind.signed,IntKind.bits]at* <;>simp at* <;>(try split)<;>omega
theorem TT{s d:TypeId}(h:D7 E s d a k=some r):∃q,(∀(R':Type)(k':PV→Option R'),D7 E s d a k'=k' q)∧k q=some r∧∀(μ:Ro)(φ:Nat→aA)(w:World)(x:Value),af E.P μ φ a x→∃z,(convert s d x).run E.P w=.ok z w∧ai E.P μ q z:=by
 unfold D7 at h;split at h
 ·rename_i q q' q'' n hs hd;split at h
  ·rename_i e1;subst e1;split at h
   ·rename_i e2;subst e2;refine⟨_,fun R' k'=>by simp[D7,hs,hd],h,fun μ φ w x hx=>?_⟩;cases hx with|pv hx=>cases hx with|int hw=>exact⟨_,by simp[convert,run_underlying hs,run_underlying hd,Conv.intToInt,YM hw],.int hw⟩
   ·rename_i e2;refine⟨_,fun R' k'=>by simp[D7,hs,hd,e2],h,fun μ φ w x hx=>?_⟩;cases hx with|pv hx=>cases hx with|int hw=>exact⟨_,by simp[convert,run_underlying hs,run_underlying hd,Conv.intToInt],.int (wf_wrap _ _)⟩
  ·cases h
 ·rename_i hs hd;refine⟨_,fun R' k'=>by simp[D7,hs,hd],h,fun μ φ w x hx=>?_⟩;cases hx with|pv hx=>cases hx with|str hl=>exact⟨_,by simp[convert,run_underlying hs,run_underlying hd],.str hl⟩
 ·cases h
theorem TU{b:V}(h:Kc a b k=some r):∃q,(∀(R':Type)(k':PV→Option R'),Kc a b k'=k' q)∧k q=some r∧∀(P:Program)(μ:Ro)(φ:Nat→aA)(w:World)(x y:Value),af P μ φ a x→af P μ φ b y→∃z,(Builtin.min2 x y).run P w=.ok z w∧ai P μ q z:=by
 unfold Kc at h;split at h
 ·split at h
  ·rename_i e;subst e;refine⟨_,fun R' k'=>by simp[Kc],h,fun P μ φ w x y hx hy=>?_⟩;cases hx with|pv hx=>cases hx with|int h1=>cases hy with|pv hy=>cases hy with|int h2=>exact⟨_,rfl,by split<;>exact .int (by assumption)⟩
  ·cases h
 ·cases h
theorem AF{b:V}(h:CI a b k=some r):∃q,(∀(R':Type)(k':PV→Option R'),CI a b k'=k' q)∧k q=some r∧∀(P:Program)(μ:Ro)(φ:Nat→aA)(w:World)(x y:Value),af P μ φ a x→af P μ φ b y→∃z,(Builtin.max2 x y).run P w=.ok z w∧ai P μ q z:=by
 unfold CI at h;split at h
 ·split at h
  ·rename_i e;subst e;refine⟨_,fun R' k'=>by simp[CI],h,fun P μ φ w x y hx hy=>?_⟩;cases hx with|pv hx=>cases hx with|int h1=>cases hy with|pv hy=>cases hy with|int h2=>exact⟨_,rfl,by split<;>exact .int (by assumption)⟩
  ·cases h
 ·cases h
theorem TV{b c d:V}(h:Ke a b c d k=some r):∃q,(∀(R':Type)(k':PV→Option R'),Ke a b c d k'=k' q)∧k q=some r∧∀(P:Program)(μ:Ro)(φ:Nat→aA)(w:World)(x y z u:Value),af P μ φ a x→af P μ φ b y→af P μ φ c z→af P μ φ d u→∃v1 v2 v3,(Builtin.max2 x y).run P w=.ok v1 w∧(Builtin.max2 v1 z).run P w=.ok v2 w∧(Builtin.max2 v2 u).run P w=.ok v3 w∧ai P μ q v3:=by unfold Ke at h;obtain⟨q1,a1,h,b1⟩:=AF h;obtain⟨q2,a2,h,b2⟩:=AF h;obtain⟨q3,a3,h,b3⟩:=AF h;refine⟨q3,fun R' k'=>by unfold Ke;rw[a1,a2,a3],h,fun P μ φ w x y z u hx hy hz hu=>?_⟩;obtain⟨v1,c1,d1⟩:=b1 P μ φ w x y hx hy;obtain⟨v2,c2,d2⟩:=b2 P μ φ w v1 z (.pv d1) hz;obtain⟨v3,c3,d3⟩:=b3 P μ φ w v2 u (.pv d2) hu;exact⟨v1,v2,v3,c1,c2,c3,d3⟩
end
section
variable {P:Program} {G:Nat→Option (List PV)} {w0:bx} {μ μ':Ro} {φ φ':Nat→aA} {m:Mem} {w w':World}
variable{b:bH}
@[simp] theorem bM(m:Mem)(d:Nat)(b:bH):ao m d b d=some b:=by simp[ao]
theorem aq{m:Mem}{d t:Nat}(h:t≠d):ao m d b t=m t:=by simp[ao,cond_eq_ite,h]
@[simp] theorem aau(m:Mem)(d:Nat):bg m d d=none:=by simp[bg]
theorem gi{m:Mem}{d t:Nat}(h:t≠d):bg m d t=m t:=by simp[bg,cond_eq_ite,h]
@[simp] theorem zH(f:Fr)(d:Nat)(v:V):gp f d v d=v:=by simp[gp]
theorem rC{f:Fr}{d t:Nat}{v:V}(h:t≠d):gp f d v t=f t:=by simp[gp,cond_eq_ite,h]
variable{id sz:Nat}{et:TypeId}{es:List PV}
theorem aH.cg(h:aH P μ φ w id sz et es)(hφ:φ' id=φ id)(hμ:∀b o,μ b=some o→μ' b=some o)(hw:∀g,(φ id).g=some g→w'.heap[g]?=w.heap[g]?):aH P μ' φ' w' id sz et es:=by
 obtain⟨a1,a2,a3,a4,a5,a6,a7⟩:=h;unfold aH;rw[hφ];refine⟨a1,a2,a3,a4,a5,a6,?_⟩;cases hg:(φ id).g with
 |none=>rw[hg]at a7;omega
 |some g=>rw[hg]at a7;obtain⟨c,T,c1,c2,c3,c4,c5⟩:=a7;exact⟨c,T,by rw[hw g hg];omega,c2,c3,fun i e j p x h1 h2 h3=>(c4 i e j p x h1 h2 h3).mono hμ,c5⟩
theorem eC.cg{R:CP}{s:Nat}{rs:List PV}{x:Value}(h:eC P μ R w s rs x)(hμ:∀b o,μ b=some o→μ' b=some o)(hw:∀g,R.g=some g→w'.heap[g]?=w.heap[g]?):eC P μ' R w' s rs x:=
 let⟨⟨et,hA⟩,hV⟩:=h
 ⟨⟨et,hA.cg rfl hμ hw⟩,hV.za hμ⟩
theorem dX.cg{R:CP}{p:PV}{x:Value}(h:dX P μ R w p x)(hμ:∀b o,μ b=some o→μ' b=some o)(hw:p.isRow=true→∀g,R.g=some g→w'.heap[g]?=w.heap[g]?):dX P μ' R w' p x:=by
 unfold dX at*;split at h
 ·exact eC.cg h hμ (hw rfl)
 ·exact h.mono hμ
variable{i j:Nat}
theorem dt{e p:PV}(he:es[i]?=some e)(hp:e.cells[j]?=some p):(bH.nest sz et es).rowAt i j=p.isRow:=by simp[bH.rowAt,he,hp]
theorem aX.cg{id sz:Nat}{et:TypeId}{es:List PV}(h:aX P μ φ w id sz et es)(hφ:φ' id=φ id)(hμ:∀b o,μ b=some o→μ' b=some o)(hw:∀g,(bH.nest sz et es).owns (φ id) g→w'.heap[g]?=w.heap[g]?):aX P μ' φ' w' id sz et es:=by
 obtain⟨a1,a2,a3,a4,a5,a6,a7⟩:=h;unfold aX;rw[hφ];refine⟨a1,a2,a3,a4,a5,a6,?_⟩;cases hg:(φ id).g with
 |none=>rw[hg]at a7;omega
 |some g=>rw[hg]at a7;obtain⟨c,T,c1,c2,c3,c4,c5⟩:=a7;exact⟨c,T,by rw[hw g (.inl hg)];omega,c2,c3,fun i e j p x h1 h2 h3=>(c4 i e j p x h1 h2 h3).cg hμ fun hr g' cP=>hw g' (.inr ⟨i,j,by rw[dt h1 h2];omega,cP⟩),c5⟩
theorem kh{kt e:TypeId}{es:List (PV×PV)}{k v:PV}(he:es[i]?=some (k,v)):(bH.fa kt e es).rowAt i 0=v.isRow:=by simp[bH.rowAt,he]
theorem gG.cg{id:Nat}{b:bH}(h:gG P μ φ w id b)(hn:∀j,b.names j=true→φ' j=φ j)(hφ:φ' id=φ id)(hμ:∀b o,μ b=some o→μ' b=some o)(hw:∀g,b.owns (φ id) g→w'.heap[g]?=w.heap[g]?):gG P μ' φ' w' id b:=by
 cases b with
 |nest sz et es=>exact aX.cg h hφ hμ hw
 |fa kt e0 es=>
  obtain⟨g,en,clock,kk,hg,hh,hs,hk,hc,yq,hv⟩:=h;refine⟨g,en,clock,kk,by rw[hφ];omega,by rw[hw g (.inl hg)];omega,hs,hk,hc,yq,fun i k v e h1 h2=>⟨(hv i k v e h1 h2).1.mono hμ,?_⟩⟩;have h3:=(hv i k v e h1 h2).2;rw[hφ];split at h3
  ·exact⟨h3.1.cg rfl hμ fun g' cP=>hw g' (.inr ⟨i,0,by rw[kh h1];rfl,cP⟩),h3.2.za hμ⟩
  ·exact h3.mono hμ
 |box cs=>obtain⟨g,c,T,hg,hh,hs,hv,h1,Ep⟩:=h;exact⟨g,c,T,by rw[hφ];omega,by rw[hw g (.inl hg)];omega,hs,fun i v x hi hx=>(hv i v x hi hx).mono hμ (fun j hj=>hn j (bK (agx hi) hj)),h1,by rw[hφ];omega⟩
 |arr sz et es=>exact aH.cg h hφ hμ fun g hg=>hw g (.inl hg)
 |qT sz et es=>refine⟨aH.cg h.1 hφ hμ fun g hg=>hw g (.inl hg),fun g hg=>?_⟩;rw[hφ]at hg;have:=h.2 g hg;obtain⟨o,ho⟩:=ajv.1 this;rw[hμ _ _ ho];rfl
 |map kt es=>obtain⟨g,en,clock,kk,hg,hh,hs,hk,hc,yq,hv⟩:=h;exact⟨g,en,clock,kk,by rw[hφ];omega,by rw[hw g (.inl hg)];omega,hs,hk,hc,yq,fun i k v e h1 h2=>⟨(hv i k v e h1 h2).1.mono hμ,(hv i k v e h1 h2).2.mono hμ⟩⟩
 |iter t es cur=>obtain⟨g,mg,en,clock,seen,hg,hh,JR,yq,Ep,hv,hcu⟩:=h;exact⟨g,mg,en,clock,seen,by rw[hφ];omega,by rw[hw g (.inl hg)];omega,hμ _ _ JR,yq,Ep,fun i k v e h1 h2=>⟨(hv i k v e h1 h2).1.mono hμ,(hv i k v e h1 h2).2.mono hμ⟩,fun k v hc=>let⟨i,e,h1,h2,h3,h4⟩:=hcu k v hc;⟨i,e,h1,h2,h3.mono hμ,h4.mono hμ⟩⟩
 |loop st=>obtain⟨g,rc,hg,hh⟩:=h;exact⟨g,rc,by rw[hφ];omega,by rw[hw g (.inl hg)];omega⟩
variable{g:Nat}
theorem eC.Ev{R:CP}{s:Nat}{rs:List PV}{x:Value}(h:eC P μ R w s rs x)(hg:R.g=some g):g<w.heap.size:=by obtain⟨⟨et,_,_,_,_,_,_,a7⟩,_⟩:=h;have cP:R.up.g=some g:=hg;grind
theorem kj{off:Nat}(h:b.rowAt i off=true):(∃sz et es e s rs,b=.nest sz et es∧es[i]?=some e∧e.cells[off]?=some (.qE s rs))∨∃kt e0 es k s rs,b=.fa kt e0 es∧off=0∧es[i]?=some (k,.qE s rs):=by
 unfold bH.rowAt at h;split at h
 ·rename_i sz et es i off;split at h
  ·rename_i e he;split at h
   ·rename_i p hp;cases p<;>first|(cases h;done)|skip
    grind
   ·cases h
  ·cases h
 ·rename_i kt e0 es i;split at h
  ·rename_i x hx;obtain⟨k,v⟩:=x;cases v<;>first|(cases h;done)|skip
   grind
  ·cases h
 ·cases h
theorem gG.adG{off:Nat}(h:gG P μ φ w id b)(hr:b.rowAt i off=true)(hg:((φ id).row i off).g=some g):g<w.heap.size:=by
 rcases kj hr with⟨sz,et,es,e,s,rs,rfl,he,hp⟩|⟨kt,e0,es,k,s,rs,rfl,rfl,he⟩
 ·have hN:aX P μ φ w id sz et es:=h;have hgg:∃g0,(φ id).g=some g0:=by
   cases hq:(φ id).g with
   |some g0=>simp
   |none=>have a7:=hN.2.2.2.2.2.2;simp_all
  obtain⟨g0,MQ⟩:=hgg;obtain⟨c,_,x,_,_,c3,_⟩:=hN.cell MQ he hp;exact eC.Ev (show eC P μ _ w s rs x from c3) hg
 ·obtain⟨g0,en,clock,kk,MQ,hh,hs,hk,hc,yq,hv⟩:=h;have hi:i<en.size:=by grind
  have h3:=(hv i k _ en[i] he (IT hi)).2;exact eC.Ev (P:=P) (μ:=μ) (R:=(φ id).row i 0) (s:=s) (rs:=rs) (x:=en[i].val) ⟨⟨_,h3.1⟩,h3.2⟩ hg
theorem gG.Ev(h:gG P μ φ w id b)(hg:b.owns (φ id) g):g<w.heap.size:=by
 rcases hg with hg|⟨i,off,hr,hg⟩
 rotate_left
 ·exact h.adG hr hg
 have key:∀o,w.heap[g]?=some o→g<w.heap.size:=fun o ho=>(abi.1 ho).1;cases b with
 |nest sz et es=>obtain⟨_,_,_,_,_,_,a7⟩:=h;grind
 |fa kt e0 es=>obtain⟨g',en,clock,kk,cP,hh,_⟩:=h;simp_all
 |box cs=>obtain⟨g',c,T,cP,hh,_⟩:=h;simp_all
 |arr sz et es=>obtain⟨_,_,_,_,_,_,a7⟩:=h;grind
 |qT sz et es=>obtain⟨⟨_,_,_,_,_,_,a7⟩,_⟩:=h;grind
 |map kt es=>obtain⟨g',en,clock,kk,cP,hh,_⟩:=h;simp_all
 |iter t es cur=>obtain⟨g',mg,en,clock,seen,cP,hh,_⟩:=h;simp_all
 |loop st=>obtain⟨g',rc,cP,hh⟩:=h;simp_all
theorem av.MR(hM:av P G w0 μ φ m w)(hm:m j=some b)(hn:b.names id=true):(m id).isSome=true:=by
 cases b with
 |box cs=>exact hM.fO j cs id hm hn
 |_=>simp[bH.names]at hn
theorem yz{cs:List V}(h:b8 j (cs.map (sV id))=true):b8 j cs=true∧j≠id:=by obtain⟨v,hv,hh⟩:=cy.1 h;obtain⟨u,hu,rfl⟩:=ajy.1 hv;grind [wR,bK]
theorem gG.kill{id j:Nat}{b:bH}(h:gG P μ φ w j b):gG P μ φ w j (gq id b):=by
 cases b with
 |box cs=>obtain⟨g,c,T,hg,hh,hs,hv,h1,Ep⟩:=h;refine⟨g,c,T,hg,hh,by simpa using hs,fun i v x hi hx=>?_,h1,by simpa using Ep⟩;simp only[IN,adr]at hi;obtain⟨u,hu,rfl⟩:=hi;exact(hv i u x hu hx).kill id
 |_=>exact h
theorem vf(id:Nat)(b:bH):(gq id b).rowAt=b.rowAt:=by cases b<;>rfl
variable{p:aA}
theorem gj:(gq id b).owns p g↔b.owns p g:=by unfold bH.owns;rw[vf]
theorem vg:(gq id b).apart p↔b.apart p:=by unfold bH.apart;rw[vf]
theorem rD(h:∀i off,b.rowAt i off=true→False):b.apart p:=fun i off _ hr=>(h i off hr).elim
theorem oZ(h:∀i off,b.rowAt i off=true→False)(ho:b.owns p g):p.g=some g:=by
 rcases ho with h1|⟨i,off,hr,_⟩
 ·omega
 simp_all
theorem Ew(h:bD id m j=some b):∃b',m j=some b'∧b=gq id b':=by unfold bD at h;grind
theorem yA(id:Nat)(b:bH):(gq id b).jO=b.jO:=by cases b<;>rfl
theorem av.forget(hM:av P G w0 μ φ m w)(id:Nat):av P G w0 μ φ (bg (bD id m) id) w:=by
 have key:∀j b,bg (bD id m) id j=some b→j≠id∧∃b',m j=some b'∧b=gq id b':=by
  intro j b h;by_cases e:j=id
  ·subst e;simp at h
  simp_all[gi,Ew]
 refine⟨hM.below,hM.ro,hM.aG,fun j b h=>?_,fun j b g h hg=>?_,fun i j b1 b2 g h1 h2 g1 g2=>?_,fun j b h=>?_,fun j cs i h hh=>?_,hM.base,hM.dA,fun j st h=>?_⟩
 rotate_right
 ·obtain⟨_,b',hb,e⟩:=key j _ h;cases b' with
  |loop st'=>simp only[gq,bH.loop.injEq]at e;subst e;exact hM.CO j st hb
  |_=>simp[gq]at e
 ·obtain⟨_,b',hb,rfl⟩:=key j b h;exact(hM.dx j b' hb).kill
 ·obtain⟨_,b',hb,rfl⟩:=key j b h;rw[yA];exact hM.own j b' g hb (gj.1 hg)
 ·obtain⟨_,b1',TW,rfl⟩:=key i b1 h1;obtain⟨_,b2',ux,rfl⟩:=key j b2 h2;exact hM.inj i j b1' b2' g TW ux (gj.1 g1) (gj.1 g2)
 ·obtain⟨_,b',hb,rfl⟩:=key j b h;exact vg.2 (hM.apart j b' hb)
 ·obtain⟨_,b',hb,e⟩:=key j _ h;cases b' with
  |box MS=>simp only[gq,bH.box.injEq]at e;subst e;obtain⟨h1,h2⟩:=yz hh;have:=hM.fO j MS i hb h1;grind [gi,bD]
  |_=>simp[gq]at e
theorem zf(m:Mem)(id:Nat)(b:bH):ao (bg m id) id b=ao m id b:=by
 funext t;by_cases h:t=id
 ·subst h;simp
 simp_all[aq,gi]
variable{b':bH}
theorem Ey(vT:∀i off,b'.rowAt i off=true→b.rowAt i off=true)(h:b'.owns p g):b.owns p g:=by
 rcases h with h|⟨i,off,hr,h⟩
 ·exact .inl h
 ·exact .inr ⟨i,off,vT i off hr,h⟩
theorem Rh(vT:∀i off,b'.rowAt i off=true→b.rowAt i off=true)(h:b.apart p):b'.apart p:=fun i off g hr hg=>
 let⟨h1,h2⟩:=h i off g (vT i off hr) hg
 ⟨h1,fun i' vb wF cP=>h2 i' vb (vT i' vb wF) cP⟩
theorem av.TX(hM:av P G w0 μ φ m w)(hm:m id=some b)(TY:b.jO=true)(hg:b.owns (φ id) g)(MT:lD g w w')(O6:w'.heap.size=w.heap.size)(hw:∀k,k≠g→w'.heap[k]?=w.heap[k]?)(hB:gG P μ φ w' id b')(aav:b'.jO=true)(hn:∀j,b'.names j=true→(m j).isSome=true)(vT:∀i off,b'.rowAt i off=true→b.rowAt i off=true)(hlp:∀st,b'=.loop st→∃rc,(φ id).g=some g∧w0.rc id=some (g,rc)∧w'.heap[g]?=some (.loop (st.obj rc)):=by intro st h;cases h):av P G w0 μ φ (ao m id b') w':=by
 obtain⟨B2,hμ⟩:=hM.own id b g hm hg;have hμ:=hμ TY;refine⟨hM.below.trans (MT.mono B2),fun k o hk=>?_,hM.aG,fun j c hj=>?_,fun j c g' hj cP=>?_,fun i j b1 b2 g' h1 h2 g1 g2=>?_,fun j c hj=>?_,fun j cs i hj hh=>?_,hM.base,hM.dA,fun j st hj=>?_⟩
 rotate_right
 ·by_cases e:j=id
  ·simp_all
  ·rw[aq e]at hj;obtain⟨g',rc,h1,h2,h3⟩:=hM.CO j st hj;exact⟨g',rc,h1,h2,by rw[hw g' (fun e'=>by subst e';exact e (hM.inj j id _ b g' hj hm (.inl h1) hg))];omega⟩
 ·have:k≠g:=fun e=>by simp_all
  rw[hw k this];exact hM.ro k o hk
 ·by_cases e:j=id
  ·simp_all
  ·rw[aq e]at hj;refine(hM.dx j c hj).cg (fun _ _=>rfl) rfl (fun _ _ h=>h) (fun g' cP=>hw g' (fun e'=>?_));subst e';exact e (hM.inj j id c b g' hj hm cP hg)
 ·by_cases e:j=id
  ·subst e;rw[bM]at hj;simp only[cN]at hj;subst hj;obtain⟨h1,h2⟩:=hM.own j b g' hm (Ey vT cP);simp_all
  ·rw[aq e]at hj;exact hM.own j c g' hj cP
 ·have e1:∃c1,m i=some c1∧c1.owns (φ i) g':=by grind [id,bM,Option.some.injEq,Ey,aq]
  have e2:∃c2,m j=some c2∧c2.owns (φ j) g':=by grind [id,bM,Option.some.injEq,Ey,aq]
  obtain⟨c1,e1,o1⟩:=e1;obtain⟨c2,e2,o2⟩:=e2;exact hM.inj i j c1 c2 g' e1 e2 o1 o2
 ·by_cases e:j=id
  ·subst e;rw[bM]at hj;simp only[cN]at hj;subst hj;exact Rh vT (hM.apart j b hm)
  ·rw[aq e]at hj;exact hM.apart j c hj
 ·have:(m i).isSome=true:=by
   by_cases e:j=id
   ·subst e;rw[bM]at hj;simp only[cN]at hj;subst hj;exact hn i hh
   ·rw[aq e]at hj;exact hM.fO j cs i hj hh
  by_cases e:i=id
  ·subst e;simp
  ·rw[aq e];omega
theorem av.write(hM:av P G w0 μ φ m w)(hm:m id=some b)(TY:b.jO=true)(hg:(φ id).g=some g)(MT:lD g w w')(O6:w'.heap.size=w.heap.size)(hw:∀k,k≠g→w'.heap[k]?=w.heap[k]?)(hB:gG P μ φ w' id b')(aav:b'.jO=true)(hn:∀j,b'.names j=true→(m j).isSome=true)(hlp:∀st,b'=.loop st→∃rc,w0.rc id=some (g,rc)∧w'.heap[g]?=some (.loop (st.obj rc)):=by intro st h;cases h)(vT:∀i off,b'.rowAt i off=true→b.rowAt i off=true:=by intro i off h;simp[bH.rowAt]at h):av P G w0 μ φ (ao m id b') w':=hM.TX hm TY (.inl hg) MT O6 hw hB aav hn vT fun st h=>let⟨rc,h1,h2⟩:=hlp st h;⟨rc,hg,h1,h2⟩
def qy(μ:Ro)(w:World)(g:Option Nat):Ro:=fun b=>if g=some b then w.heap[b]? else μ b
theorem mn(hM:av P G w0 μ φ m w)(g:Option Nat):∀b o,μ b=some o→qy μ w g b=some o:=by
 intro b o hb;unfold qy;split
 ·exact hM.ro b o hb
 omega
noncomputable def uy(μ:Ro)(w:World)(S:Nat→Prop):Ro:=fun b=> @ite _ (S b) (Classical.propDecidable _) (w.heap[b]?) (μ b)
theorem rE(hM:av P G w0 μ φ m w)(S:Nat→Prop):∀b o,μ b=some o→uy μ w S b=some o:=by
 intro b o hb;unfold uy;split
 ·exact hM.ro b o hb
 omega
theorem av.O7(hM:av P G w0 μ φ m w)(hm:m id=some b)(hlp:∀st,b≠.loop st)(hA:aH P (uy μ w (b.owns (φ id))) φ w id sz et es):av P G w0 (uy μ w (b.owns (φ id))) φ (ao m id (.qT sz et es)) w:=by
 have mono:=rE hM (b.owns (φ id));have TZ:∀i off,(bH.qT sz et es).rowAt i off=true→False:=fun i off h=>by simp[bH.rowAt]at h
 refine⟨hM.below,fun k o hb=>?_,fun g cs hg=>(hM.aG g cs hg).mono mono,fun j c hj=>?_,fun j c g' hj cP=>?_,fun i j b1 b2 g' h1 h2 g1 g2=>?_,fun j c hj=>?_,fun j cs i hj hh=>?_,fun k o hb bT=>?_,fun b o hb=>mono b o (hM.dA b o hb),fun j st hj=>?_⟩
 rotate_right
 ·by_cases e:j=id
  ·simp_all
  ·rw[aq e]at hj;exact hM.CO j st hj
 rotate_right
 ·unfold uy at hb;split at hb
  ·rename_i he;have:=(hM.own id b k hm he).1;omega
  ·exact hM.base k o hb bT
 ·unfold uy at hb;split at hb
  ·omega
  ·exact hM.ro k o hb
 ·by_cases e:j=id
  ·subst e;rw[bM]at hj;simp only[cN]at hj;subst hj;refine⟨hA,fun g hg=>?_⟩;have:=gG.Ev (b:=.arr sz et es) hA (.inl hg);unfold uy;rw[GW (show b.owns (φ j) g from .inl hg)];simp[this]
  ·rw[aq e]at hj;exact(hM.dx j c hj).cg (fun _ _=>rfl) rfl mono (fun _ _=>rfl)
 ·by_cases e:j=id
  ·subst e;rw[bM]at hj;simp only[cN]at hj;subst hj;exact⟨(hM.own j b g' hm (.inl (oZ TZ cP))).1,by simp[bH.jO]⟩
  ·rw[aq e]at hj;obtain⟨h1,h2⟩:=hM.own j c g' hj cP;refine⟨h1,fun JR=>?_⟩;unfold uy;split
   ·rename_i he;exact absurd (hM.inj j id c _ g' hj hm cP he) e
   ·exact h2 JR
 ·have e1:∃c1,m i=some c1∧c1.owns (φ i) g':=by
   by_cases e:i=id
   ·subst e;rw[bM]at h1;simp only[cN]at h1;subst h1;exact⟨b,hm,.inl (oZ TZ g1)⟩
   simp_all[aq]
  have e2:∃c2,m j=some c2∧c2.owns (φ j) g':=by
   by_cases e:j=id
   ·subst e;rw[bM]at h2;simp only[cN]at h2;subst h2;exact⟨b,hm,.inl (oZ TZ g2)⟩
   simp_all[aq]
  obtain⟨c1,e1,o1⟩:=e1;obtain⟨c2,e2,o2⟩:=e2;exact hM.inj i j c1 c2 g' e1 e2 o1 o2
 ·by_cases e:j=id
  ·simp_all[bM,cN,rD]
  ·rw[aq e]at hj;exact hM.apart j c hj
 ·have:(m i).isSome=true:=by
   by_cases e:j=id
   ·simp_all
   ·rw[aq e]at hj;exact hM.fO j cs i hj hh
  by_cases e:i=id
  ·subst e;simp
  ·rw[aq e];omega
theorem qU:∀i off,(bH.arr sz et es).rowAt i off=true→False:=fun i off h=>by simp[bH.rowAt]at h
theorem av.freeze(hM:av P G w0 μ φ m w)(hm:m id=some (.arr sz et es)):av P G w0 (qy μ w (φ id).g) φ (ao m id (.qT sz et es)) w:=by
 have e:uy μ w ((bH.arr sz et es).owns (φ id))=qy μ w (φ id).g:=by
  funext b;unfold uy qy;by_cases h:(φ id).g=some b
  ·rw[GW h,GW (show(bH.arr sz et es).owns (φ id) b from .inl h)]
  ·rw[No h,No fun ho=>h (oZ qU ho)]
 have:=hM.O7 (sz:=sz) (et:=et) (es:=es) hm (fun st h=>by cases h) (aH.cg (hM.dx id _ hm) rfl (rE hM _) (fun _ _=>rfl));rwa[e]at this
theorem av.O8(hM:av P G w0 μ φ m w)(hm:m id=some (.nest sz et es)):av P G w0 (uy μ w ((bH.nest sz et es).owns (φ id))) φ (ao m id (.qT sz et (es.map PV.strip))) w:=by have hN:aX P μ φ w id sz et es:=hM.dx id _ hm;refine hM.O7 hm (fun st h=>by cases h) (hN.strip (rE hM _) fun i off g hr hg=>?_);unfold uy;rw[GW (show(bH.nest sz et es).owns (φ id) g from .inr ⟨i,off,hr,hg⟩)]
def ck(μ:Ro)(w w':World):Ro:=fun b=>if b<w.heap.size then μ b else w'.heap[b]?
theorem kL(hM:av P G w0 μ φ m w)(w':World):∀b o,μ b=some o→ck μ w w' b=some o:=by intro b o hb;have:=(abi.1 (hM.ro b o hb)).1;simp[ck,this,hb]
theorem av.called(hM:av P G w0 μ φ m w)(hb:lD w.heap.size w w'):av P G w0 (ck μ w w') φ m w':=by
 have mono:=kL hM w';refine⟨hM.below.trans (hb.mono hM.below.size),fun b o h=>?_,fun g cs hg=>(hM.aG g cs hg).mono mono,fun id b h=>?_,fun id b g h hg=>?_,hM.inj,hM.apart,hM.fO,fun b o h bT=>?_,fun b o hb=>mono b o (hM.dA b o hb),fun j st hj=>?_⟩
 rotate_right
 ·obtain⟨g,rc,h1,h2,h3⟩:=hM.CO j st hj;exact⟨g,rc,h1,h2,by rw[hb.block g (abi.1 h3).1];omega⟩
 rotate_right
 ·have:w0.heap.size≤w.heap.size:=hM.below.size;unfold ck at h;rw[GW (by omega)]at h;exact hM.base b o h bT
 ·unfold ck at h;split at h
  ·rename_i bT;rw[hb.block b bT];exact hM.ro b o h
  omega
 ·have hR:=hM.dx id b h;exact hR.cg (fun _ _=>rfl) rfl mono (fun g hg=>hb.block g (hR.Ev hg))
 ·obtain⟨h1,h2⟩:=hM.own id b g h hg;refine⟨h1,fun hm=>?_⟩;have:=(hM.dx id b h).Ev hg;simp[ck,this,h2 hm]
def nc(μ:Ro)(g:Option Nat):Ro:=fun b=>if g=some b then none else μ b
theorem Kr{μ:Ro}{g:Option Nat}{b:Nat}{o:Obj}(h:nc μ g b=some o):μ b=some o:=by simp_all[nc]
theorem zI(hM:av P G w0 μ φ m w)(w':World){g:Option Nat}(hg:∀b,g=some b→w.heap.size≤b):∀b o,μ b=some o→nc (ck μ w w') g b=some o:=by intro b o hb;have bT:=(abi.1 (hM.ro b o hb)).1;unfold nc;rw[No fun e=>by have:=hg b e;omega];exact kL hM w' b o hb
theorem av.Hq(hM:av P G w0 μ φ m w)(hb:lD w.heap.size w w'){go:Option Nat}(GA:∀b,go=some b→w.heap.size≤b):av P G w0 (nc (ck μ w w') go) φ m w':=by
 have mono:=zI hM w' GA;have hC:=hM.called hb;refine⟨hC.below,fun b o h=>hC.ro b o (Kr h),fun g cs hg=>(hM.aG g cs hg).mono mono,fun id b h=>?_,fun id b g h hg=>?_,hM.inj,hM.apart,hM.fO,fun b o h bT=>hC.base b o (Kr h) bT,fun b o hb=>mono b o (hM.dA b o hb),hC.CO⟩
 ·have hR:=hM.dx id b h;exact hR.cg (fun _ _=>rfl) rfl mono (fun g hg=>hb.block g (hR.Ev hg))
 ·obtain⟨h1,h2⟩:=hC.own id b g h hg;refine⟨h1,fun hm=>?_⟩;unfold nc;simp_all
theorem av.drew(hM:av P G w0 μ φ m w):av P G w0 μ φ m w.drew:=⟨hM.below.drew,hM.ro,hM.aG,fun id b h=>(hM.dx id b h).cg (fun _ _=>rfl) rfl (fun _ _ h=>h) (fun _ _=>rfl),hM.own,hM.inj,hM.apart,hM.fO,hM.base,hM.dA,hM.CO⟩
end
end Go.Ab
