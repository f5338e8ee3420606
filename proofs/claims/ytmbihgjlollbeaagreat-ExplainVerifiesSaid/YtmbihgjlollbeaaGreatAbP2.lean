import Derived.Test.YtmbihgjlollbeaaGreatAbP1
import Derived.Laws.StructEq
import Derived.ChangeKeysEq
set_option linter.all false
namespace Go.Ab
open Go.RowKit (Below)
section
variable {P:Program} {G:Nat→Option (List PV)} {w0:bO} {μ:Ro} {φ:Nat→aP} {m:Mem} {w:World}
theorem toCells_ok{n:Nat}{v:V}{cs:List V}(h:toCells n v=some cs):cs.length=n∧(∀id,cA id cs=true→v.has id=true)∧∀(P:Program)(μ:Ro)(φ:Nat→aP)(x:Value),au P μ φ v x→x.cells.size=n∧(∀(i:Nat)u y,cs[i]?=some u→x.cells[i]?=some y→au P μ φ u y)∧(∀(i:Nat)(y:Value),x.cells[i]?=some y→y.oneCell'=true):=by
 have one:∀(v:V),(∀(P:Program)(μ:Ro)(φ:Nat→aP)(x:Value),au P μ φ v x→x.oneCell'=true∧x.cells= #[x])→(if n=1 then some [v]else none)=some cs→cs.length=n∧(∀id,cA id cs=true→v.has id=true)∧∀(P:Program)(μ:Ro)(φ:Nat→aP)(x:Value),au P μ φ v x→x.cells.size=n∧(∀(i:Nat)u y,cs[i]?=some u→x.cells[i]?=some y→au P μ φ u y)∧(∀(i:Nat)(y:Value),x.cells[i]?=some y→y.oneCell'=true):=by
  intro v h1 h;split at h
  ·rename_i hn;simp only[cO]at h;subst h;subst hn;refine⟨rfl,fun id hid=>by simpa[cA]using hid,fun P μ φ x hx=>?_⟩;grind
  ·cases h
 have apO:∀x:Value,x.oneCell'=true→x.cells= #[x]:=by intro x hx;cases x<;>first|rfl|(simp[Value.oneCell']at hx)
 unfold toCells at h;split at h
 ·rename_i ps;split at h
  ·rename_i hn;simp only[cO]at h;subst h;refine⟨by simpa using hn,fun id hid=>(by rw[Wi]at hid;cases hid),fun P μ φ x hx=>?_⟩;cases hx with
   |pv hx=>cases hx with
    |agg h1 h2 h3=>refine⟨by simp only[Value.cells];omega,fun i u y hu hy=>?_,h3⟩;simp only[AT,aqX]at hu;obtain⟨q,hq,rfl⟩:=hu;exact .pv (h2 i q y hq hy)
  ·cases h
 ·split at h
  ·rename_i hn;simp only[cO]at h;subst h;refine⟨hn,fun id hid=>by simpa[V.has]using hid,fun P μ φ x hx=>?_⟩;cases hx with
   |agg h1 h2 h3=>grind [Value.cells]
  ·cases h
 ·cases h
 ·cases h
 ·cases h
 ·cases h
 ·rename_i h1 h2 h3 h4 h5 h6;refine one v (fun P μ φ x hx=>?_) h;have:x.oneCell'=true:=by
   cases hx with
   |pv hp=>exact hp.one (fun cs e=>h1 cs (by rw[e])) (fun cs e=>h5 cs (by rw[e])) (fun e=>h6 (by rw[e]))
   |agg=>exact absurd rfl (h2 _)
   |aG=>exact absurd rfl (h4 _)
   |top=>exact absurd rfl h3
   |fn=>exact NU _ _
   |_=>rfl
  simp_all
theorem Av:∀(d:Nat){v:V}{p:PV}{x:Value},nv dq d v=some p→au P μ φ v x→av P μ p x
 |0,v,p,x,h,_=>by simp[nv]at h
 |d+1,v,p,x,h,hx=>by
  have ih:=fun{v p x}=> @Av d v p x;cases v with
  |pv q=>simp[nv]at h;subst h;cases hx with|pv hx=>exact hx
  |jC=>simp[nv]at h;subst h;cases hx;exact .ny
  |agg cs=>
   simp only[nv]at h;obtain⟨ps,tU,h⟩:=By.1 h;simp only[cO]at h;subst h;obtain⟨h1,h2⟩:=iZ tU;cases hx with
   |agg g1 g2 g3=>refine .agg (by omega) (fun i q y hq hy=>?_) g3;obtain⟨u,hu,hg⟩:=h2 i q hq;exact ih hg (g2 i u y hu hy)
  |aG cs=>
   simp only[nv]at h;obtain⟨ps,tU,h⟩:=By.1 h;simp only[cO]at h;subst h;obtain⟨h1,h2⟩:=iZ tU;cases hx with
   |aG g1 g2=>refine .aG (by omega) (fun i q y hq hy=>?_);obtain⟨u,hu,hg⟩:=h2 i q hq;exact ih hg (g2 i u y hu hy)
  |op id off=>simp[nv,dq]at h
  |oe id i off=>simp[nv,dq]at h
  |os id=>simp[nv,dq]at h
  |gx id lo len=>simp[nv,dq]at h
  |CC id i off=>simp[nv,dq]at h
  |GI id i off s j off2=>simp[nv]at h
  |om id=>simp[nv,dq]at h
  |fn f cs=>
   simp only[nv]at h;obtain⟨ps,tU,h⟩:=By.1 h;simp only[cO]at h;subst h;obtain⟨h1,h2⟩:=iZ tU;cases hx with
   |fn g1 g2=>refine .fn (by omega) (fun i q y hq hy=>?_);obtain⟨u,hu,hg⟩:=h2 i q hq;exact ih hg (g2 i u y hu hy)
  |yl id=>simp[nv]at h
  |it id=>simp[nv]at h
  |top=>simp[nv]at h
def mc(w:World):Ro:=fun b=>w.heap[b]?
theorem aL.Et(hM:aL P G w0 μ φ m w):∀b o,μ b=some o→mc w b=some o:=hM.ro
variable{id s:Nat}{et:TypeId}{es:List PV}{ν:Ro}
theorem aX.Pv(hA:aX P μ φ w id s et es){g:Nat}(hg:(φ id).g=some g){lo len:Nat}(hl:lo+len≤es.length){cap:Nat}(vb:cap≤(φ id).cap-lo)(hlc:len≤cap)(hν:∀b o,μ b=some o→ν b=some o)(Nl:ν g=w.heap[g]?):av P ν (.rs s ((es.drop lo).take len)) (.slice (some ⟨g,lo*s,none⟩) len cap):=by
 have hle:=hA.tG;obtain⟨a1,a2,a3,a4,a5,a6,a7⟩:=hA;rw[hg]at a7;obtain⟨c,T,c1,c2,c3,c4,c5⟩:=a7;have eR:∀(i:Nat)e,((es.drop lo).take len)[i]?=some e→i<len∧es[lo+i]?=some e:=fun i e hi=>sD hi;have hlen:((es.drop lo).take len).length=len:=by simp;omega
 have hb:∀(i:Nat)e(j:Nat)p,((es.drop lo).take len)[i]?=some e→e.cells[j]?=some p→(lo+i)*s+j<es.length*s:=by intro i e j p hi hj;obtain⟨_,hi⟩:=eR i e hi;have h1:=(OF.1 hi).1;have h2:=(OF.1 hj).1;have h3:=a5 _ e hi;have:(lo+i+1)*s≤es.length*s:=asj _ (by omega);grind
 have hc:∀(i:Nat)e(j:Nat)p,((es.drop lo).take len)[i]?=some e→e.cells[j]?=some p→c[(lo+i)*s+j]?=some (c.getD ((lo+i)*s+j) undef):=by
  intro i e j p hi hj;obtain⟨_,hi⟩:=eR i e hi;have h1:=(OF.1 hi).1;have h2:=(OF.1 hj).1;have h3:=a5 _ e hi;have:(lo+i+1)*s≤(φ id).cap*s:=asj _ (by omega);rw[as2 _ 1]at this;have cd:(lo+i)*s+j<c.size:=by omega
  simp_all
 have:=av.rs (P:=P) (μ:=ν) (sz:=s) (es:=(es.drop lo).take len) (b:=g) (o:=lo*s) (cap:=cap) (fun i j=>c.getD ((lo+i)*s+j) undef) (by omega) (by omega) (fun i e hi=>a5 _ e (eR i e hi).2) (fun i e j p hi hj=>by grind [cellAt,Nat.add_mul]) (fun i e j p hi hj=>((c4 _ e j p _ (eR i e hi).2 hj (hc i e j p hi hj)).mono hν)) (fun i e j p hi hj=>c5 _ _ (hb i e j p hi hj) (hc i e j p hi hj));simp_all
theorem aX.slice(hM:aL P G w0 μ φ m w)(hA:aX P μ φ w id s et es){g:Nat}(hg:(φ id).g=some g){lo len:Nat}(hl:lo+len≤es.length)(hν:∀b o,μ b=some o→ν b=some o)(Nl:ν g=w.heap[g]?):av P ν (.rs s ((es.drop lo).take len)) (.slice (some ⟨g,lo*s,none⟩) len ((φ id).cap-lo)):=hA.Pv hg hl (ast _) (by have:=hA.tG;omega) hν Nl
variable{x:Value}
theorem aX.N1(hA:aX P μ φ w id s et es)(hx:au P μ φ (.os id) x)(hν:∀b o,μ b=some o→ν b=some o)(Nl:∀g,(φ id).g=some g→ν g=w.heap[g]?):av P ν (.rs s es) x:=by
 have FG:=hA;obtain⟨a1,a2,a3,a4,a5,a6,a7⟩:=hA;cases hx with
 |yp hg=>rw[hg]at a7;rw[a7.1];exact .ny
 | @os _ g hg=>have hle:=FG.tG;have:=FG.Pv hg (lo:=0) (len:=es.length) (by omega) (cap:=(φ id).cap) (by omega) hle.1 hν (Nl g hg);simp_all
theorem aX.full(hM:aL P G w0 μ φ m w)(hA:aX P μ φ w id s et es)(hx:au P μ φ (.os id) x)(hν:∀b o,μ b=some o→ν b=some o)(Nl:∀g,(φ id).g=some g→ν g=w.heap[g]?):av P ν (.rs s es) x:=hA.N1 hx hν Nl
theorem fm.full{R:Jk}{rs:List PV}(h:fm P μ R w s rs x)(hν:∀b o,μ b=some o→ν b=some o)(Nl:∀g,R.g=some g→ν g=w.heap[g]?):av P ν (.rs s rs) x:=by obtain⟨⟨et,hA⟩,hV⟩:=h;exact hA.N1 hV hν Nl
theorem Jp(e:PV):e.strip.cells=e.cells.map PV.rS:=by cases e<;>rfl
theorem bu.strip{sz:Nat}(h:bu P μ φ w id sz et es)(hν:∀b o,μ b=some o→ν b=some o)(Nl:∀i off g,(bX.nest sz et es).rowAt i off=true→((φ id).row i off).g=some g→ν g=w.heap[g]?):aX P ν φ w id sz et (es.map PV.strip):=by
 obtain⟨a1,a2,a3,a4,a5,a6,a7⟩:=h;refine⟨by simpa using a1,a2,a3,a4,fun i e he=>?_,a6,?_⟩
 ·rw[AT,aqX]at he;obtain⟨e0,h0,rfl⟩:=he;grind [Jp,List.length_map]
 ·cases hg:(φ id).g with
  |none=>simp_all
  |some g=>
   rw[hg]at a7;obtain⟨c,T,c1,c2,c3,c4,c5⟩:=a7;refine⟨c,T,c1,c2,by simpa using c3,fun i e j p x he hp hx=>?_,fun i x hi hx=>c5 i x (by simpa using hi) hx⟩;rw[AT,aqX]at he;obtain⟨e0,h0,rfl⟩:=he;rw[Jp,AT,aqX]at hp;obtain⟨p0,QE,rfl⟩:=hp;have hc:=c4 i e0 j p0 x h0 QE hx;cases hr:p0.isRow with
   |false=>
    have:p0.rS=p0:=by cases p0<;>first|rfl|cases hr
    rw[this];exact(hc.Wh hr).mono hν
   |true=>
    cases p0<;>first|(cases hr;done)|skip
    rename_i s rs;exact fm.full (show fm P μ _ w s rs x from hc) hν fun g' du=>Nl i j g' (by simp[bX.rowAt,h0,QE,PV.isRow]) du
theorem ZT{g o:Nat}{c:Array Value}{T:TypeId}{fz:Nat×Nat}{y:Value}(hν:ν g=w.heap[g]?)(h:w.heap[g]?=some (.cells c T fz))(hy:c[o]?=some y):cellAt ν g o=some y:=by simp[cellAt,hν,h,hy]
theorem Ap(hM:aL P G w0 μ φ m w){ν:Ro}(ro:∀b o,μ b=some o→ν b=some o)(own:∀id b g,m id=some b→b.owns (φ id) g→ν g=w.heap[g]?):∀(d:Nat){v:V}{p:PV}{x:Value},nv m d v=some p→au P μ φ v x→av P ν p x
 |0,v,p,x,h,_=>by simp[nv]at h
 |d+1,v,p,x,h,hx=>by
  have ih:=fun{v p x}=> @Ap hM ν ro own d v p x;cases v with
  |pv q=>simp[nv]at h;subst h;cases hx with|pv hx=>exact hx.mono ro
  |jC=>simp[nv]at h;subst h;cases hx;exact .ny
  |agg cs=>
   simp only[nv]at h;obtain⟨ps,tU,h⟩:=By.1 h;simp only[cO]at h;subst h;obtain⟨h1,h2⟩:=iZ tU;cases hx with
   |agg g1 g2 g3=>refine .agg (by omega) (fun i q y hq hy=>?_) g3;grind
  |aG cs=>
   simp only[nv]at h;obtain⟨ps,tU,h⟩:=By.1 h;simp only[cO]at h;subst h;obtain⟨h1,h2⟩:=iZ tU;cases hx with
   |aG g1 g2=>refine .aG (by omega) (fun i q y hq hy=>?_);grind
  |op id off=>
   simp only[nv]at h;split at h
   ·rename_i cs hm;obtain⟨ps,tU,h⟩:=By.1 h;simp only[cO]at h;subst h;obtain⟨h1,h2⟩:=iZ tU;obtain⟨g,c,T,hg,hh,hs,hv,Au,JZ⟩:=hM.dX id _ hm;cases hx with
    |op du=>
     rw[hg]at du;simp only[cO]at du;subst du;have eR:∀(i:Nat)p,ps[i]?=some p→c[off+i]?=some (c.getD (off+i) undef):=by
      intro i p hi;have:=(OF.1 hi).1;rw[h1]at this;simp at this;have cd:off+i<c.size:=by omega
      simp_all
     refine .rp (fun i=>c.getD (off+i) undef) (fun i p hi=>ZT (own _ _ _ hm (.inl hg)) hh (eR i p hi)) (fun i p hi=>?_) (fun i hi=>?_)
     ·grind
     ·exact Au _ _ (eR i _ (cN hi))
   ·cases h
  |oe id i off=>
   have key:∀(s:Nat)(et:TypeId)(es:List PV),(m id=some (.arr s et es)∨m id=some (.vK s et es))→((es[i]?).bind fun e=>some (PV.rp ((aQ s e).drop off)))=some p→av P ν p x:=by
    intro s et es hm h;obtain⟨e,he,h⟩:=By.1 h;simp only[cO]at h;subst h;have hA:=hM.arr hm;have FG:=hA;have ai6:∀g,(φ id).g=some g→ν g=w.heap[g]?:=fun g hg=>by rcases hm with hm|hm<;>exact own _ _ _ hm (.inl hg)
    obtain⟨a1,a2,a3,a4,a5,a6,a7⟩:=hA;cases hx with
    | @oe _ _ _ g hg=>
     rw[a2];have N2:=FG.slice hM hg (lo:=0) (len:=es.length) (by omega) ro (ai6 _ hg);have apP:av P ν (.rs s es) (.slice (some ⟨g,0,none⟩) es.length (φ id).cap):=by simpa using N2
     obtain⟨b,o,cap,e1,hr⟩:=apP.Wj he;simp only[Value.slice.injEq,cO,Addr.mk.injEq]at e1;obtain⟨⟨rfl,rfl,_⟩,_⟩:=e1;have:=hr.Pu off;simpa using this
   grind [nv]
  |os id=>
   simp only[nv]at h;split at h
   ·rename_i s et es hm;simp only[cO]at h;subst h;exact(hM.arr (.inl hm)).full hM hx ro (fun g hg=>own _ _ _ hm (.inl hg))
   ·rename_i s et es hm;simp only[cO]at h;subst h;exact(hM.arr (.inr hm)).full hM hx ro (fun g hg=>own _ _ _ hm (.inl hg))
   ·rename_i s et es hm;simp only[cO]at h;subst h;have hN:bu P μ φ w id s et es:=hM.dX id _ hm;exact(hN.strip ro fun i off g hr hg=>own _ _ _ hm (.inr ⟨i,off,hr,hg⟩)).N1 (hx.E3 ro) (fun _ _ h=>h) fun g hg=>own _ _ _ hm (.inl hg)
   ·cases h
  |GI id i off s j off2=>simp[nv]at h
  |CC id i off=>
   simp only[nv]at h;split at h
   ·rename_i s et es hm;obtain⟨e,he,h⟩:=By.1 h;unfold amy at h;split at h
    ·rename_i s' rs hc;simp only[cO]at h;subst h;have hN:bu P μ φ w id s et es:=hM.dX id _ hm;obtain⟨_,_,_,_,⟨⟨M9,hA⟩,_⟩,hce⟩:=hN.row (s:=s') (rs:=rs) he (by rw[hc];simp[fV]);exact hA.N1 (hx.T0 (ν:=μ)) ro fun g hg=>own _ _ _ hm (.inr ⟨i,off,by simp[bX.rowAt,he,hce,PV.isRow],hg⟩)
    ·cases h
   ·cases h
  |gx id lo len=>
   have key:∀(s:Nat)(et:TypeId)(es:List PV),(m id=some (.arr s et es)∨m id=some (.vK s et es))→av P ν (.rs s ((es.drop lo).take len)) x:=by
    intro s et es hm;have hA:=hM.arr hm;have FG:=hA;have ai6:∀g,(φ id).g=some g→ν g=w.heap[g]?:=fun g hg=>by rcases hm with hm|hm<;>exact own _ _ _ hm (.inl hg)
    have hle:=hA.tG;obtain⟨a1,a2,a3,a4,a5,a6,a7⟩:=hA;cases hx with
    |wa hg=>simp;exact .ny
    | @gx _ _ _ cap g a hg hl ha hc1 hc2=>
     rw[a1]at hl;rcases ha with rfl|⟨ha,_⟩
     ·rw[a2];exact FG.Pv hg hl (by omega) hc1 ro (ai6 _ hg)
     ·have h0:len=0:=by omega
      subst h0;simp only[at3];exact .Ni (by omega)
   grind [nv,Option.some.injEq]
  |om id=>
   simp only[nv]at h;split at h
   ·rename_i kt es hm;simp only[cO]at h;subst h;obtain⟨g,en,clock,kk,hg,hh,hs,hk,Wk,_,hv⟩:=hM.dX id _ hm;cases hx with
    |om du=>
     rw[hg]at du;simp only[cO]at du;subst du;refine .rm (show ν g=_ from(own _ _ _ hm (.inl hg)).trans hh) (by simp[hs]) (by simp) hk (fun i k hi=>?_) (fun i k e hi he=>?_) (fun i v e hi he=>?_)
     ·grind
     ·simp only[AT,aqX]at hi;obtain⟨⟨a,b⟩,hq,rfl⟩:=hi;exact(hv i a b e hq he).1.mono ro
     ·simp only[AT,aqX]at hi;obtain⟨⟨a,b⟩,hq,rfl⟩:=hi;exact(hv i a b e hq he).2.mono ro
   ·rename_i kt e0 es hm;simp only[cO]at h;subst h;obtain⟨g,en,clock,kk,hg,hh,hs,hk,Wk,_,hv⟩:=hM.dX id _ hm;cases hx with
    |om du=>
     rw[hg]at du;simp only[cO]at du;subst du;refine .rm (show ν g=_ from(own _ _ _ hm (.inl hg)).trans hh) (by simp[hs]) (by simp) hk (fun i k hi=>?_) (fun i k e hi he=>?_) (fun i v e hi he=>?_)
     ·grind
     ·simp only[AT,aqX]at hi;obtain⟨⟨a,b⟩,hq,rfl⟩:=hi;exact(hv i a b e hq he).1.mono ro
     ·simp only[AT,aqX]at hi;obtain⟨⟨a,b⟩,hq,rfl⟩:=hi;have h2:=(hv i a b e hq he).2;cases hr:b.isRow with
      |false=>
       have e1:b.rS=b:=by cases b<;>first|rfl|cases hr
       simp only[e1];split at h2
       ·cases hr
       ·exact h2.mono ro
      |true=>
       cases b<;>first|(cases hr;done)|skip
       exact h2.1.N1 h2.2 ro fun g' du=>own _ _ _ hm (.inr ⟨i,0,by simp[bX.rowAt,hq,PV.isRow],du⟩)
   ·cases h
  |fn f cs=>
   simp only[nv]at h;obtain⟨ps,tU,h⟩:=By.1 h;simp only[cO]at h;subst h;obtain⟨h1,h2⟩:=iZ tU;cases hx with
   |fn g1 g2=>refine .fn (by omega) (fun i q y hq hy=>?_);grind
  |yl id=>simp[nv]at h
  |it id=>simp[nv]at h
  |top=>simp[nv]at h
end
section
variable {P:Program} {w:World}
def valOf:PV→Value
 |.int k n=>.int k n
 |.bool b=>.bool b
 |.str s=>.string ⟨s.toArray⟩
 |_=>undef
def fo(P:Program)(t:TypeId)(ps:List PV):Value:=if aN P t then .agg (ps.map valOf).toArray else valOf (ps.headD .bad)
theorem N3{μ:Ro}{k:Kd}{p:PV}{y:Value}(h:Al k p=true)(hy:av P μ p y):y=valOf p:=by cases k<;>cases p<;>simp[Al]at h<;>cases hy<;>rfl
theorem vc:∀{ks:List Kd}{ps:List PV},mK ks ps=true→ps.length=ks.length
 |[],[],_=>rfl
 |[],_::_,h=>by simp[mK]at h
 |_::_,[],h=>by simp[mK]at h
 |k::ks,p::ps,h=>by simp[mK]at h;simp[vc h.2]
theorem Wl:∀{ks:List Kd}{ps:List PV},mK ks ps=true→∀(i:Nat)p,ps[i]?=some p→∃k,ks[i]?=some k∧Al k p=true
 |[],[],_,i,p,hi=>by simp at hi
 |[],_::_,h,_,_,_=>by simp[mK]at h
 |_::_,[],h,_,_,_=>by simp[mK]at h
 |k::ks,q::ps,h,i,p,hi=>by
  simp[mK]at h;cases i with
  |zero=>simp at hi;subst hi;exact⟨k,by simp,h.1⟩
  |succ i=>simp at hi;simpa using Wl h.2 i p hi
theorem wg:∀(a b:List Kd)(ps:List PV),mK (a++b) ps=true↔mK a (ps.take a.length)=true∧mK b (ps.drop a.length)=true
 |[],b,ps=>by simp[mK]
 |k::a,b,[]=>by simp[mK]
 |k::a,b,p::ps=>by simp[mK,wg,amm,auV]
theorem CN:∀(n:Nat)(ps qs:List PV),n≤ps.length→n≤qs.length→cz ps qs=(cz (ps.take n) (qs.take n)&&cz (ps.drop n) (qs.drop n))
 |0,ps,qs,_,_=>by rfl
 |n+1,[],_,h,_=>by simp at h
 |n+1,_::_,[],_,h=>by rfl
 |n+1,p::ps,q::qs,h1,h2=>by simp only[amo,Nat.add_le_add_iff_right]at h1 h2;simp only[cz,List.take_succ_cons,List.drop_succ_cons,CN n ps qs h1 h2,Bool.and_assoc]
variable{ks:List Kd}{ps:List PV}
theorem zf{μ:Ro}{xs:Array Value}(hk:mK ks ps=true)(hl:xs.size=ps.length)(hv:∀(i:Nat)p y,ps[i]?=some p→xs[i]?=some y→av P μ p y):xs=(ps.map valOf).toArray:=by
 apply atO;apply asB;intro i;by_cases hi:i<ps.length
 ·have h1:ps[i]?=some ps[i]:=cN hi;grind [Array.getElem?_eq_getElem,Wl,N3]
 ·simp[hi,hl]
theorem E6(a:List Kd):∀n,(vV a n).length=n*a.length
 |0=>by simp[vV]
 |n+1=>by simp[vV,E6 a n,as2];omega
theorem pO{k:Kd}(h:mK [k] ps=true):∃p,ps=[p]∧Al k p=true:=by
 cases ps with
 |nil=>simp[mK]at h
 |cons p r=>cases r with
  |nil=>exact⟨p,rfl,by simpa[mK]using h⟩
  |cons q r=>simp[mK]at h
theorem Eu{d:Nat}{t:TypeId}(h:HT P d t=some ks):(aN P t=true→ks.length=bj P t)∧(aN P t=false→ks.length=1)∧∃de,P.underlying t=some de:=by
 cases d with
 |zero=>simp[HT]at h
 |succ d=>
  unfold HT at h;split at h
  ·grind [aN]
  ·grind [aN]
  ·grind [aN]
  ·rename_i fs hu;split at h
   ·cases h
   ·obtain⟨a,ha,h⟩:=By.1 h;grind [aN]
  ·rename_i n e hu;obtain⟨a,ha,h⟩:=By.1 h;grind [aN,E6]
  ·cases h
theorem mO{d:Nat}{t:TypeId}{off:Nat}(h:HT P d t=some ks)(hl:off+ks.length≤ps.length):(part t (ps.map valOf).toArray off).run P w=.ok (fo P t ((ps.drop off).take ks.length)) w:=by
 obtain⟨h1,h2,de,hu⟩:=Eu h;cases ha:aN P t with
 |true=>rw[GS ha];congr 1;simp only[fo,ha,BY];simp_all
 |false=>
  have hk:=h2 ha;rw[hk]at hl⊢;have cd:off<ps.length:=by omega
  rw[GU hu ha (y:=valOf ps[off]) (by simp[cd])];congr 1;simp only[fo,ha,cQ,IT];rw[ate cd];rfl
theorem tW:∀(d:Nat)(t:TypeId)(ks:List Kd),HT P d t=some ks→∀(D:Nat)(w:World)(ps qs:List PV),mK ks ps=true→mK ks qs=true→(Op.equalIn (D+d) t (fo P t ps) (fo P t qs)).run P w=.ok (cz ps qs) w
 |0,t,ks,h,_,_,_,_,_,_=>by simp[HT]at h
 |d+1,t,ks,h,D,w,ps,qs,hp,hq=>by
  have ih:=tW d;have h0:=h;unfold HT at h;split at h
  ·rename_i q hu;simp only[cO]at h;subst h;have ha:aN P t=false:=by simp[aN,hu]
   obtain⟨p,rfl,hkp⟩:=pO hp;obtain⟨q',rfl,hkq⟩:=pO hq;clear hp hq;cases p<;>simp[Al]at hkp;cases q'<;>simp[Al]at hkq;subst hkp;subst hkq;simp[fo,ha,valOf,cz,peq,←asW,Op.equalIn,run_underlying hu]
  ·rename_i hu;simp only[cO]at h;subst h;have ha:aN P t=false:=by simp[aN,hu]
   obtain⟨p,rfl,hkp⟩:=pO hp;obtain⟨q',rfl,hkq⟩:=pO hq;clear hp hq;cases p<;>simp[Al]at hkp;cases q'<;>simp[Al]at hkq;simp[fo,ha,valOf,cz,peq,←asW,Op.equalIn,run_underlying hu]
  ·rename_i hu;simp only[cO]at h;subst h;have ha:aN P t=false:=by simp[aN,hu]
   obtain⟨p,rfl,hkp⟩:=pO hp;obtain⟨q',rfl,hkq⟩:=pO hq;clear hp hq;cases p<;>simp[Al]at hkp;cases q'<;>simp[Al]at hkq;simp only[fo,ha,valOf,cz,peq,←asW,cQ,IT,List.headD_cons,atc];simp_all[run_equalIn_string,ByteArray.toList_eq]
  ·rename_i fs hu;split at h
   ·cases h
   ·rename_i uQ;obtain⟨a,ha,h⟩:=By.1 h;split at h
    ·rename_i hlen;simp only[cO]at h;subst h;have TI:aN P t=true:=by simp[aN,hu]
     have hfo:P.fieldsOf t=fs:=by simp[Program.fieldsOf,hu]
     simp only[fo,TI,BY,←asW];rw[run_equalIn_struct w (D+d) t _ _ (by rw[hfo];omega) (by simpa using uQ),hfo];have key:∀(L:List Field)(off:Nat)(b:List Kd)(w:World),vU (HT P d) L off=some b→off≤ps.length→off≤qs.length→mK b (ps.drop off)=true→mK b (qs.drop off)=true→(Op.eqFields (D+d) (ps.map valOf).toArray (qs.map valOf).toArray L).run P w=.ok (cz (ps.drop off) (qs.drop off)) w:=by
      intro L;induction L with
      |nil=>
       intro off b w hb o1 o2 h1 h2;simp only[vU,cO]at hb;subst hb;have e1:ps.drop off=[]:=by cases hh:ps.drop off with|nil=>rfl|cons x r=>rw[hh]at h1;simp[mK]at h1
       have e2:qs.drop off=[]:=by cases hh:qs.drop off with|nil=>rfl|cons x r=>rw[hh]at h2;simp[mK]at h2
       simp[Op.eqFields,e1,e2,cz]
      |cons f L ihL=>
       intro off b w hb o1 o2 h1 h2;simp only[vU]at hb;split at hb
       ·rename_i hf;obtain⟨c,hc,hb⟩:=By.1 hb;obtain⟨b',ke,hb⟩:=By.1 hb;simp only[cO]at hb;subst hb;rw[wg]at h1 h2;have l1:=vc h1.1;have l2:=vc h2.1;simp only[asQ,auu]at l1 l2;have p1:=mO (w:=w) (ps:=ps) (off:=off) hc (by omega);have p2:=mO (w:=w) (ps:=qs) (off:=off) hc (by omega);have p3:=ih f.type c hc D w _ _ h1.1 h2.1;have p4:=ihL (off+c.length) b' w ke (by omega) (by omega) (by simp_all) (by simp_all);simp only[Op.eqFields,hf.2,avA,not_false_eq_true,BY,Sem.run_bind,hf.1,p1,p2,p3,Result.andThen_ok];rw[CN c.length (ps.drop off) (qs.drop off) (by simp;omega) (by simp;omega),at2,at2];cases hr:cz ((ps.drop off).take c.length) ((qs.drop off).take c.length)with
        |false=>simp
        |true=>simpa using p4
       ·cases hb
     grind
    ·cases h
  ·rename_i n e hu;obtain⟨a,ha,h⟩:=By.1 h;split at h
   ·rename_i hlen;simp only[cO]at h;subst h;have TI:aN P t=true:=by simp[aN,hu]
    obtain⟨_,_,de,hde⟩:=Eu ha;obtain⟨i,hi⟩:∃i,P.info? e=some i:=by unfold Program.underlying at hde;grind
    have rW:P.cellsOf e=a.length:=hlen.1.symm;simp only[fo,TI,BY,←asW];rw[run_equalIn_array w (D+d) _ _ hu hi,rW];have key:∀(k j:Nat)(w:World),j+k=n→j*a.length≤ps.length→j*a.length≤qs.length→mK (vV a k) (ps.drop (j*a.length))=true→mK (vV a k) (qs.drop (j*a.length))=true→(Op.eqItems (D+d) e a.length (ps.map valOf).toArray (qs.map valOf).toArray (List.range' j k)).run P w=.ok (cz (ps.drop (j*a.length)) (qs.drop (j*a.length))) w:=by
     intro k;induction k with
     |zero=>
      intro j w _ _ _ h1 h2;simp only[vV]at h1 h2;have e1:ps.drop (j*a.length)=[]:=by cases hh:ps.drop (j*a.length)with|nil=>rfl|cons x r=>rw[hh]at h1;simp[mK]at h1
      have e2:qs.drop (j*a.length)=[]:=by cases hh:qs.drop (j*a.length)with|nil=>rfl|cons x r=>rw[hh]at h2;simp[mK]at h2
      simp[Op.eqItems,e1,e2,cz]
     |succ k ihk=>
      intro j w hj o1 o2 h1 h2;simp only[vV]at h1 h2;rw[wg]at h1 h2;have l1:=vc h1.1;have l2:=vc h2.1;simp only[asQ,auu]at l1 l2;have p1:=mO (w:=w) (ps:=ps) (off:=j*a.length) ha (by omega);have p2:=mO (w:=w) (ps:=qs) (off:=j*a.length) ha (by omega);have p3:=ih e a ha D w _ _ h1.1 h2.1;have ej:(j+1)*a.length=j*a.length+a.length:=by rw[as2];omega
      have p4:=ihk (j+1) w (by omega) (by omega) (by omega) (by simp_all) (by simp_all);rw[at6];simp only[Op.eqItems,Sem.run_bind,p1,p2,p3,Result.andThen_ok];rw[CN a.length (ps.drop (j*a.length)) (qs.drop (j*a.length)) (by simp;omega) (by simp;omega),at2,at2,←ej];cases hr:cz ((ps.drop (j*a.length)).take a.length) ((qs.drop (j*a.length)).take a.length)with
      |false=>simp
      |true=>simpa using p4
    simp_all[at1]
   ·cases h
  ·cases h
end
section
variable {R:Type} {E:Env}
theorem agN{k:IntKind}{x y:Int}(hx:(Lit.int k x).wf=true):(Lit.int k (x.tmod y)).wf=true:=by
 rw[sC]at*;have h0:k.min≤0∧0≤k.max:=by grind [IntKind.min,IntKind.max,IntKind.signed,IntKind.bits]
 rcases Int.le_total 0 x with h|h
 ·have h1:=Int.tmod_nonneg y h;have h2:x.tmod y≤x:=by have:=Int.natAbs_tmod x y;have h3:x.natAbs%y.natAbs≤x.natAbs:=Nat.mod_le _ _;omega
  omega
 ·have h1:x.tmod y= -((-x).tmod y):=by simp
  have h2:=Int.tmod_nonneg y (show 0≤-x by omega);have h3:(-x).tmod y≤-x:=by have:=Int.natAbs_tmod (-x) y;have h3:(-x).natAbs%y.natAbs≤(-x).natAbs:=Nat.mod_le _ _;omega
  omega
theorem agO{k:IntKind}{x:Int}(n:Nat)(hx:(Lit.int k x).wf=true):(Lit.int k (x.fdiv (2^n))).wf=true:=by
 rw[sC]at*;have h0:k.min≤0∧0≤k.max:=by grind [IntKind.min,IntKind.max,IntKind.signed,IntKind.bits]
 have hp:(0:Int)<2^n:=Int.pow_pos (by omega);rw[auH _ (by omega)];rcases Int.le_total 0 x with h|h
 ·have h1:=au7 h (Int.le_of_lt hp);have h2:=Int.ediv_le_self (2^n) h;omega
 ·have h1:x/2^n≤0:=Int.ediv_nonpos_of_nonpos_of_neg h hp;have h2:x≤x/2^n:=by rw[Int.le_ediv_iff_mul_le hp];have:x*2^n≤x*1:=Int.mul_le_mul_of_nonpos_left h (by omega);omega
  omega
variable{P:Program}{t:TypeId}
theorem N4{ps:List PV}(ha:aN P t=true):fo P t ps=.agg (ps.map valOf).toArray:=by simp[fo,ha]
def N5(P:Program)(t:TypeId):Bool:=P.eqGuardType P.depth t
def zg(op:BinOp)(t:TypeId)(ox oy:Operand)(x y:Value):Sem Value:=do eqGuard op t ox oy x y;binOp op t x y
variable{x y:Value}{w:World}
theorem kg{b:Bool}(hb:binOp .eql t x y=(do pure (.bool (←Op.equal t x y))))(h:(Op.equalIn 10000 t x y).run P w=.ok b w):(binOp .eql t x y).run P w=.ok (.bool b) w:=by simp_all[Op.equal,Op.maxDepth,Sem.run_bind,Result.andThen_ok,Sem.run_pure]
theorem kh{b:Bool}(hb:binOp .neq t x y=(do pure (.bool (!(←Op.equal t x y)))))(h:(Op.equalIn 10000 t x y).run P w=.ok b w):(binOp .neq t x y).run P w=.ok (.bool (!b)) w:=by simp_all[Op.equal,Op.maxDepth,Sem.run_bind,Result.andThen_ok,Sem.run_pure]
theorem ck{op:BinOp}{ox oy:Operand}{z:Value}(h1:(eqGuard op t ox oy x y).run P w=.ok () w)(h2:(binOp op t x y).run P w=.ok z w):(zg op t ox oy x y).run P w=.ok z w:=by simp_all[zg,Sem.run_bind,Result.andThen_ok]
theorem pn{e:TypeId}(hu:P.underlying t=some (.pointer e))(a:Option Addr):(Op.equalIn 10000 t (.pointer a) (.pointer none)).run P w=.ok a.isNone w:=by show(Op.equalIn (9999+1) t (.pointer a) (.pointer none)).run P w=.ok a.isNone w;cases a<;>(unfold Op.equalIn;simp only[Sem.run_bind,run_underlying hu,Result.andThen_ok];rfl)
theorem Bd{a b:Array TypeId}{c:Bool}(hu:P.underlying t=some (.func a b c))(f:Fn)(xs ys:Array Value):(Op.equalIn 10000 t (.func f xs ys) .nilFunc).run P w=.ok false w:=by show(Op.equalIn (9999+1) t (.func f xs ys) .nilFunc).run P w=.ok false w;unfold Op.equalIn;simp only[Sem.run_bind,run_underlying hu,Result.andThen_ok];rfl
variable{k:PV→Option R}{a:V}{r:R}
theorem agP{op:BinOp}{b:V}(h:px E op t a b k=some r):∃q,(∀(R':Type)(k':PV→Option R'),px E op t a b k'=k' q)∧k q=some r∧∀(μ:Ro)(φ:Nat→aP)(w:World)(ox oy:Operand)(x y:Value),au E.P μ φ a x→au E.P μ φ b y→∃z,(zg op t ox oy x y).run E.P w=.ok z w∧av E.P μ q z:=by
 unfold px at h;split at h
 ·rename_i q x q' y;have ints:∀(μ:Ro)(φ:Nat→aP)(u v:Value),au E.P μ φ (.pv (.int q x)) u→au E.P μ φ (.pv (.int q' y)) v→u=.int q x∧v=.int q' y∧(Lit.int q x).wf=true:=by intro μ φ u v hu hv;cases hu with|pv hu=>cases hu with|int h1=>cases hv with|pv hv=>cases hv with|int h2=>exact⟨rfl,rfl,h1⟩
  cases op;case shl=>
   simp only at h;split at h
   ·cases h
   ·rename_i hy;refine⟨_,fun R' k'=>by simp[px,hy],h,fun μ φ w ox oy u v hu hv=>?_⟩;obtain⟨rfl,rfl,_⟩:=ints μ φ u v hu hv;exact⟨_,by simp[zg,eqGuard,binOp,Op.shift,hy],.int (wf_wrap _ _)⟩
  case shr=>
   simp only at h;split at h
   ·cases h
   ·rename_i hy;refine⟨_,fun R' k'=>by simp[px,hy],h,fun μ φ w ox oy u v hu hv=>?_⟩;obtain⟨rfl,rfl,hw⟩:=ints μ φ u v hu hv;exact⟨_,by simp[zg,eqGuard,binOp,Op.shift,hy],.int (agO _ hw)⟩
  case quo=>
   simp only at h;split at h
   ·rename_i hq;subst hq;split at h
    ·cases h
    ·rename_i hy;refine⟨_,fun R' k'=>by simp[px,hy],h,fun μ φ w ox oy u v hu hv=>?_⟩;obtain⟨rfl,rfl,_⟩:=ints μ φ u v hu hv;exact⟨_,by simp[zg,eqGuard,binOp,Op.intDiv,hy],.int (wf_wrap _ _)⟩
   ·cases h
  case rem=>
   simp only at h;split at h
   ·rename_i hq;subst hq;split at h
    ·cases h
    ·rename_i hy;refine⟨_,fun R' k'=>by simp[px,hy],h,fun μ φ w ox oy u v hu hv=>?_⟩;obtain⟨rfl,rfl,hw⟩:=ints μ φ u v hu hv;exact⟨_,by simp[zg,eqGuard,binOp,Op.intDiv,hy],.int (agN hw)⟩
   ·cases h
  case eql|neq|lss|leq|gtr|geq=>
   simp only at h;split at h
   ·rename_i hq;subst hq;refine⟨_,fun R' k'=>by simp[px],h,fun μ φ w ox oy u v hu hv=>?_⟩;obtain⟨rfl,rfl,_⟩:=ints μ φ u v hu hv;refine⟨_,ck (by rw[eqGuard_at_int];rfl) ?_,.bool⟩;first|rw[binOp_eql]|rw[binOp_neq]|rw[binOp_lss]|rw[binOp_leq]|rw[binOp_gtr]|rw[binOp_geq]
    rfl
   ·cases h
  all_goals
   simp only at h;split at h
   ·rename_i hq;subst hq;refine⟨_,fun R' k'=>by simp[px],h,fun μ φ w ox oy u v hu hv=>?_⟩;obtain⟨rfl,rfl,_⟩:=ints μ φ u v hu hv;refine⟨_,ck (by rw[eqGuard_at_int];rfl) ?_,.int (wf_wrap _ _)⟩;first|rw[binOp_add]|rw[binOp_sub]|rw[binOp_mul]|rw[binOp_and]|rw[binOp_or]|rw[binOp_xor]|rw[binOp_andNot]
    rfl
   ·cases h
 ·rename_i x y;have strs:∀(μ:Ro)(φ:Nat→aP)(u v:Value),au E.P μ φ (.pv (.str x)) u→au E.P μ φ (.pv (.str y)) v→u=.string ⟨x.toArray⟩∧v=.string ⟨y.toArray⟩:=by intro μ φ u v hu hv;cases hu with|pv hu=>cases hu with|str h1=>cases hv with|pv hv=>cases hv with|str h2=>exact⟨rfl,rfl⟩
  cases op;case add=>
   simp only at h;split at h
   ·rename_i ee;have hy:¬((x.length+y.length:Nat):Int)>IntKind.i64.max:=by have:=E.lp.A5 _ ee;omega
    refine⟨_,fun R' k'=>by simp only[px];rw[IN ee],h,fun μ φ w ox oy u v hu hv=>?_⟩;obtain⟨rfl,rfl⟩:=strs μ φ u v hu hv;refine⟨.string ⟨(x++y).toArray⟩,?_,.str ?_⟩
    ·simp only[zg,eqGuard,binOp,Op.stringOp,Sem.run_bind];have e:(⟨x.toArray⟩++⟨y.toArray⟩:ByteArray)=⟨(x++y).toArray⟩:=by apply ByteArray.ext;simp
     simp only[KV,e];rw[IS hy];simp
    ·simp only[maxLen];simp only[IntKind.max_i64]at hy;simp;omega
   ·cases h
  case eql|neq|lss|leq|gtr|geq=>simp only at h;refine⟨_,fun R' k'=>by simp only[px],h,fun μ φ w ox oy u v hu hv=>?_⟩;obtain⟨rfl,rfl⟩:=strs μ φ u v hu hv;refine⟨_,ck (by rw[eqGuard_at_string];rfl) ?_,.bool⟩;simp only[binOp,Op.stringOp,ByteArray.toList_eq];rfl
  all_goals (simp only at h;cases h)
 ·rename_i x y;have aij:∀(μ:Ro)(φ:Nat→aP)(u v:Value),au E.P μ φ (.pv (.bool x)) u→au E.P μ φ (.pv (.bool y)) v→u=.bool x∧v=.bool y:=by intro μ φ u v hu hv;cases hu with|pv hu=>cases hu with|bool=>cases hv with|pv hv=>cases hv with|bool=>exact⟨rfl,rfl⟩
  split at h
  ·rename_i wh;refine⟨_,fun R' k'=>by simp only[px,wh],h,fun μ φ w ox oy u v hu hv=>?_⟩;obtain⟨rfl,rfl⟩:=aij μ φ u v hu hv;exact⟨_,ck (by rw[eqGuard_at_bool];rfl) (kg rfl (run_equalIn_bool w _ _ _ _ wh)),.bool⟩
  ·rename_i wh;refine⟨_,fun R' k'=>by simp only[px,wh],h,fun μ φ w ox oy u v hu hv=>?_⟩;obtain⟨rfl,rfl⟩:=aij μ φ u v hu hv;exact⟨_,ck (by rw[eqGuard_at_bool];rfl) (kh rfl (run_equalIn_bool w _ _ _ _ wh)),.bool⟩
  ·cases h
 ·split at h
  ·rename_i wh;refine⟨_,fun R' k'=>by simp only[px,wh],h,fun μ φ w ox oy u v hu hv=>?_⟩;cases hu with|pv hu=>cases hu;cases hv with|pv hv=>cases hv;exact⟨_,ck (by rw[eqGuard_at_pointer];rfl) (kg rfl (pn wh none)),.bool⟩
  ·rename_i wh;refine⟨_,fun R' k'=>by simp only[px,wh],h,fun μ φ w ox oy u v hu hv=>?_⟩;cases hu with|pv hu=>cases hu;cases hv with|pv hv=>cases hv;exact⟨_,ck (by rw[eqGuard_at_pointer];rfl) (kh rfl (pn wh none)),.bool⟩
  ·cases h
 ·split at h
  ·rename_i wh;refine⟨_,fun R' k'=>by simp only[px,wh],h,fun μ φ w ox oy u v hu hv=>?_⟩;cases hu with| @fn f0 _ xs0=>cases hv with|pv hv=>cases hv;obtain⟨g0,a0,b0,e0⟩:=we _ xs0;rw[e0];exact⟨_,ck (by rw[eqGuard_at_func];rfl) (kg rfl (Bd wh _ _ _)),.bool⟩
  ·rename_i wh;refine⟨_,fun R' k'=>by simp only[px,wh],h,fun μ φ w ox oy u v hu hv=>?_⟩;cases hu with| @fn f0 _ xs0=>cases hv with|pv hv=>cases hv;obtain⟨g0,a0,b0,e0⟩:=we _ xs0;rw[e0];exact⟨_,ck (by rw[eqGuard_at_func];rfl) (kh rfl (Bd wh _ _ _)),.bool⟩
  ·cases h
 ·split at h
  ·rename_i wh;refine⟨_,fun R' k'=>by simp only[px,wh],h,fun μ φ w ox oy u v hu hv=>?_⟩;cases hu with|pv hu=>cases hu with| @fn f0 _ xs0=>cases hv with|pv hv=>cases hv;obtain⟨g0,a0,b0,e0⟩:=we _ xs0;rw[e0];exact⟨_,ck (by rw[eqGuard_at_func];rfl) (kg rfl (Bd wh _ _ _)),.bool⟩
  ·rename_i wh;refine⟨_,fun R' k'=>by simp only[px,wh],h,fun μ φ w ox oy u v hu hv=>?_⟩;cases hu with|pv hu=>cases hu with| @fn f0 _ xs0=>cases hv with|pv hv=>cases hv;obtain⟨g0,a0,b0,e0⟩:=we _ xs0;rw[e0];exact⟨_,ck (by rw[eqGuard_at_func];rfl) (kh rfl (Bd wh _ _ _)),.bool⟩
  ·cases h
 ·split at h
  ·rename_i wh;refine⟨_,fun R' k'=>by simp only[px,wh],h,fun μ φ w ox oy u v hu hv=>?_⟩;cases hu with|pv hu=>cases hu;cases hv with|pv hv=>cases hv;exact⟨_,ck (by rw[eqGuard_at_pointer];rfl) (kg rfl (pn wh _)),.bool⟩
  ·rename_i wh;refine⟨_,fun R' k'=>by simp only[px,wh],h,fun μ φ w ox oy u v hu hv=>?_⟩;cases hu with|pv hu=>cases hu;cases hv with|pv hv=>cases hv;exact⟨_,ck (by rw[eqGuard_at_pointer];rfl) (kh rfl (pn wh _)),.bool⟩
  ·cases h
 ·split at h
  ·rename_i wh;refine⟨_,fun R' k'=>by simp only[px,wh],h,fun μ φ w ox oy u v hu hv=>?_⟩;cases hu with|op hg=>cases hv with|pv hv=>cases hv;exact⟨_,ck (by rw[eqGuard_at_pointer];rfl) (kg rfl (pn wh _)),.bool⟩
  ·rename_i wh;refine⟨_,fun R' k'=>by simp only[px,wh],h,fun μ φ w ox oy u v hu hv=>?_⟩;cases hu with|op hg=>cases hv with|pv hv=>cases hv;exact⟨_,ck (by rw[eqGuard_at_pointer];rfl) (kh rfl (pn wh _)),.bool⟩
  ·cases h
 ·split at h
  ·rename_i wh;refine⟨_,fun R' k'=>by simp only[px,wh],h,fun μ φ w ox oy u v hu hv=>?_⟩;cases hu with|oe hg=>cases hv with|pv hv=>cases hv;exact⟨_,ck (by rw[eqGuard_at_pointer];rfl) (kg rfl (pn wh _)),.bool⟩
  ·rename_i wh;refine⟨_,fun R' k'=>by simp only[px,wh],h,fun μ φ w ox oy u v hu hv=>?_⟩;cases hu with|oe hg=>cases hv with|pv hv=>cases hv;exact⟨_,ck (by rw[eqGuard_at_pointer];rfl) (kh rfl (pn wh _)),.bool⟩
  ·cases h
 ·rename_i n1 n2 n3 n4 m1 m2 n5 n6 n7;split at h
  ·rename_i ha;split at h
   ·rename_i ks as bs hks has hbs;split at h
    ·rename_i ps qs tU hqs;split at h
     ·rename_i hc;have hE:N5 E.P t=false∧HT E.P 8 t=some ks:=by
       unfold yy at hks;split at hks
       ·cases hks
       ·rename_i hg;exact⟨by simpa[N5]using hg,hks⟩
      have key:∀(μ:Ro)(φ:Nat→aP)(w:World)(x y:Value),au E.P μ φ a x→au E.P μ φ b y→∃xs ys,x=.agg xs∧y=.agg ys∧(Op.equalIn 10000 t x y).run E.P w=.ok (cz ps qs) w:=by intro μ φ w x y hx hy;obtain⟨xs,rfl,g1,g2,g3⟩:=(tF has).2 _ _ _ _ hx;obtain⟨ys,rfl,g4,g5,g6⟩:=(tF hbs).2 _ _ _ _ hy;obtain⟨l1,l2⟩:=iZ tU;obtain⟨l3,l4⟩:=iZ hqs;have e1:=zf (P:=E.P) (μ:=μ) (xs:=xs) hc.1 (by omega) (fun i p z hi hz=>by obtain⟨v,hv,hg⟩:=l2 i p hi;exact Av 1 hg (g2 i v z hv hz));have e2:=zf (P:=E.P) (μ:=μ) (xs:=ys) hc.2 (by omega) (fun i p z hi hz=>by obtain⟨v,hv,hg⟩:=l4 i p hi;exact Av 1 hg (g5 i v z hv hz));refine⟨xs,ys,rfl,rfl,?_⟩;have:=tW 8 t ks hE.2 9992 w ps qs hc.1 hc.2;rw[N4 ha,N4 ha,←e1,←e2]at this;exact this
      have apQ:∀(R':Type)(k':PV→Option R'),px E .eql t a b k'=k' (.bool (cz ps qs)):=by
       intro R' k';unfold px;split
       ·exact(n1 _ _ _ _ rfl rfl).elim
       ·exact(n2 _ _ rfl rfl).elim
       ·exact(n3 _ _ rfl rfl).elim
       ·exact(n4 rfl rfl).elim
       ·exact(m1 _ _ rfl rfl).elim
       ·exact(m2 _ _ rfl rfl).elim
       ·exact(n5 _ rfl rfl).elim
       ·exact(n6 _ _ rfl rfl).elim
       ·exact(n7 _ _ _ rfl rfl).elim
       ·rw[IN ha,hks,has,hbs];simp only[tU,hqs];rw[IN hc]
      have apR:∀(R':Type)(k':PV→Option R'),px E .neq t a b k'=k' (.bool (!(cz ps qs))):=by
       intro R' k';unfold px;split
       ·exact(n1 _ _ _ _ rfl rfl).elim
       ·exact(n2 _ _ rfl rfl).elim
       ·exact(n3 _ _ rfl rfl).elim
       ·exact(n4 rfl rfl).elim
       ·exact(m1 _ _ rfl rfl).elim
       ·exact(m2 _ _ rfl rfl).elim
       ·exact(n5 _ rfl rfl).elim
       ·exact(n6 _ _ rfl rfl).elim
       ·exact(n7 _ _ _ rfl rfl).elim
       ·rw[IN ha,hks,has,hbs];simp only[tU,hqs];rw[IN hc]
      cases op;case eql=>refine⟨_,fun R' k'=>apQ R' k',h,fun μ φ w ox oy x y hx hy=>?_⟩;obtain⟨xs,ys,rfl,rfl,hr⟩:=key μ φ w x y hx hy;exact⟨_,ck (run_eqGuard_agg w _ _ _ _ _ _ hE.1) (kg rfl hr),.bool⟩
      case neq=>refine⟨_,fun R' k'=>apR R' k',h,fun μ φ w ox oy x y hx hy=>?_⟩;obtain⟨xs,ys,rfl,rfl,hr⟩:=key μ φ w x y hx hy;exact⟨_,ck (run_eqGuard_agg w _ _ _ _ _ _ hE.1) (kh rfl hr),.bool⟩
      all_goals (simp only at h;cases h)
     ·cases h
    ·cases h
   ·cases h
  ·cases h
theorem ai7{op:UnOp}(h:xun op a k=some r):∃q,(∀(R':Type)(k':PV→Option R'),xun op a k'=k' q)∧k q=some r∧∀(P:Program)(μ:Ro)(φ:Nat→aP)(w:World)(x:Value),au P μ φ a x→∃z,(Op.unary op x).run P w=.ok z w∧av P μ q z:=by
 unfold xun at h;split at h
 ·refine⟨_,fun R' k'=>rfl,h,fun P μ φ w x hx=>?_⟩;cases hx with|pv hx=>cases hx;exact⟨_,rfl,.bool⟩
 ·refine⟨_,fun R' k'=>rfl,h,fun P μ φ w x hx=>?_⟩;cases hx with|pv hx=>cases hx;exact⟨_,rfl,.int (wf_wrap _ _)⟩
 ·refine⟨_,fun R' k'=>rfl,h,fun P μ φ w x hx=>?_⟩;cases hx with|pv hx=>cases hx;exact⟨_,rfl,.int (wf_wrap _ _)⟩
 ·cases h
theorem agQ{k:IntKind}{n:Int}(h:(Lit.int k n).wf=true):k.wrap n=n:=by rw[sC]at h;cases k<;>simp only[IntKind.wrap,IntKind.min,IntKind.max,IntKind.signed,IntKind.bits]at* <;>simp at* <;>(try split)<;>omega
theorem ab5{s d:TypeId}(h:KD E s d a k=some r):∃q,(∀(R':Type)(k':PV→Option R'),KD E s d a k'=k' q)∧k q=some r∧∀(μ:Ro)(φ:Nat→aP)(w:World)(x:Value),au E.P μ φ a x→∃z,(convert s d x).run E.P w=.ok z w∧av E.P μ q z:=by
 unfold KD at h;split at h
 ·rename_i q q' q'' n hs hd;split at h
  ·rename_i e1;subst e1;split at h
   ·rename_i e2;subst e2;refine⟨_,fun R' k'=>by simp[KD,hs,hd],h,fun μ φ w x hx=>?_⟩;cases hx with|pv hx=>cases hx with|int hw=>exact⟨_,by simp[convert,run_underlying hs,run_underlying hd,Conv.intToInt,agQ hw],.int hw⟩
   ·rename_i e2;refine⟨_,fun R' k'=>by simp[KD,hs,hd,e2],h,fun μ φ w x hx=>?_⟩;cases hx with|pv hx=>cases hx with|int hw=>exact⟨_,by simp[convert,run_underlying hs,run_underlying hd,Conv.intToInt],.int (wf_wrap _ _)⟩
  ·cases h
 ·rename_i hs hd;refine⟨_,fun R' k'=>by simp[KD,hs,hd],h,fun μ φ w x hx=>?_⟩;cases hx with|pv hx=>cases hx with|str hl=>exact⟨_,by simp[convert,run_underlying hs,run_underlying hd],.str hl⟩
 ·cases h
theorem ab6{b:V}(h:Q4 a b k=some r):∃q,(∀(R':Type)(k':PV→Option R'),Q4 a b k'=k' q)∧k q=some r∧∀(P:Program)(μ:Ro)(φ:Nat→aP)(w:World)(x y:Value),au P μ φ a x→au P μ φ b y→∃z,(Builtin.min2 x y).run P w=.ok z w∧av P μ q z:=by
 unfold Q4 at h;split at h
 ·split at h
  ·rename_i e;subst e;refine⟨_,fun R' k'=>by simp[Q4],h,fun P μ φ w x y hx hy=>?_⟩;cases hx with|pv hx=>cases hx with|int h1=>cases hy with|pv hy=>cases hy with|int h2=>exact⟨_,rfl,by split<;>exact .int (by assumption)⟩
  ·cases h
 ·cases h
theorem GV{b:V}(h:Jd a b k=some r):∃q,(∀(R':Type)(k':PV→Option R'),Jd a b k'=k' q)∧k q=some r∧∀(P:Program)(μ:Ro)(φ:Nat→aP)(w:World)(x y:Value),au P μ φ a x→au P μ φ b y→∃z,(Builtin.max2 x y).run P w=.ok z w∧av P μ q z:=by
 unfold Jd at h;split at h
 ·split at h
  ·rename_i e;subst e;refine⟨_,fun R' k'=>by simp[Jd],h,fun P μ φ w x y hx hy=>?_⟩;cases hx with|pv hx=>cases hx with|int h1=>cases hy with|pv hy=>cases hy with|int h2=>exact⟨_,rfl,by split<;>exact .int (by assumption)⟩
  ·cases h
 ·cases h
theorem ab7{b c d:V}(h:Q5 a b c d k=some r):∃q,(∀(R':Type)(k':PV→Option R'),Q5 a b c d k'=k' q)∧k q=some r∧∀(P:Program)(μ:Ro)(φ:Nat→aP)(w:World)(x y z u:Value),au P μ φ a x→au P μ φ b y→au P μ φ c z→au P μ φ d u→∃v1 v2 v3,(Builtin.max2 x y).run P w=.ok v1 w∧(Builtin.max2 v1 z).run P w=.ok v2 w∧(Builtin.max2 v2 u).run P w=.ok v3 w∧av P μ q v3:=by unfold Q5 at h;obtain⟨q1,a1,h,b1⟩:=GV h;obtain⟨q2,a2,h,b2⟩:=GV h;obtain⟨q3,a3,h,b3⟩:=GV h;refine⟨q3,fun R' k'=>by unfold Q5;rw[a1,a2,a3],h,fun P μ φ w x y z u hx hy hz hu=>?_⟩;obtain⟨v1,c1,d1⟩:=b1 P μ φ w x y hx hy;obtain⟨v2,c2,d2⟩:=b2 P μ φ w v1 z (.pv d1) hz;obtain⟨v3,c3,d3⟩:=b3 P μ φ w v2 u (.pv d2) hu;exact⟨v1,v2,v3,c1,c2,c3,d3⟩
end
section
variable {P:Program} {G:Nat→Option (List PV)} {w0:bO} {μ μ':Ro} {φ φ':Nat→aP} {m:Mem} {w w':World}
variable{b:bX}
@[simp] theorem cg(m:Mem)(d:Nat)(b:bX):aD m d b d=some b:=by simp[aD]
theorem aF{m:Mem}{d t:Nat}(h:t≠d):aD m d b t=m t:=by simp[aD,cond_eq_ite,h]
@[simp] theorem aik(m:Mem)(d:Nat):bF m d d=none:=by simp[bF]
theorem gZ{m:Mem}{d t:Nat}(h:t≠d):bF m d t=m t:=by simp[bF,cond_eq_ite,h]
@[simp] theorem FH(f:Fr)(d:Nat)(v:V):ij f d v d=v:=by simp[ij]
theorem wj{f:Fr}{d t:Nat}{v:V}(h:t≠d):ij f d v t=f t:=by simp[ij,cond_eq_ite,h]
variable{id sz:Nat}{et:TypeId}{es:List PV}
theorem aX.cF(h:aX P μ φ w id sz et es)(hφ:φ' id=φ id)(hμ:∀b o,μ b=some o→μ' b=some o)(hw:∀g,(φ id).g=some g→w'.heap[g]?=w.heap[g]?):aX P μ' φ' w' id sz et es:=by
 obtain⟨a1,a2,a3,a4,a5,a6,a7⟩:=h;unfold aX;rw[hφ];refine⟨a1,a2,a3,a4,a5,a6,?_⟩;cases hg:(φ id).g with
 |none=>rw[hg]at a7;omega
 |some g=>rw[hg]at a7;obtain⟨c,T,c1,c2,c3,c4,c5⟩:=a7;exact⟨c,T,by rw[hw g hg];omega,c2,c3,fun i e j p x h1 h2 h3=>(c4 i e j p x h1 h2 h3).mono hμ,c5⟩
theorem fm.cF{R:Jk}{s:Nat}{rs:List PV}{x:Value}(h:fm P μ R w s rs x)(hμ:∀b o,μ b=some o→μ' b=some o)(hw:∀g,R.g=some g→w'.heap[g]?=w.heap[g]?):fm P μ' R w' s rs x:=
 let⟨⟨et,hA⟩,hV⟩:=h
 ⟨⟨et,hA.cF rfl hμ hw⟩,hV.E3 hμ⟩
theorem eH.cF{R:Jk}{p:PV}{x:Value}(h:eH P μ R w p x)(hμ:∀b o,μ b=some o→μ' b=some o)(hw:p.isRow=true→∀g,R.g=some g→w'.heap[g]?=w.heap[g]?):eH P μ' R w' p x:=by
 unfold eH at*;split at h
 ·exact fm.cF h hμ (hw rfl)
 ·exact h.mono hμ
variable{i j:Nat}
theorem dS{e p:PV}(he:es[i]?=some e)(hp:e.cells[j]?=some p):(bX.nest sz et es).rowAt i j=p.isRow:=by simp[bX.rowAt,he,hp]
theorem bu.cF{id sz:Nat}{et:TypeId}{es:List PV}(h:bu P μ φ w id sz et es)(hφ:φ' id=φ id)(hμ:∀b o,μ b=some o→μ' b=some o)(hw:∀g,(bX.nest sz et es).owns (φ id) g→w'.heap[g]?=w.heap[g]?):bu P μ' φ' w' id sz et es:=by
 obtain⟨a1,a2,a3,a4,a5,a6,a7⟩:=h;unfold bu;rw[hφ];refine⟨a1,a2,a3,a4,a5,a6,?_⟩;cases hg:(φ id).g with
 |none=>rw[hg]at a7;omega
 |some g=>rw[hg]at a7;obtain⟨c,T,c1,c2,c3,c4,c5⟩:=a7;exact⟨c,T,by rw[hw g (.inl hg)];omega,c2,c3,fun i e j p x h1 h2 h3=>(c4 i e j p x h1 h2 h3).cF hμ fun hr g' du=>hw g' (.inr ⟨i,j,by rw[dS h1 h2];omega,du⟩),c5⟩
theorem me{kt e:TypeId}{es:List (PV×PV)}{k v:PV}(he:es[i]?=some (k,v)):(bX.fU kt e es).rowAt i 0=v.isRow:=by simp[bX.rowAt,he]
theorem iK.cF{id:Nat}{b:bX}(h:iK P μ φ w id b)(hn:∀j,b.names j=true→φ' j=φ j)(hφ:φ' id=φ id)(hμ:∀b o,μ b=some o→μ' b=some o)(hw:∀g,b.owns (φ id) g→w'.heap[g]?=w.heap[g]?):iK P μ' φ' w' id b:=by
 cases b with
 |nest sz et es=>exact bu.cF h hφ hμ hw
 |fU kt e0 es=>
  obtain⟨g,en,clock,kk,hg,hh,hs,hk,hc,Cy,hv⟩:=h;refine⟨g,en,clock,kk,by rw[hφ];omega,by rw[hw g (.inl hg)];omega,hs,hk,hc,Cy,fun i k v e h1 h2=>⟨(hv i k v e h1 h2).1.mono hμ,?_⟩⟩;have h3:=(hv i k v e h1 h2).2;rw[hφ];split at h3
  ·exact⟨h3.1.cF rfl hμ fun g' du=>hw g' (.inr ⟨i,0,by rw[me h1];rfl,du⟩),h3.2.E3 hμ⟩
  ·exact h3.mono hμ
 |box cs=>obtain⟨g,c,T,hg,hh,hs,hv,h1,JZ⟩:=h;exact⟨g,c,T,by rw[hφ];omega,by rw[hw g (.inl hg)];omega,hs,fun i v x hi hx=>(hv i v x hi hx).mono hμ (fun j hj=>hn j (bZ (aqY hi) hj)),h1,by rw[hφ];omega⟩
 |arr sz et es=>exact aX.cF h hφ hμ fun g hg=>hw g (.inl hg)
 |vK sz et es=>refine⟨aX.cF h.1 hφ hμ fun g hg=>hw g (.inl hg),fun g hg=>?_⟩;rw[hφ]at hg;have:=h.2 g hg;obtain⟨o,ho⟩:=asA.1 this;rw[hμ _ _ ho];rfl
 |map kt es=>obtain⟨g,en,clock,kk,hg,hh,hs,hk,hc,Cy,hv⟩:=h;exact⟨g,en,clock,kk,by rw[hφ];omega,by rw[hw g (.inl hg)];omega,hs,hk,hc,Cy,fun i k v e h1 h2=>⟨(hv i k v e h1 h2).1.mono hμ,(hv i k v e h1 h2).2.mono hμ⟩⟩
 |iter t es cur=>obtain⟨g,mg,en,clock,seen,hg,hh,QG,Cy,JZ,hv,hcu⟩:=h;exact⟨g,mg,en,clock,seen,by rw[hφ];omega,by rw[hw g (.inl hg)];omega,hμ _ _ QG,Cy,JZ,fun i k v e h1 h2=>⟨(hv i k v e h1 h2).1.mono hμ,(hv i k v e h1 h2).2.mono hμ⟩,fun k v hc=>let⟨i,e,h1,h2,h3,h4⟩:=hcu k v hc;⟨i,e,h1,h2,h3.mono hμ,h4.mono hμ⟩⟩
 |loop st=>obtain⟨g,rc,hg,hh⟩:=h;exact⟨g,rc,by rw[hφ];omega,by rw[hw g (.inl hg)];omega⟩
variable{g:Nat}
theorem fm.KZ{R:Jk}{s:Nat}{rs:List PV}{x:Value}(h:fm P μ R w s rs x)(hg:R.g=some g):g<w.heap.size:=by obtain⟨⟨et,_,_,_,_,_,_,a7⟩,_⟩:=h;have du:R.up.g=some g:=hg;grind
theorem mf{off:Nat}(h:b.rowAt i off=true):(∃sz et es e s rs,b=.nest sz et es∧es[i]?=some e∧e.cells[off]?=some (.uY s rs))∨∃kt e0 es k s rs,b=.fU kt e0 es∧off=0∧es[i]?=some (k,.uY s rs):=by
 unfold bX.rowAt at h;split at h
 ·rename_i sz et es i off;split at h
  ·rename_i e he;split at h
   ·rename_i p hp;cases p<;>first|(cases h;done)|skip
    grind
   ·cases h
  ·cases h
 ·rename_i kt e0 es i;split at h
  ·rename_i x hx;obtain⟨k,v⟩:=x;cases v<;>first|(cases h;done)|skip
   grind
  ·cases h
 ·cases h
theorem iK.amF{off:Nat}(h:iK P μ φ w id b)(hr:b.rowAt i off=true)(hg:((φ id).row i off).g=some g):g<w.heap.size:=by
 rcases mf hr with⟨sz,et,es,e,s,rs,rfl,he,hp⟩|⟨kt,e0,es,k,s,rs,rfl,rfl,he⟩
 ·have hN:bu P μ φ w id sz et es:=h;have hgg:∃g0,(φ id).g=some g0:=by
   cases hq:(φ id).g with
   |some g0=>simp
   |none=>have a7:=hN.2.2.2.2.2.2;simp_all
  obtain⟨g0,T2⟩:=hgg;obtain⟨c,_,x,_,_,c3,_⟩:=hN.cell T2 he hp;exact fm.KZ (show fm P μ _ w s rs x from c3) hg
 ·obtain⟨g0,en,clock,kk,T2,hh,hs,hk,hc,Cy,hv⟩:=h;have hi:i<en.size:=by grind
  have h3:=(hv i k _ en[i] he (aiX hi)).2;exact fm.KZ (P:=P) (μ:=μ) (R:=(φ id).row i 0) (s:=s) (rs:=rs) (x:=en[i].val) ⟨⟨_,h3.1⟩,h3.2⟩ hg
theorem iK.KZ(h:iK P μ φ w id b)(hg:b.owns (φ id) g):g<w.heap.size:=by
 rcases hg with hg|⟨i,off,hr,hg⟩
 rotate_left
 ·exact h.amF hr hg
 have key:∀o,w.heap[g]?=some o→g<w.heap.size:=fun o ho=>(apj.1 ho).1;cases b with
 |nest sz et es=>obtain⟨_,_,_,_,_,_,a7⟩:=h;grind
 |fU kt e0 es=>obtain⟨g',en,clock,kk,du,hh,_⟩:=h;simp_all
 |box cs=>obtain⟨g',c,T,du,hh,_⟩:=h;simp_all
 |arr sz et es=>obtain⟨_,_,_,_,_,_,a7⟩:=h;grind
 |vK sz et es=>obtain⟨⟨_,_,_,_,_,_,a7⟩,_⟩:=h;grind
 |map kt es=>obtain⟨g',en,clock,kk,du,hh,_⟩:=h;simp_all
 |iter t es cur=>obtain⟨g',mg,en,clock,seen,du,hh,_⟩:=h;simp_all
 |loop st=>obtain⟨g',rc,du,hh⟩:=h;simp_all
theorem aL.T3(hM:aL P G w0 μ φ m w)(hm:m j=some b)(hn:b.names id=true):(m id).isSome=true:=by
 cases b with
 |box cs=>exact hM.gz j cs id hm hn
 |_=>simp[bX.names]at hn
theorem Ev{cs:List V}(h:cA j (cs.map (yz id))=true):cA j cs=true∧j≠id:=by obtain⟨v,hv,hh⟩:=cW.1 h;obtain⟨u,hu,rfl⟩:=asC.1 hv;grind [CL,bZ]
theorem iK.kill{id j:Nat}{b:bX}(h:iK P μ φ w j b):iK P μ φ w j (il id b):=by
 cases b with
 |box cs=>obtain⟨g,c,T,hg,hh,hs,hv,h1,JZ⟩:=h;refine⟨g,c,T,hg,hh,by simpa using hs,fun i v x hi hx=>?_,h1,by simpa using JZ⟩;simp only[AT,aqX]at hi;obtain⟨u,hu,rfl⟩:=hi;exact(hv i u x hu hx).kill id
 |_=>exact h
theorem Be(id:Nat)(b:bX):(il id b).rowAt=b.rowAt:=by cases b<;>rfl
variable{p:aP}
theorem hU:(il id b).owns p g↔b.owns p g:=by unfold bX.owns;rw[Be]
theorem Bf:(il id b).apart p↔b.apart p:=by unfold bX.apart;rw[Be]
theorem wm(h:∀i off,b.rowAt i off=true→False):b.apart p:=fun i off _ hr=>(h i off hr).elim
theorem sE(h:∀i off,b.rowAt i off=true→False)(ho:b.owns p g):p.g=some g:=by
 rcases ho with h1|⟨i,off,hr,_⟩
 ·omega
 simp_all
theorem K0(h:bS id m j=some b):∃b',m j=some b'∧b=il id b':=by unfold bS at h;grind
theorem Ew(id:Nat)(b:bX):(il id b).lL=b.lL:=by cases b<;>rfl
theorem aL.forget(hM:aL P G w0 μ φ m w)(id:Nat):aL P G w0 μ φ (bF (bS id m) id) w:=by
 have key:∀j b,bF (bS id m) id j=some b→j≠id∧∃b',m j=some b'∧b=il id b':=by
  intro j b h;by_cases e:j=id
  ·subst e;simp at h
  simp_all[gZ,K0]
 refine⟨hM.below,hM.ro,hM.aW,fun j b h=>?_,fun j b g h hg=>?_,fun i j b1 b2 g h1 h2 g1 g2=>?_,fun j b h=>?_,fun j cs i h hh=>?_,hM.base,hM.dY,fun j st h=>?_⟩
 rotate_right
 ·obtain⟨_,b',hb,e⟩:=key j _ h;cases b' with
  |loop st'=>simp only[il,bX.loop.injEq]at e;subst e;exact hM.Jj j st hb
  |_=>simp[il]at e
 ·obtain⟨_,b',hb,rfl⟩:=key j b h;exact(hM.dX j b' hb).kill
 ·obtain⟨_,b',hb,rfl⟩:=key j b h;rw[Ew];exact hM.own j b' g hb (hU.1 hg)
 ·obtain⟨_,b1',ZU,rfl⟩:=key i b1 h1;obtain⟨_,b2',yq,rfl⟩:=key j b2 h2;exact hM.inj i j b1' b2' g ZU yq (hU.1 g1) (hU.1 g2)
 ·obtain⟨_,b',hb,rfl⟩:=key j b h;exact Bf.2 (hM.apart j b' hb)
 ·obtain⟨_,b',hb,e⟩:=key j _ h;cases b' with
  |box T5=>simp only[il,bX.box.injEq]at e;subst e;obtain⟨h1,h2⟩:=Ev hh;have:=hM.gz j T5 i hb h1;grind [gZ,bS]
  |_=>simp[il]at e
theorem E7(m:Mem)(id:Nat)(b:bX):aD (bF m id) id b=aD m id b:=by
 funext t;by_cases h:t=id
 ·subst h;simp
 simp_all[aF,gZ]
variable{b':bX}
theorem K1(B4:∀i off,b'.rowAt i off=true→b.rowAt i off=true)(h:b'.owns p g):b.owns p g:=by
 rcases h with h|⟨i,off,hr,h⟩
 ·exact .inl h
 ·exact .inr ⟨i,off,B4 i off hr,h⟩
theorem ZV(B4:∀i off,b'.rowAt i off=true→b.rowAt i off=true)(h:b.apart p):b'.apart p:=fun i off g hr hg=>
 let⟨h1,h2⟩:=h i off g (B4 i off hr) hg
 ⟨h1,fun i' Ba Cz du=>h2 i' Ba (B4 i' Ba Cz) du⟩
theorem aL.ab8(hM:aL P G w0 μ φ m w)(hm:m id=some b)(ab9:b.lL=true)(hg:b.owns (φ id) g)(T6:nD g w w')(Wm:w'.heap.size=w.heap.size)(hw:∀k,k≠g→w'.heap[k]?=w.heap[k]?)(hB:iK P μ φ w' id b')(ail:b'.lL=true)(hn:∀j,b'.names j=true→(m j).isSome=true)(B4:∀i off,b'.rowAt i off=true→b.rowAt i off=true)(hlp:∀st,b'=.loop st→∃rc,(φ id).g=some g∧w0.rc id=some (g,rc)∧w'.heap[g]?=some (.loop (st.obj rc)):=by intro st h;cases h):aL P G w0 μ φ (aD m id b') w':=by
 obtain⟨H7,hμ⟩:=hM.own id b g hm hg;have hμ:=hμ ab9;refine⟨hM.below.trans (T6.mono H7),fun k o hk=>?_,hM.aW,fun j c hj=>?_,fun j c g' hj du=>?_,fun i j b1 b2 g' h1 h2 g1 g2=>?_,fun j c hj=>?_,fun j cs i hj hh=>?_,hM.base,hM.dY,fun j st hj=>?_⟩
 rotate_right
 ·by_cases e:j=id
  ·simp_all
  ·rw[aF e]at hj;obtain⟨g',rc,h1,h2,h3⟩:=hM.Jj j st hj;exact⟨g',rc,h1,h2,by rw[hw g' (fun e'=>by subst e';exact e (hM.inj j id _ b g' hj hm (.inl h1) hg))];omega⟩
 ·have:k≠g:=fun e=>by simp_all
  rw[hw k this];exact hM.ro k o hk
 ·by_cases e:j=id
  ·simp_all
  ·rw[aF e]at hj;refine(hM.dX j c hj).cF (fun _ _=>rfl) rfl (fun _ _ h=>h) (fun g' du=>hw g' (fun e'=>?_));subst e';exact e (hM.inj j id c b g' hj hm du hg)
 ·by_cases e:j=id
  ·subst e;rw[cg]at hj;simp only[cO]at hj;subst hj;obtain⟨h1,h2⟩:=hM.own j b g' hm (K1 B4 du);simp_all
  ·rw[aF e]at hj;exact hM.own j c g' hj du
 ·have e1:∃c1,m i=some c1∧c1.owns (φ i) g':=by grind [id,cg,Option.some.injEq,K1,aF]
  have e2:∃c2,m j=some c2∧c2.owns (φ j) g':=by grind [id,cg,Option.some.injEq,K1,aF]
  obtain⟨c1,e1,o1⟩:=e1;obtain⟨c2,e2,o2⟩:=e2;exact hM.inj i j c1 c2 g' e1 e2 o1 o2
 ·by_cases e:j=id
  ·subst e;rw[cg]at hj;simp only[cO]at hj;subst hj;exact ZV B4 (hM.apart j b hm)
  ·rw[aF e]at hj;exact hM.apart j c hj
 ·have:(m i).isSome=true:=by
   by_cases e:j=id
   ·subst e;rw[cg]at hj;simp only[cO]at hj;subst hj;exact hn i hh
   ·rw[aF e]at hj;exact hM.gz j cs i hj hh
  by_cases e:i=id
  ·subst e;simp
  ·rw[aF e];omega
theorem aL.write(hM:aL P G w0 μ φ m w)(hm:m id=some b)(ab9:b.lL=true)(hg:(φ id).g=some g)(T6:nD g w w')(Wm:w'.heap.size=w.heap.size)(hw:∀k,k≠g→w'.heap[k]?=w.heap[k]?)(hB:iK P μ φ w' id b')(ail:b'.lL=true)(hn:∀j,b'.names j=true→(m j).isSome=true)(hlp:∀st,b'=.loop st→∃rc,w0.rc id=some (g,rc)∧w'.heap[g]?=some (.loop (st.obj rc)):=by intro st h;cases h)(B4:∀i off,b'.rowAt i off=true→b.rowAt i off=true:=by intro i off h;simp[bX.rowAt]at h):aL P G w0 μ φ (aD m id b') w':=hM.ab8 hm ab9 (.inl hg) T6 Wm hw hB ail hn B4 fun st h=>let⟨rc,h1,h2⟩:=hlp st h;⟨rc,hg,h1,h2⟩
def uR(μ:Ro)(w:World)(g:Option Nat):Ro:=fun b=>if g=some b then w.heap[b]? else μ b
theorem oH(hM:aL P G w0 μ φ m w)(g:Option Nat):∀b o,μ b=some o→uR μ w g b=some o:=by
 intro b o hb;unfold uR;split
 ·exact hM.ro b o hb
 omega
noncomputable def Aw(μ:Ro)(w:World)(S:Nat→Prop):Ro:=fun b=> @ite _ (S b) (Classical.propDecidable _) (w.heap[b]?) (μ b)
theorem wo(hM:aL P G w0 μ φ m w)(S:Nat→Prop):∀b o,μ b=some o→Aw μ w S b=some o:=by
 intro b o hb;unfold Aw;split
 ·exact hM.ro b o hb
 omega
theorem aL.Wn(hM:aL P G w0 μ φ m w)(hm:m id=some b)(hlp:∀st,b≠.loop st)(hA:aX P (Aw μ w (b.owns (φ id))) φ w id sz et es):aL P G w0 (Aw μ w (b.owns (φ id))) φ (aD m id (.vK sz et es)) w:=by
 have mono:=wo hM (b.owns (φ id));have aca:∀i off,(bX.vK sz et es).rowAt i off=true→False:=fun i off h=>by simp[bX.rowAt]at h
 refine⟨hM.below,fun k o hb=>?_,fun g cs hg=>(hM.aW g cs hg).mono mono,fun j c hj=>?_,fun j c g' hj du=>?_,fun i j b1 b2 g' h1 h2 g1 g2=>?_,fun j c hj=>?_,fun j cs i hj hh=>?_,fun k o hb cd=>?_,fun b o hb=>mono b o (hM.dY b o hb),fun j st hj=>?_⟩
 rotate_right
 ·by_cases e:j=id
  ·simp_all
  ·rw[aF e]at hj;exact hM.Jj j st hj
 rotate_right
 ·unfold Aw at hb;split at hb
  ·rename_i he;have:=(hM.own id b k hm he).1;omega
  ·exact hM.base k o hb cd
 ·unfold Aw at hb;split at hb
  ·omega
  ·exact hM.ro k o hb
 ·by_cases e:j=id
  ·subst e;rw[cg]at hj;simp only[cO]at hj;subst hj;refine⟨hA,fun g hg=>?_⟩;have:=iK.KZ (b:=.arr sz et es) hA (.inl hg);unfold Aw;rw[IN (show b.owns (φ j) g from .inl hg)];simp[this]
  ·rw[aF e]at hj;exact(hM.dX j c hj).cF (fun _ _=>rfl) rfl mono (fun _ _=>rfl)
 ·by_cases e:j=id
  ·subst e;rw[cg]at hj;simp only[cO]at hj;subst hj;exact⟨(hM.own j b g' hm (.inl (sE aca du))).1,by simp[bX.lL]⟩
  ·rw[aF e]at hj;obtain⟨h1,h2⟩:=hM.own j c g' hj du;refine⟨h1,fun QG=>?_⟩;unfold Aw;split
   ·rename_i he;exact absurd (hM.inj j id c _ g' hj hm du he) e
   ·exact h2 QG
 ·have e1:∃c1,m i=some c1∧c1.owns (φ i) g':=by
   by_cases e:i=id
   ·subst e;rw[cg]at h1;simp only[cO]at h1;subst h1;exact⟨b,hm,.inl (sE aca g1)⟩
   simp_all[aF]
  have e2:∃c2,m j=some c2∧c2.owns (φ j) g':=by
   by_cases e:j=id
   ·subst e;rw[cg]at h2;simp only[cO]at h2;subst h2;exact⟨b,hm,.inl (sE aca g2)⟩
   simp_all[aF]
  obtain⟨c1,e1,o1⟩:=e1;obtain⟨c2,e2,o2⟩:=e2;exact hM.inj i j c1 c2 g' e1 e2 o1 o2
 ·by_cases e:j=id
  ·simp_all[cg,cO,wm]
  ·rw[aF e]at hj;exact hM.apart j c hj
 ·have:(m i).isSome=true:=by
   by_cases e:j=id
   ·simp_all
   ·rw[aF e]at hj;exact hM.gz j cs i hj hh
  by_cases e:i=id
  ·subst e;simp
  ·rw[aF e];omega
theorem vL:∀i off,(bX.arr sz et es).rowAt i off=true→False:=fun i off h=>by simp[bX.rowAt]at h
theorem aL.freeze(hM:aL P G w0 μ φ m w)(hm:m id=some (.arr sz et es)):aL P G w0 (uR μ w (φ id).g) φ (aD m id (.vK sz et es)) w:=by
 have e:Aw μ w ((bX.arr sz et es).owns (φ id))=uR μ w (φ id).g:=by
  funext b;unfold Aw uR;by_cases h:(φ id).g=some b
  ·rw[IN h,IN (show(bX.arr sz et es).owns (φ id) b from .inl h)]
  ·rw[IS h,IS fun ho=>h (sE vL ho)]
 have:=hM.Wn (sz:=sz) (et:=et) (es:=es) hm (fun st h=>by cases h) (aX.cF (hM.dX id _ hm) rfl (wo hM _) (fun _ _=>rfl));rwa[e]at this
theorem aL.Wo(hM:aL P G w0 μ φ m w)(hm:m id=some (.nest sz et es)):aL P G w0 (Aw μ w ((bX.nest sz et es).owns (φ id))) φ (aD m id (.vK sz et (es.map PV.strip))) w:=by have hN:bu P μ φ w id sz et es:=hM.dX id _ hm;refine hM.Wn hm (fun st h=>by cases h) (hN.strip (wo hM _) fun i off g hr hg=>?_);unfold Aw;rw[IN (show(bX.nest sz et es).owns (φ id) g from .inr ⟨i,off,hr,hg⟩)]
def cH(μ:Ro)(w w':World):Ro:=fun b=>if b<w.heap.size then μ b else w'.heap[b]?
theorem mP(hM:aL P G w0 μ φ m w)(w':World):∀b o,μ b=some o→cH μ w w' b=some o:=by intro b o hb;have:=(apj.1 (hM.ro b o hb)).1;simp[cH,this,hb]
theorem aL.called(hM:aL P G w0 μ φ m w)(hb:nD w.heap.size w w'):aL P G w0 (cH μ w w') φ m w':=by
 have mono:=mP hM w';refine⟨hM.below.trans (hb.mono hM.below.size),fun b o h=>?_,fun g cs hg=>(hM.aW g cs hg).mono mono,fun id b h=>?_,fun id b g h hg=>?_,hM.inj,hM.apart,hM.gz,fun b o h cd=>?_,fun b o hb=>mono b o (hM.dY b o hb),fun j st hj=>?_⟩
 rotate_right
 ·obtain⟨g,rc,h1,h2,h3⟩:=hM.Jj j st hj;exact⟨g,rc,h1,h2,by rw[hb.block g (apj.1 h3).1];omega⟩
 rotate_right
 ·have:w0.heap.size≤w.heap.size:=hM.below.size;unfold cH at h;rw[IN (by omega)]at h;exact hM.base b o h cd
 ·unfold cH at h;split at h
  ·rename_i cd;rw[hb.block b cd];exact hM.ro b o h
  omega
 ·have hR:=hM.dX id b h;exact hR.cF (fun _ _=>rfl) rfl mono (fun g hg=>hb.block g (hR.KZ hg))
 ·obtain⟨h1,h2⟩:=hM.own id b g h hg;refine⟨h1,fun hm=>?_⟩;have:=(hM.dX id b h).KZ hg;simp[cH,this,h2 hm]
def pL(μ:Ro)(g:Option Nat):Ro:=fun b=>if g=some b then none else μ b
theorem Rj{μ:Ro}{g:Option Nat}{b:Nat}{o:Obj}(h:pL μ g b=some o):μ b=some o:=by simp_all[pL]
theorem FI(hM:aL P G w0 μ φ m w)(w':World){g:Option Nat}(hg:∀b,g=some b→w.heap.size≤b):∀b o,μ b=some o→pL (cH μ w w') g b=some o:=by intro b o hb;have cd:=(apj.1 (hM.ro b o hb)).1;unfold pL;rw[IS fun e=>by have:=hg b e;omega];exact mP hM w' b o hb
theorem aL.N6(hM:aL P G w0 μ φ m w)(hb:nD w.heap.size w w'){go:Option Nat}(Nn:∀b,go=some b→w.heap.size≤b):aL P G w0 (pL (cH μ w w') go) φ m w':=by
 have mono:=FI hM w' Nn;have hC:=hM.called hb;refine⟨hC.below,fun b o h=>hC.ro b o (Rj h),fun g cs hg=>(hM.aW g cs hg).mono mono,fun id b h=>?_,fun id b g h hg=>?_,hM.inj,hM.apart,hM.gz,fun b o h cd=>hC.base b o (Rj h) cd,fun b o hb=>mono b o (hM.dY b o hb),hC.Jj⟩
 ·have hR:=hM.dX id b h;exact hR.cF (fun _ _=>rfl) rfl mono (fun g hg=>hb.block g (hR.KZ hg))
 ·obtain⟨h1,h2⟩:=hC.own id b g h hg;refine⟨h1,fun hm=>?_⟩;unfold pL;simp_all
theorem aL.drew(hM:aL P G w0 μ φ m w):aL P G w0 μ φ m w.drew:=⟨hM.below.drew,hM.ro,hM.aW,fun id b h=>(hM.dX id b h).cF (fun _ _=>rfl) rfl (fun _ _ h=>h) (fun _ _=>rfl),hM.own,hM.inj,hM.apart,hM.gz,hM.base,hM.dY,hM.Jj⟩
end
end Go.Ab
