import Derived.Test.YteddgaennnfacaaGreatAbP1
import Derived.Laws.StructEq
import Derived.ChangeKeysEq
set_option linter.all false
namespace Go.Ab
open Go.RowKit (Below)
section
variable {P:Program} {G:Nat→Option (List PV)} {w0:bE} {μ:Ro} {φ:Nat→aI} {m:Mem} {w:World}
theorem toCells_ok{n:Nat}{v:V}{cs:List V}(h:toCells n v=some cs):cs.length=n∧(∀id,cu id cs=true→v.has id=true)∧∀(P:Program)(μ:Ro)(φ:Nat→aI)(x:Value),an P μ φ v x→x.cells.size=n∧(∀(i:Nat)u y,cs[i]?=some u→x.cells[i]?=some y→an P μ φ u y)∧(∀(i:Nat)(y:Value),x.cells[i]?=some y→y.oneCell'=true):=by
 have one:∀(v:V),(∀(P:Program)(μ:Ro)(φ:Nat→aI)(x:Value),an P μ φ v x→x.oneCell'=true∧x.cells= #[x])→(if n=1 then some [v]else none)=some cs→cs.length=n∧(∀id,cu id cs=true→v.has id=true)∧∀(P:Program)(μ:Ro)(φ:Nat→aI)(x:Value),an P μ φ v x→x.cells.size=n∧(∀(i:Nat)u y,cs[i]?=some u→x.cells[i]?=some y→an P μ φ u y)∧(∀(i:Nat)(y:Value),x.cells[i]?=some y→y.oneCell'=true):=by
  intro v h1 h;split at h
  ·rename_i hn;simp only[By]at h;subst h;subst hn;refine⟨rfl,fun id hid=>by simpa[cu]using hid,fun P μ φ x hx=>?_⟩;grind
  ·cases h
 have ajk:∀x:Value,x.oneCell'=true→x.cells= #[x]:=by intro x hx;cases x<;>first|rfl|(simp[Value.oneCell']at hx)
 unfold toCells at h;split at h
 ·rename_i ps;split at h
  ·rename_i hn;simp only[By]at h;subst h;refine⟨by simpa using hn,fun id hid=>(by rw[Se]at hid;cases hid),fun P μ φ x hx=>?_⟩;cases hx with
   |pv hx=>cases hx with
    |agg h1 h2 h3=>refine⟨by simp only[Value.cells];omega,fun i u y hu hy=>?_,h3⟩;simp only[IS,alg]at hu;obtain⟨q,hq,rfl⟩:=hu;exact .pv (h2 i q y hq hy)
  ·cases h
 ·split at h
  ·rename_i hn;simp only[By]at h;subst h;refine⟨hn,fun id hid=>by simpa[V.has]using hid,fun P μ φ x hx=>?_⟩;cases hx with
   |agg h1 h2 h3=>grind [Value.cells]
  ·cases h
 ·cases h
 ·cases h
 ·cases h
 ·cases h
 ·rename_i h1 h2 h3 h4 h5 h6;refine one v (fun P μ φ x hx=>?_) h;have:x.oneCell'=true:=by
   cases hx with
   |pv hp=>exact hp.one (fun cs e=>h1 cs (by rw[e])) (fun cs e=>h5 cs (by rw[e])) (fun e=>h6 (by rw[e]))
   |agg=>exact absurd rfl (h2 _)
   |aG=>exact absurd rfl (h4 _)
   |top=>exact absurd rfl h3
   |fn=>exact Ks _ _
   |_=>rfl
  simp_all
theorem xH:∀(d:Nat){v:V}{p:PV}{x:Value},lz dc d v=some p→an P μ φ v x→ao P μ p x
 |0,v,p,x,h,_=>by simp[lz]at h
 |d+1,v,p,x,h,hx=>by
  have ih:=fun{v p x}=> @xH d v p x;cases v with
  |pv q=>simp[lz]at h;subst h;cases hx with|pv hx=>exact hx
  |fO=>simp[lz]at h;subst h;cases hx;exact .lA
  |agg cs=>
   simp only[lz]at h;obtain⟨ps,rT,h⟩:=M1.1 h;simp only[By]at h;subst h;obtain⟨h1,h2⟩:=gX rT;cases hx with
   |agg g1 g2 g3=>refine .agg (by omega) (fun i q y hq hy=>?_) g3;obtain⟨u,hu,hg⟩:=h2 i q hq;exact ih hg (g2 i u y hu hy)
  |aG cs=>
   simp only[lz]at h;obtain⟨ps,rT,h⟩:=M1.1 h;simp only[By]at h;subst h;obtain⟨h1,h2⟩:=gX rT;cases hx with
   |aG g1 g2=>refine .aG (by omega) (fun i q y hq hy=>?_);obtain⟨u,hu,hg⟩:=h2 i q hq;exact ih hg (g2 i u y hu hy)
  |op id off=>simp[lz,dc]at h
  |oe id i off=>simp[lz,dc]at h
  |os id=>simp[lz,dc]at h
  |fS id lo len=>simp[lz,dc]at h
  |zU id i off=>simp[lz,dc]at h
  |DJ id i off s j off2=>simp[lz]at h
  |om id=>simp[lz,dc]at h
  |fn f cs=>
   simp only[lz]at h;obtain⟨ps,rT,h⟩:=M1.1 h;simp only[By]at h;subst h;obtain⟨h1,h2⟩:=gX rT;cases hx with
   |fn g1 g2=>refine .fn (by omega) (fun i q y hq hy=>?_);obtain⟨u,hu,hg⟩:=h2 i q hq;exact ih hg (g2 i u y hu hy)
  |yl id=>simp[lz]at h
  |it id=>simp[lz]at h
  |top=>simp[lz]at h
def jf(w:World):Ro:=fun b=>w.heap[b]?
theorem aA.BK(hM:aA P G w0 μ φ m w):∀b o,μ b=some o→jf w b=some o:=hM.ro
variable{id s:Nat}{et:TypeId}{es:List PV}{ν:Ro}
theorem aN.LU(hA:aN P μ φ w id s et es){g:Nat}(hg:(φ id).g=some g){lo len:Nat}(hl:lo+len≤es.length){cap:Nat}(sU:cap≤(φ id).cap-lo)(hlc:len≤cap)(hν:∀b o,μ b=some o→ν b=some o)(JV:ν g=w.heap[g]?):ao P ν (.rs s ((es.drop lo).take len)) (.slice (some ⟨g,lo*s,none⟩) len cap):=by
 have hle:=hA.ry;obtain⟨a1,a2,a3,a4,a5,a6,a7⟩:=hA;rw[hg]at a7;obtain⟨c,T,c1,c2,c3,c4,c5⟩:=a7;have fo:∀(i:Nat)e,((es.drop lo).take len)[i]?=some e→i<len∧es[lo+i]?=some e:=fun i e hi=>qv hi;have hlen:((es.drop lo).take len).length=len:=by simp;omega
 have hb:∀(i:Nat)e(j:Nat)p,((es.drop lo).take len)[i]?=some e→e.cells[j]?=some p→(lo+i)*s+j<es.length*s:=by intro i e j p hi hj;obtain⟨_,hi⟩:=fo i e hi;have h1:=(OF.1 hi).1;have h2:=(OF.1 hj).1;have h3:=a5 _ e hi;have:(lo+i+1)*s≤es.length*s:=alo _ (by omega);grind
 have hc:∀(i:Nat)e(j:Nat)p,((es.drop lo).take len)[i]?=some e→e.cells[j]?=some p→c[(lo+i)*s+j]?=some (c.getD ((lo+i)*s+j) undef):=by
  intro i e j p hi hj;obtain⟨_,hi⟩:=fo i e hi;have h1:=(OF.1 hi).1;have h2:=(OF.1 hj).1;have h3:=a5 _ e hi;have:(lo+i+1)*s≤(φ id).cap*s:=alo _ (by omega);rw[amb _ 1]at this;have bQ:(lo+i)*s+j<c.size:=by omega
  simp_all
 have:=ao.rs (P:=P) (μ:=ν) (sz:=s) (es:=(es.drop lo).take len) (b:=g) (o:=lo*s) (cap:=cap) (fun i j=>c.getD ((lo+i)*s+j) undef) (by omega) (by omega) (fun i e hi=>a5 _ e (fo i e hi).2) (fun i e j p hi hj=>by grind [cellAt,Nat.add_mul]) (fun i e j p hi hj=>((c4 _ e j p _ (fo i e hi).2 hj (hc i e j p hi hj)).mono hν)) (fun i e j p hi hj=>c5 _ _ (hb i e j p hi hj) (hc i e j p hi hj));simp_all
theorem aN.slice(hM:aA P G w0 μ φ m w)(hA:aN P μ φ w id s et es){g:Nat}(hg:(φ id).g=some g){lo len:Nat}(hl:lo+len≤es.length)(hν:∀b o,μ b=some o→ν b=some o)(JV:ν g=w.heap[g]?):ao P ν (.rs s ((es.drop lo).take len)) (.slice (some ⟨g,lo*s,none⟩) len ((φ id).cap-lo)):=hA.LU hg hl (alz _) (by have:=hA.ry;omega) hν JV
variable{x:Value}
theorem aN.KB(hA:aN P μ φ w id s et es)(hx:an P μ φ (.os id) x)(hν:∀b o,μ b=some o→ν b=some o)(JV:∀g,(φ id).g=some g→ν g=w.heap[g]?):ao P ν (.rs s es) x:=by
 have CJ:=hA;obtain⟨a1,a2,a3,a4,a5,a6,a7⟩:=hA;cases hx with
 |vt hg=>rw[hg]at a7;rw[a7.1];exact .lA
 | @os _ g hg=>have hle:=CJ.ry;have:=CJ.LU hg (lo:=0) (len:=es.length) (by omega) (cap:=(φ id).cap) (by omega) hle.1 hν (JV g hg);simp_all
theorem aN.full(hM:aA P G w0 μ φ m w)(hA:aN P μ φ w id s et es)(hx:an P μ φ (.os id) x)(hν:∀b o,μ b=some o→ν b=some o)(JV:∀g,(φ id).g=some g→ν g=w.heap[g]?):ao P ν (.rs s es) x:=hA.KB hx hν JV
theorem eQ.full{R:Ge}{rs:List PV}(h:eQ P μ R w s rs x)(hν:∀b o,μ b=some o→ν b=some o)(JV:∀g,R.g=some g→ν g=w.heap[g]?):ao P ν (.rs s rs) x:=by obtain⟨⟨et,hA⟩,hV⟩:=h;exact hA.KB hV hν JV
theorem Gj(e:PV):e.strip.cells=e.cells.map PV.pP:=by cases e<;>rfl
theorem bd.strip{sz:Nat}(h:bd P μ φ w id sz et es)(hν:∀b o,μ b=some o→ν b=some o)(JV:∀i off g,(bK.nest sz et es).rowAt i off=true→((φ id).row i off).g=some g→ν g=w.heap[g]?):aN P ν φ w id sz et (es.map PV.strip):=by
 obtain⟨a1,a2,a3,a4,a5,a6,a7⟩:=h;refine⟨by simpa using a1,a2,a3,a4,fun i e he=>?_,a6,?_⟩
 ·rw[IS,alg]at he;obtain⟨e0,h0,rfl⟩:=he;grind [Gj,List.length_map]
 ·cases hg:(φ id).g with
  |none=>simp_all
  |some g=>
   rw[hg]at a7;obtain⟨c,T,c1,c2,c3,c4,c5⟩:=a7;refine⟨c,T,c1,c2,by simpa using c3,fun i e j p x he hp hx=>?_,fun i x hi hx=>c5 i x (by simpa using hi) hx⟩;rw[IS,alg]at he;obtain⟨e0,h0,rfl⟩:=he;rw[Gj,IS,alg]at hp;obtain⟨p0,Na,rfl⟩:=hp;have hc:=c4 i e0 j p0 x h0 Na hx;cases hr:p0.isRow with
   |false=>
    have:p0.pP=p0:=by cases p0<;>first|rfl|cases hr
    rw[this];exact(hc.Sd hr).mono hν
   |true=>
    cases p0<;>first|(cases hr;done)|skip
    rename_i s rs;exact eQ.full (show eQ P μ _ w s rs x from hc) hν fun g' dn=>JV i j g' (by simp[bK.rowAt,h0,Na,PV.isRow]) dn
theorem UB{g o:Nat}{c:Array Value}{T:TypeId}{fz:Nat×Nat}{y:Value}(hν:ν g=w.heap[g]?)(h:w.heap[g]?=some (.cells c T fz))(hy:c[o]?=some y):cellAt ν g o=some y:=by simp[cellAt,hν,h,hy]
theorem xB(hM:aA P G w0 μ φ m w){ν:Ro}(ro:∀b o,μ b=some o→ν b=some o)(own:∀id b g,m id=some b→b.owns (φ id) g→ν g=w.heap[g]?):∀(d:Nat){v:V}{p:PV}{x:Value},lz m d v=some p→an P μ φ v x→ao P ν p x
 |0,v,p,x,h,_=>by simp[lz]at h
 |d+1,v,p,x,h,hx=>by
  have ih:=fun{v p x}=> @xB hM ν ro own d v p x;cases v with
  |pv q=>simp[lz]at h;subst h;cases hx with|pv hx=>exact hx.mono ro
  |fO=>simp[lz]at h;subst h;cases hx;exact .lA
  |agg cs=>
   simp only[lz]at h;obtain⟨ps,rT,h⟩:=M1.1 h;simp only[By]at h;subst h;obtain⟨h1,h2⟩:=gX rT;cases hx with
   |agg g1 g2 g3=>refine .agg (by omega) (fun i q y hq hy=>?_) g3;grind
  |aG cs=>
   simp only[lz]at h;obtain⟨ps,rT,h⟩:=M1.1 h;simp only[By]at h;subst h;obtain⟨h1,h2⟩:=gX rT;cases hx with
   |aG g1 g2=>refine .aG (by omega) (fun i q y hq hy=>?_);grind
  |op id off=>
   simp only[lz]at h;split at h
   ·rename_i cs hm;obtain⟨ps,rT,h⟩:=M1.1 h;simp only[By]at h;subst h;obtain⟨h1,h2⟩:=gX rT;obtain⟨g,c,T,hg,hh,hs,hv,xG,JS⟩:=hM.dJ id _ hm;cases hx with
    |op dn=>
     rw[hg]at dn;simp only[By]at dn;subst dn;have fo:∀(i:Nat)p,ps[i]?=some p→c[off+i]?=some (c.getD (off+i) undef):=by
      intro i p hi;have:=(OF.1 hi).1;rw[h1]at this;simp at this;have bQ:off+i<c.size:=by omega
      simp_all
     refine .rp (fun i=>c.getD (off+i) undef) (fun i p hi=>UB (own _ _ _ hm (.inl hg)) hh (fo i p hi)) (fun i p hi=>?_) (fun i hi=>?_)
     ·grind
     ·exact xG _ _ (fo i _ (AI hi))
   ·cases h
  |oe id i off=>
   have key:∀(s:Nat)(et:TypeId)(es:List PV),(m id=some (.arr s et es)∨m id=some (.tC s et es))→((es[i]?).bind fun e=>some (PV.rp ((aQ s e).drop off)))=some p→ao P ν p x:=by
    intro s et es hm h;obtain⟨e,he,h⟩:=M1.1 h;simp only[By]at h;subst h;have hA:=hM.arr hm;have CJ:=hA;have adJ:∀g,(φ id).g=some g→ν g=w.heap[g]?:=fun g hg=>by rcases hm with hm|hm<;>exact own _ _ _ hm (.inl hg)
    obtain⟨a1,a2,a3,a4,a5,a6,a7⟩:=hA;cases hx with
    | @oe _ _ _ g hg=>
     rw[a2];have JW:=CJ.slice hM hg (lo:=0) (len:=es.length) (by omega) ro (adJ _ hg);have ajl:ao P ν (.rs s es) (.slice (some ⟨g,0,none⟩) es.length (φ id).cap):=by simpa using JW
     obtain⟨b,o,cap,e1,hr⟩:=ajl.Sf he;simp only[Value.slice.injEq,By,Addr.mk.injEq]at e1;obtain⟨⟨rfl,rfl,_⟩,_⟩:=e1;have:=hr.LS off;simpa using this
   grind [lz]
  |os id=>
   simp only[lz]at h;split at h
   ·rename_i s et es hm;simp only[By]at h;subst h;exact(hM.arr (.inl hm)).full hM hx ro (fun g hg=>own _ _ _ hm (.inl hg))
   ·rename_i s et es hm;simp only[By]at h;subst h;exact(hM.arr (.inr hm)).full hM hx ro (fun g hg=>own _ _ _ hm (.inl hg))
   ·rename_i s et es hm;simp only[By]at h;subst h;have hN:bd P μ φ w id s et es:=hM.dJ id _ hm;exact(hN.strip ro fun i off g hr hg=>own _ _ _ hm (.inr ⟨i,off,hr,hg⟩)).KB (hx.Ck ro) (fun _ _ h=>h) fun g hg=>own _ _ _ hm (.inl hg)
   ·cases h
  |DJ id i off s j off2=>simp[lz]at h
  |zU id i off=>
   simp only[lz]at h;split at h
   ·rename_i s et es hm;obtain⟨e,he,h⟩:=M1.1 h;unfold afX at h;split at h
    ·rename_i s' rs hc;simp only[By]at h;subst h;have hN:bd P μ φ w id s et es:=hM.dJ id _ hm;obtain⟨_,_,_,_,⟨⟨JL,hA⟩,_⟩,hce⟩:=hN.row (s:=s') (rs:=rs) he (by rw[hc];simp[b9]);exact hA.KB (hx.P8 (ν:=μ)) ro fun g hg=>own _ _ _ hm (.inr ⟨i,off,by simp[bK.rowAt,he,hce,PV.isRow],hg⟩)
    ·cases h
   ·cases h
  |fS id lo len=>
   have key:∀(s:Nat)(et:TypeId)(es:List PV),(m id=some (.arr s et es)∨m id=some (.tC s et es))→ao P ν (.rs s ((es.drop lo).take len)) x:=by
    intro s et es hm;have hA:=hM.arr hm;have CJ:=hA;have adJ:∀g,(φ id).g=some g→ν g=w.heap[g]?:=fun g hg=>by rcases hm with hm|hm<;>exact own _ _ _ hm (.inl hg)
    have hle:=hA.ry;obtain⟨a1,a2,a3,a4,a5,a6,a7⟩:=hA;cases hx with
    |tQ hg=>simp;exact .lA
    | @fS _ _ _ cap g a hg hl ha hc1 WH=>
     rw[a1]at hl;rcases ha with rfl|⟨ha,_⟩
     ·rw[a2];exact CJ.LU hg hl (by omega) hc1 ro (adJ _ hg)
     ·have h0:len=0:=by omega
      subst h0;simp only[ang];exact .M9 (by omega)
   grind [lz,Option.some.injEq]
  |om id=>
   simp only[lz]at h;split at h
   ·rename_i kt es hm;simp only[By]at h;subst h;obtain⟨g,en,clock,kk,hg,hh,hs,hk,Sg,_,hv⟩:=hM.dJ id _ hm;cases hx with
    |om dn=>
     rw[hg]at dn;simp only[By]at dn;subst dn;refine .rm (show ν g=_ from(own _ _ _ hm (.inl hg)).trans hh) (by simp[hs]) (by simp) hk (fun i k hi=>?_) (fun i k e hi he=>?_) (fun i v e hi he=>?_)
     ·grind
     ·simp only[IS,alg]at hi;obtain⟨⟨a,b⟩,hq,rfl⟩:=hi;exact(hv i a b e hq he).1.mono ro
     ·simp only[IS,alg]at hi;obtain⟨⟨a,b⟩,hq,rfl⟩:=hi;exact(hv i a b e hq he).2.mono ro
   ·rename_i kt e0 es hm;simp only[By]at h;subst h;obtain⟨g,en,clock,kk,hg,hh,hs,hk,Sg,_,hv⟩:=hM.dJ id _ hm;cases hx with
    |om dn=>
     rw[hg]at dn;simp only[By]at dn;subst dn;refine .rm (show ν g=_ from(own _ _ _ hm (.inl hg)).trans hh) (by simp[hs]) (by simp) hk (fun i k hi=>?_) (fun i k e hi he=>?_) (fun i v e hi he=>?_)
     ·grind
     ·simp only[IS,alg]at hi;obtain⟨⟨a,b⟩,hq,rfl⟩:=hi;exact(hv i a b e hq he).1.mono ro
     ·simp only[IS,alg]at hi;obtain⟨⟨a,b⟩,hq,rfl⟩:=hi;have h2:=(hv i a b e hq he).2;cases hr:b.isRow with
      |false=>
       have e1:b.pP=b:=by cases b<;>first|rfl|cases hr
       simp only[e1];split at h2
       ·cases hr
       ·exact h2.mono ro
      |true=>
       cases b<;>first|(cases hr;done)|skip
       exact h2.1.KB h2.2 ro fun g' dn=>own _ _ _ hm (.inr ⟨i,0,by simp[bK.rowAt,hq,PV.isRow],dn⟩)
   ·cases h
  |fn f cs=>
   simp only[lz]at h;obtain⟨ps,rT,h⟩:=M1.1 h;simp only[By]at h;subst h;obtain⟨h1,h2⟩:=gX rT;cases hx with
   |fn g1 g2=>refine .fn (by omega) (fun i q y hq hy=>?_);grind
  |yl id=>simp[lz]at h
  |it id=>simp[lz]at h
  |top=>simp[lz]at h
end
section
variable {P:Program} {w:World}
def valOf:PV→Value
 |.int k n=>.int k n
 |.bool b=>.bool b
 |.str s=>.string ⟨s.toArray⟩
 |_=>undef
def eR(P:Program)(t:TypeId)(ps:List PV):Value:=if aD P t then .agg (ps.map valOf).toArray else valOf (ps.headD .bad)
theorem KC{μ:Ro}{k:Kd}{p:PV}{y:Value}(h:xx k p=true)(hy:ao P μ p y):y=valOf p:=by cases k<;>cases p<;>simp[xx]at h<;>cases hy<;>rfl
theorem sV:∀{ks:List Kd}{ps:List PV},iV ks ps=true→ps.length=ks.length
 |[],[],_=>rfl
 |[],_::_,h=>by simp[iV]at h
 |_::_,[],h=>by simp[iV]at h
 |k::ks,p::ps,h=>by simp[iV]at h;simp[sV h.2]
theorem Si:∀{ks:List Kd}{ps:List PV},iV ks ps=true→∀(i:Nat)p,ps[i]?=some p→∃k,ks[i]?=some k∧xx k p=true
 |[],[],_,i,p,hi=>by simp at hi
 |[],_::_,h,_,_,_=>by simp[iV]at h
 |_::_,[],h,_,_,_=>by simp[iV]at h
 |k::ks,q::ps,h,i,p,hi=>by
  simp[iV]at h;cases i with
  |zero=>simp at hi;subst hi;exact⟨k,by simp,h.1⟩
  |succ i=>simp at hi;simpa using Si h.2 i p hi
theorem tT:∀(a b:List Kd)(ps:List PV),iV (a++b) ps=true↔iV a (ps.take a.length)=true∧iV b (ps.drop a.length)=true
 |[],b,ps=>by simp[iV]
 |k::a,b,[]=>by simp[iV]
 |k::a,b,p::ps=>by simp[iV,tT,ale,ani]
theorem Ah:∀(n:Nat)(ps qs:List PV),n≤ps.length→n≤qs.length→bM ps qs=(bM (ps.take n) (qs.take n)&&bM (ps.drop n) (qs.drop n))
 |0,ps,qs,_,_=>by rfl
 |n+1,[],_,h,_=>by simp at h
 |n+1,_::_,[],_,h=>by rfl
 |n+1,p::ps,q::qs,h1,h2=>by simp only[aiK,Nat.add_le_add_iff_right]at h1 h2;simp only[bM,List.take_succ_cons,List.drop_succ_cons,Ah n ps qs h1 h2,Bool.and_assoc]
variable{ks:List Kd}{ps:List PV}
theorem wx{μ:Ro}{xs:Array Value}(hk:iV ks ps=true)(hl:xs.size=ps.length)(hv:∀(i:Nat)p y,ps[i]?=some p→xs[i]?=some y→ao P μ p y):xs=(ps.map valOf).toArray:=by
 apply amU;apply alL;intro i;by_cases hi:i<ps.length
 ·have h1:ps[i]?=some ps[i]:=AI hi;grind [Array.getElem?_eq_getElem,Si,KC]
 ·simp[hi,hl]
theorem Cn(a:List Kd):∀n,(tL a n).length=n*a.length
 |0=>by simp[tL]
 |n+1=>by simp[tL,Cn a n,amb];omega
theorem nN{k:Kd}(h:iV [k] ps=true):∃p,ps=[p]∧xx k p=true:=by
 cases ps with
 |nil=>simp[iV]at h
 |cons p r=>cases r with
  |nil=>exact⟨p,rfl,by simpa[iV]using h⟩
  |cons q r=>simp[iV]at h
theorem BL{d:Nat}{t:TypeId}(h:ES P d t=some ks):(aD P t=true→ks.length=aV P t)∧(aD P t=false→ks.length=1)∧∃de,P.underlying t=some de:=by
 cases d with
 |zero=>simp[ES]at h
 |succ d=>
  unfold ES at h;split at h
  ·grind [aD]
  ·grind [aD]
  ·grind [aD]
  ·rename_i fs hu;split at h
   ·cases h
   ·obtain⟨a,ha,h⟩:=M1.1 h;grind [aD]
  ·rename_i n e hu;obtain⟨a,ha,h⟩:=M1.1 h;grind [aD,Cn]
  ·cases h
theorem kL{d:Nat}{t:TypeId}{off:Nat}(h:ES P d t=some ks)(hl:off+ks.length≤ps.length):(part t (ps.map valOf).toArray off).run P w=.ok (eR P t ((ps.drop off).take ks.length)) w:=by
 obtain⟨h1,h2,de,hu⟩:=BL h;cases ha:aD P t with
 |true=>rw[DV ha];congr 1;simp only[eR,ha,IT];simp_all
 |false=>
  have hk:=h2 ha;rw[hk]at hl⊢;have bQ:off<ps.length:=by omega
  rw[DW hu ha (y:=valOf ps[off]) (by simp[bQ])];congr 1;simp only[eR,ha,IN,Wi];rw[amA bQ];rfl
theorem rU:∀(d:Nat)(t:TypeId)(ks:List Kd),ES P d t=some ks→∀(D:Nat)(w:World)(ps qs:List PV),iV ks ps=true→iV ks qs=true→(Op.equalIn (D+d) t (eR P t ps) (eR P t qs)).run P w=.ok (bM ps qs) w
 |0,t,ks,h,_,_,_,_,_,_=>by simp[ES]at h
 |d+1,t,ks,h,D,w,ps,qs,hp,hq=>by
  have ih:=rU d;have h0:=h;unfold ES at h;split at h
  ·rename_i q hu;simp only[By]at h;subst h;have ha:aD P t=false:=by simp[aD,hu]
   obtain⟨p,rfl,hkp⟩:=nN hp;obtain⟨q',rfl,hkq⟩:=nN hq;clear hp hq;cases p<;>simp[xx]at hkp;cases q'<;>simp[xx]at hkq;subst hkp;subst hkq;simp[eR,ha,valOf,bM,peq,←al9,Op.equalIn,run_underlying hu]
  ·rename_i hu;simp only[By]at h;subst h;have ha:aD P t=false:=by simp[aD,hu]
   obtain⟨p,rfl,hkp⟩:=nN hp;obtain⟨q',rfl,hkq⟩:=nN hq;clear hp hq;cases p<;>simp[xx]at hkp;cases q'<;>simp[xx]at hkq;simp[eR,ha,valOf,bM,peq,←al9,Op.equalIn,run_underlying hu]
  ·rename_i hu;simp only[By]at h;subst h;have ha:aD P t=false:=by simp[aD,hu]
   obtain⟨p,rfl,hkp⟩:=nN hp;obtain⟨q',rfl,hkq⟩:=nN hq;clear hp hq;cases p<;>simp[xx]at hkp;cases q'<;>simp[xx]at hkq;simp only[eR,ha,valOf,bM,peq,←al9,IN,Wi,List.headD_cons,amH];simp_all[run_equalIn_string,ByteArray.toList_eq]
  ·rename_i fs hu;split at h
   ·cases h
   ·rename_i nO;obtain⟨a,ha,h⟩:=M1.1 h;split at h
    ·rename_i hlen;simp only[By]at h;subst h;have Xe:aD P t=true:=by simp[aD,hu]
     have hfo:P.fieldsOf t=fs:=by simp[Program.fieldsOf,hu]
     simp only[eR,Xe,IT,←al9];rw[run_equalIn_struct w (D+d) t _ _ (by rw[hfo];omega) (by simpa using nO),hfo];have key:∀(L:List Field)(off:Nat)(b:List Kd)(w:World),tK (ES P d) L off=some b→off≤ps.length→off≤qs.length→iV b (ps.drop off)=true→iV b (qs.drop off)=true→(Op.eqFields (D+d) (ps.map valOf).toArray (qs.map valOf).toArray L).run P w=.ok (bM (ps.drop off) (qs.drop off)) w:=by
      intro L;induction L with
      |nil=>
       intro off b w hb o1 o2 h1 h2;simp only[tK,By]at hb;subst hb;have e1:ps.drop off=[]:=by cases hh:ps.drop off with|nil=>rfl|cons x r=>rw[hh]at h1;simp[iV]at h1
       have e2:qs.drop off=[]:=by cases hh:qs.drop off with|nil=>rfl|cons x r=>rw[hh]at h2;simp[iV]at h2
       simp[Op.eqFields,e1,e2,bM]
      |cons f L ihL=>
       intro off b w hb o1 o2 h1 h2;simp only[tK]at hb;split at hb
       ·rename_i hf;obtain⟨c,hc,hb⟩:=M1.1 hb;obtain⟨b',je,hb⟩:=M1.1 hb;simp only[By]at hb;subst hb;rw[tT]at h1 h2;have l1:=sV h1.1;have l2:=sV h2.1;simp only[alF,anG]at l1 l2;have p1:=kL (w:=w) (ps:=ps) (off:=off) hc (by omega);have p2:=kL (w:=w) (ps:=qs) (off:=off) hc (by omega);have p3:=ih f.type c hc D w _ _ h1.1 h2.1;have p4:=ihL (off+c.length) b' w je (by omega) (by omega) (by simp_all) (by simp_all);simp only[Op.eqFields,hf.2,aoA,not_false_eq_true,IT,Sem.run_bind,hf.1,p1,p2,p3,Result.andThen_ok];rw[Ah c.length (ps.drop off) (qs.drop off) (by simp;omega) (by simp;omega),anh,anh];cases hr:bM ((ps.drop off).take c.length) ((qs.drop off).take c.length)with
        |false=>simp
        |true=>simpa using p4
       ·cases hb
     grind
    ·cases h
  ·rename_i n e hu;obtain⟨a,ha,h⟩:=M1.1 h;split at h
   ·rename_i hlen;simp only[By]at h;subst h;have Xe:aD P t=true:=by simp[aD,hu]
    obtain⟨_,_,de,hde⟩:=BL ha;obtain⟨i,hi⟩:∃i,P.info? e=some i:=by unfold Program.underlying at hde;grind
    have pT:P.cellsOf e=a.length:=hlen.1.symm;simp only[eR,Xe,IT,←al9];rw[run_equalIn_array w (D+d) _ _ hu hi,pT];have key:∀(k j:Nat)(w:World),j+k=n→j*a.length≤ps.length→j*a.length≤qs.length→iV (tL a k) (ps.drop (j*a.length))=true→iV (tL a k) (qs.drop (j*a.length))=true→(Op.eqItems (D+d) e a.length (ps.map valOf).toArray (qs.map valOf).toArray (List.range' j k)).run P w=.ok (bM (ps.drop (j*a.length)) (qs.drop (j*a.length))) w:=by
     intro k;induction k with
     |zero=>
      intro j w _ _ _ h1 h2;simp only[tL]at h1 h2;have e1:ps.drop (j*a.length)=[]:=by cases hh:ps.drop (j*a.length)with|nil=>rfl|cons x r=>rw[hh]at h1;simp[iV]at h1
      have e2:qs.drop (j*a.length)=[]:=by cases hh:qs.drop (j*a.length)with|nil=>rfl|cons x r=>rw[hh]at h2;simp[iV]at h2
      simp[Op.eqItems,e1,e2,bM]
     |succ k ihk=>
      intro j w hj o1 o2 h1 h2;simp only[tL]at h1 h2;rw[tT]at h1 h2;have l1:=sV h1.1;have l2:=sV h2.1;simp only[alF,anG]at l1 l2;have p1:=kL (w:=w) (ps:=ps) (off:=j*a.length) ha (by omega);have p2:=kL (w:=w) (ps:=qs) (off:=j*a.length) ha (by omega);have p3:=ih e a ha D w _ _ h1.1 h2.1;have ej:(j+1)*a.length=j*a.length+a.length:=by rw[amb];omega
      have p4:=ihk (j+1) w (by omega) (by omega) (by omega) (by simp_all) (by simp_all);rw[anj];simp only[Op.eqItems,Sem.run_bind,p1,p2,p3,Result.andThen_ok];rw[Ah a.length (ps.drop (j*a.length)) (qs.drop (j*a.length)) (by simp;omega) (by simp;omega),anh,anh,←ej];cases hr:bM ((ps.drop (j*a.length)).take a.length) ((qs.drop (j*a.length)).take a.length)with
      |false=>simp
      |true=>simpa using p4
    simp_all[anf]
   ·cases h
  ·cases h
end
section
variable {R:Type} {E:Env}
theorem abr{k:IntKind}{x y:Int}(hx:(Lit.int k x).wf=true):(Lit.int k (x.tmod y)).wf=true:=by
 rw[yt]at*;have h0:k.min≤0∧0≤k.max:=by grind [IntKind.min,IntKind.max,IntKind.signed,IntKind.bits]
 rcases Int.le_total 0 x with h|h
 ·have h1:=Int.tmod_nonneg y h;have h2:x.tmod y≤x:=by have:=Int.natAbs_tmod x y;have h3:x.natAbs%y.natAbs≤x.natAbs:=Nat.mod_le _ _;omega
  omega
 ·have h1:x.tmod y= -((-x).tmod y):=by simp
  have h2:=Int.tmod_nonneg y (show 0≤-x by omega);have h3:(-x).tmod y≤-x:=by have:=Int.natAbs_tmod (-x) y;have h3:(-x).natAbs%y.natAbs≤(-x).natAbs:=Nat.mod_le _ _;omega
  omega
theorem abt{k:IntKind}{x:Int}(n:Nat)(hx:(Lit.int k x).wf=true):(Lit.int k (x.fdiv (2^n))).wf=true:=by
 rw[yt]at*;have h0:k.min≤0∧0≤k.max:=by grind [IntKind.min,IntKind.max,IntKind.signed,IntKind.bits]
 have hp:(0:Int)<2^n:=Int.pow_pos (by omega);rw[anN _ (by omega)];rcases Int.le_total 0 x with h|h
 ·have h1:=aob h (Int.le_of_lt hp);have h2:=Int.ediv_le_self (2^n) h;omega
 ·have h1:x/2^n≤0:=Int.ediv_nonpos_of_nonpos_of_neg h hp;have h2:x≤x/2^n:=by rw[Int.le_ediv_iff_mul_le hp];have:x*2^n≤x*1:=Int.mul_le_mul_of_nonpos_left h (by omega);omega
  omega
variable{P:Program}{t:TypeId}
theorem KD{ps:List PV}(ha:aD P t=true):eR P t ps=.agg (ps.map valOf).toArray:=by simp[eR,ha]
def KE(P:Program)(t:TypeId):Bool:=P.eqGuardType P.depth t
def wy(op:BinOp)(t:TypeId)(ox oy:Operand)(x y:Value):Sem Value:=do eqGuard op t ox oy x y;binOp op t x y
variable{x y:Value}{w:World}
theorem jg{b:Bool}(hb:binOp .eql t x y=(do pure (.bool (←Op.equal t x y))))(h:(Op.equalIn 10000 t x y).run P w=.ok b w):(binOp .eql t x y).run P w=.ok (.bool b) w:=by simp_all[Op.equal,Op.maxDepth,Sem.run_bind,Result.andThen_ok,Sem.run_pure]
theorem jh{b:Bool}(hb:binOp .neq t x y=(do pure (.bool (!(←Op.equal t x y)))))(h:(Op.equalIn 10000 t x y).run P w=.ok b w):(binOp .neq t x y).run P w=.ok (.bool (!b)) w:=by simp_all[Op.equal,Op.maxDepth,Sem.run_bind,Result.andThen_ok,Sem.run_pure]
theorem bZ{op:BinOp}{ox oy:Operand}{z:Value}(h1:(eqGuard op t ox oy x y).run P w=.ok () w)(h2:(binOp op t x y).run P w=.ok z w):(wy op t ox oy x y).run P w=.ok z w:=by simp_all[wy,Sem.run_bind,Result.andThen_ok]
theorem nr{e:TypeId}(hu:P.underlying t=some (.pointer e))(a:Option Addr):(Op.equalIn 10000 t (.pointer a) (.pointer none)).run P w=.ok a.isNone w:=by show(Op.equalIn (9999+1) t (.pointer a) (.pointer none)).run P w=.ok a.isNone w;cases a<;>(unfold Op.equalIn;simp only[Sem.run_bind,run_underlying hu,Result.andThen_ok];rfl)
theorem yw{a b:Array TypeId}{c:Bool}(hu:P.underlying t=some (.func a b c))(f:Fn)(xs ys:Array Value):(Op.equalIn 10000 t (.func f xs ys) .nilFunc).run P w=.ok false w:=by show(Op.equalIn (9999+1) t (.func f xs ys) .nilFunc).run P w=.ok false w;unfold Op.equalIn;simp only[Sem.run_bind,run_underlying hu,Result.andThen_ok];rfl
variable{k:PV→Option R}{a:V}{r:R}
theorem abu{op:BinOp}{b:V}(h:nB E op t a b k=some r):∃q,(∀(R':Type)(k':PV→Option R'),nB E op t a b k'=k' q)∧k q=some r∧∀(μ:Ro)(φ:Nat→aI)(w:World)(ox oy:Operand)(x y:Value),an E.P μ φ a x→an E.P μ φ b y→∃z,(wy op t ox oy x y).run E.P w=.ok z w∧ao E.P μ q z:=by
 unfold nB at h;split at h
 ·rename_i q x q' y;have ints:∀(μ:Ro)(φ:Nat→aI)(u v:Value),an E.P μ φ (.pv (.int q x)) u→an E.P μ φ (.pv (.int q' y)) v→u=.int q x∧v=.int q' y∧(Lit.int q x).wf=true:=by intro μ φ u v hu hv;cases hu with|pv hu=>cases hu with|int h1=>cases hv with|pv hv=>cases hv with|int h2=>exact⟨rfl,rfl,h1⟩
  cases op;case shl=>
   simp only at h;split at h
   ·cases h
   ·rename_i hy;refine⟨_,fun R' k'=>by simp[nB,hy],h,fun μ φ w ox oy u v hu hv=>?_⟩;obtain⟨rfl,rfl,_⟩:=ints μ φ u v hu hv;exact⟨_,by simp[wy,eqGuard,binOp,Op.shift,hy],.int (wf_wrap _ _)⟩
  case shr=>
   simp only at h;split at h
   ·cases h
   ·rename_i hy;refine⟨_,fun R' k'=>by simp[nB,hy],h,fun μ φ w ox oy u v hu hv=>?_⟩;obtain⟨rfl,rfl,hw⟩:=ints μ φ u v hu hv;exact⟨_,by simp[wy,eqGuard,binOp,Op.shift,hy],.int (abt _ hw)⟩
  case quo=>
   simp only at h;split at h
   ·rename_i hq;subst hq;split at h
    ·cases h
    ·rename_i hy;refine⟨_,fun R' k'=>by simp[nB,hy],h,fun μ φ w ox oy u v hu hv=>?_⟩;obtain⟨rfl,rfl,_⟩:=ints μ φ u v hu hv;exact⟨_,by simp[wy,eqGuard,binOp,Op.intDiv,hy],.int (wf_wrap _ _)⟩
   ·cases h
  case rem=>
   simp only at h;split at h
   ·rename_i hq;subst hq;split at h
    ·cases h
    ·rename_i hy;refine⟨_,fun R' k'=>by simp[nB,hy],h,fun μ φ w ox oy u v hu hv=>?_⟩;obtain⟨rfl,rfl,hw⟩:=ints μ φ u v hu hv;exact⟨_,by simp[wy,eqGuard,binOp,Op.intDiv,hy],.int (abr hw)⟩
   ·cases h
  case eql|neq|lss|leq|gtr|geq=>
   simp only at h;split at h
   ·rename_i hq;subst hq;refine⟨_,fun R' k'=>by simp[nB],h,fun μ φ w ox oy u v hu hv=>?_⟩;obtain⟨rfl,rfl,_⟩:=ints μ φ u v hu hv;refine⟨_,bZ (by rw[eqGuard_at_int];rfl) ?_,.bool⟩;first|rw[binOp_eql]|rw[binOp_neq]|rw[binOp_lss]|rw[binOp_leq]|rw[binOp_gtr]|rw[binOp_geq]
    rfl
   ·cases h
  all_goals
   simp only at h;split at h
   ·rename_i hq;subst hq;refine⟨_,fun R' k'=>by simp[nB],h,fun μ φ w ox oy u v hu hv=>?_⟩;obtain⟨rfl,rfl,_⟩:=ints μ φ u v hu hv;refine⟨_,bZ (by rw[eqGuard_at_int];rfl) ?_,.int (wf_wrap _ _)⟩;first|rw[binOp_add]|rw[binOp_sub]|rw[binOp_mul]|rw[binOp_and]|rw[binOp_or]|rw[binOp_xor]|rw[binOp_andNot]
    rfl
   ·cases h
 ·rename_i x y;have strs:∀(μ:Ro)(φ:Nat→aI)(u v:Value),an E.P μ φ (.pv (.str x)) u→an E.P μ φ (.pv (.str y)) v→u=.string ⟨x.toArray⟩∧v=.string ⟨y.toArray⟩:=by intro μ φ u v hu hv;cases hu with|pv hu=>cases hu with|str h1=>cases hv with|pv hv=>cases hv with|str h2=>exact⟨rfl,rfl⟩
  cases op;case add=>
   simp only at h;split at h
   ·rename_i bF;have hy:¬((x.length+y.length:Nat):Int)>IntKind.i64.max:=by have:=E.lp.sS _ bF;omega
    refine⟨_,fun R' k'=>by simp only[nB];rw[T0 bF],h,fun μ φ w ox oy u v hu hv=>?_⟩;obtain⟨rfl,rfl⟩:=strs μ φ u v hu hv;refine⟨.string ⟨(x++y).toArray⟩,?_,.str ?_⟩
    ·simp only[wy,eqGuard,binOp,Op.stringOp,Sem.run_bind];have e:(⟨x.toArray⟩++⟨y.toArray⟩:ByteArray)=⟨(x++y).toArray⟩:=by apply ByteArray.ext;simp
     simp only[HL,e];rw[acB hy];simp
    ·simp only[maxLen];simp only[IntKind.max_i64]at hy;simp;omega
   ·cases h
  case eql|neq|lss|leq|gtr|geq=>simp only at h;refine⟨_,fun R' k'=>by simp only[nB],h,fun μ φ w ox oy u v hu hv=>?_⟩;obtain⟨rfl,rfl⟩:=strs μ φ u v hu hv;refine⟨_,bZ (by rw[eqGuard_at_string];rfl) ?_,.bool⟩;simp only[binOp,Op.stringOp,ByteArray.toList_eq];rfl
  all_goals (simp only at h;cases h)
 ·rename_i x y;have acX:∀(μ:Ro)(φ:Nat→aI)(u v:Value),an E.P μ φ (.pv (.bool x)) u→an E.P μ φ (.pv (.bool y)) v→u=.bool x∧v=.bool y:=by intro μ φ u v hu hv;cases hu with|pv hu=>cases hu with|bool=>cases hv with|pv hv=>cases hv with|bool=>exact⟨rfl,rfl⟩
  split at h
  ·rename_i tU;refine⟨_,fun R' k'=>by simp only[nB,tU],h,fun μ φ w ox oy u v hu hv=>?_⟩;obtain⟨rfl,rfl⟩:=acX μ φ u v hu hv;exact⟨_,bZ (by rw[eqGuard_at_bool];rfl) (jg rfl (run_equalIn_bool w _ _ _ _ tU)),.bool⟩
  ·rename_i tU;refine⟨_,fun R' k'=>by simp only[nB,tU],h,fun μ φ w ox oy u v hu hv=>?_⟩;obtain⟨rfl,rfl⟩:=acX μ φ u v hu hv;exact⟨_,bZ (by rw[eqGuard_at_bool];rfl) (jh rfl (run_equalIn_bool w _ _ _ _ tU)),.bool⟩
  ·cases h
 ·split at h
  ·rename_i tU;refine⟨_,fun R' k'=>by simp only[nB,tU],h,fun μ φ w ox oy u v hu hv=>?_⟩;cases hu with|pv hu=>cases hu;cases hv with|pv hv=>cases hv;exact⟨_,bZ (by rw[eqGuard_at_pointer];rfl) (jg rfl (nr tU none)),.bool⟩
  ·rename_i tU;refine⟨_,fun R' k'=>by simp only[nB,tU],h,fun μ φ w ox oy u v hu hv=>?_⟩;cases hu with|pv hu=>cases hu;cases hv with|pv hv=>cases hv;exact⟨_,bZ (by rw[eqGuard_at_pointer];rfl) (jh rfl (nr tU none)),.bool⟩
  ·cases h
 ·split at h
  ·rename_i tU;refine⟨_,fun R' k'=>by simp only[nB,tU],h,fun μ φ w ox oy u v hu hv=>?_⟩;cases hu with| @fn f0 _ xs0=>cases hv with|pv hv=>cases hv;obtain⟨g0,a0,b0,e0⟩:=tS _ xs0;rw[e0];exact⟨_,bZ (by rw[eqGuard_at_func];rfl) (jg rfl (yw tU _ _ _)),.bool⟩
  ·rename_i tU;refine⟨_,fun R' k'=>by simp only[nB,tU],h,fun μ φ w ox oy u v hu hv=>?_⟩;cases hu with| @fn f0 _ xs0=>cases hv with|pv hv=>cases hv;obtain⟨g0,a0,b0,e0⟩:=tS _ xs0;rw[e0];exact⟨_,bZ (by rw[eqGuard_at_func];rfl) (jh rfl (yw tU _ _ _)),.bool⟩
  ·cases h
 ·split at h
  ·rename_i tU;refine⟨_,fun R' k'=>by simp only[nB,tU],h,fun μ φ w ox oy u v hu hv=>?_⟩;cases hu with|pv hu=>cases hu with| @fn f0 _ xs0=>cases hv with|pv hv=>cases hv;obtain⟨g0,a0,b0,e0⟩:=tS _ xs0;rw[e0];exact⟨_,bZ (by rw[eqGuard_at_func];rfl) (jg rfl (yw tU _ _ _)),.bool⟩
  ·rename_i tU;refine⟨_,fun R' k'=>by simp only[nB,tU],h,fun μ φ w ox oy u v hu hv=>?_⟩;cases hu with|pv hu=>cases hu with| @fn f0 _ xs0=>cases hv with|pv hv=>cases hv;obtain⟨g0,a0,b0,e0⟩:=tS _ xs0;rw[e0];exact⟨_,bZ (by rw[eqGuard_at_func];rfl) (jh rfl (yw tU _ _ _)),.bool⟩
  ·cases h
 ·split at h
  ·rename_i tU;refine⟨_,fun R' k'=>by simp only[nB,tU],h,fun μ φ w ox oy u v hu hv=>?_⟩;cases hu with|pv hu=>cases hu;cases hv with|pv hv=>cases hv;exact⟨_,bZ (by rw[eqGuard_at_pointer];rfl) (jg rfl (nr tU _)),.bool⟩
  ·rename_i tU;refine⟨_,fun R' k'=>by simp only[nB,tU],h,fun μ φ w ox oy u v hu hv=>?_⟩;cases hu with|pv hu=>cases hu;cases hv with|pv hv=>cases hv;exact⟨_,bZ (by rw[eqGuard_at_pointer];rfl) (jh rfl (nr tU _)),.bool⟩
  ·cases h
 ·split at h
  ·rename_i tU;refine⟨_,fun R' k'=>by simp only[nB,tU],h,fun μ φ w ox oy u v hu hv=>?_⟩;cases hu with|op hg=>cases hv with|pv hv=>cases hv;exact⟨_,bZ (by rw[eqGuard_at_pointer];rfl) (jg rfl (nr tU _)),.bool⟩
  ·rename_i tU;refine⟨_,fun R' k'=>by simp only[nB,tU],h,fun μ φ w ox oy u v hu hv=>?_⟩;cases hu with|op hg=>cases hv with|pv hv=>cases hv;exact⟨_,bZ (by rw[eqGuard_at_pointer];rfl) (jh rfl (nr tU _)),.bool⟩
  ·cases h
 ·split at h
  ·rename_i tU;refine⟨_,fun R' k'=>by simp only[nB,tU],h,fun μ φ w ox oy u v hu hv=>?_⟩;cases hu with|oe hg=>cases hv with|pv hv=>cases hv;exact⟨_,bZ (by rw[eqGuard_at_pointer];rfl) (jg rfl (nr tU _)),.bool⟩
  ·rename_i tU;refine⟨_,fun R' k'=>by simp only[nB,tU],h,fun μ φ w ox oy u v hu hv=>?_⟩;cases hu with|oe hg=>cases hv with|pv hv=>cases hv;exact⟨_,bZ (by rw[eqGuard_at_pointer];rfl) (jh rfl (nr tU _)),.bool⟩
  ·cases h
 ·rename_i n1 n2 n3 n4 m1 m2 n5 n6 n7;split at h
  ·rename_i ha;split at h
   ·rename_i ks as bs Xf has hbs;split at h
    ·rename_i ps qs rT hqs;split at h
     ·rename_i hc;have hE:KE E.P t=false∧ES E.P 8 t=some ks:=by
       unfold vz at Xf;split at Xf
       ·cases Xf
       ·rename_i hg;exact⟨by simpa[KE]using hg,Xf⟩
      have key:∀(μ:Ro)(φ:Nat→aI)(w:World)(x y:Value),an E.P μ φ a x→an E.P μ φ b y→∃xs ys,x=.agg xs∧y=.agg ys∧(Op.equalIn 10000 t x y).run E.P w=.ok (bM ps qs) w:=by intro μ φ w x y hx hy;obtain⟨xs,rfl,g1,g2,g3⟩:=(ru has).2 _ _ _ _ hx;obtain⟨ys,rfl,g4,g5,g6⟩:=(ru hbs).2 _ _ _ _ hy;obtain⟨l1,l2⟩:=gX rT;obtain⟨l3,l4⟩:=gX hqs;have e1:=wx (P:=E.P) (μ:=μ) (xs:=xs) hc.1 (by omega) (fun i p z hi hz=>by obtain⟨v,hv,hg⟩:=l2 i p hi;exact xH 1 hg (g2 i v z hv hz));have e2:=wx (P:=E.P) (μ:=μ) (xs:=ys) hc.2 (by omega) (fun i p z hi hz=>by obtain⟨v,hv,hg⟩:=l4 i p hi;exact xH 1 hg (g5 i v z hv hz));refine⟨xs,ys,rfl,rfl,?_⟩;have:=rU 8 t ks hE.2 9992 w ps qs hc.1 hc.2;rw[KD ha,KD ha,←e1,←e2]at this;exact this
      have ajm:∀(R':Type)(k':PV→Option R'),nB E .eql t a b k'=k' (.bool (bM ps qs)):=by
       intro R' k';unfold nB;split
       ·exact(n1 _ _ _ _ rfl rfl).elim
       ·exact(n2 _ _ rfl rfl).elim
       ·exact(n3 _ _ rfl rfl).elim
       ·exact(n4 rfl rfl).elim
       ·exact(m1 _ _ rfl rfl).elim
       ·exact(m2 _ _ rfl rfl).elim
       ·exact(n5 _ rfl rfl).elim
       ·exact(n6 _ _ rfl rfl).elim
       ·exact(n7 _ _ _ rfl rfl).elim
       ·rw[T0 ha,Xf,has,hbs];simp only[rT,hqs];rw[T0 hc]
      have ajn:∀(R':Type)(k':PV→Option R'),nB E .neq t a b k'=k' (.bool (!(bM ps qs))):=by
       intro R' k';unfold nB;split
       ·exact(n1 _ _ _ _ rfl rfl).elim
       ·exact(n2 _ _ rfl rfl).elim
       ·exact(n3 _ _ rfl rfl).elim
       ·exact(n4 rfl rfl).elim
       ·exact(m1 _ _ rfl rfl).elim
       ·exact(m2 _ _ rfl rfl).elim
       ·exact(n5 _ rfl rfl).elim
       ·exact(n6 _ _ rfl rfl).elim
       ·exact(n7 _ _ _ rfl rfl).elim
       ·rw[T0 ha,Xf,has,hbs];simp only[rT,hqs];rw[T0 hc]
      cases op;case eql=>refine⟨_,fun R' k'=>ajm R' k',h,fun μ φ w ox oy x y hx hy=>?_⟩;obtain⟨xs,ys,rfl,rfl,hr⟩:=key μ φ w x y hx hy;exact⟨_,bZ (run_eqGuard_agg w _ _ _ _ _ _ hE.1) (jg rfl hr),.bool⟩
      case neq=>refine⟨_,fun R' k'=>ajn R' k',h,fun μ φ w ox oy x y hx hy=>?_⟩;obtain⟨xs,ys,rfl,rfl,hr⟩:=key μ φ w x y hx hy;exact⟨_,bZ (run_eqGuard_agg w _ _ _ _ _ _ hE.1) (jh rfl hr),.bool⟩
      all_goals (simp only at h;cases h)
     ·cases h
    ·cases h
   ·cases h
  ·cases h
theorem adK{op:UnOp}(h:xun op a k=some r):∃q,(∀(R':Type)(k':PV→Option R'),xun op a k'=k' q)∧k q=some r∧∀(P:Program)(μ:Ro)(φ:Nat→aI)(w:World)(x:Value),an P μ φ a x→∃z,(Op.unary op x).run P w=.ok z w∧ao P μ q z:=by
 unfold xun at h;split at h
 ·refine⟨_,fun R' k'=>rfl,h,fun P μ φ w x hx=>?_⟩;cases hx with|pv hx=>cases hx;exact⟨_,rfl,.bool⟩
 ·refine⟨_,fun R' k'=>rfl,h,fun P μ φ w x hx=>?_⟩;cases hx with|pv hx=>cases hx;exact⟨_,rfl,.int (wf_wrap _ _)⟩
 ·refine⟨_,fun R' k'=>rfl,h,fun P μ φ w x hx=>?_⟩;cases hx with|pv hx=>cases hx;exact⟨_,rfl,.int (wf_wrap _ _)⟩
 ·cases h
theorem abv{k:IntKind}{n:Int}(h:(Lit.int k n).wf=true):k.wrap n=n:=by rw[yt]at h;cases k<;>simp only[IntKind.wrap,IntKind.min,IntKind.max,IntKind.signed,IntKind.bits]at* <;>simp at* <;>(try split)<;>omega
theorem Xg{s d:TypeId}(h:Hu E s d a k=some r):∃q,(∀(R':Type)(k':PV→Option R'),Hu E s d a k'=k' q)∧k q=some r∧∀(μ:Ro)(φ:Nat→aI)(w:World)(x:Value),an E.P μ φ a x→∃z,(convert s d x).run E.P w=.ok z w∧ao E.P μ q z:=by
 unfold Hu at h;split at h
 ·rename_i q q' q'' n hs hd;split at h
  ·rename_i e1;subst e1;split at h
   ·rename_i e2;subst e2;refine⟨_,fun R' k'=>by simp[Hu,hs,hd],h,fun μ φ w x hx=>?_⟩;cases hx with|pv hx=>cases hx with|int hw=>exact⟨_,by simp[convert,run_underlying hs,run_underlying hd,Conv.intToInt,abv hw],.int hw⟩
   ·rename_i e2;refine⟨_,fun R' k'=>by simp[Hu,hs,hd,e2],h,fun μ φ w x hx=>?_⟩;cases hx with|pv hx=>cases hx with|int hw=>exact⟨_,by simp[convert,run_underlying hs,run_underlying hd,Conv.intToInt],.int (wf_wrap _ _)⟩
  ·cases h
 ·rename_i hs hd;refine⟨_,fun R' k'=>by simp[Hu,hs,hd],h,fun μ φ w x hx=>?_⟩;cases hx with|pv hx=>cases hx with|str hl=>exact⟨_,by simp[convert,run_underlying hs,run_underlying hd],.str hl⟩
 ·cases h
theorem Xh{b:V}(h:Np a b k=some r):∃q,(∀(R':Type)(k':PV→Option R'),Np a b k'=k' q)∧k q=some r∧∀(P:Program)(μ:Ro)(φ:Nat→aI)(w:World)(x y:Value),an P μ φ a x→an P μ φ b y→∃z,(Builtin.min2 x y).run P w=.ok z w∧ao P μ q z:=by
 unfold Np at h;split at h
 ·split at h
  ·rename_i e;subst e;refine⟨_,fun R' k'=>by simp[Np],h,fun P μ φ w x y hx hy=>?_⟩;cases hx with|pv hx=>cases hx with|int h1=>cases hy with|pv hy=>cases hy with|int h2=>exact⟨_,rfl,by split<;>exact .int (by assumption)⟩
  ·cases h
 ·cases h
theorem DX{b:V}(h:F7 a b k=some r):∃q,(∀(R':Type)(k':PV→Option R'),F7 a b k'=k' q)∧k q=some r∧∀(P:Program)(μ:Ro)(φ:Nat→aI)(w:World)(x y:Value),an P μ φ a x→an P μ φ b y→∃z,(Builtin.max2 x y).run P w=.ok z w∧ao P μ q z:=by
 unfold F7 at h;split at h
 ·split at h
  ·rename_i e;subst e;refine⟨_,fun R' k'=>by simp[F7],h,fun P μ φ w x y hx hy=>?_⟩;cases hx with|pv hx=>cases hx with|int h1=>cases hy with|pv hy=>cases hy with|int h2=>exact⟨_,rfl,by split<;>exact .int (by assumption)⟩
  ·cases h
 ·cases h
theorem Xi{b c d:V}(h:Nq a b c d k=some r):∃q,(∀(R':Type)(k':PV→Option R'),Nq a b c d k'=k' q)∧k q=some r∧∀(P:Program)(μ:Ro)(φ:Nat→aI)(w:World)(x y z u:Value),an P μ φ a x→an P μ φ b y→an P μ φ c z→an P μ φ d u→∃v1 v2 v3,(Builtin.max2 x y).run P w=.ok v1 w∧(Builtin.max2 v1 z).run P w=.ok v2 w∧(Builtin.max2 v2 u).run P w=.ok v3 w∧ao P μ q v3:=by unfold Nq at h;obtain⟨q1,a1,h,b1⟩:=DX h;obtain⟨q2,a2,h,b2⟩:=DX h;obtain⟨q3,a3,h,b3⟩:=DX h;refine⟨q3,fun R' k'=>by unfold Nq;rw[a1,a2,a3],h,fun P μ φ w x y z u hx hy hz hu=>?_⟩;obtain⟨v1,c1,d1⟩:=b1 P μ φ w x y hx hy;obtain⟨v2,c2,d2⟩:=b2 P μ φ w v1 z (.pv d1) hz;obtain⟨v3,c3,d3⟩:=b3 P μ φ w v2 u (.pv d2) hu;exact⟨v1,v2,v3,c1,c2,c3,d3⟩
end
section
variable {P:Program} {G:Nat→Option (List PV)} {w0:bE} {μ μ':Ro} {φ φ':Nat→aI} {m:Mem} {w w':World}
variable{b:bK}
@[simp] theorem bW(m:Mem)(d:Nat)(b:bK):aw m d b d=some b:=by simp[aw]
theorem ax{m:Mem}{d t:Nat}(h:t≠d):aw m d b t=m t:=by simp[aw,cond_eq_ite,h]
@[simp] theorem acY(m:Mem)(d:Nat):bx m d d=none:=by simp[bx]
theorem gr{m:Mem}{d t:Nat}(h:t≠d):bx m d t=m t:=by simp[bx,cond_eq_ite,h]
@[simp] theorem CK(f:Fr)(d:Nat)(v:V):gy f d v d=v:=by simp[gy]
theorem tV{f:Fr}{d t:Nat}{v:V}(h:t≠d):gy f d v t=f t:=by simp[gy,cond_eq_ite,h]
variable{id sz:Nat}{et:TypeId}{es:List PV}
theorem aN.cz(h:aN P μ φ w id sz et es)(hφ:φ' id=φ id)(hμ:∀b o,μ b=some o→μ' b=some o)(hw:∀g,(φ id).g=some g→w'.heap[g]?=w.heap[g]?):aN P μ' φ' w' id sz et es:=by
 obtain⟨a1,a2,a3,a4,a5,a6,a7⟩:=h;unfold aN;rw[hφ];refine⟨a1,a2,a3,a4,a5,a6,?_⟩;cases hg:(φ id).g with
 |none=>rw[hg]at a7;omega
 |some g=>rw[hg]at a7;obtain⟨c,T,c1,c2,c3,c4,c5⟩:=a7;exact⟨c,T,by rw[hw g hg];omega,c2,c3,fun i e j p x h1 h2 h3=>(c4 i e j p x h1 h2 h3).mono hμ,c5⟩
theorem eQ.cz{R:Ge}{s:Nat}{rs:List PV}{x:Value}(h:eQ P μ R w s rs x)(hμ:∀b o,μ b=some o→μ' b=some o)(hw:∀g,R.g=some g→w'.heap[g]?=w.heap[g]?):eQ P μ' R w' s rs x:=
 let⟨⟨et,hA⟩,hV⟩:=h
 ⟨⟨et,hA.cz rfl hμ hw⟩,hV.Ck hμ⟩
theorem ep.cz{R:Ge}{p:PV}{x:Value}(h:ep P μ R w p x)(hμ:∀b o,μ b=some o→μ' b=some o)(hw:p.isRow=true→∀g,R.g=some g→w'.heap[g]?=w.heap[g]?):ep P μ' R w' p x:=by
 unfold ep at*;split at h
 ·exact eQ.cz h hμ (hw rfl)
 ·exact h.mono hμ
variable{i j:Nat}
theorem dG{e p:PV}(he:es[i]?=some e)(hp:e.cells[j]?=some p):(bK.nest sz et es).rowAt i j=p.isRow:=by simp[bK.rowAt,he,hp]
theorem bd.cz{id sz:Nat}{et:TypeId}{es:List PV}(h:bd P μ φ w id sz et es)(hφ:φ' id=φ id)(hμ:∀b o,μ b=some o→μ' b=some o)(hw:∀g,(bK.nest sz et es).owns (φ id) g→w'.heap[g]?=w.heap[g]?):bd P μ' φ' w' id sz et es:=by
 obtain⟨a1,a2,a3,a4,a5,a6,a7⟩:=h;unfold bd;rw[hφ];refine⟨a1,a2,a3,a4,a5,a6,?_⟩;cases hg:(φ id).g with
 |none=>rw[hg]at a7;omega
 |some g=>rw[hg]at a7;obtain⟨c,T,c1,c2,c3,c4,c5⟩:=a7;exact⟨c,T,by rw[hw g (.inl hg)];omega,c2,c3,fun i e j p x h1 h2 h3=>(c4 i e j p x h1 h2 h3).cz hμ fun hr g' dn=>hw g' (.inr ⟨i,j,by rw[dG h1 h2];omega,dn⟩),c5⟩
theorem kv{kt e:TypeId}{es:List (PV×PV)}{k v:PV}(he:es[i]?=some (k,v)):(bK.fu kt e es).rowAt i 0=v.isRow:=by simp[bK.rowAt,he]
theorem gM.cz{id:Nat}{b:bK}(h:gM P μ φ w id b)(hn:∀j,b.names j=true→φ' j=φ j)(hφ:φ' id=φ id)(hμ:∀b o,μ b=some o→μ' b=some o)(hw:∀g,b.owns (φ id) g→w'.heap[g]?=w.heap[g]?):gM P μ' φ' w' id b:=by
 cases b with
 |nest sz et es=>exact bd.cz h hφ hμ hw
 |fu kt e0 es=>
  obtain⟨g,en,clock,kk,hg,hh,hs,hk,hc,BG,hv⟩:=h;refine⟨g,en,clock,kk,by rw[hφ];omega,by rw[hw g (.inl hg)];omega,hs,hk,hc,BG,fun i k v e h1 h2=>⟨(hv i k v e h1 h2).1.mono hμ,?_⟩⟩;have h3:=(hv i k v e h1 h2).2;rw[hφ];split at h3
  ·exact⟨h3.1.cz rfl hμ fun g' dn=>hw g' (.inr ⟨i,0,by rw[kv h1];rfl,dn⟩),h3.2.Ck hμ⟩
  ·exact h3.mono hμ
 |box cs=>obtain⟨g,c,T,hg,hh,hs,hv,h1,JS⟩:=h;exact⟨g,c,T,by rw[hφ];omega,by rw[hw g (.inl hg)];omega,hs,fun i v x hi hx=>(hv i v x hi hx).mono hμ (fun j hj=>hn j (bO (alf hi) hj)),h1,by rw[hφ];omega⟩
 |arr sz et es=>exact aN.cz h hφ hμ fun g hg=>hw g (.inl hg)
 |tC sz et es=>refine⟨aN.cz h.1 hφ hμ fun g hg=>hw g (.inl hg),fun g hg=>?_⟩;rw[hφ]at hg;have:=h.2 g hg;obtain⟨o,ho⟩:=alK.1 this;rw[hμ _ _ ho];rfl
 |map kt es=>obtain⟨g,en,clock,kk,hg,hh,hs,hk,hc,BG,hv⟩:=h;exact⟨g,en,clock,kk,by rw[hφ];omega,by rw[hw g (.inl hg)];omega,hs,hk,hc,BG,fun i k v e h1 h2=>⟨(hv i k v e h1 h2).1.mono hμ,(hv i k v e h1 h2).2.mono hμ⟩⟩
 |iter t es cur=>obtain⟨g,mg,en,clock,seen,hg,hh,Nb,BG,JS,hv,hcu⟩:=h;exact⟨g,mg,en,clock,seen,by rw[hφ];omega,by rw[hw g (.inl hg)];omega,hμ _ _ Nb,BG,JS,fun i k v e h1 h2=>⟨(hv i k v e h1 h2).1.mono hμ,(hv i k v e h1 h2).2.mono hμ⟩,fun k v hc=>let⟨i,e,h1,h2,h3,h4⟩:=hcu k v hc;⟨i,e,h1,h2,h3.mono hμ,h4.mono hμ⟩⟩
 |loop st=>obtain⟨g,rc,hg,hh⟩:=h;exact⟨g,rc,by rw[hφ];omega,by rw[hw g (.inl hg)];omega⟩
variable{g:Nat}
theorem eQ.HP{R:Ge}{s:Nat}{rs:List PV}{x:Value}(h:eQ P μ R w s rs x)(hg:R.g=some g):g<w.heap.size:=by obtain⟨⟨et,_,_,_,_,_,_,a7⟩,_⟩:=h;have dn:R.up.g=some g:=hg;grind
theorem kx{off:Nat}(h:b.rowAt i off=true):(∃sz et es e s rs,b=.nest sz et es∧es[i]?=some e∧e.cells[off]?=some (.mE s rs))∨∃kt e0 es k s rs,b=.fu kt e0 es∧off=0∧es[i]?=some (k,.mE s rs):=by
 unfold bK.rowAt at h;split at h
 ·rename_i sz et es i off;split at h
  ·rename_i e he;split at h
   ·rename_i p hp;cases p<;>first|(cases h;done)|skip
    grind
   ·cases h
  ·cases h
 ·rename_i kt e0 es i;split at h
  ·rename_i x hx;obtain⟨k,v⟩:=x;cases v<;>first|(cases h;done)|skip
   grind
  ·cases h
 ·cases h
theorem gM.af4{off:Nat}(h:gM P μ φ w id b)(hr:b.rowAt i off=true)(hg:((φ id).row i off).g=some g):g<w.heap.size:=by
 rcases kx hr with⟨sz,et,es,e,s,rs,rfl,he,hp⟩|⟨kt,e0,es,k,s,rs,rfl,rfl,he⟩
 ·have hN:bd P μ φ w id sz et es:=h;have hgg:∃g0,(φ id).g=some g0:=by
   cases hq:(φ id).g with
   |some g0=>simp
   |none=>have a7:=hN.2.2.2.2.2.2;simp_all
  obtain⟨g0,P9⟩:=hgg;obtain⟨c,_,x,_,_,c3,_⟩:=hN.cell P9 he hp;exact eQ.HP (show eQ P μ _ w s rs x from c3) hg
 ·obtain⟨g0,en,clock,kk,P9,hh,hs,hk,hc,BG,hv⟩:=h;have hi:i<en.size:=by grind
  have h3:=(hv i k _ en[i] he (ald hi)).2;exact eQ.HP (P:=P) (μ:=μ) (R:=(φ id).row i 0) (s:=s) (rs:=rs) (x:=en[i].val) ⟨⟨_,h3.1⟩,h3.2⟩ hg
theorem gM.HP(h:gM P μ φ w id b)(hg:b.owns (φ id) g):g<w.heap.size:=by
 rcases hg with hg|⟨i,off,hr,hg⟩
 rotate_left
 ·exact h.af4 hr hg
 have key:∀o,w.heap[g]?=some o→g<w.heap.size:=fun o ho=>(alm.1 ho).1;cases b with
 |nest sz et es=>obtain⟨_,_,_,_,_,_,a7⟩:=h;grind
 |fu kt e0 es=>obtain⟨g',en,clock,kk,dn,hh,_⟩:=h;simp_all
 |box cs=>obtain⟨g',c,T,dn,hh,_⟩:=h;simp_all
 |arr sz et es=>obtain⟨_,_,_,_,_,_,a7⟩:=h;grind
 |tC sz et es=>obtain⟨⟨_,_,_,_,_,_,a7⟩,_⟩:=h;grind
 |map kt es=>obtain⟨g',en,clock,kk,dn,hh,_⟩:=h;simp_all
 |iter t es cur=>obtain⟨g',mg,en,clock,seen,dn,hh,_⟩:=h;simp_all
 |loop st=>obtain⟨g',rc,dn,hh⟩:=h;simp_all
theorem aA.Qa(hM:aA P G w0 μ φ m w)(hm:m j=some b)(hn:b.names id=true):(m id).isSome=true:=by
 cases b with
 |box cs=>exact hM.fT j cs id hm hn
 |_=>simp[bK.names]at hn
theorem BM{cs:List V}(h:cu j (cs.map (vA id))=true):cu j cs=true∧j≠id:=by obtain⟨v,hv,hh⟩:=cN.1 h;obtain⟨u,hu,rfl⟩:=alC.1 hv;grind [Af,bO]
theorem gM.kill{id j:Nat}{b:bK}(h:gM P μ φ w j b):gM P μ φ w j (gz id b):=by
 cases b with
 |box cs=>obtain⟨g,c,T,hg,hh,hs,hv,h1,JS⟩:=h;refine⟨g,c,T,hg,hh,by simpa using hs,fun i v x hi hx=>?_,h1,by simpa using JS⟩;simp only[IS,alg]at hi;obtain⟨u,hu,rfl⟩:=hi;exact(hv i u x hu hx).kill id
 |_=>exact h
theorem yy(id:Nat)(b:bK):(gz id b).rowAt=b.rowAt:=by cases b<;>rfl
variable{p:aI}
theorem gu:(gz id b).owns p g↔b.owns p g:=by unfold bK.owns;rw[yy]
theorem yz:(gz id b).apart p↔b.apart p:=by unfold bK.apart;rw[yy]
theorem tW(h:∀i off,b.rowAt i off=true→False):b.apart p:=fun i off _ hr=>(h i off hr).elim
theorem qw(h:∀i off,b.rowAt i off=true→False)(ho:b.owns p g):p.g=some g:=by
 rcases ho with h1|⟨i,off,hr,_⟩
 ·omega
 simp_all
theorem HQ(h:bI id m j=some b):∃b',m j=some b'∧b=gz id b':=by unfold bI at h;grind
theorem BN(id:Nat)(b:bK):(gz id b).jV=b.jV:=by cases b<;>rfl
theorem aA.forget(hM:aA P G w0 μ φ m w)(id:Nat):aA P G w0 μ φ (bx (bI id m) id) w:=by
 have key:∀j b,bx (bI id m) id j=some b→j≠id∧∃b',m j=some b'∧b=gz id b':=by
  intro j b h;by_cases e:j=id
  ·subst e;simp at h
  simp_all[gr,HQ]
 refine⟨hM.below,hM.ro,hM.aM,fun j b h=>?_,fun j b g h hg=>?_,fun i j b1 b2 g h1 h2 g1 g2=>?_,fun j b h=>?_,fun j cs i h hh=>?_,hM.base,hM.dK,fun j st h=>?_⟩
 rotate_right
 ·obtain⟨_,b',hb,e⟩:=key j _ h;cases b' with
  |loop st'=>simp only[gz,bK.loop.injEq]at e;subst e;exact hM.Gd j st hb
  |_=>simp[gz]at e
 ·obtain⟨_,b',hb,rfl⟩:=key j b h;exact(hM.dJ j b' hb).kill
 ·obtain⟨_,b',hb,rfl⟩:=key j b h;rw[BN];exact hM.own j b' g hb (gu.1 hg)
 ·obtain⟨_,b1',PL,rfl⟩:=key i b1 h1;obtain⟨_,b2',vE,rfl⟩:=key j b2 h2;exact hM.inj i j b1' b2' g PL vE (gu.1 g1) (gu.1 g2)
 ·obtain⟨_,b',hb,rfl⟩:=key j b h;exact yz.2 (hM.apart j b' hb)
 ·obtain⟨_,b',hb,e⟩:=key j _ h;cases b' with
  |box ND=>simp only[gz,bK.box.injEq]at e;subst e;obtain⟨h1,h2⟩:=BM hh;have:=hM.fT j ND i hb h1;grind [gr,bI]
  |_=>simp[gz]at e
theorem Co(m:Mem)(id:Nat)(b:bK):aw (bx m id) id b=aw m id b:=by
 funext t;by_cases h:t=id
 ·subst h;simp
 simp_all[ax,gr]
variable{b':bK}
theorem HR(zw:∀i off,b'.rowAt i off=true→b.rowAt i off=true)(h:b'.owns p g):b.owns p g:=by
 rcases h with h|⟨i,off,hr,h⟩
 ·exact .inl h
 ·exact .inr ⟨i,off,zw i off hr,h⟩
theorem UC(zw:∀i off,b'.rowAt i off=true→b.rowAt i off=true)(h:b.apart p):b'.apart p:=fun i off g hr hg=>
 let⟨h1,h2⟩:=h i off g (zw i off hr) hg
 ⟨h1,fun i' yr DY dn=>h2 i' yr (zw i' yr DY) dn⟩
theorem aA.Xj(hM:aA P G w0 μ φ m w)(hm:m id=some b)(Xk:b.jV=true)(hg:b.owns (φ id) g)(Qb:lL g w w')(Sj:w'.heap.size=w.heap.size)(hw:∀k,k≠g→w'.heap[k]?=w.heap[k]?)(hB:gM P μ φ w' id b')(acZ:b'.jV=true)(hn:∀j,b'.names j=true→(m j).isSome=true)(zw:∀i off,b'.rowAt i off=true→b.rowAt i off=true)(hlp:∀st,b'=.loop st→∃rc,(φ id).g=some g∧w0.rc id=some (g,rc)∧w'.heap[g]?=some (.loop (st.obj rc)):=by intro st h;cases h):aA P G w0 μ φ (aw m id b') w':=by
 obtain⟨E5,hμ⟩:=hM.own id b g hm hg;have hμ:=hμ Xk;refine⟨hM.below.trans (Qb.mono E5),fun k o hk=>?_,hM.aM,fun j c hj=>?_,fun j c g' hj dn=>?_,fun i j b1 b2 g' h1 h2 g1 g2=>?_,fun j c hj=>?_,fun j cs i hj hh=>?_,hM.base,hM.dK,fun j st hj=>?_⟩
 rotate_right
 ·by_cases e:j=id
  ·simp_all
  ·rw[ax e]at hj;obtain⟨g',rc,h1,h2,h3⟩:=hM.Gd j st hj;exact⟨g',rc,h1,h2,by rw[hw g' (fun e'=>by subst e';exact e (hM.inj j id _ b g' hj hm (.inl h1) hg))];omega⟩
 ·have:k≠g:=fun e=>by simp_all
  rw[hw k this];exact hM.ro k o hk
 ·by_cases e:j=id
  ·simp_all
  ·rw[ax e]at hj;refine(hM.dJ j c hj).cz (fun _ _=>rfl) rfl (fun _ _ h=>h) (fun g' dn=>hw g' (fun e'=>?_));subst e';exact e (hM.inj j id c b g' hj hm dn hg)
 ·by_cases e:j=id
  ·subst e;rw[bW]at hj;simp only[By]at hj;subst hj;obtain⟨h1,h2⟩:=hM.own j b g' hm (HR zw dn);simp_all
  ·rw[ax e]at hj;exact hM.own j c g' hj dn
 ·have e1:∃c1,m i=some c1∧c1.owns (φ i) g':=by grind [id,bW,Option.some.injEq,HR,ax]
  have e2:∃c2,m j=some c2∧c2.owns (φ j) g':=by grind [id,bW,Option.some.injEq,HR,ax]
  obtain⟨c1,e1,o1⟩:=e1;obtain⟨c2,e2,o2⟩:=e2;exact hM.inj i j c1 c2 g' e1 e2 o1 o2
 ·by_cases e:j=id
  ·subst e;rw[bW]at hj;simp only[By]at hj;subst hj;exact UC zw (hM.apart j b hm)
  ·rw[ax e]at hj;exact hM.apart j c hj
 ·have:(m i).isSome=true:=by
   by_cases e:j=id
   ·subst e;rw[bW]at hj;simp only[By]at hj;subst hj;exact hn i hh
   ·rw[ax e]at hj;exact hM.fT j cs i hj hh
  by_cases e:i=id
  ·subst e;simp
  ·rw[ax e];omega
theorem aA.write(hM:aA P G w0 μ φ m w)(hm:m id=some b)(Xk:b.jV=true)(hg:(φ id).g=some g)(Qb:lL g w w')(Sj:w'.heap.size=w.heap.size)(hw:∀k,k≠g→w'.heap[k]?=w.heap[k]?)(hB:gM P μ φ w' id b')(acZ:b'.jV=true)(hn:∀j,b'.names j=true→(m j).isSome=true)(hlp:∀st,b'=.loop st→∃rc,w0.rc id=some (g,rc)∧w'.heap[g]?=some (.loop (st.obj rc)):=by intro st h;cases h)(zw:∀i off,b'.rowAt i off=true→b.rowAt i off=true:=by intro i off h;simp[bK.rowAt]at h):aA P G w0 μ φ (aw m id b') w':=hM.Xj hm Xk (.inl hg) Qb Sj hw hB acZ hn zw fun st h=>let⟨rc,h1,h2⟩:=hlp st h;⟨rc,hg,h1,h2⟩
def sJ(μ:Ro)(w:World)(g:Option Nat):Ro:=fun b=>if g=some b then w.heap[b]? else μ b
theorem mG(hM:aA P G w0 μ φ m w)(g:Option Nat):∀b o,μ b=some o→sJ μ w g b=some o:=by
 intro b o hb;unfold sJ;split
 ·exact hM.ro b o hb
 omega
noncomputable def xI(μ:Ro)(w:World)(S:Nat→Prop):Ro:=fun b=> @ite _ (S b) (Classical.propDecidable _) (w.heap[b]?) (μ b)
theorem tX(hM:aA P G w0 μ φ m w)(S:Nat→Prop):∀b o,μ b=some o→xI μ w S b=some o:=by
 intro b o hb;unfold xI;split
 ·exact hM.ro b o hb
 omega
theorem aA.Sk(hM:aA P G w0 μ φ m w)(hm:m id=some b)(hlp:∀st,b≠.loop st)(hA:aN P (xI μ w (b.owns (φ id))) φ w id sz et es):aA P G w0 (xI μ w (b.owns (φ id))) φ (aw m id (.tC sz et es)) w:=by
 have mono:=tX hM (b.owns (φ id));have Xl:∀i off,(bK.tC sz et es).rowAt i off=true→False:=fun i off h=>by simp[bK.rowAt]at h
 refine⟨hM.below,fun k o hb=>?_,fun g cs hg=>(hM.aM g cs hg).mono mono,fun j c hj=>?_,fun j c g' hj dn=>?_,fun i j b1 b2 g' h1 h2 g1 g2=>?_,fun j c hj=>?_,fun j cs i hj hh=>?_,fun k o hb bQ=>?_,fun b o hb=>mono b o (hM.dK b o hb),fun j st hj=>?_⟩
 rotate_right
 ·by_cases e:j=id
  ·simp_all
  ·rw[ax e]at hj;exact hM.Gd j st hj
 rotate_right
 ·unfold xI at hb;split at hb
  ·rename_i he;have:=(hM.own id b k hm he).1;omega
  ·exact hM.base k o hb bQ
 ·unfold xI at hb;split at hb
  ·omega
  ·exact hM.ro k o hb
 ·by_cases e:j=id
  ·subst e;rw[bW]at hj;simp only[By]at hj;subst hj;refine⟨hA,fun g hg=>?_⟩;have:=gM.HP (b:=.arr sz et es) hA (.inl hg);unfold xI;rw[T0 (show b.owns (φ j) g from .inl hg)];simp[this]
  ·rw[ax e]at hj;exact(hM.dJ j c hj).cz (fun _ _=>rfl) rfl mono (fun _ _=>rfl)
 ·by_cases e:j=id
  ·subst e;rw[bW]at hj;simp only[By]at hj;subst hj;exact⟨(hM.own j b g' hm (.inl (qw Xl dn))).1,by simp[bK.jV]⟩
  ·rw[ax e]at hj;obtain⟨h1,h2⟩:=hM.own j c g' hj dn;refine⟨h1,fun Nb=>?_⟩;unfold xI;split
   ·rename_i he;exact absurd (hM.inj j id c _ g' hj hm dn he) e
   ·exact h2 Nb
 ·have e1:∃c1,m i=some c1∧c1.owns (φ i) g':=by
   by_cases e:i=id
   ·subst e;rw[bW]at h1;simp only[By]at h1;subst h1;exact⟨b,hm,.inl (qw Xl g1)⟩
   simp_all[ax]
  have e2:∃c2,m j=some c2∧c2.owns (φ j) g':=by
   by_cases e:j=id
   ·subst e;rw[bW]at h2;simp only[By]at h2;subst h2;exact⟨b,hm,.inl (qw Xl g2)⟩
   simp_all[ax]
  obtain⟨c1,e1,o1⟩:=e1;obtain⟨c2,e2,o2⟩:=e2;exact hM.inj i j c1 c2 g' e1 e2 o1 o2
 ·by_cases e:j=id
  ·simp_all[bW,By,tW]
  ·rw[ax e]at hj;exact hM.apart j c hj
 ·have:(m i).isSome=true:=by
   by_cases e:j=id
   ·simp_all
   ·rw[ax e]at hj;exact hM.fT j cs i hj hh
  by_cases e:i=id
  ·subst e;simp
  ·rw[ax e];omega
theorem tD:∀i off,(bK.arr sz et es).rowAt i off=true→False:=fun i off h=>by simp[bK.rowAt]at h
theorem aA.freeze(hM:aA P G w0 μ φ m w)(hm:m id=some (.arr sz et es)):aA P G w0 (sJ μ w (φ id).g) φ (aw m id (.tC sz et es)) w:=by
 have e:xI μ w ((bK.arr sz et es).owns (φ id))=sJ μ w (φ id).g:=by
  funext b;unfold xI sJ;by_cases h:(φ id).g=some b
  ·rw[T0 h,T0 (show(bK.arr sz et es).owns (φ id) b from .inl h)]
  ·rw[acB h,acB fun ho=>h (qw tD ho)]
 have:=hM.Sk (sz:=sz) (et:=et) (es:=es) hm (fun st h=>by cases h) (aN.cz (hM.dJ id _ hm) rfl (tX hM _) (fun _ _=>rfl));rwa[e]at this
theorem aA.Sl(hM:aA P G w0 μ φ m w)(hm:m id=some (.nest sz et es)):aA P G w0 (xI μ w ((bK.nest sz et es).owns (φ id))) φ (aw m id (.tC sz et (es.map PV.strip))) w:=by have hN:bd P μ φ w id sz et es:=hM.dJ id _ hm;refine hM.Sk hm (fun st h=>by cases h) (hN.strip (tX hM _) fun i off g hr hg=>?_);unfold xI;rw[T0 (show(bK.nest sz et es).owns (φ id) g from .inr ⟨i,off,hr,hg⟩)]
def cB(μ:Ro)(w w':World):Ro:=fun b=>if b<w.heap.size then μ b else w'.heap[b]?
theorem kM(hM:aA P G w0 μ φ m w)(w':World):∀b o,μ b=some o→cB μ w w' b=some o:=by intro b o hb;have:=(alm.1 (hM.ro b o hb)).1;simp[cB,this,hb]
theorem aA.called(hM:aA P G w0 μ φ m w)(hb:lL w.heap.size w w'):aA P G w0 (cB μ w w') φ m w':=by
 have mono:=kM hM w';refine⟨hM.below.trans (hb.mono hM.below.size),fun b o h=>?_,fun g cs hg=>(hM.aM g cs hg).mono mono,fun id b h=>?_,fun id b g h hg=>?_,hM.inj,hM.apart,hM.fT,fun b o h bQ=>?_,fun b o hb=>mono b o (hM.dK b o hb),fun j st hj=>?_⟩
 rotate_right
 ·obtain⟨g,rc,h1,h2,h3⟩:=hM.Gd j st hj;exact⟨g,rc,h1,h2,by rw[hb.block g (alm.1 h3).1];omega⟩
 rotate_right
 ·have:w0.heap.size≤w.heap.size:=hM.below.size;unfold cB at h;rw[T0 (by omega)]at h;exact hM.base b o h bQ
 ·unfold cB at h;split at h
  ·rename_i bQ;rw[hb.block b bQ];exact hM.ro b o h
  omega
 ·have hR:=hM.dJ id b h;exact hR.cz (fun _ _=>rfl) rfl mono (fun g hg=>hb.block g (hR.HP hg))
 ·obtain⟨h1,h2⟩:=hM.own id b g h hg;refine⟨h1,fun hm=>?_⟩;have:=(hM.dJ id b h).HP hg;simp[cB,this,h2 hm]
def nL(μ:Ro)(g:Option Nat):Ro:=fun b=>if g=some b then none else μ b
theorem NF{μ:Ro}{g:Option Nat}{b:Nat}{o:Obj}(h:nL μ g b=some o):μ b=some o:=by simp_all[nL]
theorem CL(hM:aA P G w0 μ φ m w)(w':World){g:Option Nat}(hg:∀b,g=some b→w.heap.size≤b):∀b o,μ b=some o→nL (cB μ w w') g b=some o:=by intro b o hb;have bQ:=(alm.1 (hM.ro b o hb)).1;unfold nL;rw[acB fun e=>by have:=hg b e;omega];exact kM hM w' b o hb
theorem aA.KF(hM:aA P G w0 μ φ m w)(hb:lL w.heap.size w w'){go:Option Nat}(JX:∀b,go=some b→w.heap.size≤b):aA P G w0 (nL (cB μ w w') go) φ m w':=by
 have mono:=CL hM w' JX;have hC:=hM.called hb;refine⟨hC.below,fun b o h=>hC.ro b o (NF h),fun g cs hg=>(hM.aM g cs hg).mono mono,fun id b h=>?_,fun id b g h hg=>?_,hM.inj,hM.apart,hM.fT,fun b o h bQ=>hC.base b o (NF h) bQ,fun b o hb=>mono b o (hM.dK b o hb),hC.Gd⟩
 ·have hR:=hM.dJ id b h;exact hR.cz (fun _ _=>rfl) rfl mono (fun g hg=>hb.block g (hR.HP hg))
 ·obtain⟨h1,h2⟩:=hC.own id b g h hg;refine⟨h1,fun hm=>?_⟩;unfold nL;simp_all
theorem aA.drew(hM:aA P G w0 μ φ m w):aA P G w0 μ φ m w.drew:=⟨hM.below.drew,hM.ro,hM.aM,fun id b h=>(hM.dJ id b h).cz (fun _ _=>rfl) rfl (fun _ _ h=>h) (fun _ _=>rfl),hM.own,hM.inj,hM.apart,hM.fT,hM.base,hM.dK,hM.Gd⟩
end
end Go.Ab
