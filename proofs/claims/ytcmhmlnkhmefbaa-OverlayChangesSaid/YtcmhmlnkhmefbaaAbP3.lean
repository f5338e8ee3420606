import Derived.Test.YtcmhmlnkhmefbaaAbP2
import Derived.Great.BuildSlice
import Derived.Laws.AppendOwn
import Derived.Laws.MakeOwn
set_option linter.unusedVariables false
namespace Go.Ab
open Go.RowKit (Below)
structure bJ(P:Program)(μ:Ro)(φ:Nat→aw)(m:Mem)(f:Fr)(ρ:Nat→Value):Prop where
 fr:∀t,ab P μ φ (f t) (ρ t)
 live:∀t id,(f t).has id=true→(m id).isSome=true
section
variable {P:Program} {G:Nat→Option (List PV)} {w0:bg} {μ μ':Ro} {φ φ':Nat→aw} {m m':Mem} {w w':World} {f:Fr} {ρ:Nat→Value}
theorem bJ.mono(h:bJ P μ φ m f ρ)(hμ:∀b o,μ b=some o→μ' b=some o)(hφ:∀id,(m id).isSome=true→φ' id=φ id∧(m' id).isSome=true):bJ P μ' φ' m' f ρ:=⟨fun t=>(h.fr t).mono hμ fun id hid=>(hφ id (h.live t id hid)).1,fun t id hid=>(hφ id (h.live t id hid)).2⟩
theorem ey{id j:Nat}{b:bn}(h:aQ (bk id m) id j=some b):j≠id∧∃b',m j=some b'∧b=ff id b':=by
 by_cases e:j=id
 ·subst e;simp at h
 ·rw[eC e]at h;exact⟨e,yH h⟩
theorem nW{id j:Nat}(h:j≠id)(hm:(m j).isSome=true):(aQ (bk id m) id j).isSome=true:=by obtain⟨b,hb⟩:=Option.isSome_iff_exists.1 hm;rw[eC h];simp[bk,hb]
theorem bJ.forget(h:bJ P μ φ m f ρ)(id:Nat):bJ P μ φ (aQ (bk id m) id) (eB id f) ρ:=by refine⟨fun t=>(h.fr t).kill id,fun t j hj=>?_⟩;obtain⟨h1,h2⟩:=qM hj;exact nW h2 (h.live t j h1)
theorem al.put(hM:al P G w0 μ φ m w){site:Nat}{b:bn}{ph:aw}(hs:m site=none)(FL:iJ w0.heap.size w w')(kU:∀k o,μ k=some o→w'.heap[k]?=some o)(hold:∀id b' g,m id=some b'→b'.owns (φ id) g→w'.heap[g]?=w.heap[g]?)(pk:∀g,b.owns ph g→w0.heap.size≤g∧μ g=none∧∀id b',m id=some b'→¬b'.owns (φ id) g)(Cl:b.apart ph)(hB:fm P μ (fun i=>if i=site then ph else φ i) w' site b)(hn:∀id,b.names id=true→(m id).isSome=true)(Rz:∀st,b=.loop st→∃g rc,ph.g=some g∧w0.rc site=some (g,rc)∧w'.heap[g]?=some (.loop (st.obj rc))):al P G w0 μ (fun i=>if i=site then ph else φ i) (ai m site b) w':=by
 refine⟨hM.below.trans FL,kU,hM.ax,fun id b' hid=>?_,fun id b' g hid hg=>?_,fun LS id2 b1 b2 g h1 h2 g1 g2=>?_,fun id b' hid=>?_,fun j cs id hj hh=>?_,hM.base,hM.dt,fun id st hid=>?_⟩
 rotate_right
 ·by_cases h:id=site
  ·subst h;rw[aD]at hid;simp only[Option.some.injEq]at hid;obtain⟨g,rc,h1,h2,h3⟩:=Rz st hid;exact⟨g,rc,by simp[h1],h2,h3⟩
  ·rw[ak h]at hid;obtain⟨g,rc,h1,h2,h3⟩:=hM.wB id st hid;exact⟨g,rc,by simp only[h,if_false];exact h1,h2,by rw[hold id _ g hid (.inl h1)];exact h3⟩
 ·by_cases h:id=site
  ·subst h;rw[aD]at hid;simp only[Option.some.injEq]at hid;subst hid;exact hB
  ·rw[ak h]at hid;have hR:=hM.dq id b' hid;refine hR.cj (fun j hj=>?_) (by simp[h]) (fun _ _ h=>h) (fun g hg=>hold id b' g hid hg);have:=hM.FK hid hj;have:j≠site:=fun e=>by subst e;rw[hs]at this;cases this
   simp[this]
 ·by_cases h:id=site
  ·subst h;rw[aD]at hid;simp only[Option.some.injEq]at hid;subst hid;simp only[if_true]at hg;exact⟨(pk g hg).1,fun _=>(pk g hg).2.1⟩
  ·rw[ak h]at hid;simp only[h,if_false]at hg;exact hM.own id b' g hid hg
 ·by_cases e1:LS=site
  ·by_cases e2:id2=site
   ·rw[e1,e2]
   ·exfalso;subst e1;rw[aD]at h1;simp only[Option.some.injEq]at h1;subst h1;simp only[if_true]at g1;rw[ak e2]at h2;simp only[e2,if_false]at g2;exact(pk g g1).2.2 id2 b2 h2 g2
  ·by_cases e2:id2=site
   ·exfalso;subst e2;rw[aD]at h2;simp only[Option.some.injEq]at h2;subst h2;simp only[if_true]at g2;rw[ak e1]at h1;simp only[e1,if_false]at g1;exact(pk g g2).2.2 LS b1 h1 g1
   ·rw[ak e1]at h1;rw[ak e2]at h2;simp only[e1,if_false]at g1;simp only[e2,if_false]at g2;exact hM.inj LS id2 b1 b2 g h1 h2 g1 g2
 ·by_cases h:id=site
  ·subst h;rw[aD]at hid;simp only[Option.some.injEq]at hid;subst hid;simp only[if_true];exact Cl
  ·rw[ak h]at hid;simp only[h,if_false];exact hM.apart id b' hid
 ·by_cases e:id=site
  ·subst e;simp
  ·rw[ak e];by_cases h:j=site
   ·subst h;rw[aD]at hj;simp only[Option.some.injEq]at hj;subst hj;exact hn id hh
   ·rw[ak h]at hj;exact hM.eT j cs id hj hh
end
section
variable {R:Type} {E:Env}
structure iD(P:Program)(w0:bg)(μ:Ro)(φ:Nat→aw)(m:Mem)(w w':World)(site:Nat)(b:bn)(ph:aw):Prop where
 below:iJ w0.heap.size w w'
 ro:∀k o,μ k=some o→w'.heap[k]?=some o
 jG:∀id b' g,m id=some b'→b'.owns (φ id) g→w'.heap[g]?=w.heap[g]?
 own:∀g,ph.g=some g→w0.heap.size≤g∧μ g=none∧∀id b',m id=some b'→¬b'.owns (φ id) g
 rep:∀φ',φ' site=ph→(∀id,b.names id=true→φ' id=φ id)→fm P μ φ' w' site b
 names:∀id,b.names id=true→(m id).isSome=true
 lp:∀st,b=.loop st→∃g rc,ph.g=some g∧w0.rc site=some (g,rc)∧w'.heap[g]?=some (.loop (st.obj rc)):=by intro st h;cases h
theorem bR{draw:Bool}{site:Nat}{b:bn}{f:Fr}{m:Mem}{k:Fr→Mem→aY→Option R}{r:R}(h:fresh draw site b f m k=some r)(DJ:∀i off,b.rowAt i off=true→False:=by intro i off h;simp[bn.rowAt]at h):∃f' m',(∀(R':Type)(k':Fr→Mem→aY→Option R'),fresh draw site b f m k'=k' f' m' [(true,site)])∧k f' m' [(true,site)]=some r∧m' site=some b∧(draw=true→m site=none∧f'=f∧m'=ai m site b)∧(∀(P:Program)(G:Nat→Option (List PV))(w0:bg)(μ:Ro)(φ:Nat→aw)(w w':World)(ρ:Nat→Value)(ph:aw),al P G w0 μ φ m w→bJ P μ φ m f ρ→iD P w0 μ φ m w w' site b ph→∃φ',φ' site=ph∧al P G w0 μ φ' m' w'∧bJ P μ φ' m' f' ρ):=by
 unfold fresh at h;cases hs:m site with
 |none=>
  simp only[hs]at h;refine⟨f,ai m site b,fun R' k'=>by simp only[fresh,hs],h,by simp,fun _=>⟨rfl,rfl,rfl⟩,fun P G w0 μ φ w w' ρ ph hM hF hp=>?_⟩;have A8:∀id,(m id).isSome=true→id≠site:=fun id hid e=>by subst e;rw[hs]at hid;cases hid
  refine⟨fun i=>if i=site then ph else φ i,by simp,hM.put hs hp.below hp.ro hp.jG (fun g hg=>hp.own g (kV DJ hg)) (mF DJ) (hp.rep _ (by simp) fun id hid=>by simp[A8 id (hp.names id hid)]) hp.names hp.lp,?_⟩;exact hF.mono (fun _ _ h=>h) fun id hid=>⟨by simp[A8 id hid],by rw[ak (A8 id hid)];exact hid⟩
 |some b0=>
  simp only[hs]at h;split at h
  ·cases h
  ·rename_i hc;simp only[Bool.or_eq_true,not_or,Bool.not_eq_true]at hc;refine⟨eB site f,ai (bk site m) site b,fun R' k'=>by simp only[fresh,hs];simp[hc],h,by simp,fun hd=>(by rw[hc.1]at hd;cases hd),fun P G w0 μ φ w w' ρ ph hM hF hp=>?_⟩;have oS:=hM.forget site;have xy:=hF.forget site;have hs1:aQ (bk site m) site site=none:=by simp
   have A8:∀id,(aQ (bk site m) site id).isSome=true→id≠site:=fun id hid e=>by subst e;simp at hid
   have UE:∀id,b.names id=true→id≠site:=fun id hid e=>by subst e;rw[hc.2]at hid;cases hid
   refine⟨fun i=>if i=site then ph else φ i,by simp,?_,?_⟩
   ·rw[←sK];refine oS.put hs1 hp.below hp.ro (fun id b' g hid hg=>?_) (fun g hg=>?_) (mF DJ) (hp.rep _ (by simp) fun id hid=>by simp[UE id hid]) (fun id hid=>nW (UE id hid) (hp.names id hid)) hp.lp
    ·obtain⟨_,b2,nq,rfl⟩:=ey hid;exact hp.jG id b2 g nq (fa.1 hg)
    ·obtain⟨h1,h2,h3⟩:=hp.own g (kV DJ hg);refine⟨h1,h2,fun id b' hid ho=>?_⟩;obtain⟨_,b2,nq,rfl⟩:=ey hid;exact h3 id b2 nq (fa.1 ho)
   ·rw[←sK];exact xy.mono (fun _ _ h=>h) fun id hid=>⟨by simp[A8 id hid],by rw[ak (A8 id hid)];exact hid⟩
theorem iD.alloc{P:Program}{G:Nat→Option (List PV)}{w0:bg}{μ:Ro}{φ:Nat→aw}{m:Mem}{w:World}{site:Nat}{b:bn}{ph:aw}{o:Obj}(hM:al P G w0 μ φ m w)(P1:ph.g=some w.heap.size)(rep:∀φ',φ' site=ph→(∀id,b.names id=true→φ' id=φ id)→fm P μ φ' (w.alloc o) site b)(names:∀id,b.names id=true→(m id).isSome=true)(lp:∀st,b=.loop st→∃g rc,ph.g=some g∧w0.rc site=some (g,rc)∧(w.alloc o).heap[g]?=some (.loop (st.obj rc)):=by intro st h;cases h):iD P w0 μ φ m w (w.alloc o) site b ph:=by
 have jF:w0.heap.size≤w.heap.size:=hM.below.size;refine⟨(iJ.refl _ w).alloc jF o,fun k o' hk=>?_,fun id b' g hid hg=>iJ.heap_alloc w o g ((hM.dq id b' hid).yG hg),fun g hg=>?_,rep,names,lp⟩
 ·have:=hM.ro k o' hk;rw[iJ.heap_alloc w o k (Array.getElem?_eq_some_iff.1 this).1];exact this
 ·rw[P1]at hg;simp only[Option.some.injEq]at hg;subst hg;refine⟨jF,?_,fun id b' hid hg=>?_⟩
  ·cases hq:μ w.heap.size with
   |none=>rfl
   |some o'=>have:=hM.ro _ _ hq;simp at this
  ·have:=(hM.dq id b' hid).yG hg;omega
theorem eQ(w:World)(o:Obj):(w.alloc o).heap[w.heap.size]?=some o:=heap_alloc_new w o
variable{t:TypeId}
theorem eh{cs:List V}(h:cT E t=some cs):∃i z,E.P.info? t=some i∧i.zero=some z∧i.size=aH E.P t∧cs.length=aH E.P t∧z.cells.size=aH E.P t∧(∀id,bO id cs=false)∧(∀(μ:Ro)(φ:Nat→aw)(i:Nat)u y,cs[i]?=some u→z.cells[i]?=some y→ab E.P μ φ u y)∧(∀(i:Nat)(y:Value),z.cells[i]?=some y→y.oneCell'=true):=by
 unfold cT zeroV at h;cases hi:E.P.info? t with
 |none=>simp[hi]at h
 |some i=>
  cases hz:i.zero with
  |none=>simp[hi,hz]at h
  |some z=>
   simp only[hi,hz,Option.bind_some,Option.map_some]at h;obtain⟨h1,h2,h3⟩:=toCells_ok h;obtain⟨h4,_,h6⟩:=h3 E.P (fun _=>none) (fun _=>default) z (oN z);refine⟨i,z,rfl,hz,by simp[aH,hi],h1,h4,fun id=>?_,fun μ φ i u y hu hy=>(h3 E.P μ φ z (oN z)).2.1 i u y hu hy,h6⟩;cases hh:bO id cs with
   |false=>rfl
   |true=>have:=h2 id hh;rw[AV]at this;cases this
variable{P:Program}{w:World}
theorem kW{i:TypeInfo}{z:Value}(hi:P.info? t=some i)(hz:i.zero=some z):(zeroValue t).run P w=.ok z w:=by simp[zeroValue,typeInfo,hi,hz]
theorem vt{i:TypeInfo}{z:Value}(hi:P.info? t=some i)(hz:i.zero=some z):(Instr.alloc t true (.tuple #[])).run P w=.ok (.pointer (some ⟨w.heap.size,0,none⟩)) (w.alloc (.cells z.cells t)):=by simp[Instr.alloc,kW hi hz,newVar,newRow]
theorem I1{v:Value}:(Instr.box t v).run P w=.ok (.pointer (some ⟨w.heap.size,0,none⟩)) (w.alloc (.cells v.cells t)):=by simp[Instr.box,newVar,newRow]
variable{c:Array Value}
theorem iD.box{G:Nat→Option (List PV)}{w0:bg}{μ:Ro}{φ:Nat→aw}{m:Mem}{site:Nat}{cs:List V}{T:TypeId}(hM:al P G w0 μ φ m w)(hl:c.size=cs.length)(hv:∀(i:Nat)u y,cs[i]?=some u→c[i]?=some y→ab P μ φ u y)(h1:∀(i:Nat)(y:Value),c[i]?=some y→y.oneCell'=true)(hn:∀id,bO id cs=true→(m id).isSome=true):iD P w0 μ φ m w (w.alloc (.cells c T)) site (.box cs) (xt (some w.heap.size) 0 cs.length 0):=by refine iD.alloc hM (by rfl) (fun φ' hφ MF=>⟨w.heap.size,c,T,by rw[hφ],eQ w _,hl,fun i u y hu hy=>?_,h1,by rw[hφ]⟩) hn;exact(hv i u y hu hy).mono (fun _ _ h=>h) fun id hid=>MF id (bw (List.mem_of_getElem? hu) hid)
theorem ik(h:aH P t≠0):(P.info? t).map (·.size)=some (aH P t):=by obtain⟨i,hi,hs⟩:=rT h;simp[hi,hs]
theorem cV{T:Type}{cs new:List T}{off i:Nat}{x:T}(hb:off+new.length≤cs.length)(h:(bu cs off new)[i]?=some x):(off≤i∧i<off+new.length∧new[i-off]?=some x)∨((i<off∨off+new.length≤i)∧cs[i]?=some x):=by
 rw[dr]at h;rw[List.append_assoc,List.getElem?_append]at h;have ht:(cs.take off).length=off:=by simp;omega
 rw[ht]at h;split at h
 ·rename_i hi;exact .inr ⟨.inl hi,(du h).2⟩
 ·rw[List.getElem?_append]at h;split at h
  ·exact .inl ⟨by omega,by omega,h⟩
  ·rw[List.getElem?_drop]at h;refine .inr ⟨.inr (by omega),?_⟩;rw[←h];congr 1;omega
theorem bN{T:Type}{cs new:List T}{off:Nat}(hb:off+new.length≤cs.length):(bu cs off new).length=cs.length:=by simp[dr];omega
variable{g:Nat}
theorem fb{v:Value}{o:Nat}{T:TypeId}(hz:v.cells.size=aH P t)(hi:(P.info? t).map (·.size)=some (aH P t))(hg:w.heap[g]?=some (.cells c T (0,0)))(hb:o+v.cells.size≤c.size)(h1:∀(i:Nat)(y:Value),v.cells[i]?=some y→y.oneCell'=true):(Instr.storeAt t (.pointer (some ⟨g,o,none⟩)) v).run P w=.ok () (w.setRow g (bu c.toList o v.cells.toList).toArray):=by
 have sJ:=run_storeCells_at P g o T v.cells.toList 0 c w hg (by simpa using hb) (fun x hx=>by obtain⟨i,hi⟩:=List.getElem?_of_mem hx;exact h1 i x (by simpa using hi));have jF:(sizeOf t).run P w=.ok (aH P t) w:=by
  cases hq:P.info? t with
  |none=>simp[hq]at hi
  |some i=>simp[sizeOf,typeInfo,hq,aH]
 simp only[Instr.storeAt,Instr.sureAddr,storeVar,Sem.run_bind,Sem.run_pure,Result.andThen_ok,jF,hz,ne_eq,not_true_eq_false,if_false,sJ,Nat.add_zero];rw[dr];try rfl
variable{xs:Array Value}
theorem bL{k:Nat}(h:k≠g):(w.setRow g xs).heap[k]?=w.heap[k]?:=by unfold World.setRow;simp[Array.getElem?_modify,Ne.symm h]
theorem setRow_size:(w.setRow g xs).heap.size=w.heap.size:=by simp[World.setRow]
theorem iJ.setRow{B:Nat}(h:B≤g):iJ B w (w.setRow g xs):=⟨⟨rfl,rfl,rfl,Nat.le_of_eq setRow_size.symm,fun k hk=>bL (by omega)⟩,fun _=>Nat.le_refl _⟩
end
end Go.Ab
set_option linter.unusedVariables false
namespace Go.Ab
open Go.RowKit (Below)
section
variable {P:Program} {G:Nat→Option (List PV)} {w0:bg} {μ:Ro} {φ:Nat→aw} {m m':Mem} {w:World}
def gU(m m':Mem):Prop:=∀id,(m id).isSome=true→(m' id).isSome=true
theorem gU.refl(m:Mem):gU m m:=fun _ h=>h
theorem gU.trans{a b c:Mem}(h:gU a b)(k:gU b c):gU a c:=fun id hid=>k id (h id hid)
variable{id:Nat}
theorem gU.set{b:bn}:gU m (ai m id b):=fun j hj=>by
 by_cases e:j=id
 ·subst e;simp
 ·rw[ak e];exact hj
theorem bJ.jR{f:Fr}{ρ:Nat→Value}{μ':Ro}(h:bJ P μ φ m f ρ)(hμ:∀b o,μ b=some o→μ' b=some o)(hl:gU m m'):bJ P μ' φ m' f ρ:=h.mono hμ fun id hid=>⟨rfl,hl id hid⟩
variable{v:V}{p:PV}
theorem I2(h:xV m v=some (p,m')):gU m m'∧∀(P:Program)(G:Nat→Option (List PV))(w0:bg)(μ:Ro)(φ:Nat→aw)(w:World)(x:Value),al P G w0 μ φ m w→ab P μ φ v x→∃μ',(∀b o,μ b=some o→μ' b=some o)∧al P G w0 μ' φ m' w∧af P μ' p x:=by
 unfold xV at h;split at h
 ·simp only[Option.some.injEq,Prod.mk.injEq]at h;obtain⟨rfl,rfl⟩:=h;exact⟨.refl _,fun P G w0 μ φ w x hM hx=>⟨μ,fun _ _ h=>h,hM,by cases hx with|pv hx=>exact hx⟩⟩
 ·simp only[Option.some.injEq,Prod.mk.injEq]at h;obtain⟨rfl,rfl⟩:=h;exact⟨.refl _,fun P G w0 μ φ w x hM hx=>⟨μ,fun _ _ h=>h,hM,by cases hx;exact .iC⟩⟩
 ·rename_i id;split at h
  ·rename_i s et es hm;simp only[Option.some.injEq,Prod.mk.injEq]at h;obtain⟨rfl,rfl⟩:=h;refine⟨.set,fun P G w0 μ φ w x hM hx=>⟨_,jd hM (φ id).g,hM.freeze hm,?_⟩⟩;refine(hM.arr (.inl hm)).full hM hx (jd hM _) fun g hg=>?_;simp[lP,hg]
  ·rename_i s et es hm;simp only[Option.some.injEq,Prod.mk.injEq]at h;obtain⟨rfl,rfl⟩:=h;refine⟨.refl _,fun P G w0 μ φ w x hM hx=>⟨μ,fun _ _ h=>h,hM,?_⟩⟩;refine(hM.arr (.inr hm)).full hM hx (fun _ _ h=>h) fun g hg=>?_;obtain⟨o,ho⟩:=Option.isSome_iff_exists.1 ((hM.dq id _ hm).2 g hg);rw[ho,hM.ro _ _ ho]
  ·rename_i s et es hm;simp only[Option.some.injEq,Prod.mk.injEq]at h;obtain⟨rfl,rfl⟩:=h;refine⟨.set,fun P G w0 μ φ w x hM hx=>⟨_,mG hM _,hM.I0 hm,?_⟩⟩;have MG:=hM.I0 hm;have hF:ay P _ φ w id s et (es.map PV.strip):=(MG.dq id _ (aD _ _ _)).1;refine hF.A2 (hx.sF (mG hM _)) (fun _ _ h=>h) fun g hg=>?_;unfold oR;rw[if_pos (show(bn.nest s et es).owns (φ id) g from .inl hg)]
  ·cases h
 ·cases h
theorem A9(h:xV cO v=some (p,m')):∀(P:Program)(μ:Ro)(φ:Nat→aw)(x:Value),ab P μ φ v x→af P μ p x:=by
 unfold xV at h;split at h
 ·simp only[Option.some.injEq,Prod.mk.injEq]at h;obtain⟨rfl,rfl⟩:=h;exact fun P μ φ x hx=>by cases hx with|pv hx=>exact hx
 ·simp only[Option.some.injEq,Prod.mk.injEq]at h;obtain⟨rfl,rfl⟩:=h;exact fun P μ φ x hx=>by cases hx;exact .iC
 ·simp[cO]at h
 ·cases h
theorem mH(h:xV cO v=some (p,m')):m'=cO:=by
 unfold xV at h;split at h
 ·simp only[Option.some.injEq,Prod.mk.injEq]at h;exact h.2.symm
 ·simp only[Option.some.injEq,Prod.mk.injEq]at h;exact h.2.symm
 ·simp[cO]at h
 ·cases h
theorem yJ:∀{cs:List V}{m m':Mem}{ps:List PV},jz m cs=some (ps,m')→gU m m'∧ps.length=cs.length∧∀(P:Program)(G:Nat→Option (List PV))(w0:bg)(μ:Ro)(φ:Nat→aw)(w:World)(X:Nat→Value),al P G w0 μ φ m w→(∀(i:Nat)u,cs[i]?=some u→ab P μ φ u (X i))→∃μ',(∀b o,μ b=some o→μ' b=some o)∧al P G w0 μ' φ m' w∧∀(i:Nat)p,ps[i]?=some p→af P μ' p (X i)
 |[],m,m',ps,h=>by simp only[jz,Option.some.injEq,Prod.mk.injEq]at h;obtain⟨rfl,rfl⟩:=h;exact⟨.refl _,rfl,fun P G w0 μ φ w X hM _=>⟨μ,fun _ _ h=>h,hM,by simp⟩⟩
 |c::r,m,m',ps,h=>by
  simp only[jz]at h;split at h
  ·rename_i p m1 h1;split at h
   ·rename_i P2 m2 h2;simp only[Option.some.injEq,Prod.mk.injEq]at h;obtain⟨rfl,rfl⟩:=h;obtain⟨a1,a2⟩:=I2 h1;obtain⟨b1,b2,b3⟩:=yJ h2;refine⟨a1.trans b1,by simp[b2],fun P G w0 μ φ w X hM hx=>?_⟩;obtain⟨μ1,c1,c2,c3⟩:=a2 P G w0 μ φ w (X 0) hM (hx 0 c (by simp));obtain⟨μ2,d1,d2,d3⟩:=b3 P G w0 μ1 φ w (fun i=>X (i+1)) c2 (fun i u hu=>(hx (i+1) u (by simpa using hu)).sF c1);refine⟨μ2,fun b o h=>d1 b o (c1 b o h),d2,fun i q hq=>?_⟩;cases i with
    |zero=>simp at hq;subst hq;exact c3.mono d1
    |succ i=>exact d3 i q (by simpa using hq)
   ·cases h
  ·cases h
theorem te:∀{cs:List V}{m':Mem}{ps:List PV},jz cO cs=some (ps,m')→ps.length=cs.length∧∀(P:Program)(μ:Ro)(φ:Nat→aw)(X:Nat→Value),(∀(i:Nat)u,cs[i]?=some u→ab P μ φ u (X i))→∀(i:Nat)p,ps[i]?=some p→af P μ p (X i)
 |[],m',ps,h=>by simp only[jz,Option.some.injEq,Prod.mk.injEq]at h;obtain⟨rfl,rfl⟩:=h;exact⟨rfl,by simp⟩
 |c::r,m',ps,h=>by
  simp only[jz]at h;split at h
  ·rename_i p m1 h1;split at h
   ·rename_i P2 m2 h2;simp only[Option.some.injEq,Prod.mk.injEq]at h;obtain⟨rfl,rfl⟩:=h;have:=mH h1;subst this;obtain⟨b2,b3⟩:=te h2;refine⟨by simp[b2],fun P μ φ X hx i q hq=>?_⟩;cases i with
    |zero=>simp at hq;subst hq;exact A9 h1 P μ φ _ (hx 0 c (by simp))
    |succ i=>exact b3 P μ φ (fun i=>X (i+1)) (fun i u hu=>hx (i+1) u (by simpa using hu)) i q (by simpa using hq)
   ·cases h
  ·cases h
structure nX(P:Program)(μ:Ro)(n:Nat)(p:PV)(x:Value):Prop where
 len:p.cells.length=n
 size:x.cells.size=n
 rep:∀(j:Nat)q y,p.cells[j]?=some q→x.cells[j]?=some y→af P μ q y
 one:∀(j:Nat)y,x.cells[j]?=some y→y.oneCell'=true
variable{n:Nat}{agg:Bool}
theorem sL{P:Program}{μ:Ro}{ps:List PV}{x:Value}(hp:(if agg then some (.agg ps)else match ps with|[p]=>some p|_=>none)=some p)(hl:ps.length=n)(hs:x.cells.size=n)(hr:∀(j:Nat)q y,ps[j]?=some q→x.cells[j]?=some y→af P μ q y)(h1:∀(j:Nat)y,x.cells[j]?=some y→y.oneCell'=true):nX P μ n p x:=by
 have hc:p.cells=ps:=by
  cases agg with
  |true=>simp at hp;subst hp;rfl
  |false=>
   simp only[Bool.false_eq_true,if_false]at hp;split at hp
   ·rename_i q;simp only[Option.some.injEq]at hp;subst hp;have ba:0<x.cells.size:=by simp at hl;omega
    have UF:=hr 0 q _ (by simp) (Array.getElem?_eq_getElem ba);have Km:=h1 0 _ (Array.getElem?_eq_getElem ba);generalize x.cells[0]=y at UF Km;cases q<;>first|rfl|(cases UF;simp[Value.oneCell']at Km)
   ·cases hp
 exact⟨by rw[hc];exact hl,hs,by rw[hc];exact hr,h1⟩
theorem yK{m m':Mem}(h:hZ m n agg v=some (p,m')):gU m m'∧∀(P:Program)(G:Nat→Option (List PV))(w0:bg)(μ:Ro)(φ:Nat→aw)(w:World)(x:Value),al P G w0 μ φ m w→ab P μ φ v x→∃μ',(∀b o,μ b=some o→μ' b=some o)∧al P G w0 μ' φ m' w∧nX P μ' n p x:=by
 unfold hZ at h;split at h
 ·rename_i cs hc;obtain⟨c1,c2,c3⟩:=toCells_ok hc;split at h
  ·rename_i ps m1 hf;obtain⟨f1,f2,f3⟩:=yJ hf;have hp:(if agg then some (.agg ps)else match ps with|[p]=>some p|_=>none)=some p∧m1=m':=by
    cases agg with
    |true=>simp at h;exact⟨by simp[h.1],h.2⟩
    |false=>
     simp only[Bool.false_eq_true,if_false]at h⊢;split at h
     ·simp only[Option.some.injEq,Prod.mk.injEq]at h;exact⟨by simp[h.1],h.2⟩
     ·cases h
   obtain⟨hp,rfl⟩:=hp;refine⟨f1,fun P G w0 μ φ w x hM hx=>?_⟩;obtain⟨d1,d2,d3⟩:=c3 P μ φ x hx;have hX:∀(i:Nat),i<cs.length→x.cells[i]?=some (x.cells.getD i undef):=fun i hi=>by
    have ba:i<x.cells.size:=by omega
    rw[Array.getElem?_eq_getElem ba];simp[Array.getD,ba]
   obtain⟨μ',e1,e2,e3⟩:=f3 P G w0 μ φ w (fun i=>x.cells.getD i undef) hM fun i u hu=>d2 i u _ hu (hX i (List.getElem?_eq_some_iff.1 hu).1);refine⟨μ',e1,e2,sL hp (by omega) d1 (fun j q y hq hy=>?_) d3⟩;have:=e3 j q hq;rw[hX j (by have:=(List.getElem?_eq_some_iff.1 hq).1;omega)]at hy;simp only[Option.some.injEq]at hy;subst hy;exact this
  ·cases h
 ·cases h
theorem uf{m':Mem}(h:hZ cO n agg v=some (p,m')):∀(P:Program)(μ:Ro)(φ:Nat→aw)(x:Value),ab P μ φ v x→nX P μ n p x:=by
 unfold hZ at h;split at h
 ·rename_i cs hc;obtain⟨c1,c2,c3⟩:=toCells_ok hc;split at h
  ·rename_i ps m1 hf;obtain⟨f2,f3⟩:=te hf;have hp:(if agg then some (.agg ps)else match ps with|[p]=>some p|_=>none)=some p:=by
    cases agg with
    |true=>simp at h;simp[h.1]
    |false=>
     simp only[Bool.false_eq_true,if_false]at h⊢;split at h
     ·simp only[Option.some.injEq,Prod.mk.injEq]at h;simp[h.1]
     ·cases h
   refine fun P μ φ x hx=>?_;obtain⟨d1,d2,d3⟩:=c3 P μ φ x hx;have hX:∀(i:Nat),i<cs.length→x.cells[i]?=some (x.cells.getD i undef):=fun i hi=>by
    have ba:i<x.cells.size:=by omega
    rw[Array.getElem?_eq_getElem ba];simp[Array.getD,ba]
   have e3:=f3 P μ φ (fun i=>x.cells.getD i undef) fun i u hu=>d2 i u _ hu (hX i (List.getElem?_eq_some_iff.1 hu).1);refine sL hp (by omega) d1 (fun j q y hq hy=>?_) d3;have:=e3 j q hq;rw[hX j (by have:=(List.getElem?_eq_some_iff.1 hq).1;omega)]at hy;simp only[Option.some.injEq]at hy;subst hy;exact this
  ·cases h
 ·cases h
theorem DK{draw:Bool}{m m':Mem}(h:qE draw m n agg v=some (p,m')):gU m m'∧(draw=true→m'=m∧∀m2:Mem,qE true m2 n agg v=some (p,m2))∧∀(P:Program)(G:Nat→Option (List PV))(w0:bg)(μ:Ro)(φ:Nat→aw)(w:World)(x:Value),al P G w0 μ φ m w→ab P μ φ v x→∃μ',(∀b o,μ b=some o→μ' b=some o)∧al P G w0 μ' φ m' w∧nX P μ' n p x:=by
 unfold qE at h;split at h
 ·rename_i hd;split at h
  ·rename_i q m1 hf;simp only[Option.some.injEq,Prod.mk.injEq]at h;obtain⟨rfl,rfl⟩:=h;exact⟨.refl _,fun _=>⟨rfl,fun m2=>by simp[qE,hf]⟩,fun P G w0 μ φ w x hM hx=>⟨μ,fun _ _ h=>h,hM,uf hf P μ φ x hx⟩⟩
  ·cases h
 ·rename_i hd;obtain⟨h1,h2⟩:=yK h;exact⟨h1,fun I3=>absurd I3 hd,h2⟩
theorem ay.set{P:Program}{μ:Ro}{φ:Nat→aw}{w:World}{id sz:Nat}{et:TypeId}{es:List PV}(hA:ay P μ φ w id sz et es){g:Nat}(hg:(φ id).g=some g){i off n:Nat}{e p q:PV}{x:Value}(he:es[i]?=some e)(hE:nX P μ n p x)(hb:off+n≤sz)(hq:q.cells=bu (aA sz e) off p.cells):∃c T,w.heap[g]?=some (.cells c T (0,0))∧i*sz+off+x.cells.size≤c.size∧ay P μ φ (w.setRow g (bu c.toList (i*sz+off) x.cells.toList).toArray) id sz et (es.set i q):=by
 obtain⟨a1,a2,a3,a4,a5,a6,a7⟩:=hA;rw[hg]at a7;obtain⟨c,T,c1,c2,c3,c4,c5⟩:=a7;have hi:i<es.length:=(List.getElem?_eq_some_iff.1 he).1;have Cm:i*sz+off+n≤c.size:=by have:(i+1)*sz≤(φ id).cap*sz:=Nat.mul_le_mul_right _ (by omega);rw[Nat.add_mul]at this;omega
 have Ba:x.cells.toList.length=n:=by simpa using hE.size
 have wJ:(aA sz e).length=sz:=aN _ _;have PM:q.cells.length=sz:=by rw[hq,bN (by rw[wJ,hE.len];exact hb),wJ]
 have il:(bu c.toList (i*sz+off) x.cells.toList).length=c.size:=by rw[bN (by simp[hE.size];omega)];simp
 have oT:∀(i':Nat)e',(es.set i q)[i']?=some e'→(i'=i∧e'=q)∨(i'≠i∧es[i']?=some e'):=by
  intro i' e' h';rw[List.getElem?_set]at h';split at h'
  ·rename_i Fs;subst Fs;simp[hi]at h';exact .inl ⟨rfl,h'.symm⟩
  ·rename_i Fs;exact .inr ⟨fun e=>Fs e.symm,h'⟩
 refine⟨c,T,c1,by rw[hE.size];exact Cm,?_⟩;refine⟨by simp[a1],a2,a3,a4,fun i' e' h'=>?_,a6,?_⟩
 ·rcases oT i' e' h' with⟨_,rfl⟩|⟨_,h'⟩
  ·exact PM
  ·exact a5 i' e' h'
 ·rw[hg];refine⟨_,T,setRow_heap w g c _ T (0,0) c1,by simp[il,c2],by simpa using c3,fun i' e' j p' x' h' hj hx=>?_,fun j x' hj hx=>?_⟩
  ·rw[List.getElem?_toArray]at hx;rcases cV (by simp[hE.size];omega) hx with⟨b1,b2,b3⟩|⟨b1,b2⟩
   ·rw[Ba]at b2;have Fs:i'=i∧e'=q:=by
     rcases oT i' e' h' with h|⟨cq,h'⟩
     ·exact h
     ·exfalso;have u9:=(List.getElem?_eq_some_iff.1 hj).1;rw[a5 i' e' h']at u9;rcases Nat.lt_or_gt_of_ne cq with ba|hgt
      ·have:(i'+1)*sz≤i*sz:=Nat.mul_le_mul_right _ ba;rw[Nat.add_mul]at this;omega
      ·have:(i+1)*sz≤i'*sz:=Nat.mul_le_mul_right _ hgt;rw[Nat.add_mul]at this;omega
    obtain⟨rfl,rfl⟩:=Fs;rw[hq]at hj;rcases cV (by rw[wJ,hE.len];exact hb) hj with⟨d1,d2,d3⟩|⟨d1,d2⟩
    ·exact hE.rep _ _ _ d3 (by rw[←Array.getElem?_toList,←b3];congr 1;omega)
    ·exfalso;rw[hE.len]at d1;omega
   ·rw[Ba]at b1;have b2:c[i'*sz+j]?=some x':=by simpa using b2
    rcases oT i' e' h' with⟨rfl,rfl⟩|⟨cq,h'⟩
    ·rw[hq]at hj;rcases cV (by rw[wJ,hE.len];exact hb) hj with⟨d1,d2,d3⟩|⟨d1,d2⟩
     ·exfalso;rw[hE.len]at d2;omega
     ·rw[eK (a5 i' e he)]at d2;exact c4 i' e j p' x' he d2 b2
    ·exact c4 i' e' j p' x' h' hj b2
  ·rw[List.getElem?_toArray]at hx;rw[List.length_set]at hj;rcases cV (by simp[hE.size];omega) hx with⟨b1,b2,b3⟩|⟨b1,b2⟩
   ·exact hE.one _ x' (by simpa using b3)
   ·exact c5 j x' hj (by simpa using b2)
variable{off:Nat}
theorem Cn{s0:Nat}{e:PV}(he:e.cells.length=s0)(ho:off<s0)(hp:∀cs,p≠.agg cs):(setRow s0 e off p).cells=e.cells.set off p:=by
 have h1:p.cells=[p]:=by cases p<;>first|rfl|exact absurd rfl (hp _)
 unfold setRow;split
 ·rename_i hs;subst hs;have:off=0:=by omega
  subst this;match hc:e.cells,he with
  |[c],_=>simp[h1]
 ·simp only[PV.cells,eK he]
theorem yL{s:Nat}{e:PV}(h1:p.cells.length=n)(h2:e.cells.length=s):(setCells s e off n p).cells=bu (aA s e) off p.cells:=by
 unfold setCells;split
 ·rename_i h;obtain⟨rfl,rfl⟩:=h;rw[dr,h1];simp[aN]
 ·rfl
theorem aL.change{P:Program}{μ μ':Ro}{φ φ':Nat→aw}{w w':World}{sz:Nat}{et:TypeId}{es es':List PV}(h:aL P μ φ w id sz et es)(hlen:es'.length=es.length)(py:∀(i:Nat)e,es'[i]?=some e→e.cells.length=sz)(hφ:(φ' id).towC=(φ id).towC)(hw:∀g,(φ id).g=some g→w'.heap[g]?=w.heap[g]?)(hc:∀(i:Nat)e'(j:Nat)p' g c T x,es'[i]?=some e'→e'.cells[j]?=some p'→(φ id).g=some g→w.heap[g]?=some (.cells c T (0,0))→c[i*sz+j]?=some x→(∀e p,es[i]?=some e→e.cells[j]?=some p→dW P μ ((φ id).row i j) w p x)→dW P μ' ((φ' id).row i j) w' p' x):aL P μ' φ' w' id sz et es':=by
 obtain⟨a1,a2,a3,a4,a5,a6,a7⟩:=h;unfold aL;rw[hφ];refine⟨by rw[hlen];exact a1,a2,a3,a4,py,a6,?_⟩;cases hg:(φ id).g with
 |none=>rw[hg]at a7;refine⟨?_,a7.2⟩;have:=a7.1;subst this;exact List.eq_nil_of_length_eq_zero hlen
 |some g=>rw[hg]at a7;obtain⟨c,T,c1,c2,c3,c4,c5⟩:=a7;exact⟨c,T,by rw[hw g hg];exact c1,c2,by rw[hlen];exact c3,fun i e' j p' x h1 h2 h3=>hc i e' j p' g c T x h1 h2 hg c1 h3 fun e p he hp=>c4 i e j p x he hp h3,fun i x hi hx=>c5 i x (by rw[←hlen];exact hi) hx⟩
theorem dX{T:Type}{l:List T}{i i':Nat}{q e':T}(h:(l.set i q)[i']?=some e'):(i'=i∧e'=q)∨(i'≠i∧l[i']?=some e'):=by
 rw[List.getElem?_set]at h;split at h
 ·rename_i Fs;subst Fs;split at h
  ·simp only[Option.some.injEq]at h;exact .inl ⟨rfl,h.symm⟩
  ·cases h
 ·rename_i Fs;exact .inr ⟨fun e=>Fs e.symm,h⟩
theorem aL.set{P:Program}{μ:Ro}{φ:Nat→aw}{w:World}{sz:Nat}{et:TypeId}{es:List PV}(hA:aL P μ φ w id sz et es)(Cl:(bn.nest sz et es).apart (φ id)){g:Nat}(hg:(φ id).g=some g){i:Nat}{e q:PV}{x:Value}(he:es[i]?=some e)(hE:nX P μ n p x)(hb:off+n≤sz)(hq:q.cells=bu (aA sz e) off p.cells):∃c T,w.heap[g]?=some (.cells c T (0,0))∧i*sz+off+x.cells.size≤c.size∧aL P μ φ (w.setRow g (bu c.toList (i*sz+off) x.cells.toList).toArray) id sz et (es.set i q)∧∀i' nS,(bn.nest sz et (es.set i q)).rowAt i' nS=true→(bn.nest sz et es).rowAt i' nS=true:=by
 have qy:=hA;obtain⟨a1,a2,a3,a4,a5,a6,a7⟩:=hA;rw[hg]at a7;obtain⟨c,T,c1,c2,c3,c4,c5⟩:=a7;have hi:i<es.length:=(List.getElem?_eq_some_iff.1 he).1;have Cm:i*sz+off+n≤c.size:=by have:(i+1)*sz≤(φ id).cap*sz:=Nat.mul_le_mul_right _ (by omega);rw[Nat.add_mul]at this;omega
 have Ba:x.cells.toList.length=n:=by simpa using hE.size
 have wJ:(aA sz e).length=sz:=aN _ _;have PM:q.cells.length=sz:=by rw[hq,bN (by rw[wJ,hE.len];exact hb),wJ]
 have il:(bu c.toList (i*sz+off) x.cells.toList).length=c.size:=by rw[bN (by simp[hE.size];omega)];simp
 have cq:∀i' j' g',(bn.nest sz et es).rowAt i' j'=true→((φ id).row i' j').g=some g'→g'≠g:=fun i' j' g' hr bF e=>(Cl i' j' g' hr bF).1 (by rw[e];exact hg);have sJ:∀{i' j':Nat}{e' p':PV}{x':Value}{l:List Value},es[i']?=some e'→e'.cells[j']?=some p'→dW P μ ((φ id).row i' j') w p' x'→dW P μ ((φ id).row i' j') (w.setRow g l.toArray) p' x':=fun h1 h2 h3=>h3.cj (fun _ _ h=>h) fun hr g' bF=>bL (cq _ _ g' (by rw[dm h1 h2];exact hr) bF);refine⟨c,T,c1,by rw[hE.size];exact Cm,⟨by simp[a1],a2,a3,a4,fun i' e' h'=>?_,a6,?_⟩,?_⟩
 ·rcases dX h' with⟨_,rfl⟩|⟨_,h'⟩
  ·exact PM
  ·exact a5 i' e' h'
 ·rw[hg];refine⟨_,T,setRow_heap w g c _ T (0,0) c1,by simp[il,c2],by simpa using c3,fun i' e' j p' x' h' hj hx=>?_,fun j x' hj hx=>?_⟩
  ·rw[List.getElem?_toArray]at hx;rcases cV (by simp[hE.size];omega) hx with⟨b1,b2,b3⟩|⟨b1,b2⟩
   ·rw[Ba]at b2;have Fs:i'=i∧e'=q:=by
     rcases dX h' with h|⟨cq,h'⟩
     ·exact h
     ·exfalso;have u9:=(List.getElem?_eq_some_iff.1 hj).1;rw[a5 i' e' h']at u9;rcases Nat.lt_or_gt_of_ne cq with ba|hgt
      ·have:(i'+1)*sz≤i*sz:=Nat.mul_le_mul_right _ ba;rw[Nat.add_mul]at this;omega
      ·have:(i+1)*sz≤i'*sz:=Nat.mul_le_mul_right _ hgt;rw[Nat.add_mul]at this;omega
    obtain⟨rfl,rfl⟩:=Fs;rw[hq]at hj;rcases cV (by rw[wJ,hE.len];exact hb) hj with⟨d1,d2,d3⟩|⟨d1,d2⟩
    ·exact .pure (hE.rep _ _ _ d3 (by rw[←Array.getElem?_toList,←b3];congr 1;omega))
    ·exfalso;rw[hE.len]at d1;omega
   ·rw[Ba]at b1;have b2:c[i'*sz+j]?=some x':=by simpa using b2
    rcases dX h' with⟨rfl,rfl⟩|⟨cq,h'⟩
    ·rw[hq]at hj;rcases cV (by rw[wJ,hE.len];exact hb) hj with⟨d1,d2,d3⟩|⟨d1,d2⟩
     ·exfalso;rw[hE.len]at d2;omega
     ·rw[eK (a5 i' e he)]at d2;exact sJ he d2 (c4 i' e j p' x' he d2 b2)
    ·exact sJ h' hj (c4 i' e' j p' x' h' hj b2)
  ·rw[List.getElem?_toArray]at hx;rw[List.length_set]at hj;rcases cV (by simp[hE.size];omega) hx with⟨b1,b2,b3⟩|⟨b1,b2⟩
   ·exact hE.one _ x' (by simpa using b3)
   ·exact c5 j x' hj (by simpa using b2)
 ·intro i' nS hr;rcases gT hr with⟨_,_,_,e',s,rs,fl,h',nF⟩|⟨_,_,_,_,_,_,fl,_⟩
  ·simp only[bn.nest.injEq]at fl;obtain⟨rfl,rfl,rfl⟩:=fl;rcases dX h' with⟨rfl,rfl⟩|⟨cq,h'⟩
   ·rw[hq]at nF;rcases cV (by rw[wJ,hE.len];exact hb) nF with⟨d1,d2,d3⟩|⟨d1,d2⟩
    ·exfalso;have ba:nS-off<x.cells.size:=by rw[hE.size,←hE.len];exact(List.getElem?_eq_some_iff.1 d3).1
     exact absurd (hE.rep _ _ _ d3 (Array.getElem?_eq_getElem ba)).xK (by simp[PV.isRow])
    ·rw[eK (a5 i' e he)]at d2;rw[dm he d2];rfl
   ·rw[dm h' nF];rfl
  ·cases fl
end
section
variable {R:Type} {E:Env}
theorem sM{p:PV}:∀{n o j:Nat}{q:PV},(dL p o n)[j]?=some q→j<n∧q=cell p (o+j)
 |0,o,j,q,h=>by simp[dL]at h
 |n+1,o,0,q,h=>⟨by omega,by simpa[dL]using h.symm⟩
 |n+1,o,j+1,q,h=>by simp only[dL,List.getElem?_cons_succ]at h;obtain⟨h1,h2⟩:=sM h;exact⟨by omega,by rw[h2];congr 1;omega⟩
theorem nY{p:PV}:∀{n o:Nat},(dL p o n).length=n
 |0,_=>rfl
 |n+1,o=>by simp[dL,nY (n:=n)]
variable{n:Nat}
theorem tf{s i:Nat}{p e:PV}(h:(kF s n p)[i]?=some e):i<n∧e=.agg (dL p (i*s) s):=by unfold kF at h;rw[List.getElem?_map,Option.map_eq_some_iff]at h;obtain⟨k,hk,rfl⟩:=h;obtain⟨h1,h2⟩:=List.getElem?_eq_some_iff.1 hk;simp at h1 h2;subst h2;exact⟨h1,rfl⟩
theorem MH{p:PV}{u:Unit}(h:asAgg n p=some u):∃cs,p=.agg cs∧cs.length=n:=by
 unfold asAgg at h;split at h
 ·split at h
  ·exact⟨_,rfl,‹_›⟩
  ·cases h
 ·cases h
theorem Kn{t:TypeId}{i off s:Nat}{et:TypeId}{b:Option bn}{x:V}{p:PV}(h:FC E t i off b x=some (s,et,n,p)):∃es,b=some (.arr s et es)∧x=.pv p∧sZ E t s i off=true∧n=es.length:=by
 unfold FC at h;split at h
 ·rename_i s' ye es q;cases hw:sZ E t s' i off with
  |true=>rw[hw]at h;simp only[cond_true,Option.some.injEq,Prod.mk.injEq]at h;obtain⟨rfl,rfl,rfl,rfl⟩:=h;exact⟨es,rfl,rfl,hw,rfl⟩
  |false=>rw[hw]at h;cases h
 ·cases h
theorem Bb{P:Program}{μ:Ro}{s k:Nat}{cs:List PV}{xs:Array Value}(hp:af P μ (.agg cs) (.agg xs))(hl:cs.length=n*s){i j:Nat}{e q:PV}(he:(kF s n (.agg cs))[i]?=some e)(hq:e.cells[j]?=some q)(hk:k=i*s+j):∃x,xs[k]?=some x∧af P μ q x∧x.oneCell'=true:=by
 obtain⟨h1,rfl⟩:=tf he;obtain⟨h2,rfl⟩:=sM hq;have ba:i*s+j<n*s:=by have:(i+1)*s≤n*s:=Nat.mul_le_mul_right _ (by omega);rw[Nat.add_mul]at this;omega
 subst hk;cases hp with
 |agg g1 g2 g3=>
  have hc:cs[i*s+j]?=some cs[i*s+j]:=List.getElem?_eq_getElem (by omega);have hx:xs[i*s+j]?=some xs[i*s+j]:=Array.getElem?_eq_getElem (by omega);refine⟨_,hx,?_,g3 _ _ hx⟩;have:cell (.agg cs) (i*s+j)=cs[i*s+j]:=by simp[cell,PV.cells,List.getD_eq_getElem?_getD,hc]
  rw[this];exact g2 _ _ _ hc hx
theorem Ko{draw:Bool}{t:TypeId}{a x:V}{m:Mem}{k:Mem→aY→Option R}{r:R}(h:nR E draw t a x m k=some r):∃m' ft,k m' ft=some r∧(draw=true→∃id b,m'=ai m id b∧ft=[(true,id)]∧∀m2:Mem,m2 id=m id→∀(R':Type)(k':Mem→aY→Option R'),nR E true t a x m2 k'=k' (ai m2 id b) [(true,id)])∧gU m m'∧∀(G:Nat→Option (List PV))(w0:bg)(μ:Ro)(φ:Nat→aw)(w:World)(ya yx:Value),al E.P G w0 μ φ m w→ab E.P μ φ a ya→ab E.P μ φ x yx→(∀id,x.has id=true→(m id).isSome=true)→∃w' μ',(Instr.storeAt t ya yx).run E.P w=.ok () w'∧(∀b o,μ b=some o→μ' b=some o)∧al E.P G w0 μ' φ m' w':=by
 unfold nR at h;split at h
 ·rename_i id off;split at h
  ·rename_i cs hm;split at h
   ·rename_i new hn;split at h
    ·rename_i hb;refine⟨_,_,h,fun hd=>⟨id,_,rfl,rfl,fun m2 bY R' k'=>by simp only[nR,bY,hm,hn];rw[if_pos hb]⟩,.set,fun G w0 μ φ w ya yx hM ha hx hlx=>?_⟩;obtain⟨n1,n2,n3⟩:=toCells_ok hn;obtain⟨x1,x2,x3⟩:=n3 _ _ _ _ hx;cases ha with
     | @op _ _ g hg=>
      obtain⟨g',c,T,bF,hh,hs,hv,h1,vq⟩:=hM.dq id _ hm;rw[hg]at bF;simp only[Option.some.injEq]at bF;subst bF;have hi:=ik (P:=E.P) (t:=t) (by omega);have lf:off+yx.cells.toList.length≤c.toList.length:=by simp;omega
      refine⟨_,μ,fb x1 hi hh (by omega) x3,fun _ _ h=>h,?_⟩;refine hM.write hm rfl hg (iJ.setRow (Nat.le_refl _)) setRow_size (fun k hk=>bL hk) ⟨g,_,T,hg,setRow_heap w g c _ T (0,0) hh,?_,fun i u y hu hy=>?_,fun i y hy=>?_,by rw[bN (by omega)];exact vq⟩ rfl fun j hj=>?_
      ·simp only[List.size_toArray];rw[bN lf,bN (by omega)];simp[hs]
      ·rw[List.getElem?_toArray]at hy;have e1:yx.cells.toList.length=new.length:=by simp;omega
       rcases cV lf hy with⟨b1,b2,b3⟩|⟨b1,b2⟩<;>rcases cV (by omega) hu with⟨d1,d2,d3⟩|⟨d1,d2⟩
       ·exact x2 _ u y d3 (by simpa using b3)
       ·exfalso;omega
       ·exfalso;omega
       ·exact hv i u y d2 (by simpa using b2)
      ·rw[List.getElem?_toArray]at hy;rcases cV lf hy with⟨b1,b2,b3⟩|⟨b1,b2⟩
       ·exact x3 _ y (by simpa using b3)
       ·exact h1 i y (by simpa using b2)
      ·simp only[bn.names]at hj;obtain⟨v,FM,hh'⟩:=cw.1 hj;simp only[dr,List.mem_append]at FM;rcases FM with(FM|FM)|FM
       ·exact hM.eT id cs j hm (bw (List.mem_of_mem_take FM) hh')
       ·exact hlx j (n2 j (bw FM hh'))
       ·exact hM.eT id cs j hm (bw (List.mem_of_mem_drop FM) hh')
    ·cases h
   ·cases h
  ·cases h
 ·rename_i id i off;split at h
  ·rename_i s et n p hwv;obtain⟨es,hm,rfl,hw,hn⟩:=Kn hwv;subst hn;obtain⟨u,hu,h⟩:=Option.bind_eq_some_iff.1 h;split at h
   ·rename_i hl;obtain⟨ha,rfl,rfl,_⟩:=A1 hw;obtain⟨cs,rfl,py⟩:=MH hu;refine⟨_,_,h,fun _=>⟨id,_,rfl,rfl,fun m2 bY R' k'=>?_⟩,.set,fun G w0 μ φ w ya yx hM ha hx _=>?_⟩
    ·simp only[nR,bY,hwv,hu,Option.bind_some];rw[if_pos hl]
    ·have hA:ay E.P μ φ w id s et es:=hM.dq id _ hm;cases ha with
     | @oe _ _ _ g hg=>
      cases hx with
      |pv hx=>
       have DL:=hx;cases hx with
       | @agg _ xs g1 g2 g3=>
        obtain⟨a1,a2,a3,a4,a5,a6,a7⟩:=hA;rw[hg]at a7;obtain⟨c,T,c1,c2,c3,c4,c5⟩:=a7;have hle:es.length*s≤c.size:=Nat.le_trans (Nat.mul_le_mul_right _ c3) c2;have Co:xs.size=es.length*s:=by omega
        have dQ:aH E.P t≠0:=by omega
        have ZZ:=hl.1;have hi:=ik (P:=E.P) (t:=t) dQ;have hcz:(Value.agg xs).cells.size=aH E.P t:=by simp[Value.cells];omega
        refine⟨w.setRow g (bu c.toList 0 xs.toList).toArray,μ,?_,fun _ _ h=>h,hM.write hm rfl hg (iJ.setRow (Nat.le_refl _)) setRow_size (fun k hk=>bL hk) ?_ rfl (fun j hj=>by simp[bn.names]at hj)⟩
        ·rw[show 0*(φ id).sz+0=0 by omega];exact fb hcz hi c1 (by rw[hcz];omega) (fun i y hy=>g3 i y hy)
        ·have wJ:∀(i:Nat)(x:Value),i<es.length*s→(bu c.toList 0 xs.toList).toArray[i]?=some x→xs[i]?=some x:=fun i x hi hx=>by
          rw[List.getElem?_toArray]at hx;rcases cV (by simp;omega) hx with⟨b1,b2,b3⟩|⟨b1,b2⟩
          ·simpa using b3
          ·exfalso;simp at b1;omega
         refine⟨by rw[a1];simp[kF],a2,a3,a4,fun i e he=>?_,a6,?_⟩
         ·obtain⟨_,rfl⟩:=tf he;exact nY
         ·rw[hg];refine⟨_,T,setRow_heap w g c _ T (0,0) c1,?_,?_,fun i e j q x he hq hx=>?_,fun i x hi hx=>?_⟩
          ·simp only[List.size_toArray];rw[bN (by simp[Value.cells];omega)];simpa using c2
          ·simpa[kF]using c3
          ·obtain⟨x',x1,x2,_⟩:=Bb (k:=i*s+j) DL (by omega) he hq rfl;have ba:i*s+j<es.length*s:=by rw[←Co];exact(Array.getElem?_eq_some_iff.1 x1).1
           have:=wJ _ _ ba hx;rw[x1]at this;cases this;exact x2
          ·have hi:i<es.length*s:=by simpa[kF]using hi
           exact g3 _ _ (wJ _ _ hi hx)
   ·cases h
  rename_i P3;split at h
  ·rename_i p m1 hf;obtain⟨f1,f2,f3⟩:=DK hf;split at h
   ·rename_i s et es hm;obtain⟨e,he,h⟩:=Option.bind_eq_some_iff.1 h;have key:∀q,0<aH E.P t→off+aH E.P t≤s→(p.cells.length=aH E.P t→e.cells.length=s→q.cells=bu (aA s e) off p.cells)→∀(G:Nat→Option (List PV))(w0:bg)(μ:Ro)(φ:Nat→aw)(w:World)(ya yx:Value),al E.P G w0 μ φ m w→ab E.P μ φ (.oe id i off) ya→ab E.P μ φ x yx→(∀id,x.has id=true→(m id).isSome=true)→∃w' μ',(Instr.storeAt t ya yx).run E.P w=.ok () w'∧(∀b o,μ b=some o→μ' b=some o)∧al E.P G w0 μ' φ (ai m1 id (.arr s et (es.set i q))) w':=by
     intro q hz hb hq G w0 μ φ w ya yx hM ha hx _;obtain⟨μ',g1,g2,g3⟩:=f3 _ _ _ _ _ _ _ hM hx;cases ha with
     | @oe _ _ _ g hg=>have hA:ay E.P μ' φ w id s et es:=g2.dq id _ hm;have Kp:=hq g3.len (hA.2.2.2.2.1 i e he);obtain⟨c,T,hh,lf,qy⟩:=hA.set hg he g3 hb Kp;have jF:(φ id).sz=s:=hA.2.1;have hi:=ik (P:=E.P) (t:=t) (by omega);refine⟨_,μ',?_,g1,g2.write hm rfl hg (iJ.setRow (Nat.le_refl _)) setRow_size (fun k hk=>bL hk) qy rfl fun j hj=>by simp[bn.names]at hj⟩;rw[jF];exact fb g3.size hi hh lf g3.one
    split at h
    ·rename_i hb;refine⟨_,_,h,fun hd=>?_,f1.trans .set,key p (by omega) (by omega) fun h1 h2=>?_⟩
     ·obtain⟨rfl,f4⟩:=f2 hd;refine⟨id,_,rfl,rfl,fun m2 bY R' k'=>?_⟩;simp only[nR,f4 m2,bY,hm,(hm▸P3),he,Option.bind_some];rw[if_pos hb]
     ·rw[hb.1,dr,h1,hb.2.1];simp[aN]
    ·rename_i VA;split at h
     ·rename_i hb;refine⟨_,_,h,fun hd=>?_,f1.trans .set,key _ (by omega) (by omega) fun _ _=>rfl⟩;obtain⟨rfl,f4⟩:=f2 hd;refine⟨id,_,rfl,rfl,fun m2 bY R' k'=>?_⟩;simp only[nR,f4 m2,bY,hm,(hm▸P3),he,Option.bind_some];rw[if_neg VA,if_pos hb]
     ·cases h
   ·rename_i s et es hm;obtain⟨e,he,h⟩:=Option.bind_eq_some_iff.1 h;split at h
    ·rename_i hb;refine⟨_,_,h,fun hd=>?_,f1.trans .set,fun G w0 μ φ w ya yx hM ha hx _=>?_⟩
     ·obtain⟨rfl,f4⟩:=f2 hd;refine⟨id,_,rfl,rfl,fun m2 bY R' k'=>?_⟩;simp only[nR,f4 m2,bY,hm,(hm▸P3),he,Option.bind_some];rw[if_pos hb]
     ·obtain⟨μ',g1,g2,g3⟩:=f3 _ _ _ _ _ _ _ hM hx;cases ha with
      | @oe _ _ _ g hg=>have hA:aL E.P μ' φ w id s et es:=g2.dq id _ hm;obtain⟨c,T,hh,lf,qy,VB⟩:=aL.set (q:=.agg (bu (aA s e) off p.cells)) hA (g2.apart id _ hm) hg he g3 hb.1 rfl;have jF:(φ id).sz=s:=hA.2.1;have hi:=ik (P:=E.P) (t:=t) (by omega);refine⟨_,μ',?_,g1,g2.write hm rfl hg (iJ.setRow (Nat.le_refl _)) setRow_size (fun k hk=>bL hk) qy rfl (fun j hj=>by simp[bn.names]at hj) (fun st h=>by cases h) VB⟩;rw[jF];exact fb g3.size hi hh lf g3.one
    ·cases h
   ·cases h
  ·cases h
 ·rename_i id i off s j off2;split at h
  ·rename_i p m1 hf;split at h
   ·rename_i s0 et es hm;obtain⟨e,he,h⟩:=Option.bind_eq_some_iff.1 h;obtain⟨rs,hr,h⟩:=Option.bind_eq_some_iff.1 h;obtain⟨q,hq,h⟩:=Option.bind_eq_some_iff.1 h;split at h
    ·rename_i hb;refine⟨_,_,h,fun _=>⟨id,_,rfl,rfl,fun m2 bY R' k'=>?_⟩,.set,fun G w0 μ φ w ya yx hM ha hx _=>?_⟩
     ·simp only[nR,hf,bY,hm,he,hr,hq,Option.bind_some];rw[if_pos hb]
     ·have hE:=uf hf E.P μ φ yx hx;have hN:aL E.P μ φ w id s0 et es:=hM.dq id _ hm;obtain⟨g,y,hg,sN,⟨⟨ye,hA⟩,hV⟩,Vv⟩:=hN.row he hr;have Cl:=hM.apart id _ hm;have gQ:(bn.nest s0 et es).rowAt i off=true:=by rw[dm he Vv];rfl
      have vu:=hN.2.2.2.2.1 i e he;have Cp:(setRow s0 e off (.gC s (rs.set j (setCells s q off2 (aH E.P t) p)))).cells=e.cells.set off (.gC s (rs.set j (setCells s q off2 (aH E.P t) p))):=Cn vu hb.2.2 (by simp);cases ha with
      | @tP _ _ _ _ _ _ g' bF hs=>
       obtain⟨cq,VC⟩:=Cl i off g' gQ bF;obtain⟨c,T,hh,lf,qy⟩:=hA.set (g:=g') bF hq hE hb.1 (yL hE.len (hA.2.2.2.2.1 j q hq));have hi:=ik (P:=E.P) (t:=t) (by omega);refine⟨_,μ,fb hE.size hi hh lf hE.one,fun _ _ h=>h,hM.ME hm rfl (.inr ⟨i,off,gQ,bF⟩) (iJ.setRow (Nat.le_refl _)) setRow_size (fun k hk=>bL hk) ?_ rfl (fun j hj=>by simp[bn.names]at hj) ?_⟩
       ·refine aL.change hN (by simp) (fun i' e' h'=>?_) rfl (fun g0 Fq=>bL fun e=>cq (by rw[←e];exact Fq)) (fun i' e' j' p' g0 c0 _ x' h' nF Fq Py DL hold=>?_)
        ·rcases dX h' with⟨_,rfl⟩|⟨_,h'⟩
         ·rw[Cp,List.length_set];exact vu
         ·exact hN.2.2.2.2.1 i' e' h'
        ·have other:∀Z0 Z1,es[i']?=some Z0→Z0.cells[j']?=some Z1→(i',j')≠(i,off)→dW E.P μ ((φ id).row i' j') (w.setRow g' (bu c.toList (j*s+off2) yx.cells.toList).toArray) Z1 x':=fun Z0 Z1 h1 h2 h3=>(hold Z0 Z1 h1 h2).cj (fun _ _ h=>h) fun oQ g'' aag=>bL fun e=>by subst e;obtain⟨e1,e2⟩:=VC i' j' (by rw[dm h1 h2];exact oQ) aag;exact h3 (by rw[e1,e2])
         rcases dX h' with⟨rfl,rfl⟩|⟨MI,h'⟩
         ·rw[Cp]at nF;rcases dX nF with⟨rfl,rfl⟩|⟨Z2,nF⟩
          ·have FN:eu E.P μ ((φ id).row i' j') w s rs x':=hold e _ he Vv;refine⟨⟨ye,qy⟩,?_⟩;exact FN.2
          ·exact other e p' he nF fun e=>Z2 (by simpa using e)
         ·exact other e' p' h' nF fun e=>MI (by have:=congrArg Prod.fst e;exact this)
       ·intro i' nS oQ;rcases gT oQ with⟨_,_,_,e',s',VD,fl,h',nF⟩|⟨_,_,_,_,_,_,fl,_⟩
        ·simp only[bn.nest.injEq]at fl;obtain⟨rfl,rfl,rfl⟩:=fl;rcases dX h' with⟨rfl,rfl⟩|⟨MI,h'⟩
         ·rw[Cp]at nF;rcases dX nF with⟨rfl,_⟩|⟨Z2,nF⟩
          ·exact gQ
          ·rw[dm he nF];rfl
         ·rw[dm h' nF];rfl
        ·cases fl
    ·cases h
   ·cases h
  ·cases h
 ·cases h
end
end Go.Ab
set_option linter.unusedVariables false
namespace Go.Ab
open Go.RowKit (Below)
structure Cells(P:Program)(μ:Ro)(sz:Nat)(es:List PV)(xs:List Value):Prop where
 len:xs.length=es.length*sz
 each:∀(i:Nat)e,es[i]?=some e→e.cells.length=sz
 rep:∀(i:Nat)e(j:Nat)p y,es[i]?=some e→e.cells[j]?=some p→xs[i*sz+j]?=some y→af P μ p y
 one:∀(i:Nat)y,xs[i]?=some y→y.oneCell'=true
section
variable {P:Program} {μ μ':Ro} {φ:Nat→aw} {w:World} {sz:Nat} {es es':List PV} {xs VE:List Value}
theorem Cells.nil:Cells P μ sz [] []:=⟨by simp,by simp,by simp,by simp⟩
theorem Cells.mono(h:Cells P μ sz es xs)(hμ:∀b o,μ b=some o→μ' b=some o):Cells P μ' sz es xs:=⟨h.len,h.each,fun i e j p y h1 h2 h3=>(h.rep i e j p y h1 h2 h3).mono hμ,h.one⟩
theorem yM{i j n:Nat}(hi:i<n)(hj:j<sz):i*sz+j<n*sz:=by have:(i+1)*sz≤n*sz:=Nat.mul_le_mul_right _ hi;rw[Nat.add_mul]at this;omega
theorem Cells.append(h:Cells P μ sz es xs)(h':Cells P μ sz es' VE):Cells P μ sz (es++es') (xs++VE):=by
 refine⟨by simp[h.len,h'.len,Nat.add_mul],fun i e hi=>?_,fun i e j p y hi hj hy=>?_,fun i y hy=>?_⟩
 ·rw[List.getElem?_append]at hi;split at hi
  ·exact h.each i e hi
  ·exact h'.each _ e hi
 ·rw[List.getElem?_append]at hi hy;split at hi
  ·rename_i hl;have u9:j<sz:=by rw[←h.each i e hi];exact(List.getElem?_eq_some_iff.1 hj).1
   rw[if_pos (by rw[h.len];exact yM hl u9)]at hy;exact h.rep i e j p y hi hj hy
  ·rename_i hl;have hle:es.length*sz≤i*sz:=Nat.mul_le_mul_right _ (by omega);rw[if_neg (by rw[h.len];omega)]at hy;refine h'.rep _ e j p y hi hj ?_;rw[←hy,h.len,Nat.sub_mul];congr 1;omega
 ·rw[List.getElem?_append]at hy;split at hy
  ·exact h.one i y hy
  ·exact h'.one _ y hy
theorem Cells.take(h:Cells P μ sz es xs)(n:Nat):Cells P μ sz (es.take n) (xs.take (n*sz)):=by
 refine⟨?_,fun i e hi=>h.each i e (du hi).2,fun i e j p y hi hj hy=>h.rep i e j p y (du hi).2 hj (du hy).2,fun i y hy=>h.one i y (du hy).2⟩;rw[List.length_take,List.length_take,h.len];rcases Nat.le_total n es.length with hn|hn
 ·rw[Nat.min_eq_left hn,Nat.min_eq_left (Nat.mul_le_mul_right _ hn)]
 ·rw[Nat.min_eq_right hn,Nat.min_eq_right (Nat.mul_le_mul_right _ hn)]
theorem Cells.drop(h:Cells P μ sz es xs)(n:Nat):Cells P μ sz (es.drop n) (xs.drop (n*sz)):=by refine⟨by simp[h.len,Nat.sub_mul],fun i e hi=>h.each _ e (jP hi),fun i e j p y hi hj hy=>h.rep _ e j p y (jP hi) hj ?_,fun i y hy=>h.one _ y (jP hy)⟩;rw[←jP hy,Nat.add_mul];congr 1;omega
variable{id:Nat}{et:TypeId}
theorem ay.cells(hA:ay P μ φ w id sz et es){g:Nat}(hg:(φ id).g=some g):∃(c:Array Value)(T:TypeId),w.heap[g]?=some (.cells c T (0,0))∧(φ id).cap*sz≤c.size∧es.length≤(φ id).cap∧es.length*sz≤c.size∧Cells P μ sz es (c.toList.take (es.length*sz)):=by
 obtain⟨a1,a2,a3,a4,a5,a6,a7⟩:=hA;rw[hg]at a7;obtain⟨c,T,c1,c2,c3,c4,c5⟩:=a7;have hle:es.length*sz≤c.size:=Nat.le_trans (Nat.mul_le_mul_right _ c3) c2;refine⟨c,T,c1,c2,c3,hle,by simp;omega,a5,fun i e j p y hi hj hy=>?_,fun i y hy=>?_⟩
 ·exact c4 i e j p y hi hj (by simpa using(du hy).2)
 ·have:=du hy;exact c5 i y this.1 (by simpa using this.2)
theorem ay.lh{g:Nat}{T:TypeId}{c:Array Value}(P1:(φ id).towC=⟨some g,(φ id).cap,es.length,sz⟩)(jF:sz=aH P et)(dQ:0<sz)(lE:(φ id).cap≤maxLen)(hh:w.heap[g]?=some (.cells c T (0,0)))(hc:(φ id).cap*sz≤c.size)(hle:es.length≤(φ id).cap)(hC:Cells P μ sz es (c.toList.take (es.length*sz))):ay P μ φ w id sz et es:=by
 have e1:(φ id).g=some g:=by rw[P1]
 refine⟨by rw[P1],by rw[P1],jF,dQ,hC.each,lE,?_⟩;rw[e1];have u9:∀(i:Nat)e(j:Nat)p,es[i]?=some e→e.cells[j]?=some p→i*sz+j<es.length*sz:=fun i e j p hi hj=>yM (List.getElem?_eq_some_iff.1 hi).1 (by rw[←hC.each i e hi];exact(List.getElem?_eq_some_iff.1 hj).1);refine⟨c,T,hh,hc,hle,fun i e j p x hi hj hx=>?_,fun i x hi hx=>?_⟩
 ·exact hC.rep i e j p x hi hj (by rw[List.getElem?_take_of_lt (u9 i e j p hi hj)];simpa using hx)
 ·exact hC.one i x (by rw[List.getElem?_take_of_lt hi];simpa using hx)
inductive sO(P:Program)(μ:Ro)(w:World)(sz:Nat)(es:List PV):Value→Prop
 |none:es=[]→sO P μ w sz es (.slice none 0 0)
 |some {a:Addr} {c:Nat} (xs:List Value):Cells P μ sz es xs→(∀(j:Nat)v,xs[j]?=some v→w.cell? (a.add j)=some v)→es.length≤c→c≤maxLen→sO P μ w sz es (.slice (some a) es.length c)
theorem ay.src(hA:ay P μ φ w id sz et es){g:Nat}(hg:(φ id).g=some g){lo len cap:Nat}(hl:lo+len≤es.length)(rY:len≤cap)(acG:lo+cap≤(φ id).cap):sO P μ w sz ((es.drop lo).take len) (.slice (some ⟨g,lo*sz,none⟩) len cap):=by
 obtain⟨c,T,c1,c2,c3,c4,c5⟩:=hA.cells hg;have lE:=hA.lb;have hlen:((es.drop lo).take len).length=len:=by simp;omega
 have:=sO.some (P:=P) (μ:=μ) (w:=w) (sz:=sz) (es:=(es.drop lo).take len) (a:=⟨g,lo*sz,none⟩) (c:=cap) _ ((c5.drop lo).take len) (fun j v hv=>?_) (by omega) (by omega)
 ·rw[hlen]at this;exact this
 ·have h1:=(du hv).2;have h2:=(du (jP h1)).2;rw[Addr.add_mid,db c1];simpa using h2
end
section
variable {R:Type} {E:Env}
theorem af.src{P:Program}{G:Nat→Option (List PV)}{w0:bg}{μ:Ro}{φ:Nat→aw}{m:Mem}{w:World}{sz:Nat}{es:List PV}{y:Value}(hM:al P G w0 μ φ m w)(h:af P μ (.rs sz es) y):sO P μ w sz es y:=by
 cases h with
 |iC=>exact .none rfl
 |Dg hc=>exact .some (es:=[]) [] .nil (by simp) (by simp) hc
 | @rs _ _ b o cap X h1 h2 h3 h4 h5 h6=>
  by_cases hz:sz=0
  ·subst hz;refine .some [] ⟨by simp,h3,fun i e j p y hi hj=>?_,by simp⟩ (by simp) h1 h2;have:=h3 i e hi;have:=(List.getElem?_eq_some_iff.1 hj).1;omega
  ·have ep:∀k v,((List.range (es.length*sz)).map fun k=>X (k/sz) (k%sz))[k]?=some v→∃(e:PV)(p:PV),es[k/sz]?=some e∧e.cells[k%sz]?=some p∧v=X (k/sz) (k%sz):=by
    intro k v hk;have ba:k<es.length*sz:=by have:=(List.getElem?_eq_some_iff.1 hk).1;simpa using this
    rw[List.getElem?_map,List.getElem?_range ba]at hk;simp at hk;have hi:k/sz<es.length:=(Nat.div_lt_iff_lt_mul (by omega)).2 ba;have hj:k%sz<(es[k/sz]).cells.length:=by rw[h3 _ _ (List.getElem?_eq_getElem hi)];exact Nat.mod_lt _ (by omega)
    exact⟨_,_,List.getElem?_eq_getElem hi,List.getElem?_eq_getElem hj,hk.symm⟩
   refine .some ((List.range (es.length*sz)).map fun k=>X (k/sz) (k%sz)) ⟨by simp,h3,fun i e j p y hi hj hy=>?_,fun k v hk=>?_⟩ (fun k v hk=>?_) h1 h2
   ·obtain⟨e',p',he,hp,rfl⟩:=ep _ _ hy;have u9:j<sz:=by rw[←h3 i e hi];exact(List.getElem?_eq_some_iff.1 hj).1
    have e1:(i*sz+j)/sz=i:=by rw[Nat.mul_comm,Nat.mul_add_div (by omega),Nat.div_eq_of_lt u9];rfl
    have e2:(i*sz+j)%sz=j:=by rw[Nat.mul_comm,Nat.mul_add_mod,Nat.mod_eq_of_lt u9]
    rw[e1,e2];exact h5 i e j p hi hj
   ·obtain⟨e',p',he,hp,rfl⟩:=ep _ _ hk;exact h6 _ e' _ p' he hp
   ·obtain⟨e',p',he,hp,rfl⟩:=ep _ _ hk;rw[Addr.add_mid];have:=hM.cellAt (h4 _ e' _ p' he hp);rw[←this];congr 2;rw[Nat.add_assoc,Nat.div_add_mod' k sz]
theorem kJ{m:Mem}{sz:Nat}{x:V}{es:List PV}{ft:aY}(h:eo m sz x=some (es,ft)):(∀m2:Mem,(∀x∈ft,m2 x.2=m x.2)→eo m2 sz x=some (es,ft))∧(∀x∈ft,x.1=false)∧∀(P:Program)(G:Nat→Option (List PV))(w0:bg)(μ:Ro)(φ:Nat→aw)(w:World)(y:Value),al P G w0 μ φ m w→ab P μ φ x y→sO P μ w sz es y:=by
 unfold eo at h;split at h
 ·rename_i s es';split at h
  ·rename_i hs;simp only[Option.some.injEq,Prod.mk.injEq]at h;obtain⟨rfl,rfl⟩:=h;subst hs;exact⟨fun m2 _=>by simp[eo],by simp,fun P G w0 μ φ w y hM hy=>by cases hy with|pv hy=>exact hy.src hM⟩
  ·split at h
   ·simp only[Option.some.injEq,Prod.mk.injEq]at h;obtain⟨rfl,rfl⟩:=h;refine⟨fun m2 _=>by simp[eo],by simp,fun P G w0 μ φ w y hM hy=>?_⟩;cases hy with
    |pv hy=>cases hy with
     |iC=>exact .none rfl
     |Dg hc=>exact .some (es:=[]) [] .nil (by simp) (by simp) hc
     |rs X h1 h2=>exact .some (es:=[]) [] .nil (by simp) h1 h2
   ·cases h
 ·simp only[Option.some.injEq,Prod.mk.injEq]at h;obtain⟨rfl,rfl⟩:=h;exact⟨fun m2 _=>by simp[eo],by simp,fun P G w0 μ φ w y hM hy=>by cases hy;exact .none rfl⟩
 ·rename_i id;have key:∀(s:Nat)(et:TypeId)(es:List PV),(m id=some (.arr s et es)∨m id=some (.l6 s et es))→∀(P:Program)(G:Nat→Option (List PV))(w0:bg)(μ:Ro)(φ:Nat→aw)(w:World)(y:Value),al P G w0 μ φ m w→ab P μ φ (.os id) y→sO P μ w s es y:=by
   intro s et es hm P G w0 μ φ w y hM hy;have hA:=hM.arr hm;cases hy with
   |np hg=>obtain⟨a1,a2,a3,a4,a5,a6,a7⟩:=hA;rw[hg]at a7;exact .none a7.1
   |os hg=>have:=hA.src hg (lo:=0) (len:=es.length) (cap:=(φ id).cap) (by omega) (hA.lb).1 (by omega);rw[hA.1];simpa using this
  split at h
  ·rename_i s' et es' hm;split at h
   ·rename_i hs;simp only[Option.some.injEq,Prod.mk.injEq]at h;obtain⟨rfl,rfl⟩:=h;subst hs;exact⟨fun m2 bY=>by have:=bY (false,id) (by simp);simp only at this;simp[eo,this,hm],by simp,key _ _ _ (.inl hm)⟩
   ·cases h
  ·rename_i s' et es' hm;split at h
   ·rename_i hs;simp only[Option.some.injEq,Prod.mk.injEq]at h;obtain⟨rfl,rfl⟩:=h;subst hs;exact⟨fun m2 bY=>by have:=bY (false,id) (by simp);simp only at this;simp[eo,this,hm],by simp,key _ _ _ (.inr hm)⟩
   ·cases h
  ·cases h
 ·rename_i id lo len;have key:∀(s:Nat)(et:TypeId)(es:List PV),(m id=some (.arr s et es)∨m id=some (.l6 s et es))→∀(P:Program)(G:Nat→Option (List PV))(w0:bg)(μ:Ro)(φ:Nat→aw)(w:World)(y:Value),al P G w0 μ φ m w→ab P μ φ (.eR id lo len) y→sO P μ w s ((es.drop lo).take len) y:=by
   intro s et es hm P G w0 μ φ w y hM hy;have hA:=hM.arr hm;have hle:=hA.lb;have Kq:=hA.1;have jF:=hA.2.1;cases hy with
   |my hg=>simp;exact .none rfl
   |eR hg hl ha Ru Ay=>
    rcases ha with rfl|⟨ha,_⟩
    ·rw[jF];exact hA.src hg (by omega) Ru Ay
    ·have h0:len=0:=by omega
     subst h0;simp only[List.take_zero];exact .some (es:=[]) [] .nil (by simp) (by simp) (by omega)
  split at h
  ·rename_i s' et es' hm;split at h
   ·rename_i hs;simp only[Option.some.injEq,Prod.mk.injEq]at h;obtain⟨rfl,rfl⟩:=h;subst hs;exact⟨fun m2 bY=>by have:=bY (false,id) (by simp);simp only at this;simp[eo,this,hm],by simp,key _ _ _ (.inl hm)⟩
   ·cases h
  ·rename_i s' et es' hm;split at h
   ·rename_i hs;simp only[Option.some.injEq,Prod.mk.injEq]at h;obtain⟨rfl,rfl⟩:=h;subst hs;exact⟨fun m2 bY=>by have:=bY (false,id) (by simp);simp only at this;simp[eo,this,hm],by simp,key _ _ _ (.inr hm)⟩
   ·cases h
  ·cases h
 ·rename_i id i off;split at h
  ·rename_i s0 et0 cR hm;obtain⟨e,he,h⟩:=Option.bind_eq_some_iff.1 h;obtain⟨rs,hr,h⟩:=Option.bind_eq_some_iff.1 h;simp only[Option.some.injEq,Prod.mk.injEq]at h;obtain⟨rfl,rfl⟩:=h;refine⟨fun m2 bY=>by have:=bY (false,id) (by simp);simp only at this;simp[eo,this,hm,he,hr],by simp,fun P G w0 μ φ w y hM hy=>?_⟩;have hN:aL P μ φ w id s0 et0 cR:=hM.dq id _ hm;obtain⟨_,_,_,_,⟨⟨ye,hA⟩,_⟩,_⟩:=hN.row he hr;have hy:=hy.FJ (ν:=μ);cases hy with
   |np hg=>obtain⟨a1,a2,a3,a4,a5,a6,a7⟩:=hA;rw[hg]at a7;exact .none a7.1
   |os hg=>have:=hA.src hg (lo:=0) (len:=rs.length) (cap:=(((φ id).row i off).up).cap) (by omega) (hA.lb).1 (by omega);rw[hA.1];simpa using this
  ·cases h
 ·cases h
end
end Go.Ab
set_option linter.unusedVariables false
namespace Go.Ab
open Go.RowKit (Below)
section
variable {P:Program} {w:World}
theorem lG{t ty e:TypeId}(hu:P.underlying t=some (.slice e))(hz:aH P e≠0){base a:Option Addr}{n cap c:Nat}(hn:n≤cap):(Builtin.append_ #[t,t] ty #[.slice base n cap,.slice a 0 c]).run P w=.ok (.slice base n cap) w:=by
 obtain⟨i,hi,hs⟩:=rT hz;have hl:∀x:Addr,(loadCells x 0).run P w=.ok #[] w:=fun x=>by simpa using run_loadCells_list (P:=P) w x [] (by simp)
 cases base<;>cases a<;>simp[Builtin.append_,run_underlying hu,sizeOf,typeInfo,hi,Builtin.lenOf,Builtin.firstCells,hn,hl,storeCells]
end
theorem vv{P:Program}{w:World}(t ty e T:TypeId)(i:TypeInfo)(ht:P.underlying t=some (.slice e))(hi:P.info? e=some i)(g FO S3:Nat)(cur:Array Value)(hg:w.heap[g]?=some (.cells cur T (0,0)))(a:Addr)(m c:Nat)(news:List Value)(hl:news.length=m*i.size)(VF:∀j u,news[j]?=some u→w.cell? (a.add j)=some u)(h1:∀u∈news,u.oneCell'=true)(dc:FO+m≤S3)(lf:FO*i.size+news.length≤cur.size):(Builtin.append_ #[t,t] ty #[.slice (some ⟨g,0,none⟩) FO S3,.slice (some a) m c]).run P w=.ok (.slice (some ⟨g,0,none⟩) (FO+m) S3) (w.setRow g (cur.toList.take (FO*i.size)++news++cur.toList.drop (FO*i.size+news.length)).toArray):=by have hf:=run_firstCells_some (P:=P) w i.size m a m c news hl VF;have sJ:=run_storeCells_at P g (FO*i.size) T news 0 cur w hg (by simpa using lf) h1;simp only[Nat.add_zero]at sJ;simp[Builtin.append_,run_underlying ht,sizeOf,typeInfo,hi,Builtin.lenOf,dc,hf,Addr.add_mid,sJ]
section
variable {R:Type} {E:Env}
variable{t:TypeId}
theorem Bc{P:Program}{i:TypeInfo}(hi:P.info? t=some i):i.bytes=Au P t∧i.size=aH P t:=by simp[Au,aH,hi]
theorem yN{P:Program}{e ty:TypeId}{sz len n:Nat}{z:Value}{i:TypeInfo}(hu:P.underlying t=some (.slice e))(hi:P.info? e=some i)(UG:i.zero=some z)(DM:z.cells.size=sz)(jF:sz=aH P e)(dQ:0<aH P e)(VG:0<Au P e)(dc:(len+n)*Au P e≤aa){w:World}{ys yx:Value}{os xs:List Value}(hs:(ys=.slice none 0 0∧len=0∧os=[])∨∃(g cap:Nat)(c:Array Value)(T:TypeId),ys=.slice (some ⟨g,0,none⟩) len cap∧w.heap[g]?=some (.cells c T (0,0))∧cap*sz≤c.size∧len≤cap∧cap≤maxLen∧os=c.toList.take (len*sz))(hx:(yx=.slice none 0 0∧n=0∧xs=[])∨∃(a:Addr)(cx:Nat),yx=.slice (some a) n cx∧xs.length=n*sz∧(∀(j:Nat)v,xs[j]?=some v→w.cell? (a.add j)=some v)∧(∀v∈xs,v.oneCell'=true)∧n≤cx∧cx≤maxLen):∃w' y,(Builtin.append_ #[t,t] ty #[ys,yx]).run P w=.ok y w'∧((y=.slice none 0 0∧w'=w∧len=0∧n=0)∨∃(g cap:Nat)(c:Array Value)(T:TypeId),y=.slice (some ⟨g,0,none⟩) (len+n) cap∧w'.heap[g]?=some (.cells c T (0,0))∧cap*sz≤c.size∧len+n≤cap∧cap≤maxLen∧c.toList.take ((len+n)*sz)=os++xs∧((∃P4,ys=.slice (some ⟨g,0,none⟩) len P4∧iJ g w w'∧∀k,k≠g→w'.heap[k]?=w.heap[k]?)∨(g=w.heap.size∧w'=w.drew.alloc (.cells c e)))):=by
 obtain⟨UH,RA⟩:=Bc hi;have S4:len+n≤140737488355328:=by have:(len+n)*1≤(len+n)*Au P e:=Nat.mul_le_mul_left _ VG;simp only[aa]at dc;omega
 have aah:len+n≤maxLen:=by simp only[maxLen];omega
 have LV:∀n,(Builtin.zeroCells z.cells n).size=n*sz:=fun n=>by rw[size_zeroCells,DM]
 rcases hs with⟨rfl,rfl,rfl⟩|⟨g,cap,c,T,rfl,g4,g5,g6,g7,rfl⟩
 ·rcases hx with⟨rfl,rfl,rfl⟩|⟨a,cx,rfl,Ba,Co,VH,RB,MJ⟩
  ·exact⟨w,_,lG hu (by omega) (Nat.le_refl _),.inl ⟨rfl,rfl,rfl,rfl⟩⟩
  ·by_cases h0:n=0
   ·subst h0;exact⟨w,_,lG hu (by omega) (Nat.le_refl _),.inl ⟨rfl,rfl,rfl,rfl⟩⟩
   ·have hr:=run_append_nil (P:=P) w t ty e i z hu hi UG a n cx xs (by rw[Ba,jF,RA]) Co (by omega) (by simp only[Nat.zero_add]at S4;omega) (by simp only[aa,Nat.zero_add]at dc;rw[UH];omega);have Cq:=grownCap_ge w n 0 e;refine⟨_,_,hr,.inr ⟨w.heap.size,grownCap w n 0 e,xs.toArray++Builtin.zeroCells z.cells (grownCap w n 0 e-n),e,by simp,eQ w.drew _,?_,by simpa using Cq,grownCap_le_maxLen w _ 0 e (by simpa using aah),?_,.inr ⟨rfl,rfl⟩⟩⟩
    ·rw[Array.size_append,LV];simp only[List.size_toArray,Ba,←Nat.add_mul];exact Nat.mul_le_mul_right _ (by omega)
    ·simp only[Array.toList_append,List.nil_append,Nat.zero_add];exact List.take_left' Ba
 ·have h1:(c.toList.take (len*sz)).length=len*sz:=by have:len*sz≤cap*sz:=Nat.mul_le_mul_right _ g6;simp;omega
  rcases hx with⟨rfl,rfl,rfl⟩|⟨a,cx,rfl,Ba,Co,VH,RB,MJ⟩
  ·exact⟨w,_,lG hu (by omega) g6,.inr ⟨g,cap,c,T,rfl,g4,g5,by simpa using g6,g7,by simp,.inl ⟨cap,rfl,iJ.refl _ _,fun _ _=>rfl⟩⟩⟩
  ·by_cases LW:len+n≤cap
   ·have lf:len*i.size+xs.length≤c.size:=by rw[RA,←jF,Ba,←Nat.add_mul];exact Nat.le_trans (Nat.mul_le_mul_right _ LW) g5
    have hr:=vv (P:=P) (w:=w) t ty e T i hu hi g len cap c g4 a n cx xs (by rw[Ba,jF,RA]) Co VH LW lf;rw[RA,←jF]at hr lf;refine⟨_,_,hr,.inr ⟨g,cap,_,T,rfl,setRow_heap w g c _ T (0,0) g4,?_,LW,g7,?_,.inl ⟨cap,rfl,iJ.setRow (Nat.le_refl _),fun k hk=>bL hk⟩⟩⟩
    ·simp only[List.size_toArray,List.length_append,List.length_take,List.length_drop,Array.length_toList];omega
    ·simp only[];exact List.take_left' (by rw[List.length_append,h1,Ba,Nat.add_mul])
   ·have hr:=run_append_grow (P:=P) w t ty e i z hu hi UG ⟨g,0,none⟩ len cap (c.toList.take (len*sz)) (by rw[h1,jF,RA]) (fun j v hj=>by
      rw[Addr.add_mid,db g4];simpa using(du hj).2) a n cx xs (by rw[Ba,jF,RA]) Co (by omega) (by omega)
     (growslice_fits (by omega) (by rw[UH];simpa[aa]using dc))
    have Cq:=grownCap_ge w (len+n) cap e;refine⟨_,_,hr,.inr ⟨w.heap.size,_,_,e,rfl,eQ w.drew _,?_,Cq,grownCap_le_maxLen w _ cap e (by omega),?_,.inr ⟨rfl,rfl⟩⟩⟩
    ·rw[Array.size_append,Array.size_append,LV];simp only[List.size_toArray,Ba,h1,←Nat.add_mul];exact Nat.mul_le_mul_right _ (by omega)
    ·simp only[Array.toList_append];exact List.take_left' (by rw[List.length_append,h1,Ba,Nat.add_mul])
theorem yO{e ty:TypeId}{sz:Nat}{es new:List PV}{z:List V}(hu:E.P.underlying t=some (.slice e))(hz:cT E e=some z)(jF:sz=aH E.P e)(dQ:0<aH E.P e)(VG:0<Au E.P e)(dc:(es++new).length*Au E.P e≤aa){G:Nat→Option (List PV)}{w0:bg}{μ:Ro}{φ:Nat→aw}{m:Mem}{w:World}{ρ:Nat→Value}{f:Fr}{draw:Bool}{site:Nat}(hM:al E.P G w0 μ φ m w)(hF:bJ E.P μ φ m f ρ){ys yx:Value}(hx:sO E.P μ w sz new yx)(hs:(ys=.slice none 0 0∧es=[])∨∃(g cap:Nat)(c:Array Value)(T:TypeId),ys=.slice (some ⟨g,0,none⟩) es.length cap∧w0.heap.size≤g∧μ g=none∧(∀id b',m id=some b'→¬b'.owns (φ id) g)∧w.heap[g]?=some (.cells c T (0,0))∧cap*sz≤c.size∧es.length≤cap∧cap≤maxLen∧es.length*sz≤c.size∧Cells E.P μ sz es (c.toList.take (es.length*sz))){f':Fr}{m':Mem}(qq:∀(P:Program)(G:Nat→Option (List PV))(w0:bg)(μ:Ro)(φ:Nat→aw)(w w':World)(ρ:Nat→Value)(ph:aw),al P G w0 μ φ m w→bJ P μ φ m f ρ→iD P w0 μ φ m w w' site (.arr sz e (es++new)) ph→∃φ',φ' site=ph∧al P G w0 μ φ' m' w'∧bJ P μ φ' m' f' ρ):∃w' y φ',(Builtin.append_ #[t,t] ty #[ys,yx]).run E.P w=.ok y w'∧al E.P G w0 μ φ' m' w'∧bJ E.P μ φ' m' f' ρ∧ab E.P μ φ' (.os site) y:=by
 obtain⟨i,zv,hi,UG,RA,_,DM,_,_,_⟩:=eh hz;have DN:(es++new).length=es.length+new.length:=by simp
 obtain⟨os,S5,hC⟩:∃os,((ys=.slice none 0 0∧es.length=0∧os=[])∨∃(g cap:Nat)(c:Array Value)(T:TypeId),ys=.slice (some ⟨g,0,none⟩) es.length cap∧w.heap[g]?=some (.cells c T (0,0))∧cap*sz≤c.size∧es.length≤cap∧cap≤maxLen∧os=c.toList.take (es.length*sz))∧Cells E.P μ sz es os:=by
  rcases hs with⟨h1,rfl⟩|⟨g,cap,c,T,h1,h2,h3,h4,h5,h6,h7,h8,h9,Km⟩
  ·exact⟨[],.inl ⟨h1,rfl,rfl⟩,.nil⟩
  ·exact⟨_,.inr ⟨g,cap,c,T,h1,h5,h6,h7,h8,rfl⟩,Km⟩
 obtain⟨xs,Co,hCx⟩:∃xs,((yx=.slice none 0 0∧new.length=0∧xs=[])∨∃(a:Addr)(cx:Nat),yx=.slice (some a) new.length cx∧xs.length=new.length*sz∧(∀(j:Nat)v,xs[j]?=some v→w.cell? (a.add j)=some v)∧(∀v∈xs,v.oneCell'=true)∧new.length≤cx∧cx≤maxLen)∧Cells E.P μ sz new xs:=by
  cases hx with
  |none hn=>subst hn;exact⟨[],.inl ⟨rfl,rfl,rfl⟩,.nil⟩
  | @some a cx xs hC Co RB MJ=>exact⟨xs,.inr ⟨a,cx,rfl,hC.len,Co,fun u hu=>by obtain⟨j,hj⟩:=List.getElem?_of_mem hu;exact hC.one j u hj,RB,MJ⟩,hC⟩
 obtain⟨w',y,hr,MK⟩:=yN (ty:=ty) hu hi UG (by rw[DM,jF]) jF dQ VG (by rw[←DN];exact dc) S5 Co;rcases MK with⟨rfl,rfl,h1,h2⟩|⟨g',xw,c',T',rfl,b1,b2,b3,b4,b5,b6⟩
 ·have h1:es=[]:=List.eq_nil_of_length_eq_zero h1;have h2:new=[]:=List.eq_nil_of_length_eq_zero h2;obtain⟨φ',a1,a2,a3⟩:=qq E.P G w0 μ φ w' w' ρ (xt none 0 0 sz) hM hF ⟨iJ.refl _ _,hM.ro,fun _ _ _ _ _=>rfl,by simp,fun φ' hp _=>by refine⟨by rw[hp,h1,h2];rfl,by rw[hp],jF,by omega,by rw[h1,h2];simp,by rw[hp];simp[maxLen],?_⟩;rw[hp];exact⟨by rw[h1,h2];rfl,rfl⟩,by simp[bn.names],fun st h=>by cases h⟩;exact⟨w',_,φ',hr,a2,a3,.np (by rw[a1])⟩
 ·have VI:Cells E.P μ sz (es++new) (c'.toList.take ((es++new).length*sz)):=by rw[DN,b5];exact hC.append hCx
  have fin:∀(φ':Nat→aw),φ' site=xt (some g') xw (es++new).length sz→ab E.P μ φ' (.os site) (.slice (some ⟨g',0,none⟩) (es.length+new.length) xw):=fun φ' a1=>by have:=ab.os (P:=E.P) (μ:=μ) (φ:=φ') (id:=site) (g:=g') (by rw[a1]);rw[a1,DN]at this;exact this
  rcases b6 with⟨P4,UI,b6,b7⟩|⟨rfl,rfl⟩
  ·rcases hs with⟨h1,_⟩|⟨g,cap,c,_,h1,h2,h3,h4,_⟩
   ·rw[UI]at h1;cases h1
   rw[UI]at h1;simp only[Value.slice.injEq,Option.some.injEq,Addr.mk.injEq]at h1;obtain⟨⟨rfl,_⟩,_⟩:=h1;obtain⟨φ',a1,a2,a3⟩:=qq E.P G w0 μ φ w w' ρ (xt (some g') xw (es++new).length sz) hM hF ⟨b6.mono h2,fun k o hk=>by rw[b7 k (fun e=>by subst e;rw[h3]at hk;cases hk)];exact hM.ro k o hk,fun id b' g' hid bF=>b7 g' (fun e=>by subst e;exact h4 id b' hid bF),fun g' bF=>by simp only[Option.some.injEq]at bF;subst bF;exact⟨h2,h3,h4⟩,fun φ' hp _=>ay.lh (by rw[hp]) jF (by omega) (by rw[hp];exact b4) b1 (by rw[hp];exact b2) (by rw[hp,DN];exact b3) VI,by simp[bn.names],fun st h=>by cases h⟩;exact⟨w',_,φ',hr,a2,a3,fin φ' a1⟩
  ·obtain⟨φ',a1,a2,a3⟩:=qq E.P G w0 μ φ w.drew _ ρ (xt (some w.heap.size) xw (es++new).length sz) hM.drew hF (iD.alloc (o:=.cells c' e) hM.drew rfl (fun φ' hp _=>ay.lh (g:=w.heap.size) (by rw[hp]) jF (by omega) (by rw[hp];exact b4) (eQ w.drew _) (by rw[hp];exact b2) (by rw[hp,DN];exact b3) VI) (by simp[bn.names]));exact⟨_,_,φ',hr,a2,a3,fin φ' a1⟩
end
end Go.Ab
set_option linter.unusedVariables false
namespace Go.Ab
open Go.RowKit (Below)
section
variable {R:Type} {E:Env}
theorem FP{draw:Bool}{site:Nat}{t t':TypeId}{s x:V}{f:Fr}{m:Mem}{k:V→Fr→Mem→Option R}{r:R}(h:tW E draw site t t' s x f m k=some r):draw=false∧t'=t∧∃place f' m',k (.os place) f' m'=some r∧(m' place).isSome=true∧∀(G:Nat→Option (List PV))(w0:bg)(μ:Ro)(φ:Nat→aw)(w:World)(ρ:Nat→Value)(ys yx:Value)(ty:TypeId),al E.P G w0 μ φ m w→bJ E.P μ φ m f ρ→ab E.P μ φ s ys→ab E.P μ φ x yx→∃w' y φ',(Builtin.append_ #[t,t] ty #[ys,yx]).run E.P w=.ok y w'∧al E.P G w0 μ φ' m' w'∧bJ E.P μ φ' m' f' ρ∧ab E.P μ φ' (.os place) y:=by
 unfold tW at h;split at h
 ·cases h
 ·rename_i hd;simp only[Bool.or_eq_true,not_or,Bool.not_eq_true,Bool.not_eq_false',decide_eq_true_eq,Bool.not_eq_eq_eq_not,Bool.not_true,Bool.not_false]at hd;refine⟨hd.1,by simpa using hd.2,?_⟩;split at h
  ·rename_i e hu;split at h
   ·cases h
   ·rename_i hz;obtain⟨z,hz⟩:∃z,cT E e=some z:=by
     cases hq:cT E e with
     |none=>simp[hq]at hz
     |some z=>exact⟨z,rfl⟩
    split at h
    ·rename_i new ft vu;obtain⟨_,_,tg⟩:=kJ vu;split at h
     ·split at h
      ·rename_i hb;obtain⟨f',m',_,hk,qz,_,qq⟩:=bR h;refine⟨_,f',m',hk,by simp[qz],fun G w0 μ φ w ρ ys yx ty hM hF hs hx=>?_⟩;cases hs;exact yO (es:=[]) (draw:=false) hu hz rfl hb.2.2 hb.2.1 (by simpa using hb.1) hM hF (tg _ _ _ _ _ _ _ hM hx) (.inl ⟨rfl,rfl⟩) qq
      ·cases h
     ·rename_i id;split at h
      ·rename_i sz et es hm;split at h
       ·rename_i hc;obtain⟨rfl,rfl,acH⟩:=hc;split at h
        ·rename_i hb;obtain⟨f',m',_,hk,qz,_,qq⟩:=bR h;refine⟨_,f',m',hk,by simp[qz],fun G w0 μ φ w ρ ys yx ty hM hF hs hx=>?_⟩;have oS:=hM.forget id;have xy:=hF.forget id;have hA:ay E.P μ φ w id (aH E.P et) et es:=hM.dq id _ hm;have dQ:0<aH E.P et:=hA.2.2.2.1;refine yO (draw:=false) hu hz rfl dQ hb.2 hb.1 oS xy (tg _ _ _ _ _ _ _ hM hx) ?_ qq;cases hs with
         |np hg=>have a7:=hA.2.2.2.2.2.2;rw[hg]at a7;exact .inl ⟨rfl,a7.1⟩
         | @os _ g hg=>obtain⟨c,T,c1,c2,c3,c4,c5⟩:=hA.cells hg;obtain⟨o1,o2⟩:=hM.own id _ g hm (.inl hg);refine .inr ⟨g,(φ id).cap,c,T,by rw[hA.1],o1,o2 rfl,fun j b' hj bF=>?_,c1,c2,c3,hA.lb.2,c4,c5⟩;obtain⟨cq,b2,nq,rfl⟩:=ey hj;exact cq (hM.inj j id b2 _ g nq hm (fa.1 bF) (.inl hg))
        ·cases h
       ·cases h
      ·cases h
     ·cases h
    ·cases h
  ·cases h
theorem Cr{P:Program}{w:World}{dT ty elem:TypeId}{ts:List TypeId}{g VJ dCap:Nat}{c:Array Value}{T:TypeId}{sz:Nat}{es new:List PV}{μ:Ro}{yx:Value}(hu:P.underlying dT=some (.slice elem))(jF:sz=aH P elem)(dQ:0<sz)(hx:sO P μ w sz new yx)(hg:w.heap[g]?=some (.cells c T (0,0)))(hle:es.length*sz≤c.size)(hd:VJ=es.length)(hC:Cells P μ sz es (c.toList.take (es.length*sz))):∃c':Array Value,(Builtin.copy_ (dT::ts).toArray ty #[.slice (some ⟨g,0,none⟩) VJ dCap,yx]).run P w=.ok (goInt ((min new.length es.length:Nat):Int)) (w.setRow g c')∧c'.size=c.size∧Cells P μ sz (new.take es.length++es.drop new.length) (c'.toList.take ((new.take es.length++es.drop new.length).length*sz)):=by
 subst hd;obtain⟨i,hi,hs⟩:=rT (P:=P) (t:=elem) (by omega);have VK:(new.take es.length++es.drop new.length).length=es.length:=by simp;omega
 rw[VK];cases hx with
 |none hn=>subst hn;refine⟨c,?_,rfl,by simpa using hC⟩;have:=setRow_self w g c T (0,0) hg;rw[this];simp[Builtin.copy_,run_underlying hu,Builtin.lenOf,Builtin.firstCells,sizeOf,typeInfo,hi,storeCells]
 | @some a cx xs hX Co RB MJ=>
  have P5:Nat.min new.length es.length=min new.length es.length:=rfl;have hl:(xs.take (min new.length es.length*sz)).length=min new.length es.length*i.size:=by rw[hs,←jF,List.length_take,hX.len];exact Nat.min_eq_left (Nat.mul_le_mul_right _ (Nat.min_le_left _ _))
  have aai:min new.length es.length*sz≤es.length*sz:=Nat.mul_le_mul_right _ (Nat.min_le_right _ _);have hf:=run_firstCells_some (P:=P) w i.size (min new.length es.length) a new.length cx (xs.take (min new.length es.length*sz)) hl (fun j v hj=>Co j v (du hj).2);have Mv:(xs.take (min new.length es.length*sz)).length=min new.length es.length*sz:=by rw[hl,hs,jF]
  have sJ:=run_storeCells_at P g 0 T (xs.take (min new.length es.length*sz)) 0 c w hg (by rw[Mv];omega) (fun v hv=>by obtain⟨j,hj⟩:=List.getElem?_of_mem hv;exact hX.one j v (du hj).2);simp only[Nat.zero_add,List.take_zero,List.nil_append,Mv]at sJ;refine⟨(xs.take (min new.length es.length*sz)++c.toList.drop (min new.length es.length*sz)).toArray,?_,?_,?_⟩
  ·have VL:Nat.min new.length es.length=min new.length es.length:=rfl;simp[Builtin.copy_,run_underlying hu,Builtin.lenOf,sizeOf,typeInfo,hi,VL,hf,sJ]
  ·simp only[List.size_toArray,List.length_append,Mv,List.length_drop,Array.length_toList];omega
  ·have e1:(xs.take (min new.length es.length*sz)++c.toList.drop (min new.length es.length*sz)).take (es.length*sz)=xs.take (min new.length es.length*sz)++(c.toList.take (es.length*sz)).drop (min new.length es.length*sz):=by rw[List.take_append,Mv,List.drop_take,List.take_of_length_le (by rw[Mv];exact aai)]
   simp only[];rw[e1];have h1:=(hX.take (min new.length es.length)).append (hC.drop (min new.length es.length));have e2:new.take (min new.length es.length)=new.take es.length:=by
    rcases Nat.le_total new.length es.length with hh|hh
    ·rw[Nat.min_eq_left hh,List.take_length,List.take_of_length_le hh]
    ·rw[Nat.min_eq_right hh]
   have e3:es.drop (min new.length es.length)=es.drop new.length:=by
    rcases Nat.le_total new.length es.length with hh|hh
    ·rw[Nat.min_eq_left hh]
    ·rw[Nat.min_eq_right hh,List.drop_length,List.drop_eq_nil_of_le hh]
   rw[e2,e3]at h1;exact h1
theorem Bd{R:Type}(m:Mem)(sz:Nat)(x:V)(k:List PV→aY→Option R):Cb m sz x k=(eo m sz x).bind fun p=>k p.1 p.2:=by
 cases x with
 |qD id i off=>
  simp only[Cb,eo];cases hm:m id with
  |none=>rfl
  |some b=>
   cases b with
   |nest s e es=>
    simp only;cases es[i]? with
    |none=>rfl
    |some e=>simp only[Option.bind_some];cases bj sz (cell e off)<;>rfl
   |_=>rfl
 |_=>
  simp only[Cb];generalize eo m sz _=o;cases o with
  |none=>rfl
  |some p=>rfl
theorem ML{t:TypeId}{d x:V}{m:Mem}{k:V→Mem→aY→Option R}{r:R}(h:Dr E t d x m k=some r):∃n id b ft,(∀m2:Mem,(∀x∈((true,id)::ft:aY),m2 x.2=m x.2)→∀(R':Type)(k':V→Mem→aY→Option R'),Dr E t d x m2 k'=k' (.pv (.int .i64 n)) (ai m2 id b) ((true,id)::ft))∧k (.pv (.int .i64 n)) (ai m id b) ((true,id)::ft)=some r∧∀(G:Nat→Option (List PV))(w0:bg)(μ:Ro)(φ:Nat→aw)(w:World)(ρ:Nat→Value)(f:Fr)(yd yx:Value)(ts:List TypeId)(ty:TypeId),al E.P G w0 μ φ m w→bJ E.P μ φ m f ρ→ab E.P μ φ d yd→ab E.P μ φ x yx→∃w' φ',(Builtin.copy_ (t::ts).toArray ty #[yd,yx]).run E.P w=.ok (.int .i64 n) w'∧al E.P G w0 μ φ' (ai m id b) w'∧bJ E.P μ φ' (ai m id b) f ρ∧(Lit.int .i64 n).wf=true:=by
 unfold Dr at h;split at h
 ·rename_i e hu;split at h
  ·rename_i id;split at h
   ·rename_i sz et es hm;split at h
    ·rename_i hc;rw[Bd]at h;obtain⟨⟨new,ft⟩,vu,h⟩:=Option.bind_eq_some_iff.1 h
     ·obtain⟨DO,_,tg⟩:=kJ vu;refine⟨_,id,_,ft,fun m2 bY R' k'=>?_,h,fun G w0 μ φ w ρ f yd yx ts ty hM hF hd hx=>?_⟩
      ·have h1:=bY (true,id) (by simp);simp only at h1;simp only[Dr,hu,h1,hm];rw[if_pos hc,Bd];simp only[DO m2 (fun y hy=>bY y (by simp[hy])),Option.bind_some]
      ·have hA:ay E.P μ φ w id sz et es:=hM.dq id _ hm;have hS:=tg _ _ _ _ _ _ _ hM hx;have hle:=hA.lb;have hlen:(new.take es.length++es.drop new.length).length=es.length:=by simp;omega
       have xv:(Lit.int .i64 ((min new.length es.length:Nat):Int)).wf=true:=yA (by omega);cases hd with
       |np hg=>
        have a7:=hA.2.2.2.2.2.2;rw[hg]at a7;have h0:=a7.1;subst h0;refine⟨w,φ,?_,?_,?_,xv⟩
        ·obtain⟨i,hi,hs⟩:=rT (P:=E.P) (t:=e) (by have:=hA.2.2.2.1;omega);have Ft:∀x:Addr,(loadCells x 0).run E.P w=.ok #[] w:=fun x=>by simpa using run_loadCells_list (P:=E.P) w x [] (by simp)
         cases hS with
         |none hn=>subst hn;simp[Builtin.copy_,run_underlying hu,Builtin.lenOf,Builtin.firstCells,sizeOf,typeInfo,hi,hA.1,goInt]
         |some xs hX Co RB MJ=>simp[Builtin.copy_,run_underlying hu,Builtin.lenOf,Builtin.firstCells,sizeOf,typeInfo,hi,hA.1,Ft,goInt]
        ·have:ai m id (.arr sz et (new.take ([]:List PV).length++([]:List PV).drop new.length))=m:=by
          funext j;by_cases e:j=id
          ·subst e;simp[hm]
          ·rw[ak e]
         rw[this];exact hM
        ·exact hF.jR (fun _ _ h=>h) .set
       | @os _ g hg=>
        obtain⟨c,T,c1,c2,c3,c4,c5⟩:=hA.cells hg;obtain⟨c',r1,r2,r3⟩:=Cr (ts:=ts) (ty:=ty) (dCap:=(φ id).cap) hu hc.1 hA.2.2.2.1 hS c1 c4 hA.1 c5;refine⟨_,φ,r1,hM.write hm rfl hg (iJ.setRow (Nat.le_refl _)) setRow_size (fun k hk=>bL hk) ?_ rfl (by simp[bn.names]),hF.jR (fun _ _ h=>h) .set,xv⟩;refine ay.lh (g:=g) ?_ hA.2.2.1 hA.2.2.2.1 hle.2 (setRow_heap w g c c' T (0,0) c1) (by rw[r2];exact c2) (by rw[hlen];exact c3) r3;rw[hlen,←hA.1,←hA.2.1];cases hq:(φ id).towC with
        |mk a b c d=>rw[hq]at hg;simp only at hg;simp[hg]
    ·cases h
   ·cases h
  ·cases h
 ·cases h
end
end Go.Ab
