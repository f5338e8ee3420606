import Derived.Test.YtcmhmlnkhmefbaaGreatAbP2
import Derived.Great.BuildSlice
import Derived.Laws.AppendOwn
import Derived.Laws.MakeOwn
set_option linter.unusedVariables false
namespace Go.Ab
open Go.RowKit (Below)
structure ck(P:Program)(μ:Ro)(φ:Nat→aF)(m:Mem)(f:Fr)(ρ:Nat→Value):Prop where
 fr:∀t,ai P μ φ (f t) (ρ t)
 live:∀t id,(f t).has id=true→(m id).isSome=true
section
variable {P:Program} {G:Nat→Option (List PV)} {w0:bx} {μ μ':Ro} {φ φ':Nat→aF} {m m':Mem} {w w':World} {f:Fr} {ρ:Nat→Value}
theorem ck.mono(h:ck P μ φ m f ρ)(hμ:∀b o,μ b=some o→μ' b=some o)(hφ:∀id,(m id).isSome=true→φ' id=φ id∧(m' id).isSome=true):ck P μ' φ' m' f ρ:=⟨fun t=>(h.fr t).mono hμ fun id hid=>(hφ id (h.live t id hid)).1,fun t id hid=>(hφ id (h.live t id hid)).2⟩
theorem eM{id j:Nat}{b:bJ}(h:bf (bC id m) id j=some b):j≠id∧∃b',m j=some b'∧b=fI id b':=by
 by_cases e:j=id
 ·subst e;simp at h
 ·rw[eQ e]at h;exact⟨e,Bd h⟩
theorem qn{id j:Nat}(h:j≠id)(hm:(m j).isSome=true):(bf (bC id m) id j).isSome=true:=by obtain⟨b,hb⟩:=Option.isSome_iff_exists.1 hm;rw[eQ h];simp[bC,hb]
theorem ck.forget(h:ck P μ φ m f ρ)(id:Nat):ck P μ φ (bf (bC id m) id) (eP id f) ρ:=by refine⟨fun t=>(h.fr t).kill id,fun t j hj=>?_⟩;obtain⟨h1,h2⟩:=ti hj;exact qn h2 (h.live t j h1)
theorem ax.put(hM:ax P G w0 μ φ m w){site:Nat}{b:bJ}{ph:aF}(hs:m site=none)(I1:jw w0.heap.size w w')(mh:∀k o,μ k=some o→w'.heap[k]?=some o)(hold:∀id b' g,m id=some b'→b'.owns (φ id) g→w'.heap[g]?=w.heap[g]?)(rR:∀g,b.owns ph g→w0.heap.size≤g∧μ g=none∧∀id b',m id=some b'→¬b'.owns (φ id) g)(Bf:b.apart ph)(hB:fR P μ (fun i=>if i=site then ph else φ i) w' site b)(hn:∀id,b.names id=true→(m id).isSome=true)(VO:∀st,b=.loop st→∃g rc,ph.g=some g∧w0.rc site=some (g,rc)∧w'.heap[g]?=some (.loop (st.obj rc))):ax P G w0 μ (fun i=>if i=site then ph else φ i) (an m site b) w':=by
 refine⟨hM.below.trans I1,mh,hM.aH,fun id b' hid=>?_,fun id b' g hid hg=>?_,fun PX id2 b1 b2 g h1 h2 g1 g2=>?_,fun id b' hid=>?_,fun j cs id hj hh=>?_,hM.base,hM.dC,fun id st hid=>?_⟩
 rotate_right
 ·by_cases h:id=site
  ·subst h;rw[aM]at hid;simp only[Option.some.injEq]at hid;obtain⟨g,rc,h1,h2,h3⟩:=VO st hid;exact⟨g,rc,by simp[h1],h2,h3⟩
  ·rw[ao h]at hid;obtain⟨g,rc,h1,h2,h3⟩:=hM.y8 id st hid;exact⟨g,rc,by simp only[h,if_false];exact h1,h2,by rw[hold id _ g hid (.inl h1)];exact h3⟩
 ·by_cases h:id=site
  ·subst h;rw[aM]at hid;simp only[Option.some.injEq]at hid;subst hid;exact hB
  ·rw[ao h]at hid;have hR:=hM.dI id b' hid;refine hR.cH (fun j hj=>?_) (by simp[h]) (fun _ _ h=>h) (fun g hg=>hold id b' g hid hg);have:=hM.I0 hid hj;have:j≠site:=fun e=>by subst e;rw[hs]at this;cases this
   simp[this]
 ·by_cases h:id=site
  ·subst h;rw[aM]at hid;simp only[Option.some.injEq]at hid;subst hid;simp only[if_true]at hg;exact⟨(rR g hg).1,fun _=>(rR g hg).2.1⟩
  ·rw[ao h]at hid;simp only[h,if_false]at hg;exact hM.own id b' g hid hg
 ·by_cases e1:PX=site
  ·by_cases e2:id2=site
   ·rw[e1,e2]
   ·exfalso;subst e1;rw[aM]at h1;simp only[Option.some.injEq]at h1;subst h1;simp only[if_true]at g1;rw[ao e2]at h2;simp only[e2,if_false]at g2;exact(rR g g1).2.2 id2 b2 h2 g2
  ·by_cases e2:id2=site
   ·exfalso;subst e2;rw[aM]at h2;simp only[Option.some.injEq]at h2;subst h2;simp only[if_true]at g2;rw[ao e1]at h1;simp only[e1,if_false]at g1;exact(rR g g2).2.2 PX b1 h1 g1
   ·rw[ao e1]at h1;rw[ao e2]at h2;simp only[e1,if_false]at g1;simp only[e2,if_false]at g2;exact hM.inj PX id2 b1 b2 g h1 h2 g1 g2
 ·by_cases h:id=site
  ·subst h;rw[aM]at hid;simp only[Option.some.injEq]at hid;subst hid;simp only[if_true];exact Bf
  ·rw[ao h]at hid;simp only[h,if_false];exact hM.apart id b' hid
 ·by_cases e:id=site
  ·subst e;simp
  ·rw[ao e];by_cases h:j=site
   ·subst h;rw[aM]at hj;simp only[Option.some.injEq]at hj;subst hj;exact hn id hh
   ·rw[ao h]at hj;exact hM.fi j cs id hj hh
end
section
variable {R:Type} {E:Env}
structure jy(P:Program)(w0:bx)(μ:Ro)(φ:Nat→aF)(m:Mem)(w w':World)(site:Nat)(b:bJ)(ph:aF):Prop where
 below:jw w0.heap.size w w'
 ro:∀k o,μ k=some o→w'.heap[k]?=some o
 kF:∀id b' g,m id=some b'→b'.owns (φ id) g→w'.heap[g]?=w.heap[g]?
 own:∀g,ph.g=some g→w0.heap.size≤g∧μ g=none∧∀id b',m id=some b'→¬b'.owns (φ id) g
 rep:∀φ',φ' site=ph→(∀id,b.names id=true→φ' id=φ id)→fR P μ φ' w' site b
 names:∀id,b.names id=true→(m id).isSome=true
 lp:∀st,b=.loop st→∃g rc,ph.g=some g∧w0.rc site=some (g,rc)∧w'.heap[g]?=some (.loop (st.obj rc)):=by intro st h;cases h
theorem cJ{draw:Bool}{site:Nat}{b:bJ}{f:Fr}{m:Mem}{k:Fr→Mem→bp→Option R}{r:R}(h:fresh draw site b f m k=some r)(Gs:∀i off,b.rowAt i off=true→False:=by intro i off h;simp[bJ.rowAt]at h):∃f' m',(∀(R':Type)(k':Fr→Mem→bp→Option R'),fresh draw site b f m k'=k' f' m' [(true,site)])∧k f' m' [(true,site)]=some r∧m' site=some b∧(draw=true→m site=none∧f'=f∧m'=an m site b)∧(∀(P:Program)(G:Nat→Option (List PV))(w0:bx)(μ:Ro)(φ:Nat→aF)(w w':World)(ρ:Nat→Value)(ph:aF),ax P G w0 μ φ m w→ck P μ φ m f ρ→jy P w0 μ φ m w w' site b ph→∃φ',φ' site=ph∧ax P G w0 μ φ' m' w'∧ck P μ φ' m' f' ρ):=by
 unfold fresh at h;cases hs:m site with
 |none=>
  simp only[hs]at h;refine⟨f,an m site b,fun R' k'=>by simp only[fresh,hs],h,by simp,fun _=>⟨rfl,rfl,rfl⟩,fun P G w0 μ φ w w' ρ ph hM hF hp=>?_⟩;have I2:∀id,(m id).isSome=true→id≠site:=fun id hid e=>by subst e;rw[hs]at hid;cases hid
  refine⟨fun i=>if i=site then ph else φ i,by simp,hM.put hs hp.below hp.ro hp.kF (fun g hg=>hp.own g (mi Gs hg)) (ov Gs) (hp.rep _ (by simp) fun id hid=>by simp[I2 id (hp.names id hid)]) hp.names hp.lp,?_⟩;exact hF.mono (fun _ _ h=>h) fun id hid=>⟨by simp[I2 id hid],by rw[ao (I2 id hid)];exact hid⟩
 |some b0=>
  simp only[hs]at h;split at h
  ·cases h
  ·rename_i hc;simp only[Bool.or_eq_true,not_or,Bool.not_eq_true]at hc;refine⟨eP site f,an (bC site m) site b,fun R' k'=>by simp only[fresh,hs];simp[hc],h,by simp,fun hd=>(by rw[hc.1]at hd;cases hd),fun P G w0 μ φ w w' ρ ph hM hF hp=>?_⟩;have qW:=hM.forget site;have Aa:=hF.forget site;have hs1:bf (bC site m) site site=none:=by simp
   have I2:∀id,(bf (bC site m) site id).isSome=true→id≠site:=fun id hid e=>by subst e;simp at hid
   have Y4:∀id,b.names id=true→id≠site:=fun id hid e=>by subst e;rw[hc.2]at hid;cases hid
   refine⟨fun i=>if i=site then ph else φ i,by simp,?_,?_⟩
   ·rw[←vt];refine qW.put hs1 hp.below hp.ro (fun id b' g hid hg=>?_) (fun g hg=>?_) (ov Gs) (hp.rep _ (by simp) fun id hid=>by simp[Y4 id hid]) (fun id hid=>qn (Y4 id hid) (hp.names id hid)) hp.lp
    ·obtain⟨_,b2,pB,rfl⟩:=eM hid;exact hp.kF id b2 g pB (fD.1 hg)
    ·obtain⟨h1,h2,h3⟩:=hp.own g (mi Gs hg);refine⟨h1,h2,fun id b' hid ho=>?_⟩;obtain⟨_,b2,pB,rfl⟩:=eM hid;exact h3 id b2 pB (fD.1 ho)
   ·rw[←vt];exact Aa.mono (fun _ _ h=>h) fun id hid=>⟨by simp[I2 id hid],by rw[ao (I2 id hid)];exact hid⟩
theorem jy.alloc{P:Program}{G:Nat→Option (List PV)}{w0:bx}{μ:Ro}{φ:Nat→aF}{m:Mem}{w:World}{site:Nat}{b:bJ}{ph:aF}{o:Obj}(hM:ax P G w0 μ φ m w)(Ud:ph.g=some w.heap.size)(rep:∀φ',φ' site=ph→(∀id,b.names id=true→φ' id=φ id)→fR P μ φ' (w.alloc o) site b)(names:∀id,b.names id=true→(m id).isSome=true)(lp:∀st,b=.loop st→∃g rc,ph.g=some g∧w0.rc site=some (g,rc)∧(w.alloc o).heap[g]?=some (.loop (st.obj rc)):=by intro st h;cases h):jy P w0 μ φ m w (w.alloc o) site b ph:=by
 have kM:w0.heap.size≤w.heap.size:=hM.below.size;refine⟨(jw.refl _ w).alloc kM o,fun k o' hk=>?_,fun id b' g hid hg=>jw.heap_alloc w o g ((hM.dI id b' hid).Bc hg),fun g hg=>?_,rep,names,lp⟩
 ·have:=hM.ro k o' hk;rw[jw.heap_alloc w o k (Array.getElem?_eq_some_iff.1 this).1];exact this
 ·rw[Ud]at hg;simp only[Option.some.injEq]at hg;subst hg;refine⟨kM,?_,fun id b' hid hg=>?_⟩
  ·cases hq:μ w.heap.size with
   |none=>rfl
   |some o'=>have:=hM.ro _ _ hq;simp at this
  ·have:=(hM.dI id b' hid).Bc hg;omega
theorem fE(w:World)(o:Obj):(w.alloc o).heap[w.heap.size]?=some o:=heap_alloc_new w o
variable{t:TypeId}
theorem eE{cs:List V}(h:dg E t=some cs):∃i z,E.P.info? t=some i∧i.zero=some z∧i.size=aS E.P t∧cs.length=aS E.P t∧z.cells.size=aS E.P t∧(∀id,cq id cs=false)∧(∀(μ:Ro)(φ:Nat→aF)(i:Nat)u y,cs[i]?=some u→z.cells[i]?=some y→ai E.P μ φ u y)∧(∀(i:Nat)(y:Value),z.cells[i]?=some y→y.oneCell'=true):=by
 unfold dg zeroV at h;cases hi:E.P.info? t with
 |none=>simp[hi]at h
 |some i=>
  cases hz:i.zero with
  |none=>simp[hi,hz]at h
  |some z=>
   simp only[hi,hz,Option.bind_some,Option.map_some]at h;obtain⟨h1,h2,h3⟩:=toCells_ok h;obtain⟨h4,_,h6⟩:=h3 E.P (fun _=>none) (fun _=>default) z (qS z);refine⟨i,z,rfl,hz,by simp[aS,hi],h1,h4,fun id=>?_,fun μ φ i u y hu hy=>(h3 E.P μ φ z (qS z)).2.1 i u y hu hy,h6⟩;cases hh:cq id cs with
   |false=>rfl
   |true=>have:=h2 id hh;rw[Dc]at this;cases this
variable{P:Program}{w:World}
theorem mj{i:TypeInfo}{z:Value}(hi:P.info? t=some i)(hz:i.zero=some z):(zeroValue t).run P w=.ok z w:=by simp[zeroValue,typeInfo,hi,hz]
theorem Dm{i:TypeInfo}{z:Value}(hi:P.info? t=some i)(hz:i.zero=some z):(Instr.alloc t true (.tuple #[])).run P w=.ok (.pointer (some ⟨w.heap.size,0,none⟩)) (w.alloc (.cells z.cells t)):=by simp[Instr.alloc,mj hi hz,newVar,newRow]
theorem MB{v:Value}:(Instr.box t v).run P w=.ok (.pointer (some ⟨w.heap.size,0,none⟩)) (w.alloc (.cells v.cells t)):=by simp[Instr.box,newVar,newRow]
variable{c:Array Value}
theorem jy.box{G:Nat→Option (List PV)}{w0:bx}{μ:Ro}{φ:Nat→aF}{m:Mem}{site:Nat}{cs:List V}{T:TypeId}(hM:ax P G w0 μ φ m w)(hl:c.size=cs.length)(hv:∀(i:Nat)u y,cs[i]?=some u→c[i]?=some y→ai P μ φ u y)(h1:∀(i:Nat)(y:Value),c[i]?=some y→y.oneCell'=true)(hn:∀id,cq id cs=true→(m id).isSome=true):jy P w0 μ φ m w (w.alloc (.cells c T)) site (.box cs) (CE (some w.heap.size) 0 cs.length 0):=by refine jy.alloc hM (by rfl) (fun φ' hφ N7=>⟨w.heap.size,c,T,by rw[hφ],fE w _,hl,fun i u y hu hy=>?_,h1,by rw[hφ]⟩) hn;exact(hv i u y hu hy).mono (fun _ _ h=>h) fun id hid=>N7 id (bL (List.mem_of_getElem? hu) hid)
theorem kR(h:aS P t≠0):(P.info? t).map (·.size)=some (aS P t):=by obtain⟨i,hi,hs⟩:=uG h;simp[hi,hs]
theorem dz{T:Type}{cs new:List T}{off i:Nat}{x:T}(hb:off+new.length≤cs.length)(h:(bR cs off new)[i]?=some x):(off≤i∧i<off+new.length∧new[i-off]?=some x)∨((i<off∨off+new.length≤i)∧cs[i]?=some x):=by
 rw[dB]at h;rw[List.append_assoc,List.getElem?_append]at h;have ht:(cs.take off).length=off:=by simp;omega
 rw[ht]at h;split at h
 ·rename_i hi;exact .inr ⟨.inl hi,(ek h).2⟩
 ·rw[List.getElem?_append]at h;split at h
  ·exact .inl ⟨by omega,by omega,h⟩
  ·rw[List.getElem?_drop]at h;refine .inr ⟨.inr (by omega),?_⟩;rw[←h];congr 1;omega
theorem cO{T:Type}{cs new:List T}{off:Nat}(hb:off+new.length≤cs.length):(bR cs off new).length=cs.length:=by simp[dB];omega
variable{g:Nat}
theorem gR{v:Value}{o:Nat}{T:TypeId}(hz:v.cells.size=aS P t)(hi:(P.info? t).map (·.size)=some (aS P t))(hg:w.heap[g]?=some (.cells c T (0,0)))(hb:o+v.cells.size≤c.size)(h1:∀(i:Nat)(y:Value),v.cells[i]?=some y→y.oneCell'=true):(Instr.storeAt t (.pointer (some ⟨g,o,none⟩)) v).run P w=.ok () (w.setRow g (bR c.toList o v.cells.toList).toArray):=by
 have sU:=run_storeCells_at P g o T v.cells.toList 0 c w hg (by simpa using hb) (fun x hx=>by obtain⟨i,hi⟩:=List.getElem?_of_mem hx;exact h1 i x (by simpa using hi));have kM:(sizeOf t).run P w=.ok (aS P t) w:=by
  cases hq:P.info? t with
  |none=>simp[hq]at hi
  |some i=>simp[sizeOf,typeInfo,hq,aS]
 simp only[Instr.storeAt,Instr.sureAddr,storeVar,Sem.run_bind,Sem.run_pure,Result.andThen_ok,kM,hz,ne_eq,not_true_eq_false,if_false,sU,Nat.add_zero];rw[dB];try rfl
variable{xs:Array Value}
theorem cK{k:Nat}(h:k≠g):(w.setRow g xs).heap[k]?=w.heap[k]?:=by unfold World.setRow;simp[Array.getElem?_modify,Ne.symm h]
theorem setRow_size:(w.setRow g xs).heap.size=w.heap.size:=by simp[World.setRow]
theorem jw.setRow{B:Nat}(h:B≤g):jw B w (w.setRow g xs):=⟨⟨rfl,rfl,rfl,Nat.le_of_eq setRow_size.symm,fun k hk=>cK (by omega)⟩,fun _=>Nat.le_refl _⟩
end
end Go.Ab
set_option linter.unusedVariables false
namespace Go.Ab
open Go.RowKit (Below)
section
variable {P:Program} {G:Nat→Option (List PV)} {w0:bx} {μ:Ro} {φ:Nat→aF} {m m':Mem} {w:World}
def iO(m m':Mem):Prop:=∀id,(m id).isSome=true→(m' id).isSome=true
theorem iO.refl(m:Mem):iO m m:=fun _ h=>h
theorem iO.trans{a b c:Mem}(h:iO a b)(k:iO b c):iO a c:=fun id hid=>k id (h id hid)
variable{id:Nat}
theorem iO.set{b:bJ}:iO m (an m id b):=fun j hj=>by
 by_cases e:j=id
 ·subst e;simp
 ·rw[ao e];exact hj
theorem ck.kS{f:Fr}{ρ:Nat→Value}{μ':Ro}(h:ck P μ φ m f ρ)(hμ:∀b o,μ b=some o→μ' b=some o)(hl:iO m m'):ck P μ' φ m' f ρ:=h.mono hμ fun id hid=>⟨rfl,hl id hid⟩
variable{v:V}{p:PV}
theorem MC(h:AJ m v=some (p,m')):iO m m'∧∀(P:Program)(G:Nat→Option (List PV))(w0:bx)(μ:Ro)(φ:Nat→aF)(w:World)(x:Value),ax P G w0 μ φ m w→ai P μ φ v x→∃μ',(∀b o,μ b=some o→μ' b=some o)∧ax P G w0 μ' φ m' w∧aj P μ' p x:=by
 unfold AJ at h;split at h
 ·simp only[Option.some.injEq,Prod.mk.injEq]at h;obtain⟨rfl,rfl⟩:=h;exact⟨.refl _,fun P G w0 μ φ w x hM hx=>⟨μ,fun _ _ h=>h,hM,by cases hx with|pv hx=>exact hx⟩⟩
 ·simp only[Option.some.injEq,Prod.mk.injEq]at h;obtain⟨rfl,rfl⟩:=h;exact⟨.refl _,fun P G w0 μ φ w x hM hx=>⟨μ,fun _ _ h=>h,hM,by cases hx;exact .jl⟩⟩
 ·rename_i id;split at h
  ·rename_i s et es hm;simp only[Option.some.injEq,Prod.mk.injEq]at h;obtain⟨rfl,rfl⟩:=h;refine⟨.set,fun P G w0 μ φ w x hM hx=>⟨_,jV hM (φ id).g,hM.freeze hm,?_⟩⟩;refine(hM.arr (.inl hm)).full hM hx (jV hM _) fun g hg=>?_;simp[nr,hg]
  ·rename_i s et es hm;simp only[Option.some.injEq,Prod.mk.injEq]at h;obtain⟨rfl,rfl⟩:=h;refine⟨.refl _,fun P G w0 μ φ w x hM hx=>⟨μ,fun _ _ h=>h,hM,?_⟩⟩;refine(hM.arr (.inr hm)).full hM hx (fun _ _ h=>h) fun g hg=>?_;obtain⟨o,ho⟩:=Option.isSome_iff_exists.1 ((hM.dI id _ hm).2 g hg);rw[ho,hM.ro _ _ ho]
  ·rename_i s et es hm;simp only[Option.some.injEq,Prod.mk.injEq]at h;obtain⟨rfl,rfl⟩:=h;refine⟨.set,fun P G w0 μ φ w x hM hx=>⟨_,ow hM _,hM.MA hm,?_⟩⟩;have QD:=hM.MA hm;have hF:aL P _ φ w id s et (es.map PV.strip):=(QD.dI id _ (aM _ _ _)).1;refine hF.Dg (hx.vn (ow hM _)) (fun _ _ h=>h) fun g hg=>?_;unfold qV;rw[if_pos (show(bJ.nest s et es).owns (φ id) g from .inl hg)]
  ·cases h
 ·cases h
theorem Dn(h:AJ dd v=some (p,m')):∀(P:Program)(μ:Ro)(φ:Nat→aF)(x:Value),ai P μ φ v x→aj P μ p x:=by
 unfold AJ at h;split at h
 ·simp only[Option.some.injEq,Prod.mk.injEq]at h;obtain⟨rfl,rfl⟩:=h;exact fun P μ φ x hx=>by cases hx with|pv hx=>exact hx
 ·simp only[Option.some.injEq,Prod.mk.injEq]at h;obtain⟨rfl,rfl⟩:=h;exact fun P μ φ x hx=>by cases hx;exact .jl
 ·simp[dd]at h
 ·cases h
theorem oz(h:AJ dd v=some (p,m')):m'=dd:=by
 unfold AJ at h;split at h
 ·simp only[Option.some.injEq,Prod.mk.injEq]at h;exact h.2.symm
 ·simp only[Option.some.injEq,Prod.mk.injEq]at h;exact h.2.symm
 ·simp[dd]at h
 ·cases h
theorem Bg:∀{cs:List V}{m m':Mem}{ps:List PV},kx m cs=some (ps,m')→iO m m'∧ps.length=cs.length∧∀(P:Program)(G:Nat→Option (List PV))(w0:bx)(μ:Ro)(φ:Nat→aF)(w:World)(X:Nat→Value),ax P G w0 μ φ m w→(∀(i:Nat)u,cs[i]?=some u→ai P μ φ u (X i))→∃μ',(∀b o,μ b=some o→μ' b=some o)∧ax P G w0 μ' φ m' w∧∀(i:Nat)p,ps[i]?=some p→aj P μ' p (X i)
 |[],m,m',ps,h=>by simp only[kx,Option.some.injEq,Prod.mk.injEq]at h;obtain⟨rfl,rfl⟩:=h;exact⟨.refl _,rfl,fun P G w0 μ φ w X hM _=>⟨μ,fun _ _ h=>h,hM,by simp⟩⟩
 |c::r,m,m',ps,h=>by
  simp only[kx]at h;split at h
  ·rename_i p m1 h1;split at h
   ·rename_i Ue m2 h2;simp only[Option.some.injEq,Prod.mk.injEq]at h;obtain⟨rfl,rfl⟩:=h;obtain⟨a1,a2⟩:=MC h1;obtain⟨b1,b2,b3⟩:=Bg h2;refine⟨a1.trans b1,by simp[b2],fun P G w0 μ φ w X hM hx=>?_⟩;obtain⟨μ1,c1,c2,c3⟩:=a2 P G w0 μ φ w (X 0) hM (hx 0 c (by simp));obtain⟨μ2,d1,d2,d3⟩:=b3 P G w0 μ1 φ w (fun i=>X (i+1)) c2 (fun i u hu=>(hx (i+1) u (by simpa using hu)).vn c1);refine⟨μ2,fun b o h=>d1 b o (c1 b o h),d2,fun i q hq=>?_⟩;cases i with
    |zero=>simp at hq;subst hq;exact c3.mono d1
    |succ i=>exact d3 i q (by simpa using hq)
   ·cases h
  ·cases h
theorem vN:∀{cs:List V}{m':Mem}{ps:List PV},kx dd cs=some (ps,m')→ps.length=cs.length∧∀(P:Program)(μ:Ro)(φ:Nat→aF)(X:Nat→Value),(∀(i:Nat)u,cs[i]?=some u→ai P μ φ u (X i))→∀(i:Nat)p,ps[i]?=some p→aj P μ p (X i)
 |[],m',ps,h=>by simp only[kx,Option.some.injEq,Prod.mk.injEq]at h;obtain⟨rfl,rfl⟩:=h;exact⟨rfl,by simp⟩
 |c::r,m',ps,h=>by
  simp only[kx]at h;split at h
  ·rename_i p m1 h1;split at h
   ·rename_i Ue m2 h2;simp only[Option.some.injEq,Prod.mk.injEq]at h;obtain⟨rfl,rfl⟩:=h;have:=oz h1;subst this;obtain⟨b2,b3⟩:=vN h2;refine⟨by simp[b2],fun P μ φ X hx i q hq=>?_⟩;cases i with
    |zero=>simp at hq;subst hq;exact Dn h1 P μ φ _ (hx 0 c (by simp))
    |succ i=>exact b3 P μ φ (fun i=>X (i+1)) (fun i u hu=>hx (i+1) u (by simpa using hu)) i q (by simpa using hq)
   ·cases h
  ·cases h
structure qo(P:Program)(μ:Ro)(n:Nat)(p:PV)(x:Value):Prop where
 len:p.cells.length=n
 size:x.cells.size=n
 rep:∀(j:Nat)q y,p.cells[j]?=some q→x.cells[j]?=some y→aj P μ q y
 one:∀(j:Nat)y,x.cells[j]?=some y→y.oneCell'=true
variable{n:Nat}{agg:Bool}
theorem vu{P:Program}{μ:Ro}{ps:List PV}{x:Value}(hp:(if agg then some (.agg ps)else match ps with|[p]=>some p|_=>none)=some p)(hl:ps.length=n)(hs:x.cells.size=n)(hr:∀(j:Nat)q y,ps[j]?=some q→x.cells[j]?=some y→aj P μ q y)(h1:∀(j:Nat)y,x.cells[j]?=some y→y.oneCell'=true):qo P μ n p x:=by
 have hc:p.cells=ps:=by
  cases agg with
  |true=>simp at hp;subst hp;rfl
  |false=>
   simp only[Bool.false_eq_true,if_false]at hp;split at hp
   ·rename_i q;simp only[Option.some.injEq]at hp;subst hp;have br:0<x.cells.size:=by simp at hl;omega
    have Y5:=hr 0 q _ (by simp) (Array.getElem?_eq_getElem br);have FY:=h1 0 _ (Array.getElem?_eq_getElem br);generalize x.cells[0]=y at Y5 FY;cases q<;>first|rfl|(cases Y5;simp[Value.oneCell']at FY)
   ·cases hp
 exact⟨by rw[hc];exact hl,hs,by rw[hc];exact hr,h1⟩
theorem Bh{m m':Mem}(h:iW m n agg v=some (p,m')):iO m m'∧∀(P:Program)(G:Nat→Option (List PV))(w0:bx)(μ:Ro)(φ:Nat→aF)(w:World)(x:Value),ax P G w0 μ φ m w→ai P μ φ v x→∃μ',(∀b o,μ b=some o→μ' b=some o)∧ax P G w0 μ' φ m' w∧qo P μ' n p x:=by
 unfold iW at h;split at h
 ·rename_i cs hc;obtain⟨c1,c2,c3⟩:=toCells_ok hc;split at h
  ·rename_i ps m1 hf;obtain⟨f1,f2,f3⟩:=Bg hf;have hp:(if agg then some (.agg ps)else match ps with|[p]=>some p|_=>none)=some p∧m1=m':=by
    cases agg with
    |true=>simp at h;exact⟨by simp[h.1],h.2⟩
    |false=>
     simp only[Bool.false_eq_true,if_false]at h⊢;split at h
     ·simp only[Option.some.injEq,Prod.mk.injEq]at h;exact⟨by simp[h.1],h.2⟩
     ·cases h
   obtain⟨hp,rfl⟩:=hp;refine⟨f1,fun P G w0 μ φ w x hM hx=>?_⟩;obtain⟨d1,d2,d3⟩:=c3 P μ φ x hx;have hX:∀(i:Nat),i<cs.length→x.cells[i]?=some (x.cells.getD i undef):=fun i hi=>by
    have br:i<x.cells.size:=by omega
    rw[Array.getElem?_eq_getElem br];simp[Array.getD,br]
   obtain⟨μ',e1,e2,e3⟩:=f3 P G w0 μ φ w (fun i=>x.cells.getD i undef) hM fun i u hu=>d2 i u _ hu (hX i (List.getElem?_eq_some_iff.1 hu).1);refine⟨μ',e1,e2,vu hp (by omega) d1 (fun j q y hq hy=>?_) d3⟩;have:=e3 j q hq;rw[hX j (by have:=(List.getElem?_eq_some_iff.1 hq).1;omega)]at hy;simp only[Option.some.injEq]at hy;subst hy;exact this
  ·cases h
 ·cases h
theorem wP{m':Mem}(h:iW dd n agg v=some (p,m')):∀(P:Program)(μ:Ro)(φ:Nat→aF)(x:Value),ai P μ φ v x→qo P μ n p x:=by
 unfold iW at h;split at h
 ·rename_i cs hc;obtain⟨c1,c2,c3⟩:=toCells_ok hc;split at h
  ·rename_i ps m1 hf;obtain⟨f2,f3⟩:=vN hf;have hp:(if agg then some (.agg ps)else match ps with|[p]=>some p|_=>none)=some p:=by
    cases agg with
    |true=>simp at h;simp[h.1]
    |false=>
     simp only[Bool.false_eq_true,if_false]at h⊢;split at h
     ·simp only[Option.some.injEq,Prod.mk.injEq]at h;simp[h.1]
     ·cases h
   refine fun P μ φ x hx=>?_;obtain⟨d1,d2,d3⟩:=c3 P μ φ x hx;have hX:∀(i:Nat),i<cs.length→x.cells[i]?=some (x.cells.getD i undef):=fun i hi=>by
    have br:i<x.cells.size:=by omega
    rw[Array.getElem?_eq_getElem br];simp[Array.getD,br]
   have e3:=f3 P μ φ (fun i=>x.cells.getD i undef) fun i u hu=>d2 i u _ hu (hX i (List.getElem?_eq_some_iff.1 hu).1);refine vu hp (by omega) d1 (fun j q y hq hy=>?_) d3;have:=e3 j q hq;rw[hX j (by have:=(List.getElem?_eq_some_iff.1 hq).1;omega)]at hy;simp only[Option.some.injEq]at hy;subst hy;exact this
  ·cases h
 ·cases h
theorem Gt{draw:Bool}{m m':Mem}(h:sZ draw m n agg v=some (p,m')):iO m m'∧(draw=true→m'=m∧∀m2:Mem,sZ true m2 n agg v=some (p,m2))∧∀(P:Program)(G:Nat→Option (List PV))(w0:bx)(μ:Ro)(φ:Nat→aF)(w:World)(x:Value),ax P G w0 μ φ m w→ai P μ φ v x→∃μ',(∀b o,μ b=some o→μ' b=some o)∧ax P G w0 μ' φ m' w∧qo P μ' n p x:=by
 unfold sZ at h;split at h
 ·rename_i hd;split at h
  ·rename_i q m1 hf;simp only[Option.some.injEq,Prod.mk.injEq]at h;obtain⟨rfl,rfl⟩:=h;exact⟨.refl _,fun _=>⟨rfl,fun m2=>by simp[sZ,hf]⟩,fun P G w0 μ φ w x hM hx=>⟨μ,fun _ _ h=>h,hM,wP hf P μ φ x hx⟩⟩
  ·cases h
 ·rename_i hd;obtain⟨h1,h2⟩:=Bh h;exact⟨h1,fun MD=>absurd MD hd,h2⟩
theorem aL.set{P:Program}{μ:Ro}{φ:Nat→aF}{w:World}{id sz:Nat}{et:TypeId}{es:List PV}(hA:aL P μ φ w id sz et es){g:Nat}(hg:(φ id).g=some g){i off n:Nat}{e p q:PV}{x:Value}(he:es[i]?=some e)(hE:qo P μ n p x)(hb:off+n≤sz)(hq:q.cells=bR (aK sz e) off p.cells):∃c T,w.heap[g]?=some (.cells c T (0,0))∧i*sz+off+x.cells.size≤c.size∧aL P μ φ (w.setRow g (bR c.toList (i*sz+off) x.cells.toList).toArray) id sz et (es.set i q):=by
 obtain⟨a1,a2,a3,a4,a5,a6,a7⟩:=hA;rw[hg]at a7;obtain⟨c,c1,c2,c3,c4,c5⟩:=a7;have hi:i<es.length:=(List.getElem?_eq_some_iff.1 he).1;have Eu:i*sz+off+n≤c.size:=by have:(i+1)*sz≤(φ id).cap*sz:=Nat.mul_le_mul_right _ (by omega);rw[Nat.add_mul]at this;omega
 have Dp:x.cells.toList.length=n:=by simpa using hE.size
 have A9:(aK sz e).length=sz:=bl _ _;have TX:q.cells.length=sz:=by rw[hq,cO (by rw[A9,hE.len];exact hb),A9]
 have jb:(bR c.toList (i*sz+off) x.cells.toList).length=c.size:=by rw[cO (by simp[hE.size];omega)];simp
 have qX:∀(i':Nat)e',(es.set i q)[i']?=some e'→(i'=i∧e'=q)∨(i'≠i∧es[i']?=some e'):=by
  intro i' e' h';rw[List.getElem?_set]at h';split at h'
  ·rename_i Dq;subst Dq;simp[hi]at h';exact .inl ⟨rfl,h'.symm⟩
  ·rename_i Dq;exact .inr ⟨fun e=>Dq e.symm,h'⟩
 refine⟨c,et,c1,by rw[hE.size];exact Eu,?_⟩;refine⟨by simp[a1],a2,a3,a4,fun i' e' h'=>?_,a6,?_⟩
 ·rcases qX i' e' h' with⟨_,rfl⟩|⟨_,h'⟩
  ·exact TX
  ·exact a5 i' e' h'
 ·rw[hg];refine⟨_,setRow_heap w g c _ et (0,0) c1,by simp[jb,c2],by simpa using c3,fun i' e' j p' x' h' hj hx=>?_,fun j x' hj hx=>?_⟩
  ·rw[List.getElem?_toArray]at hx;rcases dz (by simp[hE.size];omega) hx with⟨b1,b2,b3⟩|⟨b1,b2⟩
   ·rw[Dp]at b2;have Dq:i'=i∧e'=q:=by
     rcases qX i' e' h' with h|⟨cS,h'⟩
     ·exact h
     ·exfalso;have xJ:=(List.getElem?_eq_some_iff.1 hj).1;rw[a5 i' e' h']at xJ;rcases Nat.lt_or_gt_of_ne cS with br|hgt
      ·have:(i'+1)*sz≤i*sz:=Nat.mul_le_mul_right _ br;rw[Nat.add_mul]at this;omega
      ·have:(i+1)*sz≤i'*sz:=Nat.mul_le_mul_right _ hgt;rw[Nat.add_mul]at this;omega
    obtain⟨rfl,rfl⟩:=Dq;rw[hq]at hj;rcases dz (by rw[A9,hE.len];exact hb) hj with⟨d1,d2,d3⟩|⟨d1,d2⟩
    ·exact hE.rep _ _ _ d3 (by rw[←Array.getElem?_toList,←b3];congr 1;omega)
    ·exfalso;rw[hE.len]at d1;omega
   ·rw[Dp]at b1;have b2:c[i'*sz+j]?=some x':=by simpa using b2
    rcases qX i' e' h' with⟨rfl,rfl⟩|⟨cS,h'⟩
    ·rw[hq]at hj;rcases dz (by rw[A9,hE.len];exact hb) hj with⟨d1,d2,d3⟩|⟨d1,d2⟩
     ·exfalso;rw[hE.len]at d2;omega
     ·rw[fK (a5 i' e he)]at d2;exact c4 i' e j p' x' he d2 b2
    ·exact c4 i' e' j p' x' h' hj b2
  ·rw[List.getElem?_toArray]at hx;rw[List.length_set]at hj;rcases dz (by simp[hE.size];omega) hx with⟨b1,b2,b3⟩|⟨b1,b2⟩
   ·exact hE.one _ x' (by simpa using b3)
   ·exact c5 j x' hj (by simpa using b2)
variable{off:Nat}
theorem Ev{s0:Nat}{e:PV}(he:e.cells.length=s0)(ho:off<s0)(hp:∀cs,p≠.agg cs):(setRow s0 e off p).cells=e.cells.set off p:=by
 have h1:p.cells=[p]:=by cases p<;>first|rfl|exact absurd rfl (hp _)
 unfold setRow;split
 ·rename_i hs;subst hs;have:off=0:=by omega
  subst this;match hc:e.cells,he with
  |[c],_=>simp[h1]
 ·simp only[PV.cells,fK he]
theorem Bi{s:Nat}{e:PV}(h1:p.cells.length=n)(h2:e.cells.length=s):(setCells s e off n p).cells=bR (aK s e) off p.cells:=by
 unfold setCells;split
 ·rename_i h;obtain⟨rfl,rfl⟩:=h;rw[dB,h1];simp[bl]
 ·rfl
theorem aV.change{P:Program}{μ μ':Ro}{φ φ':Nat→aF}{w w':World}{sz:Nat}{et:TypeId}{es es':List PV}(h:aV P μ φ w id sz et es)(hlen:es'.length=es.length)(sF:∀(i:Nat)e,es'[i]?=some e→e.cells.length=sz)(hφ:(φ' id).toy9=(φ id).toy9)(hw:∀g,(φ id).g=some g→w'.heap[g]?=w.heap[g]?)(hc:∀(i:Nat)e'(j:Nat)p' g c x,es'[i]?=some e'→e'.cells[j]?=some p'→(φ id).g=some g→w.heap[g]?=some (.cells c et (0,0))→c[i*sz+j]?=some x→(∀e p,es[i]?=some e→e.cells[j]?=some p→eg P μ ((φ id).row i j) w p x)→eg P μ' ((φ' id).row i j) w' p' x):aV P μ' φ' w' id sz et es':=by
 obtain⟨a1,a2,a3,a4,a5,a6,a7⟩:=h;unfold aV;rw[hφ];refine⟨by rw[hlen];exact a1,a2,a3,a4,sF,a6,?_⟩;cases hg:(φ id).g with
 |none=>rw[hg]at a7;refine⟨?_,a7.2⟩;have:=a7.1;subst this;exact List.eq_nil_of_length_eq_zero hlen
 |some g=>rw[hg]at a7;obtain⟨c,c1,c2,c3,c4,c5⟩:=a7;exact⟨c,by rw[hw g hg];exact c1,c2,by rw[hlen];exact c3,fun i e' j p' x h1 h2 h3=>hc i e' j p' g c x h1 h2 hg c1 h3 fun e p he hp=>c4 i e j p x he hp h3,fun i x hi hx=>c5 i x (by rw[←hlen];exact hi) hx⟩
theorem eh{T:Type}{l:List T}{i i':Nat}{q e':T}(h:(l.set i q)[i']?=some e'):(i'=i∧e'=q)∨(i'≠i∧l[i']?=some e'):=by
 rw[List.getElem?_set]at h;split at h
 ·rename_i Dq;subst Dq;split at h
  ·simp only[Option.some.injEq]at h;exact .inl ⟨rfl,h.symm⟩
  ·cases h
 ·rename_i Dq;exact .inr ⟨fun e=>Dq e.symm,h⟩
theorem aV.set{P:Program}{μ:Ro}{φ:Nat→aF}{w:World}{sz:Nat}{et:TypeId}{es:List PV}(hA:aV P μ φ w id sz et es)(Bf:(bJ.nest sz et es).apart (φ id)){g:Nat}(hg:(φ id).g=some g){i:Nat}{e q:PV}{x:Value}(he:es[i]?=some e)(hE:qo P μ n p x)(hb:off+n≤sz)(hq:q.cells=bR (aK sz e) off p.cells):∃c T,w.heap[g]?=some (.cells c T (0,0))∧i*sz+off+x.cells.size≤c.size∧aV P μ φ (w.setRow g (bR c.toList (i*sz+off) x.cells.toList).toArray) id sz et (es.set i q)∧∀i' qi,(bJ.nest sz et (es.set i q)).rowAt i' qi=true→(bJ.nest sz et es).rowAt i' qi=true:=by
 have sT:=hA;obtain⟨a1,a2,a3,a4,a5,a6,a7⟩:=hA;rw[hg]at a7;obtain⟨c,c1,c2,c3,c4,c5⟩:=a7;have hi:i<es.length:=(List.getElem?_eq_some_iff.1 he).1;have Eu:i*sz+off+n≤c.size:=by have:(i+1)*sz≤(φ id).cap*sz:=Nat.mul_le_mul_right _ (by omega);rw[Nat.add_mul]at this;omega
 have Dp:x.cells.toList.length=n:=by simpa using hE.size
 have A9:(aK sz e).length=sz:=bl _ _;have TX:q.cells.length=sz:=by rw[hq,cO (by rw[A9,hE.len];exact hb),A9]
 have jb:(bR c.toList (i*sz+off) x.cells.toList).length=c.size:=by rw[cO (by simp[hE.size];omega)];simp
 have cS:∀i' j' g',(bJ.nest sz et es).rowAt i' j'=true→((φ id).row i' j').g=some g'→g'≠g:=fun i' j' g' hr bV e=>(Bf i' j' g' hr bV).1 (by rw[e];exact hg);have sU:∀{i' j':Nat}{e' p':PV}{x':Value}{l:List Value},es[i']?=some e'→e'.cells[j']?=some p'→eg P μ ((φ id).row i' j') w p' x'→eg P μ ((φ id).row i' j') (w.setRow g l.toArray) p' x':=fun h1 h2 h3=>h3.cH (fun _ _ h=>h) fun hr g' bV=>cK (cS _ _ g' (by rw[dy h1 h2];exact hr) bV);refine⟨c,et,c1,by rw[hE.size];exact Eu,⟨by simp[a1],a2,a3,a4,fun i' e' h'=>?_,a6,?_⟩,?_⟩
 ·rcases eh h' with⟨_,rfl⟩|⟨_,h'⟩
  ·exact TX
  ·exact a5 i' e' h'
 ·rw[hg];refine⟨_,setRow_heap w g c _ et (0,0) c1,by simp[jb,c2],by simpa using c3,fun i' e' j p' x' h' hj hx=>?_,fun j x' hj hx=>?_⟩
  ·rw[List.getElem?_toArray]at hx;rcases dz (by simp[hE.size];omega) hx with⟨b1,b2,b3⟩|⟨b1,b2⟩
   ·rw[Dp]at b2;have Dq:i'=i∧e'=q:=by
     rcases eh h' with h|⟨cS,h'⟩
     ·exact h
     ·exfalso;have xJ:=(List.getElem?_eq_some_iff.1 hj).1;rw[a5 i' e' h']at xJ;rcases Nat.lt_or_gt_of_ne cS with br|hgt
      ·have:(i'+1)*sz≤i*sz:=Nat.mul_le_mul_right _ br;rw[Nat.add_mul]at this;omega
      ·have:(i+1)*sz≤i'*sz:=Nat.mul_le_mul_right _ hgt;rw[Nat.add_mul]at this;omega
    obtain⟨rfl,rfl⟩:=Dq;rw[hq]at hj;rcases dz (by rw[A9,hE.len];exact hb) hj with⟨d1,d2,d3⟩|⟨d1,d2⟩
    ·exact .pure (hE.rep _ _ _ d3 (by rw[←Array.getElem?_toList,←b3];congr 1;omega))
    ·exfalso;rw[hE.len]at d1;omega
   ·rw[Dp]at b1;have b2:c[i'*sz+j]?=some x':=by simpa using b2
    rcases eh h' with⟨rfl,rfl⟩|⟨cS,h'⟩
    ·rw[hq]at hj;rcases dz (by rw[A9,hE.len];exact hb) hj with⟨d1,d2,d3⟩|⟨d1,d2⟩
     ·exfalso;rw[hE.len]at d2;omega
     ·rw[fK (a5 i' e he)]at d2;exact sU he d2 (c4 i' e j p' x' he d2 b2)
    ·exact sU h' hj (c4 i' e' j p' x' h' hj b2)
  ·rw[List.getElem?_toArray]at hx;rw[List.length_set]at hj;rcases dz (by simp[hE.size];omega) hx with⟨b1,b2,b3⟩|⟨b1,b2⟩
   ·exact hE.one _ x' (by simpa using b3)
   ·exact c5 j x' hj (by simpa using b2)
 ·intro i' qi hr;rcases iN hr with⟨_,_,_,e',s,rs,fQ,h',pQ⟩|⟨_,_,_,_,_,_,fQ,_⟩
  ·simp only[bJ.nest.injEq]at fQ;obtain⟨rfl,rfl,rfl⟩:=fQ;rcases eh h' with⟨rfl,rfl⟩|⟨cS,h'⟩
   ·rw[hq]at pQ;rcases dz (by rw[A9,hE.len];exact hb) pQ with⟨d1,d2,d3⟩|⟨d1,d2⟩
    ·exfalso;have br:qi-off<x.cells.size:=by rw[hE.size,←hE.len];exact(List.getElem?_eq_some_iff.1 d3).1
     exact absurd (hE.rep _ _ _ d3 (Array.getElem?_eq_getElem br)).Aq (by simp[PV.isRow])
    ·rw[fK (a5 i' e he)]at d2;rw[dy he d2];rfl
   ·rw[dy h' pQ];rfl
  ·cases fQ
end
section
variable {R:Type} {E:Env}
theorem N8{draw:Bool}{t:TypeId}{a x:V}{m:Mem}{k:Mem→bp→Option R}{r:R}(h:rN E draw t a x m k=some r):∃m' ft,k m' ft=some r∧(draw=true→∃id b,m'=an m id b∧ft=[(true,id)]∧∀m2:Mem,m2 id=m id→∀(R':Type)(k':Mem→bp→Option R'),rN E true t a x m2 k'=k' (an m2 id b) [(true,id)])∧iO m m'∧∀(G:Nat→Option (List PV))(w0:bx)(μ:Ro)(φ:Nat→aF)(w:World)(ya yx:Value),ax E.P G w0 μ φ m w→ai E.P μ φ a ya→ai E.P μ φ x yx→(∀id,x.has id=true→(m id).isSome=true)→∃w' μ',(Instr.storeAt t ya yx).run E.P w=.ok () w'∧(∀b o,μ b=some o→μ' b=some o)∧ax E.P G w0 μ' φ m' w':=by
 unfold rN at h;split at h
 ·rename_i id off;split at h
  ·rename_i cs hm;split at h
   ·rename_i new hn;split at h
    ·rename_i hb;refine⟨_,_,h,fun hd=>⟨id,_,rfl,rfl,fun m2 cG R' k'=>by simp only[rN,cG,hm,hn];rw[if_pos hb]⟩,.set,fun G w0 μ φ w ya yx hM ha hx hlx=>?_⟩;obtain⟨n1,n2,n3⟩:=toCells_ok hn;obtain⟨x1,x2,x3⟩:=n3 _ _ _ _ hx;cases ha with
     | @op _ _ g hg=>
      obtain⟨g',c,T,bV,hh,hs,hv,h1,xZ⟩:=hM.dI id _ hm;rw[hg]at bV;simp only[Option.some.injEq]at bV;subst bV;have hi:=kR (P:=E.P) (t:=t) (by omega);have nD:off+yx.cells.toList.length≤c.toList.length:=by simp;omega
      refine⟨_,μ,gR x1 hi hh (by omega) x3,fun _ _ h=>h,?_⟩;refine hM.write hm rfl hg (jw.setRow (Nat.le_refl _)) setRow_size (fun k hk=>cK hk) ⟨g,_,T,hg,setRow_heap w g c _ T (0,0) hh,?_,fun i u y hu hy=>?_,fun i y hy=>?_,by rw[cO (by omega)];exact xZ⟩ rfl fun j hj=>?_
      ·simp only[List.size_toArray];rw[cO nD,cO (by omega)];simp[hs]
      ·rw[List.getElem?_toArray]at hy;have e1:yx.cells.toList.length=new.length:=by simp;omega
       rcases dz nD hy with⟨b1,b2,b3⟩|⟨b1,b2⟩<;>rcases dz (by omega) hu with⟨d1,d2,d3⟩|⟨d1,d2⟩
       ·exact x2 _ u y d3 (by simpa using b3)
       ·exfalso;omega
       ·exfalso;omega
       ·exact hv i u y d2 (by simpa using b2)
      ·rw[List.getElem?_toArray]at hy;rcases dz nD hy with⟨b1,b2,b3⟩|⟨b1,b2⟩
       ·exact x3 _ y (by simpa using b3)
       ·exact h1 i y (by simpa using b2)
      ·simp only[bJ.names]at hj;obtain⟨v,FZ,hh'⟩:=cT.1 hj;simp only[dB,List.mem_append]at FZ;rcases FZ with(FZ|FZ)|FZ
       ·exact hM.fi id cs j hm (bL (List.mem_of_mem_take FZ) hh')
       ·exact hlx j (n2 j (bL FZ hh'))
       ·exact hM.fi id cs j hm (bL (List.mem_of_mem_drop FZ) hh')
    ·cases h
   ·cases h
  ·cases h
 ·rename_i id i off;split at h
  ·rename_i p m1 hf;obtain⟨f1,f2,f3⟩:=Gt hf;split at h
   ·rename_i s et es hm;obtain⟨e,he,h⟩:=Option.bind_eq_some_iff.1 h;have key:∀q,0<aS E.P t→off+aS E.P t≤s→(p.cells.length=aS E.P t→e.cells.length=s→q.cells=bR (aK s e) off p.cells)→∀(G:Nat→Option (List PV))(w0:bx)(μ:Ro)(φ:Nat→aF)(w:World)(ya yx:Value),ax E.P G w0 μ φ m w→ai E.P μ φ (.oe id i off) ya→ai E.P μ φ x yx→(∀id,x.has id=true→(m id).isSome=true)→∃w' μ',(Instr.storeAt t ya yx).run E.P w=.ok () w'∧(∀b o,μ b=some o→μ' b=some o)∧ax E.P G w0 μ' φ (an m1 id (.arr s et (es.set i q))) w':=by
     intro q hz hb hq G w0 μ φ w ya yx hM ha hx _;obtain⟨μ',g1,g2,g3⟩:=f3 _ _ _ _ _ _ _ hM hx;cases ha with
     | @oe _ _ _ g hg=>have hA:aL E.P μ' φ w id s et es:=g2.dI id _ hm;have N9:=hq g3.len (hA.2.2.2.2.1 i e he);obtain⟨c,T,hh,nD,sT⟩:=hA.set hg he g3 hb N9;have kM:(φ id).sz=s:=hA.2.1;have hi:=kR (P:=E.P) (t:=t) (by omega);refine⟨_,μ',?_,g1,g2.write hm rfl hg (jw.setRow (Nat.le_refl _)) setRow_size (fun k hk=>cK hk) sT rfl fun j hj=>by simp[bJ.names]at hj⟩;rw[kM];exact gR g3.size hi hh nD g3.one
    split at h
    ·rename_i hb;refine⟨_,_,h,fun hd=>?_,f1.trans .set,key p (by omega) (by omega) fun h1 h2=>?_⟩
     ·obtain⟨rfl,f4⟩:=f2 hd;refine⟨id,_,rfl,rfl,fun m2 cG R' k'=>?_⟩;simp only[rN,f4 m2,cG,hm,he,Option.bind_some];rw[if_pos hb]
     ·rw[hb.1,dB,h1,hb.2.1];simp[bl]
    ·rename_i ZT;split at h
     ·rename_i hb;refine⟨_,_,h,fun hd=>?_,f1.trans .set,key _ (by omega) (by omega) fun _ _=>rfl⟩;obtain⟨rfl,f4⟩:=f2 hd;refine⟨id,_,rfl,rfl,fun m2 cG R' k'=>?_⟩;simp only[rN,f4 m2,cG,hm,he,Option.bind_some];rw[if_neg ZT,if_pos hb]
     ·cases h
   ·rename_i s et es hm;obtain⟨e,he,h⟩:=Option.bind_eq_some_iff.1 h;split at h
    ·rename_i hb;refine⟨_,_,h,fun hd=>?_,f1.trans .set,fun G w0 μ φ w ya yx hM ha hx _=>?_⟩
     ·obtain⟨rfl,f4⟩:=f2 hd;refine⟨id,_,rfl,rfl,fun m2 cG R' k'=>?_⟩;simp only[rN,f4 m2,cG,hm,he,Option.bind_some];rw[if_pos hb]
     ·obtain⟨μ',g1,g2,g3⟩:=f3 _ _ _ _ _ _ _ hM hx;cases ha with
      | @oe _ _ _ g hg=>have hA:aV E.P μ' φ w id s et es:=g2.dI id _ hm;obtain⟨c,T,hh,nD,sT,ZU⟩:=aV.set (q:=.agg (bR (aK s e) off p.cells)) hA (g2.apart id _ hm) hg he g3 hb.1 rfl;have kM:(φ id).sz=s:=hA.2.1;have hi:=kR (P:=E.P) (t:=t) (by omega);refine⟨_,μ',?_,g1,g2.write hm rfl hg (jw.setRow (Nat.le_refl _)) setRow_size (fun k hk=>cK hk) sT rfl (fun j hj=>by simp[bJ.names]at hj) (fun st h=>by cases h) ZU⟩;rw[kM];exact gR g3.size hi hh nD g3.one
    ·cases h
   ·cases h
  ·cases h
 ·rename_i id i off s j off2;split at h
  ·rename_i p m1 hf;split at h
   ·rename_i s0 et es hm;obtain⟨e,he,h⟩:=Option.bind_eq_some_iff.1 h;obtain⟨rs,hr,h⟩:=Option.bind_eq_some_iff.1 h;obtain⟨q,hq,h⟩:=Option.bind_eq_some_iff.1 h;split at h
    ·rename_i hb;refine⟨_,_,h,fun _=>⟨id,_,rfl,rfl,fun m2 cG R' k'=>?_⟩,.set,fun G w0 μ φ w ya yx hM ha hx _=>?_⟩
     ·simp only[rN,hf,cG,hm,he,hr,hq,Option.bind_some];rw[if_pos hb]
     ·have hE:=wP hf E.P μ φ yx hx;have hN:aV E.P μ φ w id s0 et es:=hM.dI id _ hm;obtain⟨g,y,hg,vv,⟨⟨AP,hA⟩,hV⟩,ZO⟩:=hN.row he hr;have Bf:=hM.apart id _ hm;have iK:(bJ.nest s0 et es).rowAt i off=true:=by rw[dy he ZO];rfl
      have yb:=hN.2.2.2.2.1 i e he;have Ew:(setRow s0 e off (.fP s (rs.set j (setCells s q off2 (aS E.P t) p)))).cells=e.cells.set off (.fP s (rs.set j (setCells s q off2 (aS E.P t) p))):=Ev yb hb.2.2 (by simp);cases ha with
      | @wC _ _ _ _ _ _ g' bV hs=>
       obtain⟨cS,ZV⟩:=Bf i off g' iK bV;obtain⟨c,T,hh,nD,sT⟩:=hA.set (g:=g') bV hq hE hb.1 (Bi hE.len (hA.2.2.2.2.1 j q hq));have hi:=kR (P:=E.P) (t:=t) (by omega);refine⟨_,μ,gR hE.size hi hh nD hE.one,fun _ _ h=>h,hM.QC hm rfl (.inr ⟨i,off,iK,bV⟩) (jw.setRow (Nat.le_refl _)) setRow_size (fun k hk=>cK hk) ?_ rfl (fun j hj=>by simp[bJ.names]at hj) ?_⟩
       ·refine aV.change hN (by simp) (fun i' e' h'=>?_) rfl (fun g0 IC=>cK fun e=>cS (by rw[←e];exact IC)) (fun i' e' j' p' g0 c0 x' h' pQ IC hc0 I3 hold=>?_)
        ·rcases eh h' with⟨_,rfl⟩|⟨_,h'⟩
         ·rw[Ew,List.length_set];exact yb
         ·exact hN.2.2.2.2.1 i' e' h'
        ·have other:∀e'' p'',es[i']?=some e''→e''.cells[j']?=some p''→(i',j')≠(i,off)→eg E.P μ ((φ id).row i' j') (w.setRow g' (bR c.toList (j*s+off2) yx.cells.toList).toArray) p'' x':=fun e'' p'' h1 h2 h3=>(hold e'' p'' h1 h2).cH (fun _ _ h=>h) fun qL g'' ad0=>cK fun e=>by subst e;obtain⟨e1,e2⟩:=ZV i' j' (by rw[dy h1 h2];exact qL) ad0;exact h3 (by rw[e1,e2])
         rcases eh h' with⟨rfl,rfl⟩|⟨QE,h'⟩
         ·rw[Ew]at pQ;rcases eh pQ with⟨rfl,rfl⟩|⟨hnj,pQ⟩
          ·have I4:eK E.P μ ((φ id).row i' j') w s rs x':=hold e _ he ZO;refine⟨⟨AP,sT⟩,?_⟩;exact I4.2
          ·exact other e p' he pQ fun e=>hnj (by simpa using e)
         ·exact other e' p' h' pQ fun e=>QE (by have:=congrArg Prod.fst e;exact this)
       ·intro i' qi qL;rcases iN qL with⟨_,_,_,e',s',ZW,fQ,h',pQ⟩|⟨_,_,_,_,_,_,fQ,_⟩
        ·simp only[bJ.nest.injEq]at fQ;obtain⟨rfl,rfl,rfl⟩:=fQ;rcases eh h' with⟨rfl,rfl⟩|⟨QE,h'⟩
         ·rw[Ew]at pQ;rcases eh pQ with⟨rfl,_⟩|⟨hnj,pQ⟩
          ·exact iK
          ·rw[dy he pQ];rfl
         ·rw[dy h' pQ];rfl
        ·cases fQ
    ·cases h
   ·cases h
  ·cases h
 ·cases h
end
end Go.Ab
set_option linter.unusedVariables false
namespace Go.Ab
open Go.RowKit (Below)
structure Cells(P:Program)(μ:Ro)(sz:Nat)(es:List PV)(xs:List Value):Prop where
 len:xs.length=es.length*sz
 each:∀(i:Nat)e,es[i]?=some e→e.cells.length=sz
 rep:∀(i:Nat)e(j:Nat)p y,es[i]?=some e→e.cells[j]?=some p→xs[i*sz+j]?=some y→aj P μ p y
 one:∀(i:Nat)y,xs[i]?=some y→y.oneCell'=true
section
variable {P:Program} {μ μ':Ro} {φ:Nat→aF} {w:World} {sz:Nat} {es es':List PV} {xs ZX:List Value}
theorem Cells.nil:Cells P μ sz [] []:=⟨by simp,by simp,by simp,by simp⟩
theorem Cells.mono(h:Cells P μ sz es xs)(hμ:∀b o,μ b=some o→μ' b=some o):Cells P μ' sz es xs:=⟨h.len,h.each,fun i e j p y h1 h2 h3=>(h.rep i e j p y h1 h2 h3).mono hμ,h.one⟩
theorem Bj{i j n:Nat}(hi:i<n)(hj:j<sz):i*sz+j<n*sz:=by have:(i+1)*sz≤n*sz:=Nat.mul_le_mul_right _ hi;rw[Nat.add_mul]at this;omega
theorem Cells.append(h:Cells P μ sz es xs)(h':Cells P μ sz es' ZX):Cells P μ sz (es++es') (xs++ZX):=by
 refine⟨by simp[h.len,h'.len,Nat.add_mul],fun i e hi=>?_,fun i e j p y hi hj hy=>?_,fun i y hy=>?_⟩
 ·rw[List.getElem?_append]at hi;split at hi
  ·exact h.each i e hi
  ·exact h'.each _ e hi
 ·rw[List.getElem?_append]at hi hy;split at hi
  ·rename_i hl;have xJ:j<sz:=by rw[←h.each i e hi];exact(List.getElem?_eq_some_iff.1 hj).1
   rw[if_pos (by rw[h.len];exact Bj hl xJ)]at hy;exact h.rep i e j p y hi hj hy
  ·rename_i hl;have hle:es.length*sz≤i*sz:=Nat.mul_le_mul_right _ (by omega);rw[if_neg (by rw[h.len];omega)]at hy;refine h'.rep _ e j p y hi hj ?_;rw[←hy,h.len,Nat.sub_mul];congr 1;omega
 ·rw[List.getElem?_append]at hy;split at hy
  ·exact h.one i y hy
  ·exact h'.one _ y hy
theorem Cells.take(h:Cells P μ sz es xs)(n:Nat):Cells P μ sz (es.take n) (xs.take (n*sz)):=by
 refine⟨?_,fun i e hi=>h.each i e (ek hi).2,fun i e j p y hi hj hy=>h.rep i e j p y (ek hi).2 hj (ek hy).2,fun i y hy=>h.one i y (ek hy).2⟩;rw[List.length_take,List.length_take,h.len];rcases Nat.le_total n es.length with hn|hn
 ·rw[Nat.min_eq_left hn,Nat.min_eq_left (Nat.mul_le_mul_right _ hn)]
 ·rw[Nat.min_eq_right hn,Nat.min_eq_right (Nat.mul_le_mul_right _ hn)]
theorem Cells.drop(h:Cells P μ sz es xs)(n:Nat):Cells P μ sz (es.drop n) (xs.drop (n*sz)):=by refine⟨by simp[h.len,Nat.sub_mul],fun i e hi=>h.each _ e (kP hi),fun i e j p y hi hj hy=>h.rep _ e j p y (kP hi) hj ?_,fun i y hy=>h.one _ y (kP hy)⟩;rw[←kP hy,Nat.add_mul];congr 1;omega
variable{id:Nat}{et:TypeId}
theorem aL.cells(hA:aL P μ φ w id sz et es){g:Nat}(hg:(φ id).g=some g):∃c:Array Value,w.heap[g]?=some (.cells c et (0,0))∧(φ id).cap*sz≤c.size∧es.length≤(φ id).cap∧es.length*sz≤c.size∧Cells P μ sz es (c.toList.take (es.length*sz)):=by
 obtain⟨a1,a2,a3,a4,a5,a6,a7⟩:=hA;rw[hg]at a7;obtain⟨c,c1,c2,c3,c4,c5⟩:=a7;have hle:es.length*sz≤c.size:=Nat.le_trans (Nat.mul_le_mul_right _ c3) c2;refine⟨c,c1,c2,c3,hle,by simp;omega,a5,fun i e j p y hi hj hy=>?_,fun i y hy=>?_⟩
 ·exact c4 i e j p y hi hj (by simpa using(ek hy).2)
 ·have:=ek hy;exact c5 i y this.1 (by simpa using this.2)
theorem aL.oA{g:Nat}{c:Array Value}(Ud:(φ id).toy9=⟨some g,(φ id).cap,es.length,sz⟩)(kM:sz=aS P et)(eo:0<sz)(mY:(φ id).cap≤maxLen)(hh:w.heap[g]?=some (.cells c et (0,0)))(hc:(φ id).cap*sz≤c.size)(hle:es.length≤(φ id).cap)(hC:Cells P μ sz es (c.toList.take (es.length*sz))):aL P μ φ w id sz et es:=by
 have e1:(φ id).g=some g:=by rw[Ud]
 refine⟨by rw[Ud],by rw[Ud],kM,eo,hC.each,mY,?_⟩;rw[e1];have xJ:∀(i:Nat)e(j:Nat)p,es[i]?=some e→e.cells[j]?=some p→i*sz+j<es.length*sz:=fun i e j p hi hj=>Bj (List.getElem?_eq_some_iff.1 hi).1 (by rw[←hC.each i e hi];exact(List.getElem?_eq_some_iff.1 hj).1);refine⟨c,hh,hc,hle,fun i e j p x hi hj hx=>?_,fun i x hi hx=>?_⟩
 ·exact hC.rep i e j p x hi hj (by rw[List.getElem?_take_of_lt (xJ i e j p hi hj)];simpa using hx)
 ·exact hC.one i x (by rw[List.getElem?_take_of_lt hi];simpa using hx)
inductive vw(P:Program)(μ:Ro)(w:World)(sz:Nat)(es:List PV):Value→Prop
 |none:es=[]→vw P μ w sz es (.slice none 0 0)
 |some {a:Addr} {c:Nat} (xs:List Value):Cells P μ sz es xs→(∀(j:Nat)v,xs[j]?=some v→w.cell? (a.add j)=some v)→es.length≤c→c≤maxLen→vw P μ w sz es (.slice (some a) es.length c)
theorem aL.src(hA:aL P μ φ w id sz et es){g:Nat}(hg:(φ id).g=some g){lo len cap:Nat}(hl:lo+len≤es.length)(vz:len≤cap)(ags:lo+cap≤(φ id).cap):vw P μ w sz ((es.drop lo).take len) (.slice (some ⟨g,lo*sz,none⟩) len cap):=by
 obtain⟨c,c1,c2,c3,c4,c5⟩:=hA.cells hg;have mY:=hA.mB;have hlen:((es.drop lo).take len).length=len:=by simp;omega
 have:=vw.some (P:=P) (μ:=μ) (w:=w) (sz:=sz) (es:=(es.drop lo).take len) (a:=⟨g,lo*sz,none⟩) (c:=cap) _ ((c5.drop lo).take len) (fun j v hv=>?_) (by omega) (by omega)
 ·rw[hlen]at this;exact this
 ·have h1:=(ek hv).2;have h2:=(ek (kP h1)).2;rw[Addr.add_mid,dM c1];simpa using h2
end
section
variable {R:Type} {E:Env}
theorem aj.src{P:Program}{G:Nat→Option (List PV)}{w0:bx}{μ:Ro}{φ:Nat→aF}{m:Mem}{w:World}{sz:Nat}{es:List PV}{y:Value}(hM:ax P G w0 μ φ m w)(h:aj P μ (.rs sz es) y):vw P μ w sz es y:=by
 cases h with
 |jl=>exact .none rfl
 |FX hc=>exact .some (es:=[]) [] .nil (by simp) (by simp) hc
 | @rs _ _ b o cap X h1 h2 h3 h4 h5 h6=>
  by_cases hz:sz=0
  ·subst hz;refine .some [] ⟨by simp,h3,fun i e j p y hi hj=>?_,by simp⟩ (by simp) h1 h2;have:=h3 i e hi;have:=(List.getElem?_eq_some_iff.1 hj).1;omega
  ·have eI:∀k v,((List.range (es.length*sz)).map fun k=>X (k/sz) (k%sz))[k]?=some v→∃(e:PV)(p:PV),es[k/sz]?=some e∧e.cells[k%sz]?=some p∧v=X (k/sz) (k%sz):=by
    intro k v hk;have br:k<es.length*sz:=by have:=(List.getElem?_eq_some_iff.1 hk).1;simpa using this
    rw[List.getElem?_map,List.getElem?_range br]at hk;simp at hk;have hi:k/sz<es.length:=(Nat.div_lt_iff_lt_mul (by omega)).2 br;have hj:k%sz<(es[k/sz]).cells.length:=by rw[h3 _ _ (List.getElem?_eq_getElem hi)];exact Nat.mod_lt _ (by omega)
    exact⟨_,_,List.getElem?_eq_getElem hi,List.getElem?_eq_getElem hj,hk.symm⟩
   refine .some ((List.range (es.length*sz)).map fun k=>X (k/sz) (k%sz)) ⟨by simp,h3,fun i e j p y hi hj hy=>?_,fun k v hk=>?_⟩ (fun k v hk=>?_) h1 h2
   ·obtain⟨e',p',he,hp,rfl⟩:=eI _ _ hy;have xJ:j<sz:=by rw[←h3 i e hi];exact(List.getElem?_eq_some_iff.1 hj).1
    have e1:(i*sz+j)/sz=i:=by rw[Nat.mul_comm,Nat.mul_add_div (by omega),Nat.div_eq_of_lt xJ];rfl
    have e2:(i*sz+j)%sz=j:=by rw[Nat.mul_comm,Nat.mul_add_mod,Nat.mod_eq_of_lt xJ]
    rw[e1,e2];exact h5 i e j p hi hj
   ·obtain⟨e',p',he,hp,rfl⟩:=eI _ _ hk;exact h6 _ e' _ p' he hp
   ·obtain⟨e',p',he,hp,rfl⟩:=eI _ _ hk;rw[Addr.add_mid];have:=hM.cellAt (h4 _ e' _ p' he hp);rw[←this];congr 2;rw[Nat.add_assoc,Nat.div_add_mod' k sz]
theorem l0{m:Mem}{sz:Nat}{x:V}{es:List PV}{ft:bp}(h:eH m sz x=some (es,ft)):(∀m2:Mem,(∀x∈ft,m2 x.2=m x.2)→eH m2 sz x=some (es,ft))∧(∀x∈ft,x.1=false)∧∀(P:Program)(G:Nat→Option (List PV))(w0:bx)(μ:Ro)(φ:Nat→aF)(w:World)(y:Value),ax P G w0 μ φ m w→ai P μ φ x y→vw P μ w sz es y:=by
 unfold eH at h;split at h
 ·rename_i s es';split at h
  ·rename_i hs;simp only[Option.some.injEq,Prod.mk.injEq]at h;obtain⟨rfl,rfl⟩:=h;subst hs;exact⟨fun m2 _=>by simp[eH],by simp,fun P G w0 μ φ w y hM hy=>by cases hy with|pv hy=>exact hy.src hM⟩
  ·split at h
   ·simp only[Option.some.injEq,Prod.mk.injEq]at h;obtain⟨rfl,rfl⟩:=h;refine⟨fun m2 _=>by simp[eH],by simp,fun P G w0 μ φ w y hM hy=>?_⟩;cases hy with
    |pv hy=>cases hy with
     |jl=>exact .none rfl
     |FX hc=>exact .some (es:=[]) [] .nil (by simp) (by simp) hc
     |rs X h1 h2=>exact .some (es:=[]) [] .nil (by simp) h1 h2
   ·cases h
 ·simp only[Option.some.injEq,Prod.mk.injEq]at h;obtain⟨rfl,rfl⟩:=h;exact⟨fun m2 _=>by simp[eH],by simp,fun P G w0 μ φ w y hM hy=>by cases hy;exact .none rfl⟩
 ·rename_i id;have key:∀(s:Nat)(et:TypeId)(es:List PV),(m id=some (.arr s et es)∨m id=some (.nM s et es))→∀(P:Program)(G:Nat→Option (List PV))(w0:bx)(μ:Ro)(φ:Nat→aF)(w:World)(y:Value),ax P G w0 μ φ m w→ai P μ φ (.os id) y→vw P μ w s es y:=by
   intro s et es hm P G w0 μ φ w y hM hy;have hA:=hM.arr hm;cases hy with
   |pA hg=>obtain⟨a1,a2,a3,a4,a5,a6,a7⟩:=hA;rw[hg]at a7;exact .none a7.1
   |os hg=>have:=hA.src hg (lo:=0) (len:=es.length) (cap:=(φ id).cap) (by omega) (hA.mB).1 (by omega);rw[hA.1];simpa using this
  split at h
  ·rename_i s' et es' hm;split at h
   ·rename_i hs;simp only[Option.some.injEq,Prod.mk.injEq]at h;obtain⟨rfl,rfl⟩:=h;subst hs;exact⟨fun m2 cG=>by have:=cG (false,id) (by simp);simp only at this;simp[eH,this,hm],by simp,key _ _ _ (.inl hm)⟩
   ·cases h
  ·rename_i s' et es' hm;split at h
   ·rename_i hs;simp only[Option.some.injEq,Prod.mk.injEq]at h;obtain⟨rfl,rfl⟩:=h;subst hs;exact⟨fun m2 cG=>by have:=cG (false,id) (by simp);simp only at this;simp[eH,this,hm],by simp,key _ _ _ (.inr hm)⟩
   ·cases h
  ·cases h
 ·rename_i id lo len;have key:∀(s:Nat)(et:TypeId)(es:List PV),(m id=some (.arr s et es)∨m id=some (.nM s et es))→∀(P:Program)(G:Nat→Option (List PV))(w0:bx)(μ:Ro)(φ:Nat→aF)(w:World)(y:Value),ax P G w0 μ φ m w→ai P μ φ (.fg id lo len) y→vw P μ w s ((es.drop lo).take len) y:=by
   intro s et es hm P G w0 μ φ w y hM hy;have hA:=hM.arr hm;have hle:=hA.mB;have Oa:=hA.1;have kM:=hA.2.1;cases hy with
   |oh hg=>simp;exact .none rfl
   |fg hg hl ha Tw A3=>
    rcases ha with rfl|⟨ha,_⟩
    ·rw[kM];exact hA.src hg (by omega) Tw A3
    ·have h0:len=0:=by omega
     subst h0;simp only[List.take_zero];exact .some (es:=[]) [] .nil (by simp) (by simp) (by omega)
  split at h
  ·rename_i s' et es' hm;split at h
   ·rename_i hs;simp only[Option.some.injEq,Prod.mk.injEq]at h;obtain⟨rfl,rfl⟩:=h;subst hs;exact⟨fun m2 cG=>by have:=cG (false,id) (by simp);simp only at this;simp[eH,this,hm],by simp,key _ _ _ (.inl hm)⟩
   ·cases h
  ·rename_i s' et es' hm;split at h
   ·rename_i hs;simp only[Option.some.injEq,Prod.mk.injEq]at h;obtain⟨rfl,rfl⟩:=h;subst hs;exact⟨fun m2 cG=>by have:=cG (false,id) (by simp);simp only at this;simp[eH,this,hm],by simp,key _ _ _ (.inr hm)⟩
   ·cases h
  ·cases h
 ·rename_i id i off;split at h
  ·rename_i s0 et0 cP hm;obtain⟨e,he,h⟩:=Option.bind_eq_some_iff.1 h;obtain⟨rs,hr,h⟩:=Option.bind_eq_some_iff.1 h;simp only[Option.some.injEq,Prod.mk.injEq]at h;obtain⟨rfl,rfl⟩:=h;refine⟨fun m2 cG=>by have:=cG (false,id) (by simp);simp only at this;simp[eH,this,hm,he,hr],by simp,fun P G w0 μ φ w y hM hy=>?_⟩;have hN:aV P μ φ w id s0 et0 cP:=hM.dI id _ hm;obtain⟨_,_,_,_,⟨⟨AP,hA⟩,_⟩,_⟩:=hN.row he hr;have hy:=hy.IZ (ν:=μ);cases hy with
   |pA hg=>obtain⟨a1,a2,a3,a4,a5,a6,a7⟩:=hA;rw[hg]at a7;exact .none a7.1
   |os hg=>have:=hA.src hg (lo:=0) (len:=rs.length) (cap:=(((φ id).row i off).up).cap) (by omega) (hA.mB).1 (by omega);rw[hA.1];simpa using this
  ·cases h
 ·cases h
end
end Go.Ab
set_option linter.unusedVariables false
namespace Go.Ab
open Go.RowKit (Below)
section
variable {P:Program} {w:World}
theorem na{t ty e:TypeId}(hu:P.underlying t=some (.slice e))(hz:aS P e≠0){base a:Option Addr}{n cap c:Nat}(hn:n≤cap):(Builtin.append_ #[t,t] ty #[.slice base n cap,.slice a 0 c]).run P w=.ok (.slice base n cap) w:=by
 obtain⟨i,hi,hs⟩:=uG hz;have hl:∀x:Addr,(loadCells x 0).run P w=.ok #[] w:=fun x=>by simpa using run_loadCells_list (P:=P) w x [] (by simp)
 cases base<;>cases a<;>simp[Builtin.append_,run_underlying hu,sizeOf,typeInfo,hi,Builtin.lenOf,Builtin.firstCells,hn,hl,storeCells]
end
section
variable {R:Type} {E:Env}
variable{t:TypeId}
theorem Dr{P:Program}{i:TypeInfo}(hi:P.info? t=some i):i.bytes=CJ P t∧i.size=aS P t:=by simp[CJ,aS,hi]
theorem Bk{P:Program}{e ty:TypeId}{sz len n:Nat}{z:Value}{i:TypeInfo}(hu:P.underlying t=some (.slice e))(hi:P.info? e=some i)(Y6:i.zero=some z)(Gu:z.cells.size=sz)(kM:sz=aS P e)(eo:0<aS P e)(ZY:0<CJ P e)(ep:(len+n)*CJ P e≤aa){w:World}{ys yx:Value}{os xs:List Value}(hs:(ys=.slice none 0 0∧len=0∧os=[])∨∃(g cap:Nat)(c:Array Value),ys=.slice (some ⟨g,0,none⟩) len cap∧w.heap[g]?=some (.cells c e (0,0))∧cap*sz≤c.size∧len≤cap∧cap≤maxLen∧os=c.toList.take (len*sz))(hx:(yx=.slice none 0 0∧n=0∧xs=[])∨∃(a:Addr)(cx:Nat),yx=.slice (some a) n cx∧xs.length=n*sz∧(∀(j:Nat)v,xs[j]?=some v→w.cell? (a.add j)=some v)∧(∀v∈xs,v.oneCell'=true)∧n≤cx∧cx≤maxLen):∃w' y,(Builtin.append_ #[t,t] ty #[ys,yx]).run P w=.ok y w'∧((y=.slice none 0 0∧w'=w∧len=0∧n=0)∨∃(g cap:Nat)(c:Array Value),y=.slice (some ⟨g,0,none⟩) (len+n) cap∧w'.heap[g]?=some (.cells c e (0,0))∧cap*sz≤c.size∧len+n≤cap∧cap≤maxLen∧c.toList.take ((len+n)*sz)=os++xs∧((∃Uf,ys=.slice (some ⟨g,0,none⟩) len Uf∧jw g w w'∧∀k,k≠g→w'.heap[k]?=w.heap[k]?)∨(g=w.heap.size∧w'=w.drew.alloc (.cells c e)))):=by
 obtain⟨VP,VQ⟩:=Dr hi;have W6:len+n≤140737488355328:=by have:(len+n)*1≤(len+n)*CJ P e:=Nat.mul_le_mul_left _ ZY;simp only[aa]at ep;omega
 have ad1:len+n≤maxLen:=by simp only[maxLen];omega
 have PZ:∀n,(Builtin.zeroCells z.cells n).size=n*sz:=fun n=>by rw[size_zeroCells,Gu]
 rcases hs with⟨rfl,rfl,rfl⟩|⟨g,cap,c,rfl,g4,g5,g6,g7,rfl⟩
 ·rcases hx with⟨rfl,rfl,rfl⟩|⟨a,cx,rfl,Dp,Gv,ZZ,VR,QF⟩
  ·exact⟨w,_,na hu (by omega) (Nat.le_refl _),.inl ⟨rfl,rfl,rfl,rfl⟩⟩
  ·by_cases h0:n=0
   ·subst h0;exact⟨w,_,na hu (by omega) (Nat.le_refl _),.inl ⟨rfl,rfl,rfl,rfl⟩⟩
   ·have hr:=run_append_nil (P:=P) w t ty e i z hu hi Y6 a n cx xs (by rw[Dp,kM,VQ]) Gv (by omega) (by simp only[Nat.zero_add]at W6;omega) (by simp only[aa,Nat.zero_add]at ep;rw[VP];omega);have CN:=grownCap_ge w n 0 e;refine⟨_,_,hr,.inr ⟨w.heap.size,grownCap w n 0 e,xs.toArray++Builtin.zeroCells z.cells (grownCap w n 0 e-n),by simp,fE w.drew _,?_,by simpa using CN,grownCap_le_maxLen w _ 0 e (by simpa using ad1),?_,.inr ⟨rfl,rfl⟩⟩⟩
    ·rw[Array.size_append,PZ];simp only[List.size_toArray,Dp,←Nat.add_mul];exact Nat.mul_le_mul_right _ (by omega)
    ·simp only[Array.toList_append,List.nil_append,Nat.zero_add];exact List.take_left' Dp
 ·have h1:(c.toList.take (len*sz)).length=len*sz:=by have:len*sz≤cap*sz:=Nat.mul_le_mul_right _ g6;simp;omega
  rcases hx with⟨rfl,rfl,rfl⟩|⟨a,cx,rfl,Dp,Gv,ZZ,VR,QF⟩
  ·exact⟨w,_,na hu (by omega) g6,.inr ⟨g,cap,c,rfl,g4,g5,by simpa using g6,g7,by simp,.inl ⟨cap,rfl,jw.refl _ _,fun _ _=>rfl⟩⟩⟩
  ·by_cases P0:len+n≤cap
   ·have nD:len*i.size+xs.length≤c.size:=by rw[VQ,←kM,Dp,←Nat.add_mul];exact Nat.le_trans (Nat.mul_le_mul_right _ P0) g5
    have hr:=run_append_room (P:=P) w t ty e i hu hi g len cap c g4 a n cx xs (by rw[Dp,kM,VQ]) Gv ZZ P0 nD;rw[VQ,←kM]at hr nD;refine⟨_,_,hr,.inr ⟨g,cap,_,rfl,setRow_heap w g c _ e (0,0) g4,?_,P0,g7,?_,.inl ⟨cap,rfl,jw.setRow (Nat.le_refl _),fun k hk=>cK hk⟩⟩⟩
    ·simp only[List.size_toArray,List.length_append,List.length_take,List.length_drop,Array.length_toList];omega
    ·simp only[];exact List.take_left' (by rw[List.length_append,h1,Dp,Nat.add_mul])
   ·have hr:=run_append_grow (P:=P) w t ty e i z hu hi Y6 ⟨g,0,none⟩ len cap (c.toList.take (len*sz)) (by rw[h1,kM,VQ]) (fun j v hj=>by
      rw[Addr.add_mid,dM g4];simpa using(ek hj).2) a n cx xs (by rw[Dp,kM,VQ]) Gv (by omega) (by omega)
     (growslice_fits (by omega) (by rw[VP];simpa[aa]using ep))
    have CN:=grownCap_ge w (len+n) cap e;refine⟨_,_,hr,.inr ⟨w.heap.size,_,_,rfl,fE w.drew _,?_,CN,grownCap_le_maxLen w _ cap e (by omega),?_,.inr ⟨rfl,rfl⟩⟩⟩
    ·rw[Array.size_append,Array.size_append,PZ];simp only[List.size_toArray,Dp,h1,←Nat.add_mul];exact Nat.mul_le_mul_right _ (by omega)
    ·simp only[Array.toList_append];exact List.take_left' (by rw[List.length_append,h1,Dp,Nat.add_mul])
theorem Bl{e ty:TypeId}{sz:Nat}{es new:List PV}{z:List V}(hu:E.P.underlying t=some (.slice e))(hz:dg E e=some z)(kM:sz=aS E.P e)(eo:0<aS E.P e)(ZY:0<CJ E.P e)(ep:(es++new).length*CJ E.P e≤aa){G:Nat→Option (List PV)}{w0:bx}{μ:Ro}{φ:Nat→aF}{m:Mem}{w:World}{ρ:Nat→Value}{f:Fr}{draw:Bool}{site:Nat}(hM:ax E.P G w0 μ φ m w)(hF:ck E.P μ φ m f ρ){ys yx:Value}(hx:vw E.P μ w sz new yx)(hs:(ys=.slice none 0 0∧es=[])∨∃(g cap:Nat)(c:Array Value),ys=.slice (some ⟨g,0,none⟩) es.length cap∧w0.heap.size≤g∧μ g=none∧(∀id b',m id=some b'→¬b'.owns (φ id) g)∧w.heap[g]?=some (.cells c e (0,0))∧cap*sz≤c.size∧es.length≤cap∧cap≤maxLen∧es.length*sz≤c.size∧Cells E.P μ sz es (c.toList.take (es.length*sz))){f':Fr}{m':Mem}(te:∀(P:Program)(G:Nat→Option (List PV))(w0:bx)(μ:Ro)(φ:Nat→aF)(w w':World)(ρ:Nat→Value)(ph:aF),ax P G w0 μ φ m w→ck P μ φ m f ρ→jy P w0 μ φ m w w' site (.arr sz e (es++new)) ph→∃φ',φ' site=ph∧ax P G w0 μ φ' m' w'∧ck P μ φ' m' f' ρ):∃w' y φ',(Builtin.append_ #[t,t] ty #[ys,yx]).run E.P w=.ok y w'∧ax E.P G w0 μ φ' m' w'∧ck E.P μ φ' m' f' ρ∧ai E.P μ φ' (.os site) y:=by
 obtain⟨i,zv,hi,Y6,VQ,_,Gu,_,_,_⟩:=eE hz;have Gw:(es++new).length=es.length+new.length:=by simp
 obtain⟨os,W7,hC⟩:∃os,((ys=.slice none 0 0∧es.length=0∧os=[])∨∃(g cap:Nat)(c:Array Value),ys=.slice (some ⟨g,0,none⟩) es.length cap∧w.heap[g]?=some (.cells c e (0,0))∧cap*sz≤c.size∧es.length≤cap∧cap≤maxLen∧os=c.toList.take (es.length*sz))∧Cells E.P μ sz es os:=by
  rcases hs with⟨h1,rfl⟩|⟨g,cap,c,h1,h2,h3,h4,h5,h6,h7,h8,h9,FY⟩
  ·exact⟨[],.inl ⟨h1,rfl,rfl⟩,.nil⟩
  ·exact⟨_,.inr ⟨g,cap,c,h1,h5,h6,h7,h8,rfl⟩,FY⟩
 obtain⟨xs,Gv,hCx⟩:∃xs,((yx=.slice none 0 0∧new.length=0∧xs=[])∨∃(a:Addr)(cx:Nat),yx=.slice (some a) new.length cx∧xs.length=new.length*sz∧(∀(j:Nat)v,xs[j]?=some v→w.cell? (a.add j)=some v)∧(∀v∈xs,v.oneCell'=true)∧new.length≤cx∧cx≤maxLen)∧Cells E.P μ sz new xs:=by
  cases hx with
  |none hn=>subst hn;exact⟨[],.inl ⟨rfl,rfl,rfl⟩,.nil⟩
  | @some a cx xs hC Gv VR QF=>exact⟨xs,.inr ⟨a,cx,rfl,hC.len,Gv,fun u hu=>by obtain⟨j,hj⟩:=List.getElem?_of_mem hu;exact hC.one j u hj,VR,QF⟩,hC⟩
 obtain⟨w',y,hr,QG⟩:=Bk (ty:=ty) hu hi Y6 (by rw[Gu,kM]) kM eo ZY (by rw[←Gw];exact ep) W7 Gv;rcases QG with⟨rfl,rfl,h1,h2⟩|⟨g',zY,c',rfl,b1,b2,b3,b4,b5,b6⟩
 ·have h1:es=[]:=List.eq_nil_of_length_eq_zero h1;have h2:new=[]:=List.eq_nil_of_length_eq_zero h2;obtain⟨φ',a1,a2,a3⟩:=te E.P G w0 μ φ w' w' ρ (CE none 0 0 sz) hM hF ⟨jw.refl _ _,hM.ro,fun _ _ _ _ _=>rfl,by simp,fun φ' hp _=>by refine⟨by rw[hp,h1,h2];rfl,by rw[hp],kM,by omega,by rw[h1,h2];simp,by rw[hp];simp[maxLen],?_⟩;rw[hp];exact⟨by rw[h1,h2];rfl,rfl⟩,by simp[bJ.names],fun st h=>by cases h⟩;exact⟨w',_,φ',hr,a2,a3,.pA (by rw[a1])⟩
 ·have Z0:Cells E.P μ sz (es++new) (c'.toList.take ((es++new).length*sz)):=by rw[Gw,b5];exact hC.append hCx
  have fin:∀(φ':Nat→aF),φ' site=CE (some g') zY (es++new).length sz→ai E.P μ φ' (.os site) (.slice (some ⟨g',0,none⟩) (es.length+new.length) zY):=fun φ' a1=>by have:=ai.os (P:=E.P) (μ:=μ) (φ:=φ') (id:=site) (g:=g') (by rw[a1]);rw[a1,Gw]at this;exact this
  rcases b6 with⟨Uf,Y7,b6,b7⟩|⟨rfl,rfl⟩
  ·rcases hs with⟨h1,_⟩|⟨g,cap,c,h1,h2,h3,h4,_⟩
   ·rw[Y7]at h1;cases h1
   rw[Y7]at h1;simp only[Value.slice.injEq,Option.some.injEq,Addr.mk.injEq]at h1;obtain⟨⟨rfl,_⟩,_⟩:=h1;obtain⟨φ',a1,a2,a3⟩:=te E.P G w0 μ φ w w' ρ (CE (some g') zY (es++new).length sz) hM hF ⟨b6.mono h2,fun k o hk=>by rw[b7 k (fun e=>by subst e;rw[h3]at hk;cases hk)];exact hM.ro k o hk,fun id b' g' hid bV=>b7 g' (fun e=>by subst e;exact h4 id b' hid bV),fun g' bV=>by simp only[Option.some.injEq]at bV;subst bV;exact⟨h2,h3,h4⟩,fun φ' hp _=>aL.oA (by rw[hp]) kM (by omega) (by rw[hp];exact b4) b1 (by rw[hp];exact b2) (by rw[hp,Gw];exact b3) Z0,by simp[bJ.names],fun st h=>by cases h⟩;exact⟨w',_,φ',hr,a2,a3,fin φ' a1⟩
  ·obtain⟨φ',a1,a2,a3⟩:=te E.P G w0 μ φ w.drew _ ρ (CE (some w.heap.size) zY (es++new).length sz) hM.drew hF (jy.alloc (o:=.cells c' e) hM.drew rfl (fun φ' hp _=>aL.oA (g:=w.heap.size) (by rw[hp]) kM (by omega) (by rw[hp];exact b4) (fE w.drew _) (by rw[hp];exact b2) (by rw[hp,Gw];exact b3) Z0) (by simp[bJ.names]));exact⟨_,_,φ',hr,a2,a3,fin φ' a1⟩
end
end Go.Ab
set_option linter.unusedVariables false
namespace Go.Ab
open Go.RowKit (Below)
section
variable {R:Type} {E:Env}
theorem I5{draw:Bool}{site:Nat}{t t':TypeId}{s x:V}{f:Fr}{m:Mem}{k:V→Fr→Mem→Option R}{r:R}(h:wI E draw site t t' s x f m k=some r):draw=false∧t'=t∧∃place f' m',k (.os place) f' m'=some r∧(m' place).isSome=true∧∀(G:Nat→Option (List PV))(w0:bx)(μ:Ro)(φ:Nat→aF)(w:World)(ρ:Nat→Value)(ys yx:Value)(ty:TypeId),ax E.P G w0 μ φ m w→ck E.P μ φ m f ρ→ai E.P μ φ s ys→ai E.P μ φ x yx→∃w' y φ',(Builtin.append_ #[t,t] ty #[ys,yx]).run E.P w=.ok y w'∧ax E.P G w0 μ φ' m' w'∧ck E.P μ φ' m' f' ρ∧ai E.P μ φ' (.os place) y:=by
 unfold wI at h;split at h
 ·cases h
 ·rename_i hd;simp only[Bool.or_eq_true,not_or,Bool.not_eq_true,Bool.not_eq_false',decide_eq_true_eq,Bool.not_eq_eq_eq_not,Bool.not_true,Bool.not_false]at hd;refine⟨hd.1,by simpa using hd.2,?_⟩;split at h
  ·rename_i e hu;split at h
   ·cases h
   ·rename_i hz;obtain⟨z,hz⟩:∃z,dg E e=some z:=by
     cases hq:dg E e with
     |none=>simp[hq]at hz
     |some z=>exact⟨z,rfl⟩
    split at h
    ·rename_i new ft yb;obtain⟨_,_,vO⟩:=l0 yb;split at h
     ·split at h
      ·rename_i hb;obtain⟨f',m',_,hk,uM,_,te⟩:=cJ h;refine⟨_,f',m',hk,by simp[uM],fun G w0 μ φ w ρ ys yx ty hM hF hs hx=>?_⟩;cases hs;exact Bl (es:=[]) (draw:=false) hu hz rfl hb.2.2 hb.2.1 (by simpa using hb.1) hM hF (vO _ _ _ _ _ _ _ hM hx) (.inl ⟨rfl,rfl⟩) te
      ·cases h
     ·rename_i id;split at h
      ·rename_i sz et es hm;split at h
       ·rename_i hc;obtain⟨rfl,rfl,agt⟩:=hc;split at h
        ·rename_i hb;obtain⟨f',m',_,hk,uM,_,te⟩:=cJ h;refine⟨_,f',m',hk,by simp[uM],fun G w0 μ φ w ρ ys yx ty hM hF hs hx=>?_⟩;have qW:=hM.forget id;have Aa:=hF.forget id;have hA:aL E.P μ φ w id (aS E.P et) et es:=hM.dI id _ hm;have eo:0<aS E.P et:=hA.2.2.2.1;refine Bl (draw:=false) hu hz rfl eo hb.2 hb.1 qW Aa (vO _ _ _ _ _ _ _ hM hx) ?_ te;cases hs with
         |pA hg=>have a7:=hA.2.2.2.2.2.2;rw[hg]at a7;exact .inl ⟨rfl,a7.1⟩
         | @os _ g hg=>obtain⟨c,c1,c2,c3,c4,c5⟩:=hA.cells hg;obtain⟨o1,o2⟩:=hM.own id _ g hm (.inl hg);refine .inr ⟨g,(φ id).cap,c,by rw[hA.1],o1,o2 rfl,fun j b' hj bV=>?_,c1,c2,c3,hA.mB.2,c4,c5⟩;obtain⟨cS,b2,pB,rfl⟩:=eM hj;exact cS (hM.inj j id b2 _ g pB hm (fD.1 bV) (.inl hg))
        ·cases h
       ·cases h
      ·cases h
     ·cases h
    ·cases h
  ·cases h
theorem Ey{P:Program}{w:World}{dT ty elem:TypeId}{ts:List TypeId}{g Z1 dCap:Nat}{c:Array Value}{T:TypeId}{sz:Nat}{es new:List PV}{μ:Ro}{yx:Value}(hu:P.underlying dT=some (.slice elem))(kM:sz=aS P elem)(eo:0<sz)(hx:vw P μ w sz new yx)(hg:w.heap[g]?=some (.cells c T (0,0)))(hle:es.length*sz≤c.size)(hd:Z1=es.length)(hC:Cells P μ sz es (c.toList.take (es.length*sz))):∃c':Array Value,(Builtin.copy_ (dT::ts).toArray ty #[.slice (some ⟨g,0,none⟩) Z1 dCap,yx]).run P w=.ok (goInt ((min new.length es.length:Nat):Int)) (w.setRow g c')∧c'.size=c.size∧Cells P μ sz (new.take es.length++es.drop new.length) (c'.toList.take ((new.take es.length++es.drop new.length).length*sz)):=by
 subst hd;obtain⟨i,hi,hs⟩:=uG (P:=P) (t:=elem) (by omega);have Z2:(new.take es.length++es.drop new.length).length=es.length:=by simp;omega
 rw[Z2];cases hx with
 |none hn=>subst hn;refine⟨c,?_,rfl,by simpa using hC⟩;have:=setRow_self w g c T (0,0) hg;rw[this];simp[Builtin.copy_,run_underlying hu,Builtin.lenOf,Builtin.firstCells,sizeOf,typeInfo,hi,storeCells]
 | @some a cx xs hX Gv VR QF=>
  have Ug:Nat.min new.length es.length=min new.length es.length:=rfl;have hl:(xs.take (min new.length es.length*sz)).length=min new.length es.length*i.size:=by rw[hs,←kM,List.length_take,hX.len];exact Nat.min_eq_left (Nat.mul_le_mul_right _ (Nat.min_le_left _ _))
  have ad2:min new.length es.length*sz≤es.length*sz:=Nat.mul_le_mul_right _ (Nat.min_le_right _ _);have hf:=run_firstCells_some (P:=P) w i.size (min new.length es.length) a new.length cx (xs.take (min new.length es.length*sz)) hl (fun j v hj=>Gv j v (ek hj).2);have IB:(xs.take (min new.length es.length*sz)).length=min new.length es.length*sz:=by rw[hl,hs,kM]
  have sU:=run_storeCells_at P g 0 T (xs.take (min new.length es.length*sz)) 0 c w hg (by rw[IB];omega) (fun v hv=>by obtain⟨j,hj⟩:=List.getElem?_of_mem hv;exact hX.one j v (ek hj).2);simp only[Nat.zero_add,List.take_zero,List.nil_append,IB]at sU;refine⟨(xs.take (min new.length es.length*sz)++c.toList.drop (min new.length es.length*sz)).toArray,?_,?_,?_⟩
  ·have Z3:Nat.min new.length es.length=min new.length es.length:=rfl;simp[Builtin.copy_,run_underlying hu,Builtin.lenOf,sizeOf,typeInfo,hi,Z3,hf,sU]
  ·simp only[List.size_toArray,List.length_append,IB,List.length_drop,Array.length_toList];omega
  ·have e1:(xs.take (min new.length es.length*sz)++c.toList.drop (min new.length es.length*sz)).take (es.length*sz)=xs.take (min new.length es.length*sz)++(c.toList.take (es.length*sz)).drop (min new.length es.length*sz):=by rw[List.take_append,IB,List.drop_take,List.take_of_length_le (by rw[IB];exact ad2)]
   simp only[];rw[e1];have h1:=(hX.take (min new.length es.length)).append (hC.drop (min new.length es.length));have e2:new.take (min new.length es.length)=new.take es.length:=by
    rcases Nat.le_total new.length es.length with hh|hh
    ·rw[Nat.min_eq_left hh,List.take_length,List.take_of_length_le hh]
    ·rw[Nat.min_eq_right hh]
   have e3:es.drop (min new.length es.length)=es.drop new.length:=by
    rcases Nat.le_total new.length es.length with hh|hh
    ·rw[Nat.min_eq_left hh]
    ·rw[Nat.min_eq_right hh,List.drop_length,List.drop_eq_nil_of_le hh]
   rw[e2,e3]at h1;exact h1
theorem Dt{R:Type}(m:Mem)(sz:Nat)(x:V)(k:List PV→bp→Option R):Ek m sz x k=(eH m sz x).bind fun p=>k p.1 p.2:=by
 cases x with
 |sY id i off=>
  simp only[Ek,eH];cases hm:m id with
  |none=>rfl
  |some b=>
   cases b with
   |nest s e es=>
    simp only;cases es[i]? with
    |none=>rfl
    |some e=>simp only[Option.bind_some];cases aY sz (cell e off)<;>rfl
   |_=>rfl
 |_=>
  simp only[Ek];generalize eH m sz _=o;cases o with
  |none=>rfl
  |some p=>rfl
theorem QH{t:TypeId}{d x:V}{m:Mem}{k:V→Mem→bp→Option R}{r:R}(h:Gb E t d x m k=some r):∃n id b ft,(∀m2:Mem,(∀x∈((true,id)::ft:bp),m2 x.2=m x.2)→∀(R':Type)(k':V→Mem→bp→Option R'),Gb E t d x m2 k'=k' (.pv (.int .i64 n)) (an m2 id b) ((true,id)::ft))∧k (.pv (.int .i64 n)) (an m id b) ((true,id)::ft)=some r∧∀(G:Nat→Option (List PV))(w0:bx)(μ:Ro)(φ:Nat→aF)(w:World)(ρ:Nat→Value)(f:Fr)(yd yx:Value)(ts:List TypeId)(ty:TypeId),ax E.P G w0 μ φ m w→ck E.P μ φ m f ρ→ai E.P μ φ d yd→ai E.P μ φ x yx→∃w' φ',(Builtin.copy_ (t::ts).toArray ty #[yd,yx]).run E.P w=.ok (.int .i64 n) w'∧ax E.P G w0 μ φ' (an m id b) w'∧ck E.P μ φ' (an m id b) f ρ∧(Lit.int .i64 n).wf=true:=by
 unfold Gb at h;split at h
 ·rename_i e hu;split at h
  ·rename_i id;split at h
   ·rename_i sz et es hm;split at h
    ·rename_i hc;rw[Dt]at h;obtain⟨⟨new,ft⟩,yb,h⟩:=Option.bind_eq_some_iff.1 h
     ·obtain⟨Gx,_,vO⟩:=l0 yb;refine⟨_,id,_,ft,fun m2 cG R' k'=>?_,h,fun G w0 μ φ w ρ f yd yx ts ty hM hF hd hx=>?_⟩
      ·have h1:=cG (true,id) (by simp);simp only at h1;simp only[Gb,hu,h1,hm];rw[if_pos hc,Dt];simp only[Gx m2 (fun y hy=>cG y (by simp[hy])),Option.bind_some]
      ·have hA:aL E.P μ φ w id sz et es:=hM.dI id _ hm;have hS:=vO _ _ _ _ _ _ _ hM hx;have hle:=hA.mB;have hlen:(new.take es.length++es.drop new.length).length=es.length:=by simp;omega
       have Ar:(Lit.int .i64 ((min new.length es.length:Nat):Int)).wf=true:=A5 (by omega);cases hd with
       |pA hg=>
        have a7:=hA.2.2.2.2.2.2;rw[hg]at a7;have h0:=a7.1;subst h0;refine⟨w,φ,?_,?_,?_,Ar⟩
        ·obtain⟨i,hi,hs⟩:=uG (P:=E.P) (t:=e) (by have:=hA.2.2.2.1;omega);have ID:∀x:Addr,(loadCells x 0).run E.P w=.ok #[] w:=fun x=>by simpa using run_loadCells_list (P:=E.P) w x [] (by simp)
         cases hS with
         |none hn=>subst hn;simp[Builtin.copy_,run_underlying hu,Builtin.lenOf,Builtin.firstCells,sizeOf,typeInfo,hi,hA.1,goInt]
         |some xs hX Gv VR QF=>simp[Builtin.copy_,run_underlying hu,Builtin.lenOf,Builtin.firstCells,sizeOf,typeInfo,hi,hA.1,ID,goInt]
        ·have:an m id (.arr sz et (new.take ([]:List PV).length++([]:List PV).drop new.length))=m:=by
          funext j;by_cases e:j=id
          ·subst e;simp[hm]
          ·rw[ao e]
         rw[this];exact hM
        ·exact hF.kS (fun _ _ h=>h) .set
       | @os _ g hg=>
        obtain⟨c,c1,c2,c3,c4,c5⟩:=hA.cells hg;obtain⟨c',r1,r2,r3⟩:=Ey (ts:=ts) (ty:=ty) (dCap:=(φ id).cap) hu hc.1 hA.2.2.2.1 hS c1 c4 hA.1 c5;refine⟨_,φ,r1,hM.write hm rfl hg (jw.setRow (Nat.le_refl _)) setRow_size (fun k hk=>cK hk) ?_ rfl (by simp[bJ.names]),hF.kS (fun _ _ h=>h) .set,Ar⟩;refine aL.oA (g:=g) ?_ hA.2.2.1 hA.2.2.2.1 hle.2 (setRow_heap w g c c' et (0,0) c1) (by rw[r2];exact c2) (by rw[hlen];exact c3) r3;rw[hlen,←hA.1,←hA.2.1];cases hq:(φ id).toy9 with
        |mk a b c d=>rw[hq]at hg;simp only at hg;simp[hg]
    ·cases h
   ·cases h
  ·cases h
 ·cases h
end
end Go.Ab
