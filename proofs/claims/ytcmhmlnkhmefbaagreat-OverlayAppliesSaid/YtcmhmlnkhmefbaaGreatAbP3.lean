import Derived.Test.YtcmhmlnkhmefbaaGreatAbP2
import Derived.Great.BuildSlice
import Derived.Laws.AppendOwn
import Derived.Laws.MakeOwn
set_option linter.unusedVariables false
namespace Go.Ab
open Go.RowKit (Below)
structure cm(P:Program)(μ:Ro)(φ:Nat→aG)(m:Mem)(f:Fr)(ρ:Nat→Value):Prop where
 fr:∀t,ai P μ φ (f t) (ρ t)
 live:∀t id,(f t).has id=true→(m id).isSome=true
section
variable {P:Program} {G:Nat→Option (List PV)} {w0:bx} {μ μ':Ro} {φ φ':Nat→aG} {m m':Mem} {w w':World} {f:Fr} {ρ:Nat→Value}
theorem cm.mono(h:cm P μ φ m f ρ)(hμ:∀b o,μ b=some o→μ' b=some o)(hφ:∀id,(m id).isSome=true→φ' id=φ id∧(m' id).isSome=true):cm P μ' φ' m' f ρ:=⟨fun t=>(h.fr t).mono hμ fun id hid=>(hφ id (h.live t id hid)).1,fun t id hid=>(hφ id (h.live t id hid)).2⟩
theorem eL{id j:Nat}{b:bL}(h:bh (bB id m) id j=some b):j≠id∧∃b',m j=some b'∧b=fM id b':=by
 by_cases e:j=id
 ·subst e;simp at h
 ·rw[eQ e]at h;exact⟨e,BK h⟩
theorem qI{id j:Nat}(h:j≠id)(hm:(m j).isSome=true):(bh (bB id m) id j).isSome=true:=by obtain⟨b,hb⟩:=Option.isSome_iff_exists.1 hm;rw[eQ h];simp[bB,hb]
theorem cm.forget(h:cm P μ φ m f ρ)(id:Nat):cm P μ φ (bh (bB id m) id) (eP id f) ρ:=by refine⟨fun t=>(h.fr t).kill id,fun t j hj=>?_⟩;obtain⟨h1,h2⟩:=tJ hj;exact qI h2 (h.live t j h1)
theorem az.put(hM:az P G w0 μ φ m w){site:Nat}{b:bL}{ph:aG}(hs:m site=none)(JF:jG w0.heap.size w w')(la:∀k o,μ k=some o→w'.heap[k]?=some o)(hold:∀id b' g,m id=some b'→b'.owns (φ id) g→w'.heap[g]?=w.heap[g]?)(su:∀g,b.owns ph g→w0.heap.size≤g∧μ g=none∧∀id b',m id=some b'→¬b'.owns (φ id) g)(BM:b.apart ph)(hB:fW P μ (fun i=>if i=site then ph else φ i) w' site b)(hn:∀id,b.names id=true→(m id).isSome=true)(WV:∀st,b=.loop st→∃g rc,ph.g=some g∧w0.rc site=some (g,rc)∧w'.heap[g]?=some (.loop (st.obj rc))):az P G w0 μ (fun i=>if i=site then ph else φ i) (au m site b) w':=by
 refine⟨hM.below.trans JF,la,hM.aH,fun id b' hid=>?_,fun id b' g hid hg=>?_,fun QT id2 b1 b2 g h1 h2 g1 g2=>?_,fun id b' hid=>?_,fun j cs id hj hh=>?_,hM.base,hM.dB,fun id st hid=>?_⟩
 rotate_right
 ·by_cases h:id=site
  ·subst h;rw[aN]at hid;simp only[Option.some.injEq]at hid;obtain⟨g,rc,h1,h2,h3⟩:=WV st hid;exact⟨g,rc,by simp[h1],h2,h3⟩
  ·rw[av h]at hid;obtain⟨g,rc,h1,h2,h3⟩:=hM.zO id st hid;exact⟨g,rc,by simp only[h,if_false];exact h1,h2,by rw[hold id _ g hid (.inl h1)];exact h3⟩
 ·by_cases h:id=site
  ·subst h;rw[aN]at hid;simp only[Option.some.injEq]at hid;subst hid;exact hB
  ·rw[av h]at hid;have hR:=hM.dG id b' hid;refine hR.cE (fun j hj=>?_) (by simp[h]) (fun _ _ h=>h) (fun g hg=>hold id b' g hid hg);have:=hM.JE hid hj;have:j≠site:=fun e=>by subst e;rw[hs]at this;cases this
   simp[this]
 ·by_cases h:id=site
  ·subst h;rw[aN]at hid;simp only[Option.some.injEq]at hid;subst hid;simp only[if_true]at hg;exact⟨(su g hg).1,fun _=>(su g hg).2.1⟩
  ·rw[av h]at hid;simp only[h,if_false]at hg;exact hM.own id b' g hid hg
 ·by_cases e1:QT=site
  ·by_cases e2:id2=site
   ·rw[e1,e2]
   ·exfalso;subst e1;rw[aN]at h1;simp only[Option.some.injEq]at h1;subst h1;simp only[if_true]at g1;rw[av e2]at h2;simp only[e2,if_false]at g2;exact(su g g1).2.2 id2 b2 h2 g2
  ·by_cases e2:id2=site
   ·exfalso;subst e2;rw[aN]at h2;simp only[Option.some.injEq]at h2;subst h2;simp only[if_true]at g2;rw[av e1]at h1;simp only[e1,if_false]at g1;exact(su g g2).2.2 QT b1 h1 g1
   ·rw[av e1]at h1;rw[av e2]at h2;simp only[e1,if_false]at g1;simp only[e2,if_false]at g2;exact hM.inj QT id2 b1 b2 g h1 h2 g1 g2
 ·by_cases h:id=site
  ·subst h;rw[aN]at hid;simp only[Option.some.injEq]at hid;subst hid;simp only[if_true];exact BM
  ·rw[av h]at hid;simp only[h,if_false];exact hM.apart id b' hid
 ·by_cases e:id=site
  ·subst e;simp
  ·rw[av e];by_cases h:j=site
   ·subst h;rw[aN]at hj;simp only[Option.some.injEq]at hj;subst hj;exact hn id hh
   ·rw[av h]at hj;exact hM.fp j cs id hj hh
end
section
variable {R:Type} {E:Env}
structure jI(P:Program)(w0:bx)(μ:Ro)(φ:Nat→aG)(m:Mem)(w w':World)(site:Nat)(b:bL)(ph:aG):Prop where
 below:jG w0.heap.size w w'
 ro:∀k o,μ k=some o→w'.heap[k]?=some o
 kW:∀id b' g,m id=some b'→b'.owns (φ id) g→w'.heap[g]?=w.heap[g]?
 own:∀g,ph.g=some g→w0.heap.size≤g∧μ g=none∧∀id b',m id=some b'→¬b'.owns (φ id) g
 rep:∀φ',φ' site=ph→(∀id,b.names id=true→φ' id=φ id)→fW P μ φ' w' site b
 names:∀id,b.names id=true→(m id).isSome=true
 lp:∀st,b=.loop st→∃g rc,ph.g=some g∧w0.rc site=some (g,rc)∧w'.heap[g]?=some (.loop (st.obj rc)):=by intro st h;cases h
theorem cF{draw:Bool}{site:Nat}{b:bL}{f:Fr}{m:Mem}{k:Fr→Mem→bq→Option R}{r:R}(h:fresh draw site b f m k=some r)(G2:∀i off,b.rowAt i off=true→False:=by intro i off h;simp[bL.rowAt]at h):∃f' m',(∀(R':Type)(k':Fr→Mem→bq→Option R'),fresh draw site b f m k'=k' f' m' [(true,site)])∧k f' m' [(true,site)]=some r∧m' site=some b∧(draw=true→m site=none∧f'=f∧m'=au m site b)∧(∀(P:Program)(G:Nat→Option (List PV))(w0:bx)(μ:Ro)(φ:Nat→aG)(w w':World)(ρ:Nat→Value)(ph:aG),az P G w0 μ φ m w→cm P μ φ m f ρ→jI P w0 μ φ m w w' site b ph→∃φ',φ' site=ph∧az P G w0 μ φ' m' w'∧cm P μ φ' m' f' ρ):=by
 unfold fresh at h;cases hs:m site with
 |none=>
  simp only[hs]at h;refine⟨f,au m site b,fun R' k'=>by simp only[fresh,hs],h,by simp,fun _=>⟨rfl,rfl,rfl⟩,fun P G w0 μ φ w w' ρ ph hM hF hp=>?_⟩;have JG:∀id,(m id).isSome=true→id≠site:=fun id hid e=>by subst e;rw[hs]at hid;cases hid
  refine⟨fun i=>if i=site then ph else φ i,by simp,hM.put hs hp.below hp.ro hp.kW (fun g hg=>hp.own g (mJ G2 hg)) (oK G2) (hp.rep _ (by simp) fun id hid=>by simp[JG id (hp.names id hid)]) hp.names hp.lp,?_⟩;exact hF.mono (fun _ _ h=>h) fun id hid=>⟨by simp[JG id hid],by rw[av (JG id hid)];exact hid⟩
 |some b0=>
  simp only[hs]at h;split at h
  ·cases h
  ·rename_i hc;simp only[Bool.or_eq_true,not_or,Bool.not_eq_true]at hc;refine⟨eP site f,au (bB site m) site b,fun R' k'=>by simp only[fresh,hs];simp[hc],h,by simp,fun hd=>(by rw[hc.1]at hd;cases hd),fun P G w0 μ φ w w' ρ ph hM hF hp=>?_⟩;have rI:=hM.forget site;have AP:=hF.forget site;have hs1:bh (bB site m) site site=none:=by simp
   have JG:∀id,(bh (bB site m) site id).isSome=true→id≠site:=fun id hid e=>by subst e;simp at hid
   have hnm:∀id,b.names id=true→id≠site:=fun id hid e=>by subst e;rw[hc.2]at hid;cases hid
   refine⟨fun i=>if i=site then ph else φ i,by simp,?_,?_⟩
   ·rw[←vW];refine rI.put hs1 hp.below hp.ro (fun id b' g hid hg=>?_) (fun g hg=>?_) (oK G2) (hp.rep _ (by simp) fun id hid=>by simp[hnm id hid]) (fun id hid=>qI (hnm id hid) (hp.names id hid)) hp.lp
    ·obtain⟨_,b2,oL,rfl⟩:=eL hid;exact hp.kW id b2 g oL (fI.1 hg)
    ·obtain⟨h1,h2,h3⟩:=hp.own g (mJ G2 hg);refine⟨h1,h2,fun id b' hid ho=>?_⟩;obtain⟨_,b2,oL,rfl⟩:=eL hid;exact h3 id b2 oL (fI.1 ho)
   ·rw[←vW];exact AP.mono (fun _ _ h=>h) fun id hid=>⟨by simp[JG id hid],by rw[av (JG id hid)];exact hid⟩
theorem jI.alloc{P:Program}{G:Nat→Option (List PV)}{w0:bx}{μ:Ro}{φ:Nat→aG}{m:Mem}{w:World}{site:Nat}{b:bL}{ph:aG}{o:Obj}(hM:az P G w0 μ φ m w)(Vc:ph.g=some w.heap.size)(rep:∀φ',φ' site=ph→(∀id,b.names id=true→φ' id=φ id)→fW P μ φ' (w.alloc o) site b)(names:∀id,b.names id=true→(m id).isSome=true)(lp:∀st,b=.loop st→∃g rc,ph.g=some g∧w0.rc site=some (g,rc)∧(w.alloc o).heap[g]?=some (.loop (st.obj rc)):=by intro st h;cases h):jI P w0 μ φ m w (w.alloc o) site b ph:=by
 have k9:w0.heap.size≤w.heap.size:=hM.below.size;refine⟨(jG.refl _ w).alloc k9 o,fun k o' hk=>?_,fun id b' g hid hg=>jG.heap_alloc w o g ((hM.dG id b' hid).BJ hg),fun g hg=>?_,rep,names,lp⟩
 ·have:=hM.ro k o' hk;rw[jG.heap_alloc w o k (Array.getElem?_eq_some_iff.1 this).1];exact this
 ·rw[Vc]at hg;simp only[Option.some.injEq]at hg;subst hg;refine⟨k9,?_,fun id b' hid hg=>?_⟩
  ·cases hq:μ w.heap.size with
   |none=>rfl
   |some o'=>have:=hM.ro _ _ hq;simp at this
  ·have:=(hM.dG id b' hid).BJ hg;omega
theorem fJ(w:World)(o:Obj):(w.alloc o).heap[w.heap.size]?=some o:=heap_alloc_new w o
variable{t:TypeId}
theorem eD{cs:List V}(h:dg E t=some cs):∃i z,E.P.info? t=some i∧i.zero=some z∧i.size=aU E.P t∧cs.length=aU E.P t∧z.cells.size=aU E.P t∧(∀id,cr id cs=false)∧(∀(μ:Ro)(φ:Nat→aG)(i:Nat)u y,cs[i]?=some u→z.cells[i]?=some y→ai E.P μ φ u y)∧(∀(i:Nat)(y:Value),z.cells[i]?=some y→y.oneCell'=true):=by
 unfold dg zeroV at h;cases hi:E.P.info? t with
 |none=>simp[hi]at h
 |some i=>
  cases hz:i.zero with
  |none=>simp[hi,hz]at h
  |some z=>
   simp only[hi,hz,Option.bind_some,Option.map_some]at h;obtain⟨h1,h2,h3⟩:=toCells_ok h;obtain⟨h4,_,h6⟩:=h3 E.P (fun _=>none) (fun _=>default) z (rE z);refine⟨i,z,rfl,hz,by simp[aU,hi],h1,h4,fun id=>?_,fun μ φ i u y hu hy=>(h3 E.P μ φ z (rE z)).2.1 i u y hu hy,h6⟩;cases hh:cr id cs with
   |false=>rfl
   |true=>have:=h2 id hh;rw[DR]at this;cases this
variable{P:Program}{w:World}
theorem mK{i:TypeInfo}{z:Value}(hi:P.info? t=some i)(hz:i.zero=some z):(zeroValue t).run P w=.ok z w:=by simp[zeroValue,typeInfo,hi,hz]
theorem D3{i:TypeInfo}{z:Value}(hi:P.info? t=some i)(hz:i.zero=some z):(Instr.alloc t true (.tuple #[])).run P w=.ok (.pointer (some ⟨w.heap.size,0,none⟩)) (w.alloc (.cells z.cells t)):=by simp[Instr.alloc,mK hi hz,newVar,newRow]
theorem NK{v:Value}:(Instr.box t v).run P w=.ok (.pointer (some ⟨w.heap.size,0,none⟩)) (w.alloc (.cells v.cells t)):=by simp[Instr.box,newVar,newRow]
variable{c:Array Value}
theorem jI.box{G:Nat→Option (List PV)}{w0:bx}{μ:Ro}{φ:Nat→aG}{m:Mem}{site:Nat}{cs:List V}{T:TypeId}(hM:az P G w0 μ φ m w)(hl:c.size=cs.length)(hv:∀(i:Nat)u y,cs[i]?=some u→c[i]?=some y→ai P μ φ u y)(h1:∀(i:Nat)(y:Value),c[i]?=some y→y.oneCell'=true)(hn:∀id,cr id cs=true→(m id).isSome=true):jI P w0 μ φ m w (w.alloc (.cells c T)) site (.box cs) (Dg (some w.heap.size) 0 cs.length 0):=by refine jI.alloc hM (by rfl) (fun φ' hφ Pa=>⟨w.heap.size,c,T,by rw[hφ],fJ w _,hl,fun i u y hu hy=>?_,h1,by rw[hφ]⟩) hn;exact(hv i u y hu hy).mono (fun _ _ h=>h) fun id hid=>Pa id (bM (List.mem_of_getElem? hu) hid)
theorem lj(h:aU P t≠0):(P.info? t).map (·.size)=some (aU P t):=by obtain⟨i,hi,hs⟩:=vj h;simp[hi,hs]
theorem dy{T:Type}{cs new:List T}{off i:Nat}{x:T}(hb:off+new.length≤cs.length)(h:(bQ cs off new)[i]?=some x):(off≤i∧i<off+new.length∧new[i-off]?=some x)∨((i<off∨off+new.length≤i)∧cs[i]?=some x):=by
 rw[dA]at h;rw[List.append_assoc,List.getElem?_append]at h;have ht:(cs.take off).length=off:=by simp;omega
 rw[ht]at h;split at h
 ·rename_i hi;exact .inr ⟨.inl hi,(ep h).2⟩
 ·rw[List.getElem?_append]at h;split at h
  ·exact .inl ⟨by omega,by omega,h⟩
  ·rw[List.getElem?_drop]at h;refine .inr ⟨.inr (by omega),?_⟩;rw[←h];congr 1;omega
theorem cN{T:Type}{cs new:List T}{off:Nat}(hb:off+new.length≤cs.length):(bQ cs off new).length=cs.length:=by simp[dA];omega
variable{g:Nat}
theorem gY{v:Value}{o:Nat}{T:TypeId}(hz:v.cells.size=aU P t)(hi:(P.info? t).map (·.size)=some (aU P t))(hg:w.heap[g]?=some (.cells c T (0,0)))(hb:o+v.cells.size≤c.size)(h1:∀(i:Nat)(y:Value),v.cells[i]?=some y→y.oneCell'=true):(Instr.storeAt t (.pointer (some ⟨g,o,none⟩)) v).run P w=.ok () (w.setRow g (bQ c.toList o v.cells.toList).toArray):=by
 have tv:=run_storeCells_at P g o T v.cells.toList 0 c w hg (by simpa using hb) (fun x hx=>by obtain⟨i,hi⟩:=List.getElem?_of_mem hx;exact h1 i x (by simpa using hi));have k9:(sizeOf t).run P w=.ok (aU P t) w:=by
  cases hq:P.info? t with
  |none=>simp[hq]at hi
  |some i=>simp[sizeOf,typeInfo,hq,aU]
 simp only[Instr.storeAt,Instr.sureAddr,storeVar,Sem.run_bind,Sem.run_pure,Result.andThen_ok,k9,hz,ne_eq,not_true_eq_false,if_false,tv,Nat.add_zero];rw[dA];try rfl
variable{xs:Array Value}
theorem cG{k:Nat}(h:k≠g):(w.setRow g xs).heap[k]?=w.heap[k]?:=by unfold World.setRow;simp[Array.getElem?_modify,Ne.symm h]
theorem setRow_size:(w.setRow g xs).heap.size=w.heap.size:=by simp[World.setRow]
theorem jG.setRow{B:Nat}(h:B≤g):jG B w (w.setRow g xs):=⟨⟨rfl,rfl,rfl,Nat.le_of_eq setRow_size.symm,fun k hk=>cG (by omega)⟩,fun _=>Nat.le_refl _⟩
end
end Go.Ab
set_option linter.unusedVariables false
namespace Go.Ab
open Go.RowKit (Below)
section
variable {P:Program} {G:Nat→Option (List PV)} {w0:bx} {μ:Ro} {φ:Nat→aG} {m m':Mem} {w:World}
def iU(m m':Mem):Prop:=∀id,(m id).isSome=true→(m' id).isSome=true
theorem iU.refl(m:Mem):iU m m:=fun _ h=>h
theorem iU.trans{a b c:Mem}(h:iU a b)(k:iU b c):iU a c:=fun id hid=>k id (h id hid)
variable{id:Nat}
theorem iU.set{b:bL}:iU m (au m id b):=fun j hj=>by
 by_cases e:j=id
 ·subst e;simp
 ·rw[av e];exact hj
theorem cm.lk{f:Fr}{ρ:Nat→Value}{μ':Ro}(h:cm P μ φ m f ρ)(hμ:∀b o,μ b=some o→μ' b=some o)(hl:iU m m'):cm P μ' φ m' f ρ:=h.mono hμ fun id hid=>⟨rfl,hl id hid⟩
variable{v:V}{p:PV}
theorem NL(h:Bh m v=some (p,m')):iU m m'∧∀(P:Program)(G:Nat→Option (List PV))(w0:bx)(μ:Ro)(φ:Nat→aG)(w:World)(x:Value),az P G w0 μ φ m w→ai P μ φ v x→∃μ',(∀b o,μ b=some o→μ' b=some o)∧az P G w0 μ' φ m' w∧ak P μ' p x:=by
 unfold Bh at h;split at h
 ·simp only[Option.some.injEq,Prod.mk.injEq]at h;obtain⟨rfl,rfl⟩:=h;exact⟨.refl _,fun P G w0 μ φ w x hM hx=>⟨μ,fun _ _ h=>h,hM,by cases hx with|pv hx=>exact hx⟩⟩
 ·simp only[Option.some.injEq,Prod.mk.injEq]at h;obtain⟨rfl,rfl⟩:=h;exact⟨.refl _,fun P G w0 μ φ w x hM hx=>⟨μ,fun _ _ h=>h,hM,by cases hx;exact .ju⟩⟩
 ·rename_i id;split at h
  ·rename_i s et es hm;simp only[Option.some.injEq,Prod.mk.injEq]at h;obtain⟨rfl,rfl⟩:=h;refine⟨.set,fun P G w0 μ φ w x hM hx=>⟨_,kj hM (φ id).g,hM.freeze hm,?_⟩⟩;refine(hM.arr (.inl hm)).full hM hx (kj hM _) fun g hg=>?_;simp[nK,hg]
  ·rename_i s et es hm;simp only[Option.some.injEq,Prod.mk.injEq]at h;obtain⟨rfl,rfl⟩:=h;refine⟨.refl _,fun P G w0 μ φ w x hM hx=>⟨μ,fun _ _ h=>h,hM,?_⟩⟩;refine(hM.arr (.inr hm)).full hM hx (fun _ _ h=>h) fun g hg=>?_;obtain⟨o,ho⟩:=Option.isSome_iff_exists.1 ((hM.dG id _ hm).2 g hg);rw[ho,hM.ro _ _ ho]
  ·rename_i s et es hm;simp only[Option.some.injEq,Prod.mk.injEq]at h;obtain⟨rfl,rfl⟩:=h;refine⟨.set,fun P G w0 μ φ w x hM hx=>⟨_,oM hM _,hM.NJ hm,?_⟩⟩;have RF:=hM.NJ hm;have hF:aL P _ φ w id s et (es.map PV.strip):=(RF.dG id _ (aN _ _ _)).1;refine hF.DV (hx.vS (oM hM _)) (fun _ _ h=>h) fun g hg=>?_;unfold rH;rw[if_pos (show(bL.nest s et es).owns (φ id) g from .inl hg)]
  ·cases h
 ·cases h
theorem D4(h:Bh dc v=some (p,m')):∀(P:Program)(μ:Ro)(φ:Nat→aG)(x:Value),ai P μ φ v x→ak P μ p x:=by
 unfold Bh at h;split at h
 ·simp only[Option.some.injEq,Prod.mk.injEq]at h;obtain⟨rfl,rfl⟩:=h;exact fun P μ φ x hx=>by cases hx with|pv hx=>exact hx
 ·simp only[Option.some.injEq,Prod.mk.injEq]at h;obtain⟨rfl,rfl⟩:=h;exact fun P μ φ x hx=>by cases hx;exact .ju
 ·simp[dc]at h
 ·cases h
theorem oN(h:Bh dc v=some (p,m')):m'=dc:=by
 unfold Bh at h;split at h
 ·simp only[Option.some.injEq,Prod.mk.injEq]at h;exact h.2.symm
 ·simp only[Option.some.injEq,Prod.mk.injEq]at h;exact h.2.symm
 ·simp[dc]at h
 ·cases h
theorem BN:∀{cs:List V}{m m':Mem}{ps:List PV},kM m cs=some (ps,m')→iU m m'∧ps.length=cs.length∧∀(P:Program)(G:Nat→Option (List PV))(w0:bx)(μ:Ro)(φ:Nat→aG)(w:World)(X:Nat→Value),az P G w0 μ φ m w→(∀(i:Nat)u,cs[i]?=some u→ai P μ φ u (X i))→∃μ',(∀b o,μ b=some o→μ' b=some o)∧az P G w0 μ' φ m' w∧∀(i:Nat)p,ps[i]?=some p→ak P μ' p (X i)
 |[],m,m',ps,h=>by simp only[kM,Option.some.injEq,Prod.mk.injEq]at h;obtain⟨rfl,rfl⟩:=h;exact⟨.refl _,rfl,fun P G w0 μ φ w X hM _=>⟨μ,fun _ _ h=>h,hM,by simp⟩⟩
 |c::r,m,m',ps,h=>by
  simp only[kM]at h;split at h
  ·rename_i p m1 h1;split at h
   ·rename_i Vd m2 h2;simp only[Option.some.injEq,Prod.mk.injEq]at h;obtain⟨rfl,rfl⟩:=h;obtain⟨a1,a2⟩:=NL h1;obtain⟨b1,b2,b3⟩:=BN h2;refine⟨a1.trans b1,by simp[b2],fun P G w0 μ φ w X hM hx=>?_⟩;obtain⟨μ1,c1,c2,c3⟩:=a2 P G w0 μ φ w (X 0) hM (hx 0 c (by simp));obtain⟨μ2,d1,d2,d3⟩:=b3 P G w0 μ1 φ w (fun i=>X (i+1)) c2 (fun i u hu=>(hx (i+1) u (by simpa using hu)).vS c1);refine⟨μ2,fun b o h=>d1 b o (c1 b o h),d2,fun i q hq=>?_⟩;cases i with
    |zero=>simp at hq;subst hq;exact c3.mono d1
    |succ i=>exact d3 i q (by simpa using hq)
   ·cases h
  ·cases h
theorem wx:∀{cs:List V}{m':Mem}{ps:List PV},kM dc cs=some (ps,m')→ps.length=cs.length∧∀(P:Program)(μ:Ro)(φ:Nat→aG)(X:Nat→Value),(∀(i:Nat)u,cs[i]?=some u→ai P μ φ u (X i))→∀(i:Nat)p,ps[i]?=some p→ak P μ p (X i)
 |[],m',ps,h=>by simp only[kM,Option.some.injEq,Prod.mk.injEq]at h;obtain⟨rfl,rfl⟩:=h;exact⟨rfl,by simp⟩
 |c::r,m',ps,h=>by
  simp only[kM]at h;split at h
  ·rename_i p m1 h1;split at h
   ·rename_i Vd m2 h2;simp only[Option.some.injEq,Prod.mk.injEq]at h;obtain⟨rfl,rfl⟩:=h;have:=oN h1;subst this;obtain⟨b2,b3⟩:=wx h2;refine⟨by simp[b2],fun P μ φ X hx i q hq=>?_⟩;cases i with
    |zero=>simp at hq;subst hq;exact D4 h1 P μ φ _ (hx 0 c (by simp))
    |succ i=>exact b3 P μ φ (fun i=>X (i+1)) (fun i u hu=>hx (i+1) u (by simpa using hu)) i q (by simpa using hq)
   ·cases h
  ·cases h
structure qJ(P:Program)(μ:Ro)(n:Nat)(p:PV)(x:Value):Prop where
 len:p.cells.length=n
 size:x.cells.size=n
 rep:∀(j:Nat)q y,p.cells[j]?=some q→x.cells[j]?=some y→ak P μ q y
 one:∀(j:Nat)y,x.cells[j]?=some y→y.oneCell'=true
variable{n:Nat}{agg:Bool}
theorem vX{P:Program}{μ:Ro}{ps:List PV}{x:Value}(hp:(if agg then some (.agg ps)else match ps with|[p]=>some p|_=>none)=some p)(hl:ps.length=n)(hs:x.cells.size=n)(hr:∀(j:Nat)q y,ps[j]?=some q→x.cells[j]?=some y→ak P μ q y)(h1:∀(j:Nat)y,x.cells[j]?=some y→y.oneCell'=true):qJ P μ n p x:=by
 have hc:p.cells=ps:=by
  cases agg with
  |true=>simp at hp;subst hp;rfl
  |false=>
   simp only[Bool.false_eq_true,if_false]at hp;split at hp
   ·rename_i q;simp only[Option.some.injEq]at hp;subst hp;have bu:0<x.cells.size:=by simp at hl;omega
    have hr0:=hr 0 q _ (by simp) (Array.getElem?_eq_getElem bu);have Gy:=h1 0 _ (Array.getElem?_eq_getElem bu);generalize x.cells[0]=y at hr0 Gy;cases q<;>first|rfl|(cases hr0;simp[Value.oneCell']at Gy)
   ·cases hp
 exact⟨by rw[hc];exact hl,hs,by rw[hc];exact hr,h1⟩
theorem BO{m m':Mem}(h:jd m n agg v=some (p,m')):iU m m'∧∀(P:Program)(G:Nat→Option (List PV))(w0:bx)(μ:Ro)(φ:Nat→aG)(w:World)(x:Value),az P G w0 μ φ m w→ai P μ φ v x→∃μ',(∀b o,μ b=some o→μ' b=some o)∧az P G w0 μ' φ m' w∧qJ P μ' n p x:=by
 unfold jd at h;split at h
 ·rename_i cs hc;obtain⟨c1,c2,c3⟩:=toCells_ok hc;split at h
  ·rename_i ps m1 hf;obtain⟨f1,f2,f3⟩:=BN hf;have hp:(if agg then some (.agg ps)else match ps with|[p]=>some p|_=>none)=some p∧m1=m':=by
    cases agg with
    |true=>simp at h;exact⟨by simp[h.1],h.2⟩
    |false=>
     simp only[Bool.false_eq_true,if_false]at h⊢;split at h
     ·simp only[Option.some.injEq,Prod.mk.injEq]at h;exact⟨by simp[h.1],h.2⟩
     ·cases h
   obtain⟨hp,rfl⟩:=hp;refine⟨f1,fun P G w0 μ φ w x hM hx=>?_⟩;obtain⟨d1,d2,d3⟩:=c3 P μ φ x hx;have hX:∀(i:Nat),i<cs.length→x.cells[i]?=some (x.cells.getD i undef):=fun i hi=>by
    have bu:i<x.cells.size:=by omega
    rw[Array.getElem?_eq_getElem bu];simp[Array.getD,bu]
   obtain⟨μ',e1,e2,e3⟩:=f3 P G w0 μ φ w (fun i=>x.cells.getD i undef) hM fun i u hu=>d2 i u _ hu (hX i (List.getElem?_eq_some_iff.1 hu).1);refine⟨μ',e1,e2,vX hp (by omega) d1 (fun j q y hq hy=>?_) d3⟩;have:=e3 j q hq;rw[hX j (by have:=(List.getElem?_eq_some_iff.1 hq).1;omega)]at hy;simp only[Option.some.injEq]at hy;subst hy;exact this
  ·cases h
 ·cases h
theorem xv{m':Mem}(h:jd dc n agg v=some (p,m')):∀(P:Program)(μ:Ro)(φ:Nat→aG)(x:Value),ai P μ φ v x→qJ P μ n p x:=by
 unfold jd at h;split at h
 ·rename_i cs hc;obtain⟨c1,c2,c3⟩:=toCells_ok hc;split at h
  ·rename_i ps m1 hf;obtain⟨f2,f3⟩:=wx hf;have hp:(if agg then some (.agg ps)else match ps with|[p]=>some p|_=>none)=some p:=by
    cases agg with
    |true=>simp at h;simp[h.1]
    |false=>
     simp only[Bool.false_eq_true,if_false]at h⊢;split at h
     ·simp only[Option.some.injEq,Prod.mk.injEq]at h;simp[h.1]
     ·cases h
   refine fun P μ φ x hx=>?_;obtain⟨d1,d2,d3⟩:=c3 P μ φ x hx;have hX:∀(i:Nat),i<cs.length→x.cells[i]?=some (x.cells.getD i undef):=fun i hi=>by
    have bu:i<x.cells.size:=by omega
    rw[Array.getElem?_eq_getElem bu];simp[Array.getD,bu]
   have e3:=f3 P μ φ (fun i=>x.cells.getD i undef) fun i u hu=>d2 i u _ hu (hX i (List.getElem?_eq_some_iff.1 hu).1);refine vX hp (by omega) d1 (fun j q y hq hy=>?_) d3;have:=e3 j q hq;rw[hX j (by have:=(List.getElem?_eq_some_iff.1 hq).1;omega)]at hy;simp only[Option.some.injEq]at hy;subst hy;exact this
  ·cases h
 ·cases h
theorem G3{draw:Bool}{m m':Mem}(h:tz draw m n agg v=some (p,m')):iU m m'∧(draw=true→m'=m∧∀m2:Mem,tz true m2 n agg v=some (p,m2))∧∀(P:Program)(G:Nat→Option (List PV))(w0:bx)(μ:Ro)(φ:Nat→aG)(w:World)(x:Value),az P G w0 μ φ m w→ai P μ φ v x→∃μ',(∀b o,μ b=some o→μ' b=some o)∧az P G w0 μ' φ m' w∧qJ P μ' n p x:=by
 unfold tz at h;split at h
 ·rename_i hd;split at h
  ·rename_i q m1 hf;simp only[Option.some.injEq,Prod.mk.injEq]at h;obtain⟨rfl,rfl⟩:=h;exact⟨.refl _,fun _=>⟨rfl,fun m2=>by simp[tz,hf]⟩,fun P G w0 μ φ w x hM hx=>⟨μ,fun _ _ h=>h,hM,xv hf P μ φ x hx⟩⟩
  ·cases h
 ·rename_i hd;obtain⟨h1,h2⟩:=BO h;exact⟨h1,fun NM=>absurd NM hd,h2⟩
theorem aL.set{P:Program}{μ:Ro}{φ:Nat→aG}{w:World}{id sz:Nat}{et:TypeId}{es:List PV}(hA:aL P μ φ w id sz et es){g:Nat}(hg:(φ id).g=some g){i off n:Nat}{e p q:PV}{x:Value}(he:es[i]?=some e)(hE:qJ P μ n p x)(hb:off+n≤sz)(hq:q.cells=bQ (aK sz e) off p.cells):∃c T,w.heap[g]?=some (.cells c T (0,0))∧i*sz+off+x.cells.size≤c.size∧aL P μ φ (w.setRow g (bQ c.toList (i*sz+off) x.cells.toList).toArray) id sz et (es.set i q):=by
 obtain⟨a1,a2,a3,a4,a5,a6,a7⟩:=hA;rw[hg]at a7;obtain⟨c,c1,c2,c3,c4,c5⟩:=a7;have hi:i<es.length:=(List.getElem?_eq_some_iff.1 he).1;have Fe:i*sz+off+n≤c.size:=by have:(i+1)*sz≤(φ id).cap*sz:=Nat.mul_le_mul_right _ (by omega);rw[Nat.add_mul]at this;omega
 have D5:x.cells.toList.length=n:=by simpa using hE.size
 have BH:(aK sz e).length=sz:=bn _ _;have UZ:q.cells.length=sz:=by rw[hq,cN (by rw[BH,hE.len];exact hb),BH]
 have il:(bQ c.toList (i*sz+off) x.cells.toList).length=c.size:=by rw[cN (by simp[hE.size];omega)];simp
 have rJ:∀(i':Nat)e',(es.set i q)[i']?=some e'→(i'=i∧e'=q)∨(i'≠i∧es[i']?=some e'):=by
  intro i' e' h';rw[List.getElem?_set]at h';split at h'
  ·rename_i D6;subst D6;simp[hi]at h';exact .inl ⟨rfl,h'.symm⟩
  ·rename_i D6;exact .inr ⟨fun e=>D6 e.symm,h'⟩
 refine⟨c,et,c1,by rw[hE.size];exact Fe,?_⟩;refine⟨by simp[a1],a2,a3,a4,fun i' e' h'=>?_,a6,?_⟩
 ·rcases rJ i' e' h' with⟨_,rfl⟩|⟨_,h'⟩
  ·exact UZ
  ·exact a5 i' e' h'
 ·rw[hg];refine⟨_,setRow_heap w g c _ et (0,0) c1,by simp[il,c2],by simpa using c3,fun i' e' j p' x' h' hj hx=>?_,fun j x' hj hx=>?_⟩
  ·rw[List.getElem?_toArray]at hx;rcases dy (by simp[hE.size];omega) hx with⟨b1,b2,b3⟩|⟨b1,b2⟩
   ·rw[D5]at b2;have D6:i'=i∧e'=q:=by
     rcases rJ i' e' h' with h|⟨cQ,h'⟩
     ·exact h
     ·exfalso;have yz:=(List.getElem?_eq_some_iff.1 hj).1;rw[a5 i' e' h']at yz;rcases Nat.lt_or_gt_of_ne cQ with bu|hgt
      ·have:(i'+1)*sz≤i*sz:=Nat.mul_le_mul_right _ bu;rw[Nat.add_mul]at this;omega
      ·have:(i+1)*sz≤i'*sz:=Nat.mul_le_mul_right _ hgt;rw[Nat.add_mul]at this;omega
    obtain⟨rfl,rfl⟩:=D6;rw[hq]at hj;rcases dy (by rw[BH,hE.len];exact hb) hj with⟨d1,d2,d3⟩|⟨d1,d2⟩
    ·exact hE.rep _ _ _ d3 (by rw[←Array.getElem?_toList,←b3];congr 1;omega)
    ·exfalso;rw[hE.len]at d1;omega
   ·rw[D5]at b1;have b2:c[i'*sz+j]?=some x':=by simpa using b2
    rcases rJ i' e' h' with⟨rfl,rfl⟩|⟨cQ,h'⟩
    ·rw[hq]at hj;rcases dy (by rw[BH,hE.len];exact hb) hj with⟨d1,d2,d3⟩|⟨d1,d2⟩
     ·exfalso;rw[hE.len]at d2;omega
     ·rw[fO (a5 i' e he)]at d2;exact c4 i' e j p' x' he d2 b2
    ·exact c4 i' e' j p' x' h' hj b2
  ·rw[List.getElem?_toArray]at hx;rw[List.length_set]at hj;rcases dy (by simp[hE.size];omega) hx with⟨b1,b2,b3⟩|⟨b1,b2⟩
   ·exact hE.one _ x' (by simpa using b3)
   ·exact c5 j x' hj (by simpa using b2)
variable{off:Nat}
theorem Ff{s0:Nat}{e:PV}(he:e.cells.length=s0)(ho:off<s0)(hp:∀cs,p≠.agg cs):(setRow s0 e off p).cells=e.cells.set off p:=by
 have h1:p.cells=[p]:=by cases p<;>first|rfl|exact absurd rfl (hp _)
 unfold setRow;split
 ·rename_i hs;subst hs;have:off=0:=by omega
  subst this;match hc:e.cells,he with
  |[c],_=>simp[h1]
 ·simp only[PV.cells,fO he]
theorem BP{s:Nat}{e:PV}(h1:p.cells.length=n)(h2:e.cells.length=s):(setCells s e off n p).cells=bQ (aK s e) off p.cells:=by
 unfold setCells;split
 ·rename_i h;obtain⟨rfl,rfl⟩:=h;rw[dA,h1];simp[bn]
 ·rfl
theorem aX.change{P:Program}{μ μ':Ro}{φ φ':Nat→aG}{w w':World}{sz:Nat}{et:TypeId}{es es':List PV}(h:aX P μ φ w id sz et es)(hlen:es'.length=es.length)(ta:∀(i:Nat)e,es'[i]?=some e→e.cells.length=sz)(hφ:(φ' id).tozP=(φ id).tozP)(hw:∀g,(φ id).g=some g→w'.heap[g]?=w.heap[g]?)(hc:∀(i:Nat)e'(j:Nat)p' g c x,es'[i]?=some e'→e'.cells[j]?=some p'→(φ id).g=some g→w.heap[g]?=some (.cells c et (0,0))→c[i*sz+j]?=some x→(∀e p,es[i]?=some e→e.cells[j]?=some p→ei P μ ((φ id).row i j) w p x)→ei P μ' ((φ' id).row i j) w' p' x):aX P μ' φ' w' id sz et es':=by
 obtain⟨a1,a2,a3,a4,a5,a6,a7⟩:=h;unfold aX;rw[hφ];refine⟨by rw[hlen];exact a1,a2,a3,a4,ta,a6,?_⟩;cases hg:(φ id).g with
 |none=>rw[hg]at a7;refine⟨?_,a7.2⟩;have:=a7.1;subst this;exact List.eq_nil_of_length_eq_zero hlen
 |some g=>rw[hg]at a7;obtain⟨c,c1,c2,c3,c4,c5⟩:=a7;exact⟨c,by rw[hw g hg];exact c1,c2,by rw[hlen];exact c3,fun i e' j p' x h1 h2 h3=>hc i e' j p' g c x h1 h2 hg c1 h3 fun e p he hp=>c4 i e j p x he hp h3,fun i x hi hx=>c5 i x (by rw[←hlen];exact hi) hx⟩
theorem ek{T:Type}{l:List T}{i i':Nat}{q e':T}(h:(l.set i q)[i']?=some e'):(i'=i∧e'=q)∨(i'≠i∧l[i']?=some e'):=by
 rw[List.getElem?_set]at h;split at h
 ·rename_i D6;subst D6;split at h
  ·simp only[Option.some.injEq]at h;exact .inl ⟨rfl,h.symm⟩
  ·cases h
 ·rename_i D6;exact .inr ⟨fun e=>D6 e.symm,h⟩
theorem aX.set{P:Program}{μ:Ro}{φ:Nat→aG}{w:World}{sz:Nat}{et:TypeId}{es:List PV}(hA:aX P μ φ w id sz et es)(BM:(bL.nest sz et es).apart (φ id)){g:Nat}(hg:(φ id).g=some g){i:Nat}{e q:PV}{x:Value}(he:es[i]?=some e)(hE:qJ P μ n p x)(hb:off+n≤sz)(hq:q.cells=bQ (aK sz e) off p.cells):∃c T,w.heap[g]?=some (.cells c T (0,0))∧i*sz+off+x.cells.size≤c.size∧aX P μ φ (w.setRow g (bQ c.toList (i*sz+off) x.cells.toList).toArray) id sz et (es.set i q)∧∀i' qE,(bL.nest sz et (es.set i q)).rowAt i' qE=true→(bL.nest sz et es).rowAt i' qE=true:=by
 have tu:=hA;obtain⟨a1,a2,a3,a4,a5,a6,a7⟩:=hA;rw[hg]at a7;obtain⟨c,c1,c2,c3,c4,c5⟩:=a7;have hi:i<es.length:=(List.getElem?_eq_some_iff.1 he).1;have Fe:i*sz+off+n≤c.size:=by have:(i+1)*sz≤(φ id).cap*sz:=Nat.mul_le_mul_right _ (by omega);rw[Nat.add_mul]at this;omega
 have D5:x.cells.toList.length=n:=by simpa using hE.size
 have BH:(aK sz e).length=sz:=bn _ _;have UZ:q.cells.length=sz:=by rw[hq,cN (by rw[BH,hE.len];exact hb),BH]
 have il:(bQ c.toList (i*sz+off) x.cells.toList).length=c.size:=by rw[cN (by simp[hE.size];omega)];simp
 have cQ:∀i' j' g',(bL.nest sz et es).rowAt i' j'=true→((φ id).row i' j').g=some g'→g'≠g:=fun i' j' g' hr bV e=>(BM i' j' g' hr bV).1 (by rw[e];exact hg);have tv:∀{i' j':Nat}{e' p':PV}{x':Value}{l:List Value},es[i']?=some e'→e'.cells[j']?=some p'→ei P μ ((φ id).row i' j') w p' x'→ei P μ ((φ id).row i' j') (w.setRow g l.toArray) p' x':=fun h1 h2 h3=>h3.cE (fun _ _ h=>h) fun hr g' bV=>cG (cQ _ _ g' (by rw[dx h1 h2];exact hr) bV);refine⟨c,et,c1,by rw[hE.size];exact Fe,⟨by simp[a1],a2,a3,a4,fun i' e' h'=>?_,a6,?_⟩,?_⟩
 ·rcases ek h' with⟨_,rfl⟩|⟨_,h'⟩
  ·exact UZ
  ·exact a5 i' e' h'
 ·rw[hg];refine⟨_,setRow_heap w g c _ et (0,0) c1,by simp[il,c2],by simpa using c3,fun i' e' j p' x' h' hj hx=>?_,fun j x' hj hx=>?_⟩
  ·rw[List.getElem?_toArray]at hx;rcases dy (by simp[hE.size];omega) hx with⟨b1,b2,b3⟩|⟨b1,b2⟩
   ·rw[D5]at b2;have D6:i'=i∧e'=q:=by
     rcases ek h' with h|⟨cQ,h'⟩
     ·exact h
     ·exfalso;have yz:=(List.getElem?_eq_some_iff.1 hj).1;rw[a5 i' e' h']at yz;rcases Nat.lt_or_gt_of_ne cQ with bu|hgt
      ·have:(i'+1)*sz≤i*sz:=Nat.mul_le_mul_right _ bu;rw[Nat.add_mul]at this;omega
      ·have:(i+1)*sz≤i'*sz:=Nat.mul_le_mul_right _ hgt;rw[Nat.add_mul]at this;omega
    obtain⟨rfl,rfl⟩:=D6;rw[hq]at hj;rcases dy (by rw[BH,hE.len];exact hb) hj with⟨d1,d2,d3⟩|⟨d1,d2⟩
    ·exact .pure (hE.rep _ _ _ d3 (by rw[←Array.getElem?_toList,←b3];congr 1;omega))
    ·exfalso;rw[hE.len]at d1;omega
   ·rw[D5]at b1;have b2:c[i'*sz+j]?=some x':=by simpa using b2
    rcases ek h' with⟨rfl,rfl⟩|⟨cQ,h'⟩
    ·rw[hq]at hj;rcases dy (by rw[BH,hE.len];exact hb) hj with⟨d1,d2,d3⟩|⟨d1,d2⟩
     ·exfalso;rw[hE.len]at d2;omega
     ·rw[fO (a5 i' e he)]at d2;exact tv he d2 (c4 i' e j p' x' he d2 b2)
    ·exact tv h' hj (c4 i' e' j p' x' h' hj b2)
  ·rw[List.getElem?_toArray]at hx;rw[List.length_set]at hj;rcases dy (by simp[hE.size];omega) hx with⟨b1,b2,b3⟩|⟨b1,b2⟩
   ·exact hE.one _ x' (by simpa using b3)
   ·exact c5 j x' hj (by simpa using b2)
 ·intro i' qE hr;rcases iT hr with⟨_,_,_,e',s,rs,fV,h',qq⟩|⟨_,_,_,_,_,_,fV,_⟩
  ·simp only[bL.nest.injEq]at fV;obtain⟨rfl,rfl,rfl⟩:=fV;rcases ek h' with⟨rfl,rfl⟩|⟨cQ,h'⟩
   ·rw[hq]at qq;rcases dy (by rw[BH,hE.len];exact hb) qq with⟨d1,d2,d3⟩|⟨d1,d2⟩
    ·exfalso;have bu:qE-off<x.cells.size:=by rw[hE.size,←hE.len];exact(List.getElem?_eq_some_iff.1 d3).1
     exact absurd (hE.rep _ _ _ d3 (Array.getElem?_eq_getElem bu)).A3 (by simp[PV.isRow])
    ·rw[fO (a5 i' e he)]at d2;rw[dx he d2];rfl
   ·rw[dx h' qq];rfl
  ·cases fV
end
section
variable {R:Type} {E:Env}
theorem Pb{draw:Bool}{t:TypeId}{a x:V}{m:Mem}{k:Mem→bq→Option R}{r:R}(h:sn E draw t a x m k=some r):∃m' ft,k m' ft=some r∧(draw=true→∃id b,m'=au m id b∧ft=[(true,id)]∧∀m2:Mem,m2 id=m id→∀(R':Type)(k':Mem→bq→Option R'),sn E true t a x m2 k'=k' (au m2 id b) [(true,id)])∧iU m m'∧∀(G:Nat→Option (List PV))(w0:bx)(μ:Ro)(φ:Nat→aG)(w:World)(ya yx:Value),az E.P G w0 μ φ m w→ai E.P μ φ a ya→ai E.P μ φ x yx→(∀id,x.has id=true→(m id).isSome=true)→∃w' μ',(Instr.storeAt t ya yx).run E.P w=.ok () w'∧(∀b o,μ b=some o→μ' b=some o)∧az E.P G w0 μ' φ m' w':=by
 unfold sn at h;split at h
 ·rename_i id off;split at h
  ·rename_i cs hm;split at h
   ·rename_i new hn;split at h
    ·rename_i hb;refine⟨_,_,h,fun hd=>⟨id,_,rfl,rfl,fun m2 cM R' k'=>by simp only[sn,cM,hm,hn];rw[if_pos hb]⟩,.set,fun G w0 μ φ w ya yx hM ha hx hlx=>?_⟩;obtain⟨n1,n2,n3⟩:=toCells_ok hn;obtain⟨x1,x2,x3⟩:=n3 _ _ _ _ hx;cases ha with
     | @op _ _ g hg=>
      obtain⟨g',c,T,bV,hh,hs,hv,h1,yP⟩:=hM.dG id _ hm;rw[hg]at bV;simp only[Option.some.injEq]at bV;subst bV;have hi:=lj (P:=E.P) (t:=t) (by omega);have nQ:off+yx.cells.toList.length≤c.toList.length:=by simp;omega
      refine⟨_,μ,gY x1 hi hh (by omega) x3,fun _ _ h=>h,?_⟩;refine hM.write hm rfl hg (jG.setRow (Nat.le_refl _)) setRow_size (fun k hk=>cG hk) ⟨g,_,T,hg,setRow_heap w g c _ T (0,0) hh,?_,fun i u y hu hy=>?_,fun i y hy=>?_,by rw[cN (by omega)];exact yP⟩ rfl fun j hj=>?_
      ·simp only[List.size_toArray];rw[cN nQ,cN (by omega)];simp[hs]
      ·rw[List.getElem?_toArray]at hy;have e1:yx.cells.toList.length=new.length:=by simp;omega
       rcases dy nQ hy with⟨b1,b2,b3⟩|⟨b1,b2⟩<;>rcases dy (by omega) hu with⟨d1,d2,d3⟩|⟨d1,d2⟩
       ·exact x2 _ u y d3 (by simpa using b3)
       ·exfalso;omega
       ·exfalso;omega
       ·exact hv i u y d2 (by simpa using b2)
      ·rw[List.getElem?_toArray]at hy;rcases dy nQ hy with⟨b1,b2,b3⟩|⟨b1,b2⟩
       ·exact x3 _ y (by simpa using b3)
       ·exact h1 i y (by simpa using b2)
      ·simp only[bL.names]at hj;obtain⟨v,JH,hh'⟩:=cR.1 hj;simp only[dA,List.mem_append]at JH;rcases JH with(JH|JH)|JH
       ·exact hM.fp id cs j hm (bM (List.mem_of_mem_take JH) hh')
       ·exact hlx j (n2 j (bM JH hh'))
       ·exact hM.fp id cs j hm (bM (List.mem_of_mem_drop JH) hh')
    ·cases h
   ·cases h
  ·cases h
 ·rename_i id i off;split at h
  ·rename_i p m1 hf;obtain⟨f1,f2,f3⟩:=G3 hf;split at h
   ·rename_i s et es hm;obtain⟨e,he,h⟩:=Option.bind_eq_some_iff.1 h;have key:∀q,0<aU E.P t→off+aU E.P t≤s→(p.cells.length=aU E.P t→e.cells.length=s→q.cells=bQ (aK s e) off p.cells)→∀(G:Nat→Option (List PV))(w0:bx)(μ:Ro)(φ:Nat→aG)(w:World)(ya yx:Value),az E.P G w0 μ φ m w→ai E.P μ φ (.oe id i off) ya→ai E.P μ φ x yx→(∀id,x.has id=true→(m id).isSome=true)→∃w' μ',(Instr.storeAt t ya yx).run E.P w=.ok () w'∧(∀b o,μ b=some o→μ' b=some o)∧az E.P G w0 μ' φ (au m1 id (.arr s et (es.set i q))) w':=by
     intro q hz hb hq G w0 μ φ w ya yx hM ha hx _;obtain⟨μ',g1,g2,g3⟩:=f3 _ _ _ _ _ _ _ hM hx;cases ha with
     | @oe _ _ _ g hg=>have hA:aL E.P μ' φ w id s et es:=g2.dG id _ hm;have Pc:=hq g3.len (hA.2.2.2.2.1 i e he);obtain⟨c,T,hh,nQ,tu⟩:=hA.set hg he g3 hb Pc;have k9:(φ id).sz=s:=hA.2.1;have hi:=lj (P:=E.P) (t:=t) (by omega);refine⟨_,μ',?_,g1,g2.write hm rfl hg (jG.setRow (Nat.le_refl _)) setRow_size (fun k hk=>cG hk) tu rfl fun j hj=>by simp[bL.names]at hj⟩;rw[k9];exact gY g3.size hi hh nQ g3.one
    split at h
    ·rename_i hb;refine⟨_,_,h,fun hd=>?_,f1.trans .set,key p (by omega) (by omega) fun h1 h2=>?_⟩
     ·obtain⟨rfl,f4⟩:=f2 hd;refine⟨id,_,rfl,rfl,fun m2 cM R' k'=>?_⟩;simp only[sn,f4 m2,cM,hm,he,Option.bind_some];rw[if_pos hb]
     ·rw[hb.1,dA,h1,hb.2.1];simp[bn]
    ·rename_i hnb;split at h
     ·rename_i hb;refine⟨_,_,h,fun hd=>?_,f1.trans .set,key _ (by omega) (by omega) fun _ _=>rfl⟩;obtain⟨rfl,f4⟩:=f2 hd;refine⟨id,_,rfl,rfl,fun m2 cM R' k'=>?_⟩;simp only[sn,f4 m2,cM,hm,he,Option.bind_some];rw[if_neg hnb,if_pos hb]
     ·cases h
   ·rename_i s et es hm;obtain⟨e,he,h⟩:=Option.bind_eq_some_iff.1 h;split at h
    ·rename_i hb;refine⟨_,_,h,fun hd=>?_,f1.trans .set,fun G w0 μ φ w ya yx hM ha hx _=>?_⟩
     ·obtain⟨rfl,f4⟩:=f2 hd;refine⟨id,_,rfl,rfl,fun m2 cM R' k'=>?_⟩;simp only[sn,f4 m2,cM,hm,he,Option.bind_some];rw[if_pos hb]
     ·obtain⟨μ',g1,g2,g3⟩:=f3 _ _ _ _ _ _ _ hM hx;cases ha with
      | @oe _ _ _ g hg=>have hA:aX E.P μ' φ w id s et es:=g2.dG id _ hm;obtain⟨c,T,hh,nQ,tu,hrw⟩:=aX.set (q:=.agg (bQ (aK s e) off p.cells)) hA (g2.apart id _ hm) hg he g3 hb.1 rfl;have k9:(φ id).sz=s:=hA.2.1;have hi:=lj (P:=E.P) (t:=t) (by omega);refine⟨_,μ',?_,g1,g2.write hm rfl hg (jG.setRow (Nat.le_refl _)) setRow_size (fun k hk=>cG hk) tu rfl (fun j hj=>by simp[bL.names]at hj) (fun st h=>by cases h) hrw⟩;rw[k9];exact gY g3.size hi hh nQ g3.one
    ·cases h
   ·cases h
  ·cases h
 ·rename_i id i off s j off2;split at h
  ·rename_i p m1 hf;split at h
   ·rename_i s0 et es hm;obtain⟨e,he,h⟩:=Option.bind_eq_some_iff.1 h;obtain⟨rs,hr,h⟩:=Option.bind_eq_some_iff.1 h;obtain⟨q,hq,h⟩:=Option.bind_eq_some_iff.1 h;split at h
    ·rename_i hb;refine⟨_,_,h,fun _=>⟨id,_,rfl,rfl,fun m2 cM R' k'=>?_⟩,.set,fun G w0 μ φ w ya yx hM ha hx _=>?_⟩
     ·simp only[sn,hf,cM,hm,he,hr,hq,Option.bind_some];rw[if_pos hb]
     ·have hE:=xv hf E.P μ φ yx hx;have hN:aX E.P μ φ w id s0 et es:=hM.dG id _ hm;obtain⟨g,y,hg,vY,⟨⟨Bn,hA⟩,hV⟩,hce⟩:=hN.row he hr;have BM:=hM.apart id _ hm;have iQ:(bL.nest s0 et es).rowAt i off=true:=by rw[dx he hce];rfl
      have yQ:=hN.2.2.2.2.1 i e he;have Fg:(setRow s0 e off (.cK s (rs.set j (setCells s q off2 (aU E.P t) p)))).cells=e.cells.set off (.cK s (rs.set j (setCells s q off2 (aU E.P t) p))):=Ff yQ hb.2.2 (by simp);cases ha with
      | @xg _ _ _ _ _ _ g' bV hs=>
       obtain⟨cQ,aar⟩:=BM i off g' iQ bV;obtain⟨c,T,hh,nQ,tu⟩:=hA.set (g:=g') bV hq hE hb.1 (BP hE.len (hA.2.2.2.2.1 j q hq));have hi:=lj (P:=E.P) (t:=t) (by omega);refine⟨_,μ,gY hE.size hi hh nQ hE.one,fun _ _ h=>h,hM.RE hm rfl (.inr ⟨i,off,iQ,bV⟩) (jG.setRow (Nat.le_refl _)) setRow_size (fun k hk=>cG hk) ?_ rfl (fun j hj=>by simp[bL.names]at hj) ?_⟩
       ·refine aX.change hN (by simp) (fun i' e' h'=>?_) rfl (fun g0 Jk=>cG fun e=>cQ (by rw[←e];exact Jk)) (fun i' e' j' p' g0 c0 x' h' qq Jk hc0 JI hold=>?_)
        ·rcases ek h' with⟨_,rfl⟩|⟨_,h'⟩
         ·rw[Fg,List.length_set];exact yQ
         ·exact hN.2.2.2.2.1 i' e' h'
        ·have other:∀e'' p'',es[i']?=some e''→e''.cells[j']?=some p''→(i',j')≠(i,off)→ei E.P μ ((φ id).row i' j') (w.setRow g' (bQ c.toList (j*s+off2) yx.cells.toList).toArray) p'' x':=fun e'' p'' h1 h2 h3=>(hold e'' p'' h1 h2).cE (fun _ _ h=>h) fun ru g'' aeH=>cG fun e=>by subst e;obtain⟨e1,e2⟩:=aar i' j' (by rw[dx h1 h2];exact ru) aeH;exact h3 (by rw[e1,e2])
         rcases ek h' with⟨rfl,rfl⟩|⟨RG,h'⟩
         ·rw[Fg]at qq;rcases ek qq with⟨rfl,rfl⟩|⟨hnj,qq⟩
          ·have JJ:eI E.P μ ((φ id).row i' j') w s rs x':=hold e _ he hce;refine⟨⟨Bn,tu⟩,?_⟩;exact JJ.2
          ·exact other e p' he qq fun e=>hnj (by simpa using e)
         ·exact other e' p' h' qq fun e=>RG (by have:=congrArg Prod.fst e;exact this)
       ·intro i' qE ru;rcases iT ru with⟨_,_,_,e',s',rs',fV,h',qq⟩|⟨_,_,_,_,_,_,fV,_⟩
        ·simp only[bL.nest.injEq]at fV;obtain⟨rfl,rfl,rfl⟩:=fV;rcases ek h' with⟨rfl,rfl⟩|⟨RG,h'⟩
         ·rw[Fg]at qq;rcases ek qq with⟨rfl,_⟩|⟨hnj,qq⟩
          ·exact iQ
          ·rw[dx he qq];rfl
         ·rw[dx h' qq];rfl
        ·cases fV
    ·cases h
   ·cases h
  ·cases h
 ·cases h
end
end Go.Ab
set_option linter.unusedVariables false
namespace Go.Ab
open Go.RowKit (Below)
structure Cells(P:Program)(μ:Ro)(sz:Nat)(es:List PV)(xs:List Value):Prop where
 len:xs.length=es.length*sz
 each:∀(i:Nat)e,es[i]?=some e→e.cells.length=sz
 rep:∀(i:Nat)e(j:Nat)p y,es[i]?=some e→e.cells[j]?=some p→xs[i*sz+j]?=some y→ak P μ p y
 one:∀(i:Nat)y,xs[i]?=some y→y.oneCell'=true
section
variable {P:Program} {μ μ':Ro} {φ:Nat→aG} {w:World} {sz:Nat} {es es':List PV} {xs xs':List Value}
theorem Cells.nil:Cells P μ sz [] []:=⟨by simp,by simp,by simp,by simp⟩
theorem Cells.mono(h:Cells P μ sz es xs)(hμ:∀b o,μ b=some o→μ' b=some o):Cells P μ' sz es xs:=⟨h.len,h.each,fun i e j p y h1 h2 h3=>(h.rep i e j p y h1 h2 h3).mono hμ,h.one⟩
theorem BQ{i j n:Nat}(hi:i<n)(hj:j<sz):i*sz+j<n*sz:=by have:(i+1)*sz≤n*sz:=Nat.mul_le_mul_right _ hi;rw[Nat.add_mul]at this;omega
theorem Cells.append(h:Cells P μ sz es xs)(h':Cells P μ sz es' xs'):Cells P μ sz (es++es') (xs++xs'):=by
 refine⟨by simp[h.len,h'.len,Nat.add_mul],fun i e hi=>?_,fun i e j p y hi hj hy=>?_,fun i y hy=>?_⟩
 ·rw[List.getElem?_append]at hi;split at hi
  ·exact h.each i e hi
  ·exact h'.each _ e hi
 ·rw[List.getElem?_append]at hi hy;split at hi
  ·rename_i hl;have yz:j<sz:=by rw[←h.each i e hi];exact(List.getElem?_eq_some_iff.1 hj).1
   rw[if_pos (by rw[h.len];exact BQ hl yz)]at hy;exact h.rep i e j p y hi hj hy
  ·rename_i hl;have hle:es.length*sz≤i*sz:=Nat.mul_le_mul_right _ (by omega);rw[if_neg (by rw[h.len];omega)]at hy;refine h'.rep _ e j p y hi hj ?_;rw[←hy,h.len,Nat.sub_mul];congr 1;omega
 ·rw[List.getElem?_append]at hy;split at hy
  ·exact h.one i y hy
  ·exact h'.one _ y hy
theorem Cells.take(h:Cells P μ sz es xs)(n:Nat):Cells P μ sz (es.take n) (xs.take (n*sz)):=by
 refine⟨?_,fun i e hi=>h.each i e (ep hi).2,fun i e j p y hi hj hy=>h.rep i e j p y (ep hi).2 hj (ep hy).2,fun i y hy=>h.one i y (ep hy).2⟩;rw[List.length_take,List.length_take,h.len];rcases Nat.le_total n es.length with hn|hn
 ·rw[Nat.min_eq_left hn,Nat.min_eq_left (Nat.mul_le_mul_right _ hn)]
 ·rw[Nat.min_eq_right hn,Nat.min_eq_right (Nat.mul_le_mul_right _ hn)]
theorem Cells.drop(h:Cells P μ sz es xs)(n:Nat):Cells P μ sz (es.drop n) (xs.drop (n*sz)):=by refine⟨by simp[h.len,Nat.sub_mul],fun i e hi=>h.each _ e (lf hi),fun i e j p y hi hj hy=>h.rep _ e j p y (lf hi) hj ?_,fun i y hy=>h.one _ y (lf hy)⟩;rw[←lf hy,Nat.add_mul];congr 1;omega
variable{id:Nat}{et:TypeId}
theorem aL.cells(hA:aL P μ φ w id sz et es){g:Nat}(hg:(φ id).g=some g):∃c:Array Value,w.heap[g]?=some (.cells c et (0,0))∧(φ id).cap*sz≤c.size∧es.length≤(φ id).cap∧es.length*sz≤c.size∧Cells P μ sz es (c.toList.take (es.length*sz)):=by
 obtain⟨a1,a2,a3,a4,a5,a6,a7⟩:=hA;rw[hg]at a7;obtain⟨c,c1,c2,c3,c4,c5⟩:=a7;have hle:es.length*sz≤c.size:=Nat.le_trans (Nat.mul_le_mul_right _ c3) c2;refine⟨c,c1,c2,c3,hle,by simp;omega,a5,fun i e j p y hi hj hy=>?_,fun i y hy=>?_⟩
 ·exact c4 i e j p y hi hj (by simpa using(ep hy).2)
 ·have:=ep hy;exact c5 i y this.1 (by simpa using this.2)
theorem aL.oO{g:Nat}{c:Array Value}(Vc:(φ id).tozP=⟨some g,(φ id).cap,es.length,sz⟩)(k9:sz=aU P et)(dK:0<sz)(nr:(φ id).cap≤maxLen)(hh:w.heap[g]?=some (.cells c et (0,0)))(hc:(φ id).cap*sz≤c.size)(hle:es.length≤(φ id).cap)(hC:Cells P μ sz es (c.toList.take (es.length*sz))):aL P μ φ w id sz et es:=by
 have e1:(φ id).g=some g:=by rw[Vc]
 refine⟨by rw[Vc],by rw[Vc],k9,dK,hC.each,nr,?_⟩;rw[e1];have yz:∀(i:Nat)e(j:Nat)p,es[i]?=some e→e.cells[j]?=some p→i*sz+j<es.length*sz:=fun i e j p hi hj=>BQ (List.getElem?_eq_some_iff.1 hi).1 (by rw[←hC.each i e hi];exact(List.getElem?_eq_some_iff.1 hj).1);refine⟨c,hh,hc,hle,fun i e j p x hi hj hx=>?_,fun i x hi hx=>?_⟩
 ·exact hC.rep i e j p x hi hj (by rw[List.getElem?_take_of_lt (yz i e j p hi hj)];simpa using hx)
 ·exact hC.one i x (by rw[List.getElem?_take_of_lt hi];simpa using hx)
inductive vZ(P:Program)(μ:Ro)(w:World)(sz:Nat)(es:List PV):Value→Prop
 |none:es=[]→vZ P μ w sz es (.slice none 0 0)
 |some {a:Addr} {c:Nat} (xs:List Value):Cells P μ sz es xs→(∀(j:Nat)v,xs[j]?=some v→w.cell? (a.add j)=some v)→es.length≤c→c≤maxLen→vZ P μ w sz es (.slice (some a) es.length c)
theorem aL.src(hA:aL P μ φ w id sz et es){g:Nat}(hg:(φ id).g=some g){lo len cap:Nat}(hl:lo+len≤es.length)(tp:len≤cap)(ahs:lo+cap≤(φ id).cap):vZ P μ w sz ((es.drop lo).take len) (.slice (some ⟨g,lo*sz,none⟩) len cap):=by
 obtain⟨c,c1,c2,c3,c4,c5⟩:=hA.cells hg;have nr:=hA.mU;have hlen:((es.drop lo).take len).length=len:=by simp;omega
 have:=vZ.some (P:=P) (μ:=μ) (w:=w) (sz:=sz) (es:=(es.drop lo).take len) (a:=⟨g,lo*sz,none⟩) (c:=cap) _ ((c5.drop lo).take len) (fun j v hv=>?_) (by omega) (by omega)
 ·rw[hlen]at this;exact this
 ·have h1:=(ep hv).2;have h2:=(ep (lf h1)).2;rw[Addr.add_mid,dL c1];simpa using h2
end
section
variable {R:Type} {E:Env}
theorem ak.src{P:Program}{G:Nat→Option (List PV)}{w0:bx}{μ:Ro}{φ:Nat→aG}{m:Mem}{w:World}{sz:Nat}{es:List PV}{y:Value}(hM:az P G w0 μ φ m w)(h:ak P μ (.rs sz es) y):vZ P μ w sz es y:=by
 cases h with
 |ju=>exact .none rfl
 |Gx hc=>exact .some (es:=[]) [] .nil (by simp) (by simp) hc
 | @rs _ _ b o cap X h1 h2 h3 h4 h5 h6=>
  by_cases hz:sz=0
  ·subst hz;refine .some [] ⟨by simp,h3,fun i e j p y hi hj=>?_,by simp⟩ (by simp) h1 h2;have:=h3 i e hi;have:=(List.getElem?_eq_some_iff.1 hj).1;omega
  ·have eH:∀k v,((List.range (es.length*sz)).map fun k=>X (k/sz) (k%sz))[k]?=some v→∃(e:PV)(p:PV),es[k/sz]?=some e∧e.cells[k%sz]?=some p∧v=X (k/sz) (k%sz):=by
    intro k v hk;have bu:k<es.length*sz:=by have:=(List.getElem?_eq_some_iff.1 hk).1;simpa using this
    rw[List.getElem?_map,List.getElem?_range bu]at hk;simp at hk;have hi:k/sz<es.length:=(Nat.div_lt_iff_lt_mul (by omega)).2 bu;have hj:k%sz<(es[k/sz]).cells.length:=by rw[h3 _ _ (List.getElem?_eq_getElem hi)];exact Nat.mod_lt _ (by omega)
    exact⟨_,_,List.getElem?_eq_getElem hi,List.getElem?_eq_getElem hj,hk.symm⟩
   refine .some ((List.range (es.length*sz)).map fun k=>X (k/sz) (k%sz)) ⟨by simp,h3,fun i e j p y hi hj hy=>?_,fun k v hk=>?_⟩ (fun k v hk=>?_) h1 h2
   ·obtain⟨e',p',he,hp,rfl⟩:=eH _ _ hy;have yz:j<sz:=by rw[←h3 i e hi];exact(List.getElem?_eq_some_iff.1 hj).1
    have e1:(i*sz+j)/sz=i:=by rw[Nat.mul_comm,Nat.mul_add_div (by omega),Nat.div_eq_of_lt yz];rfl
    have e2:(i*sz+j)%sz=j:=by rw[Nat.mul_comm,Nat.mul_add_mod,Nat.mod_eq_of_lt yz]
    rw[e1,e2];exact h5 i e j p hi hj
   ·obtain⟨e',p',he,hp,rfl⟩:=eH _ _ hk;exact h6 _ e' _ p' he hp
   ·obtain⟨e',p',he,hp,rfl⟩:=eH _ _ hk;rw[Addr.add_mid];have:=hM.cellAt (h4 _ e' _ p' he hp);rw[←this];congr 2;rw[Nat.add_assoc,Nat.div_add_mod' k sz]
theorem mr{m:Mem}{sz:Nat}{x:V}{es:List PV}{ft:bq}(h:eG m sz x=some (es,ft)):(∀m2:Mem,(∀x∈ft,m2 x.2=m x.2)→eG m2 sz x=some (es,ft))∧(∀x∈ft,x.1=false)∧∀(P:Program)(G:Nat→Option (List PV))(w0:bx)(μ:Ro)(φ:Nat→aG)(w:World)(y:Value),az P G w0 μ φ m w→ai P μ φ x y→vZ P μ w sz es y:=by
 unfold eG at h;split at h
 ·rename_i s es';split at h
  ·rename_i hs;simp only[Option.some.injEq,Prod.mk.injEq]at h;obtain⟨rfl,rfl⟩:=h;subst hs;exact⟨fun m2 _=>by simp[eG],by simp,fun P G w0 μ φ w y hM hy=>by cases hy with|pv hy=>exact hy.src hM⟩
  ·split at h
   ·simp only[Option.some.injEq,Prod.mk.injEq]at h;obtain⟨rfl,rfl⟩:=h;refine⟨fun m2 _=>by simp[eG],by simp,fun P G w0 μ φ w y hM hy=>?_⟩;cases hy with
    |pv hy=>cases hy with
     |ju=>exact .none rfl
     |Gx hc=>exact .some (es:=[]) [] .nil (by simp) (by simp) hc
     |rs X h1 h2=>exact .some (es:=[]) [] .nil (by simp) h1 h2
   ·cases h
 ·simp only[Option.some.injEq,Prod.mk.injEq]at h;obtain⟨rfl,rfl⟩:=h;exact⟨fun m2 _=>by simp[eG],by simp,fun P G w0 μ φ w y hM hy=>by cases hy;exact .none rfl⟩
 ·rename_i id;have key:∀(s:Nat)(et:TypeId)(es:List PV),(m id=some (.arr s et es)∨m id=some (.nZ s et es))→∀(P:Program)(G:Nat→Option (List PV))(w0:bx)(μ:Ro)(φ:Nat→aG)(w:World)(y:Value),az P G w0 μ φ m w→ai P μ φ (.os id) y→vZ P μ w s es y:=by
   intro s et es hm P G w0 μ φ w y hM hy;have hA:=hM.arr hm;cases hy with
   |pZ hg=>obtain⟨a1,a2,a3,a4,a5,a6,a7⟩:=hA;rw[hg]at a7;exact .none a7.1
   |os hg=>have:=hA.src hg (lo:=0) (len:=es.length) (cap:=(φ id).cap) (by omega) (hA.mU).1 (by omega);rw[hA.1];simpa using this
  split at h
  ·rename_i s' et es' hm;split at h
   ·rename_i hs;simp only[Option.some.injEq,Prod.mk.injEq]at h;obtain⟨rfl,rfl⟩:=h;subst hs;exact⟨fun m2 cM=>by have:=cM (false,id) (by simp);simp only at this;simp[eG,this,hm],by simp,key _ _ _ (.inl hm)⟩
   ·cases h
  ·rename_i s' et es' hm;split at h
   ·rename_i hs;simp only[Option.some.injEq,Prod.mk.injEq]at h;obtain⟨rfl,rfl⟩:=h;subst hs;exact⟨fun m2 cM=>by have:=cM (false,id) (by simp);simp only at this;simp[eG,this,hm],by simp,key _ _ _ (.inr hm)⟩
   ·cases h
  ·cases h
 ·rename_i id lo len;have key:∀(s:Nat)(et:TypeId)(es:List PV),(m id=some (.arr s et es)∨m id=some (.nZ s et es))→∀(P:Program)(G:Nat→Option (List PV))(w0:bx)(μ:Ro)(φ:Nat→aG)(w:World)(y:Value),az P G w0 μ φ m w→ai P μ φ (.fm id lo len) y→vZ P μ w s ((es.drop lo).take len) y:=by
   intro s et es hm P G w0 μ φ w y hM hy;have hA:=hM.arr hm;have hle:=hA.mU;have Pd:=hA.1;have k9:=hA.2.1;cases hy with
   |oF hg=>simp;exact .none rfl
   |fm hg hl ha WQ BB=>
    rcases ha with rfl|⟨ha,_⟩
    ·rw[k9];exact hA.src hg (by omega) WQ BB
    ·have h0:len=0:=by omega
     subst h0;simp only[List.take_zero];exact .some (es:=[]) [] .nil (by simp) (by simp) (by omega)
  split at h
  ·rename_i s' et es' hm;split at h
   ·rename_i hs;simp only[Option.some.injEq,Prod.mk.injEq]at h;obtain⟨rfl,rfl⟩:=h;subst hs;exact⟨fun m2 cM=>by have:=cM (false,id) (by simp);simp only at this;simp[eG,this,hm],by simp,key _ _ _ (.inl hm)⟩
   ·cases h
  ·rename_i s' et es' hm;split at h
   ·rename_i hs;simp only[Option.some.injEq,Prod.mk.injEq]at h;obtain⟨rfl,rfl⟩:=h;subst hs;exact⟨fun m2 cM=>by have:=cM (false,id) (by simp);simp only at this;simp[eG,this,hm],by simp,key _ _ _ (.inr hm)⟩
   ·cases h
  ·cases h
 ·rename_i id i off;split at h
  ·rename_i s0 et0 bZ hm;obtain⟨e,he,h⟩:=Option.bind_eq_some_iff.1 h;obtain⟨rs,hr,h⟩:=Option.bind_eq_some_iff.1 h;simp only[Option.some.injEq,Prod.mk.injEq]at h;obtain⟨rfl,rfl⟩:=h;refine⟨fun m2 cM=>by have:=cM (false,id) (by simp);simp only at this;simp[eG,this,hm,he,hr],by simp,fun P G w0 μ φ w y hM hy=>?_⟩;have hN:aX P μ φ w id s0 et0 bZ:=hM.dG id _ hm;obtain⟨_,_,_,_,⟨⟨Bn,hA⟩,_⟩,_⟩:=hN.row he hr;have hy:=hy.JD (ν:=μ);cases hy with
   |pZ hg=>obtain⟨a1,a2,a3,a4,a5,a6,a7⟩:=hA;rw[hg]at a7;exact .none a7.1
   |os hg=>have:=hA.src hg (lo:=0) (len:=rs.length) (cap:=(((φ id).row i off).up).cap) (by omega) (hA.mU).1 (by omega);rw[hA.1];simpa using this
  ·cases h
 ·cases h
end
end Go.Ab
set_option linter.unusedVariables false
namespace Go.Ab
open Go.RowKit (Below)
section
variable {P:Program} {w:World}
theorem nv{t ty e:TypeId}(hu:P.underlying t=some (.slice e))(hz:aU P e≠0){base a:Option Addr}{n cap c:Nat}(hn:n≤cap):(Builtin.append_ #[t,t] ty #[.slice base n cap,.slice a 0 c]).run P w=.ok (.slice base n cap) w:=by
 obtain⟨i,hi,hs⟩:=vj hz;have hl:∀x:Addr,(loadCells x 0).run P w=.ok #[] w:=fun x=>by simpa using run_loadCells_list (P:=P) w x [] (by simp)
 cases base<;>cases a<;>simp[Builtin.append_,run_underlying hu,sizeOf,typeInfo,hi,Builtin.lenOf,Builtin.firstCells,hn,hl,storeCells]
end
section
variable {R:Type} {E:Env}
variable{t:TypeId}
theorem D7{P:Program}{i:TypeInfo}(hi:P.info? t=some i):i.bytes=Dm P t∧i.size=aU P t:=by simp[Dm,aU,hi]
theorem BR{P:Program}{e ty:TypeId}{sz len n:Nat}{z:Value}{i:TypeInfo}(hu:P.underlying t=some (.slice e))(hi:P.info? e=some i)(hzv:i.zero=some z)(G4:z.cells.size=sz)(k9:sz=aU P e)(dK:0<aU P e)(hby:0<Dm P e)(df:(len+n)*Dm P e≤aa){w:World}{ys yx:Value}{os xs:List Value}(hs:(ys=.slice none 0 0∧len=0∧os=[])∨∃(g cap:Nat)(c:Array Value),ys=.slice (some ⟨g,0,none⟩) len cap∧w.heap[g]?=some (.cells c e (0,0))∧cap*sz≤c.size∧len≤cap∧cap≤maxLen∧os=c.toList.take (len*sz))(hx:(yx=.slice none 0 0∧n=0∧xs=[])∨∃(a:Addr)(cx:Nat),yx=.slice (some a) n cx∧xs.length=n*sz∧(∀(j:Nat)v,xs[j]?=some v→w.cell? (a.add j)=some v)∧(∀v∈xs,v.oneCell'=true)∧n≤cx∧cx≤maxLen):∃w' y,(Builtin.append_ #[t,t] ty #[ys,yx]).run P w=.ok y w'∧((y=.slice none 0 0∧w'=w∧len=0∧n=0)∨∃(g cap:Nat)(c:Array Value),y=.slice (some ⟨g,0,none⟩) (len+n) cap∧w'.heap[g]?=some (.cells c e (0,0))∧cap*sz≤c.size∧len+n≤cap∧cap≤maxLen∧c.toList.take ((len+n)*sz)=os++xs∧((∃Ve,ys=.slice (some ⟨g,0,none⟩) len Ve∧jG g w w'∧∀k,k≠g→w'.heap[k]?=w.heap[k]?)∨(g=w.heap.size∧w'=w.drew.alloc (.cells c e)))):=by
 obtain⟨WW,WX⟩:=D7 hi;have Yp:len+n≤140737488355328:=by have:(len+n)*1≤(len+n)*Dm P e:=Nat.mul_le_mul_left _ hby;simp only[aa]at df;omega
 have aeI:len+n≤maxLen:=by simp only[maxLen];omega
 have QW:∀n,(Builtin.zeroCells z.cells n).size=n*sz:=fun n=>by rw[size_zeroCells,G4]
 rcases hs with⟨rfl,rfl,rfl⟩|⟨g,cap,c,rfl,g4,g5,g6,g7,rfl⟩
 ·rcases hx with⟨rfl,rfl,rfl⟩|⟨a,cx,rfl,D5,G5,hx1,WY,RH⟩
  ·exact⟨w,_,nv hu (by omega) (Nat.le_refl _),.inl ⟨rfl,rfl,rfl,rfl⟩⟩
  ·by_cases h0:n=0
   ·subst h0;exact⟨w,_,nv hu (by omega) (Nat.le_refl _),.inl ⟨rfl,rfl,rfl,rfl⟩⟩
   ·have hr:=run_append_nil (P:=P) w t ty e i z hu hi hzv a n cx xs (by rw[D5,k9,WX]) G5 (by omega) (by simp only[Nat.zero_add]at Yp;omega) (by simp only[aa,Nat.zero_add]at df;rw[WW];omega);have Dr:=grownCap_ge w n 0 e;refine⟨_,_,hr,.inr ⟨w.heap.size,grownCap w n 0 e,xs.toArray++Builtin.zeroCells z.cells (grownCap w n 0 e-n),by simp,fJ w.drew _,?_,by simpa using Dr,grownCap_le_maxLen w _ 0 e (by simpa using aeI),?_,.inr ⟨rfl,rfl⟩⟩⟩
    ·rw[Array.size_append,QW];simp only[List.size_toArray,D5,←Nat.add_mul];exact Nat.mul_le_mul_right _ (by omega)
    ·simp only[Array.toList_append,List.nil_append,Nat.zero_add];exact List.take_left' D5
 ·have h1:(c.toList.take (len*sz)).length=len*sz:=by have:len*sz≤cap*sz:=Nat.mul_le_mul_right _ g6;simp;omega
  rcases hx with⟨rfl,rfl,rfl⟩|⟨a,cx,rfl,D5,G5,hx1,WY,RH⟩
  ·exact⟨w,_,nv hu (by omega) g6,.inr ⟨g,cap,c,rfl,g4,g5,by simpa using g6,g7,by simp,.inl ⟨cap,rfl,jG.refl _ _,fun _ _=>rfl⟩⟩⟩
  ·by_cases QX:len+n≤cap
   ·have nQ:len*i.size+xs.length≤c.size:=by rw[WX,←k9,D5,←Nat.add_mul];exact Nat.le_trans (Nat.mul_le_mul_right _ QX) g5
    have hr:=run_append_room (P:=P) w t ty e i hu hi g len cap c g4 a n cx xs (by rw[D5,k9,WX]) G5 hx1 QX nQ;rw[WX,←k9]at hr nQ;refine⟨_,_,hr,.inr ⟨g,cap,_,rfl,setRow_heap w g c _ e (0,0) g4,?_,QX,g7,?_,.inl ⟨cap,rfl,jG.setRow (Nat.le_refl _),fun k hk=>cG hk⟩⟩⟩
    ·simp only[List.size_toArray,List.length_append,List.length_take,List.length_drop,Array.length_toList];omega
    ·simp only[];exact List.take_left' (by rw[List.length_append,h1,D5,Nat.add_mul])
   ·have hr:=run_append_grow (P:=P) w t ty e i z hu hi hzv ⟨g,0,none⟩ len cap (c.toList.take (len*sz)) (by rw[h1,k9,WX]) (fun j v hj=>by
      rw[Addr.add_mid,dL g4];simpa using(ep hj).2) a n cx xs (by rw[D5,k9,WX]) G5 (by omega) (by omega)
     (growslice_fits (by omega) (by rw[WW];simpa[aa]using df))
    have Dr:=grownCap_ge w (len+n) cap e;refine⟨_,_,hr,.inr ⟨w.heap.size,_,_,rfl,fJ w.drew _,?_,Dr,grownCap_le_maxLen w _ cap e (by omega),?_,.inr ⟨rfl,rfl⟩⟩⟩
    ·rw[Array.size_append,Array.size_append,QW];simp only[List.size_toArray,D5,h1,←Nat.add_mul];exact Nat.mul_le_mul_right _ (by omega)
    ·simp only[Array.toList_append];exact List.take_left' (by rw[List.length_append,h1,D5,Nat.add_mul])
theorem BS{e ty:TypeId}{sz:Nat}{es new:List PV}{z:List V}(hu:E.P.underlying t=some (.slice e))(hz:dg E e=some z)(k9:sz=aU E.P e)(dK:0<aU E.P e)(hby:0<Dm E.P e)(df:(es++new).length*Dm E.P e≤aa){G:Nat→Option (List PV)}{w0:bx}{μ:Ro}{φ:Nat→aG}{m:Mem}{w:World}{ρ:Nat→Value}{f:Fr}{draw:Bool}{site:Nat}(hM:az E.P G w0 μ φ m w)(hF:cm E.P μ φ m f ρ){ys yx:Value}(hx:vZ E.P μ w sz new yx)(hs:(ys=.slice none 0 0∧es=[])∨∃(g cap:Nat)(c:Array Value),ys=.slice (some ⟨g,0,none⟩) es.length cap∧w0.heap.size≤g∧μ g=none∧(∀id b',m id=some b'→¬b'.owns (φ id) g)∧w.heap[g]?=some (.cells c e (0,0))∧cap*sz≤c.size∧es.length≤cap∧cap≤maxLen∧es.length*sz≤c.size∧Cells E.P μ sz es (c.toList.take (es.length*sz))){f':Fr}{m':Mem}(tF:∀(P:Program)(G:Nat→Option (List PV))(w0:bx)(μ:Ro)(φ:Nat→aG)(w w':World)(ρ:Nat→Value)(ph:aG),az P G w0 μ φ m w→cm P μ φ m f ρ→jI P w0 μ φ m w w' site (.arr sz e (es++new)) ph→∃φ',φ' site=ph∧az P G w0 μ φ' m' w'∧cm P μ φ' m' f' ρ):∃w' y φ',(Builtin.append_ #[t,t] ty #[ys,yx]).run E.P w=.ok y w'∧az E.P G w0 μ φ' m' w'∧cm E.P μ φ' m' f' ρ∧ai E.P μ φ' (.os site) y:=by
 obtain⟨i,zv,hi,hzv,WX,_,G4,_,_,_⟩:=eD hz;have G6:(es++new).length=es.length+new.length:=by simp
 obtain⟨os,Yq,hC⟩:∃os,((ys=.slice none 0 0∧es.length=0∧os=[])∨∃(g cap:Nat)(c:Array Value),ys=.slice (some ⟨g,0,none⟩) es.length cap∧w.heap[g]?=some (.cells c e (0,0))∧cap*sz≤c.size∧es.length≤cap∧cap≤maxLen∧os=c.toList.take (es.length*sz))∧Cells E.P μ sz es os:=by
  rcases hs with⟨h1,rfl⟩|⟨g,cap,c,h1,h2,h3,h4,h5,h6,h7,h8,h9,Gy⟩
  ·exact⟨[],.inl ⟨h1,rfl,rfl⟩,.nil⟩
  ·exact⟨_,.inr ⟨g,cap,c,h1,h5,h6,h7,h8,rfl⟩,Gy⟩
 obtain⟨xs,G5,hCx⟩:∃xs,((yx=.slice none 0 0∧new.length=0∧xs=[])∨∃(a:Addr)(cx:Nat),yx=.slice (some a) new.length cx∧xs.length=new.length*sz∧(∀(j:Nat)v,xs[j]?=some v→w.cell? (a.add j)=some v)∧(∀v∈xs,v.oneCell'=true)∧new.length≤cx∧cx≤maxLen)∧Cells E.P μ sz new xs:=by
  cases hx with
  |none hn=>subst hn;exact⟨[],.inl ⟨rfl,rfl,rfl⟩,.nil⟩
  | @some a cx xs hC G5 WY RH=>exact⟨xs,.inr ⟨a,cx,rfl,hC.len,G5,fun u hu=>by obtain⟨j,hj⟩:=List.getElem?_of_mem hu;exact hC.one j u hj,WY,RH⟩,hC⟩
 obtain⟨w',y,hr,RI⟩:=BR (ty:=ty) hu hi hzv (by rw[G4,k9]) k9 dK hby (by rw[←G6];exact df) Yq G5;rcases RI with⟨rfl,rfl,h1,h2⟩|⟨g',AM,c',rfl,b1,b2,b3,b4,b5,b6⟩
 ·have h1:es=[]:=List.eq_nil_of_length_eq_zero h1;have h2:new=[]:=List.eq_nil_of_length_eq_zero h2;obtain⟨φ',a1,a2,a3⟩:=tF E.P G w0 μ φ w' w' ρ (Dg none 0 0 sz) hM hF ⟨jG.refl _ _,hM.ro,fun _ _ _ _ _=>rfl,by simp,fun φ' hp _=>by refine⟨by rw[hp,h1,h2];rfl,by rw[hp],k9,by omega,by rw[h1,h2];simp,by rw[hp];simp[maxLen],?_⟩;rw[hp];exact⟨by rw[h1,h2];rfl,rfl⟩,by simp[bL.names],fun st h=>by cases h⟩;exact⟨w',_,φ',hr,a2,a3,.pZ (by rw[a1])⟩
 ·have hCC:Cells E.P μ sz (es++new) (c'.toList.take ((es++new).length*sz)):=by rw[G6,b5];exact hC.append hCx
  have fin:∀(φ':Nat→aG),φ' site=Dg (some g') AM (es++new).length sz→ai E.P μ φ' (.os site) (.slice (some ⟨g',0,none⟩) (es.length+new.length) AM):=fun φ' a1=>by have:=ai.os (P:=E.P) (μ:=μ) (φ:=φ') (id:=site) (g:=g') (by rw[a1]);rw[a1,G6]at this;exact this
  rcases b6 with⟨Ve,hys,b6,b7⟩|⟨rfl,rfl⟩
  ·rcases hs with⟨h1,_⟩|⟨g,cap,c,h1,h2,h3,h4,_⟩
   ·rw[hys]at h1;cases h1
   rw[hys]at h1;simp only[Value.slice.injEq,Option.some.injEq,Addr.mk.injEq]at h1;obtain⟨⟨rfl,_⟩,_⟩:=h1;obtain⟨φ',a1,a2,a3⟩:=tF E.P G w0 μ φ w w' ρ (Dg (some g') AM (es++new).length sz) hM hF ⟨b6.mono h2,fun k o hk=>by rw[b7 k (fun e=>by subst e;rw[h3]at hk;cases hk)];exact hM.ro k o hk,fun id b' g' hid bV=>b7 g' (fun e=>by subst e;exact h4 id b' hid bV),fun g' bV=>by simp only[Option.some.injEq]at bV;subst bV;exact⟨h2,h3,h4⟩,fun φ' hp _=>aL.oO (by rw[hp]) k9 (by omega) (by rw[hp];exact b4) b1 (by rw[hp];exact b2) (by rw[hp,G6];exact b3) hCC,by simp[bL.names],fun st h=>by cases h⟩;exact⟨w',_,φ',hr,a2,a3,fin φ' a1⟩
  ·obtain⟨φ',a1,a2,a3⟩:=tF E.P G w0 μ φ w.drew _ ρ (Dg (some w.heap.size) AM (es++new).length sz) hM.drew hF (jI.alloc (o:=.cells c' e) hM.drew rfl (fun φ' hp _=>aL.oO (g:=w.heap.size) (by rw[hp]) k9 (by omega) (by rw[hp];exact b4) (fJ w.drew _) (by rw[hp];exact b2) (by rw[hp,G6];exact b3) hCC) (by simp[bL.names]));exact⟨_,_,φ',hr,a2,a3,fin φ' a1⟩
end
end Go.Ab
set_option linter.unusedVariables false
namespace Go.Ab
open Go.RowKit (Below)
section
variable {R:Type} {E:Env}
theorem JK{draw:Bool}{site:Nat}{t t':TypeId}{s x:V}{f:Fr}{m:Mem}{k:V→Fr→Mem→Option R}{r:R}(h:xm E draw site t t' s x f m k=some r):draw=false∧t'=t∧∃place f' m',k (.os place) f' m'=some r∧(m' place).isSome=true∧∀(G:Nat→Option (List PV))(w0:bx)(μ:Ro)(φ:Nat→aG)(w:World)(ρ:Nat→Value)(ys yx:Value)(ty:TypeId),az E.P G w0 μ φ m w→cm E.P μ φ m f ρ→ai E.P μ φ s ys→ai E.P μ φ x yx→∃w' y φ',(Builtin.append_ #[t,t] ty #[ys,yx]).run E.P w=.ok y w'∧az E.P G w0 μ φ' m' w'∧cm E.P μ φ' m' f' ρ∧ai E.P μ φ' (.os place) y:=by
 unfold xm at h;split at h
 ·cases h
 ·rename_i hd;simp only[Bool.or_eq_true,not_or,Bool.not_eq_true,Bool.not_eq_false',decide_eq_true_eq,Bool.not_eq_eq_eq_not,Bool.not_true,Bool.not_false]at hd;refine⟨hd.1,by simpa using hd.2,?_⟩;split at h
  ·rename_i e hu;split at h
   ·cases h
   ·rename_i hz;obtain⟨z,hz⟩:∃z,dg E e=some z:=by
     cases hq:dg E e with
     |none=>simp[hq]at hz
     |some z=>exact⟨z,rfl⟩
    split at h
    ·rename_i new ft yQ;obtain⟨_,_,wy⟩:=mr yQ;split at h
     ·split at h
      ·rename_i hb;obtain⟨f',m',_,hk,vp,_,tF⟩:=cF h;refine⟨_,f',m',hk,by simp[vp],fun G w0 μ φ w ρ ys yx ty hM hF hs hx=>?_⟩;cases hs;exact BS (es:=[]) (draw:=false) hu hz rfl hb.2.2 hb.2.1 (by simpa using hb.1) hM hF (wy _ _ _ _ _ _ _ hM hx) (.inl ⟨rfl,rfl⟩) tF
      ·cases h
     ·rename_i id;split at h
      ·rename_i sz et es hm;split at h
       ·rename_i hc;obtain⟨rfl,rfl,aht⟩:=hc;split at h
        ·rename_i hb;obtain⟨f',m',_,hk,vp,_,tF⟩:=cF h;refine⟨_,f',m',hk,by simp[vp],fun G w0 μ φ w ρ ys yx ty hM hF hs hx=>?_⟩;have rI:=hM.forget id;have AP:=hF.forget id;have hA:aL E.P μ φ w id (aU E.P et) et es:=hM.dG id _ hm;have dK:0<aU E.P et:=hA.2.2.2.1;refine BS (draw:=false) hu hz rfl dK hb.2 hb.1 rI AP (wy _ _ _ _ _ _ _ hM hx) ?_ tF;cases hs with
         |pZ hg=>have a7:=hA.2.2.2.2.2.2;rw[hg]at a7;exact .inl ⟨rfl,a7.1⟩
         | @os _ g hg=>obtain⟨c,c1,c2,c3,c4,c5⟩:=hA.cells hg;obtain⟨o1,o2⟩:=hM.own id _ g hm (.inl hg);refine .inr ⟨g,(φ id).cap,c,by rw[hA.1],o1,o2 rfl,fun j b' hj bV=>?_,c1,c2,c3,hA.mU.2,c4,c5⟩;obtain⟨cQ,b2,oL,rfl⟩:=eL hj;exact cQ (hM.inj j id b2 _ g oL hm (fI.1 bV) (.inl hg))
        ·cases h
       ·cases h
      ·cases h
     ·cases h
    ·cases h
  ·cases h
theorem Fh{P:Program}{w:World}{dT ty elem:TypeId}{ts:List TypeId}{g aas dCap:Nat}{c:Array Value}{T:TypeId}{sz:Nat}{es new:List PV}{μ:Ro}{yx:Value}(hu:P.underlying dT=some (.slice elem))(k9:sz=aU P elem)(dK:0<sz)(hx:vZ P μ w sz new yx)(hg:w.heap[g]?=some (.cells c T (0,0)))(hle:es.length*sz≤c.size)(hd:aas=es.length)(hC:Cells P μ sz es (c.toList.take (es.length*sz))):∃c':Array Value,(Builtin.copy_ (dT::ts).toArray ty #[.slice (some ⟨g,0,none⟩) aas dCap,yx]).run P w=.ok (goInt ((min new.length es.length:Nat):Int)) (w.setRow g c')∧c'.size=c.size∧Cells P μ sz (new.take es.length++es.drop new.length) (c'.toList.take ((new.take es.length++es.drop new.length).length*sz)):=by
 subst hd;obtain⟨i,hi,hs⟩:=vj (P:=P) (t:=elem) (by omega);have hnl:(new.take es.length++es.drop new.length).length=es.length:=by simp;omega
 rw[hnl];cases hx with
 |none hn=>subst hn;refine⟨c,?_,rfl,by simpa using hC⟩;have:=setRow_self w g c T (0,0) hg;rw[this];simp[Builtin.copy_,run_underlying hu,Builtin.lenOf,Builtin.firstCells,sizeOf,typeInfo,hi,storeCells]
 | @some a cx xs hX G5 WY RH=>
  have Vf:Nat.min new.length es.length=min new.length es.length:=rfl;have hl:(xs.take (min new.length es.length*sz)).length=min new.length es.length*i.size:=by rw[hs,←k9,List.length_take,hX.len];exact Nat.min_eq_left (Nat.mul_le_mul_right _ (Nat.min_le_left _ _))
  have aeJ:min new.length es.length*sz≤es.length*sz:=Nat.mul_le_mul_right _ (Nat.min_le_right _ _);have hf:=run_firstCells_some (P:=P) w i.size (min new.length es.length) a new.length cx (xs.take (min new.length es.length*sz)) hl (fun j v hj=>G5 j v (ep hj).2);have GZ:(xs.take (min new.length es.length*sz)).length=min new.length es.length*sz:=by rw[hl,hs,k9]
  have tv:=run_storeCells_at P g 0 T (xs.take (min new.length es.length*sz)) 0 c w hg (by rw[GZ];omega) (fun v hv=>by obtain⟨j,hj⟩:=List.getElem?_of_mem hv;exact hX.one j v (ep hj).2);simp only[Nat.zero_add,List.take_zero,List.nil_append,GZ]at tv;refine⟨(xs.take (min new.length es.length*sz)++c.toList.drop (min new.length es.length*sz)).toArray,?_,?_,?_⟩
  ·have aat:Nat.min new.length es.length=min new.length es.length:=rfl;simp[Builtin.copy_,run_underlying hu,Builtin.lenOf,sizeOf,typeInfo,hi,aat,hf,tv]
  ·simp only[List.size_toArray,List.length_append,GZ,List.length_drop,Array.length_toList];omega
  ·have e1:(xs.take (min new.length es.length*sz)++c.toList.drop (min new.length es.length*sz)).take (es.length*sz)=xs.take (min new.length es.length*sz)++(c.toList.take (es.length*sz)).drop (min new.length es.length*sz):=by rw[List.take_append,GZ,List.drop_take,List.take_of_length_le (by rw[GZ];exact aeJ)]
   simp only[];rw[e1];have h1:=(hX.take (min new.length es.length)).append (hC.drop (min new.length es.length));have e2:new.take (min new.length es.length)=new.take es.length:=by
    rcases Nat.le_total new.length es.length with hh|hh
    ·rw[Nat.min_eq_left hh,List.take_length,List.take_of_length_le hh]
    ·rw[Nat.min_eq_right hh]
   have e3:es.drop (min new.length es.length)=es.drop new.length:=by
    rcases Nat.le_total new.length es.length with hh|hh
    ·rw[Nat.min_eq_left hh]
    ·rw[Nat.min_eq_right hh,List.drop_length,List.drop_eq_nil_of_le hh]
   rw[e2,e3]at h1;exact h1
theorem D8{R:Type}(m:Mem)(sz:Nat)(x:V)(k:List PV→bq→Option R):E4 m sz x k=(eG m sz x).bind fun p=>k p.1 p.2:=by
 cases x with
 |tx id i off=>
  simp only[E4,eG];cases hm:m id with
  |none=>rfl
  |some b=>
   cases b with
   |nest s e es=>
    simp only;cases es[i]? with
    |none=>rfl
    |some e=>simp only[Option.bind_some];cases aO sz (cell e off)<;>rfl
   |_=>rfl
 |_=>
  simp only[E4];generalize eG m sz _=o;cases o with
  |none=>rfl
  |some p=>rfl
theorem RJ{t:TypeId}{d x:V}{m:Mem}{k:V→Mem→bq→Option R}{r:R}(h:GL E t d x m k=some r):∃n id b ft,(∀m2:Mem,(∀x∈((true,id)::ft:bq),m2 x.2=m x.2)→∀(R':Type)(k':V→Mem→bq→Option R'),GL E t d x m2 k'=k' (.pv (.int .i64 n)) (au m2 id b) ((true,id)::ft))∧k (.pv (.int .i64 n)) (au m id b) ((true,id)::ft)=some r∧∀(G:Nat→Option (List PV))(w0:bx)(μ:Ro)(φ:Nat→aG)(w:World)(ρ:Nat→Value)(f:Fr)(yd yx:Value)(ts:List TypeId)(ty:TypeId),az E.P G w0 μ φ m w→cm E.P μ φ m f ρ→ai E.P μ φ d yd→ai E.P μ φ x yx→∃w' φ',(Builtin.copy_ (t::ts).toArray ty #[yd,yx]).run E.P w=.ok (.int .i64 n) w'∧az E.P G w0 μ φ' (au m id b) w'∧cm E.P μ φ' (au m id b) f ρ∧(Lit.int .i64 n).wf=true:=by
 unfold GL at h;split at h
 ·rename_i e hu;split at h
  ·rename_i id;split at h
   ·rename_i sz et es hm;split at h
    ·rename_i hc;rw[D8]at h;obtain⟨⟨new,ft⟩,yQ,h⟩:=Option.bind_eq_some_iff.1 h
     ·obtain⟨G7,_,wy⟩:=mr yQ;refine⟨_,id,_,ft,fun m2 cM R' k'=>?_,h,fun G w0 μ φ w ρ f yd yx ts ty hM hF hd hx=>?_⟩
      ·have h1:=cM (true,id) (by simp);simp only at h1;simp only[GL,hu,h1,hm];rw[if_pos hc,D8];simp only[G7 m2 (fun y hy=>cM y (by simp[hy])),Option.bind_some]
      ·have hA:aL E.P μ φ w id sz et es:=hM.dG id _ hm;have hS:=wy _ _ _ _ _ _ _ hM hx;have hle:=hA.mU;have hlen:(new.take es.length++es.drop new.length).length=es.length:=by simp;omega
       have A4:(Lit.int .i64 ((min new.length es.length:Nat):Int)).wf=true:=BD (by omega);cases hd with
       |pZ hg=>
        have a7:=hA.2.2.2.2.2.2;rw[hg]at a7;have h0:=a7.1;subst h0;refine⟨w,φ,?_,?_,?_,A4⟩
        ·obtain⟨i,hi,hs⟩:=vj (P:=E.P) (t:=e) (by have:=hA.2.2.2.1;omega);have Jl:∀x:Addr,(loadCells x 0).run E.P w=.ok #[] w:=fun x=>by simpa using run_loadCells_list (P:=E.P) w x [] (by simp)
         cases hS with
         |none hn=>subst hn;simp[Builtin.copy_,run_underlying hu,Builtin.lenOf,Builtin.firstCells,sizeOf,typeInfo,hi,hA.1,goInt]
         |some xs hX G5 WY RH=>simp[Builtin.copy_,run_underlying hu,Builtin.lenOf,Builtin.firstCells,sizeOf,typeInfo,hi,hA.1,Jl,goInt]
        ·have:au m id (.arr sz et (new.take ([]:List PV).length++([]:List PV).drop new.length))=m:=by
          funext j;by_cases e:j=id
          ·subst e;simp[hm]
          ·rw[av e]
         rw[this];exact hM
        ·exact hF.lk (fun _ _ h=>h) .set
       | @os _ g hg=>
        obtain⟨c,c1,c2,c3,c4,c5⟩:=hA.cells hg;obtain⟨c',r1,r2,r3⟩:=Fh (ts:=ts) (ty:=ty) (dCap:=(φ id).cap) hu hc.1 hA.2.2.2.1 hS c1 c4 hA.1 c5;refine⟨_,φ,r1,hM.write hm rfl hg (jG.setRow (Nat.le_refl _)) setRow_size (fun k hk=>cG hk) ?_ rfl (by simp[bL.names]),hF.lk (fun _ _ h=>h) .set,A4⟩;refine aL.oO (g:=g) ?_ hA.2.2.1 hA.2.2.2.1 hle.2 (setRow_heap w g c c' et (0,0) c1) (by rw[r2];exact c2) (by rw[hlen];exact c3) r3;rw[hlen,←hA.1,←hA.2.1];cases hq:(φ id).tozP with
        |mk a b c d=>rw[hq]at hg;simp only at hg;simp[hg]
    ·cases h
   ·cases h
  ·cases h
 ·cases h
end
end Go.Ab
