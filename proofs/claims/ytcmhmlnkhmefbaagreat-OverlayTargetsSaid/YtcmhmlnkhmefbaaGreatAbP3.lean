import Derived.Test.YtcmhmlnkhmefbaaGreatAbP2
import Derived.Great.BuildSlice
import Derived.Laws.AppendOwn
import Derived.Laws.MakeOwn
set_option linter.unusedVariables false
namespace Go.Ab
open Go.RowKit (Below)
structure cj(P:Program)(μ:Ro)(φ:Nat→aC)(m:Mem)(f:Fr)(ρ:Nat→Value):Prop where
 fr:∀t,af P μ φ (f t) (ρ t)
 live:∀t id,(f t).has id=true→(m id).isSome=true
section
variable {P:Program} {G:Nat→Option (List PV)} {w0:bt} {μ μ':Ro} {φ φ':Nat→aC} {m m':Mem} {w w':World} {f:Fr} {ρ:Nat→Value}
theorem cj.mono(h:cj P μ φ m f ρ)(hμ:∀b o,μ b=some o→μ' b=some o)(hφ:∀id,(m id).isSome=true→φ' id=φ id∧(m' id).isSome=true):cj P μ' φ' m' f ρ:=⟨fun t=>(h.fr t).mono hμ fun id hid=>(hφ id (h.live t id hid)).1,fun t id hid=>(hφ id (h.live t id hid)).2⟩
theorem eK{id j:Nat}{b:bI}(h:aX (bB id m) id j=some b):j≠id∧∃b',m j=some b'∧b=fF id b':=by
 by_cases e:j=id
 ·subst e;simp at h
 ·rw[eP e]at h;exact⟨e,AE h⟩
theorem pM{id j:Nat}(h:j≠id)(hm:(m j).isSome=true):(aX (bB id m) id j).isSome=true:=by obtain⟨b,hb⟩:=Option.isSome_iff_exists.1 hm;rw[eP h];simp[bB,hb]
theorem cj.forget(h:cj P μ φ m f ρ)(id:Nat):cj P μ φ (aX (bB id m) id) (eO id f) ρ:=by refine⟨fun t=>(h.fr t).kill id,fun t j hj=>?_⟩;obtain⟨h1,h2⟩:=sO hj;exact pM h2 (h.live t j h1)
theorem au.put(hM:au P G w0 μ φ m w){site:Nat}{b:bI}{ph:aC}(hs:m site=none)(H9:jm w0.heap.size w w')(l0:∀k o,μ k=some o→w'.heap[k]?=some o)(hold:∀id b' g,m id=some b'→b'.ec (φ id) g→w'.heap[g]?=w.heap[g]?)(q6:∀g,b.ec ph g→w0.heap.size≤g∧μ g=none∧∀id b',m id=some b'→¬b'.ec (φ id) g)(AG:b.apart ph)(hB:fM P μ (fun i=>if i=site then ph else φ i) w' site b)(hn:∀id,b.names id=true→(m id).isSome=true)(Uo:∀st,b=.loop st→∃g rc,ph.g=some g∧w0.rc site=some (g,rc)∧w'.heap[g]?=some (.loop (st.obj rc))):au P G w0 μ (fun i=>if i=site then ph else φ i) (al m site b) w':=by
 refine⟨hM.below.trans H9,l0,hM.aD,fun id b' hid=>?_,fun id b' g hid hg=>?_,fun OU id2 b1 b2 g h1 h2 g1 g2=>?_,fun id b' hid=>?_,fun j cs id hj hh=>?_,hM.base,hM.dC,fun id st hid=>?_⟩
 rotate_right
 ·by_cases h:id=site
  ·subst h;rw[aL]at hid;simp only[Option.some.injEq]at hid;obtain⟨g,rc,h1,h2,h3⟩:=Uo st hid;exact⟨g,rc,by simp[h1],h2,h3⟩
  ·rw[an h]at hid;obtain⟨g,rc,h1,h2,h3⟩:=hM.yC id st hid;exact⟨g,rc,by simp only[h,if_false];exact h1,h2,by rw[hold id _ g hid (.inl h1)];exact h3⟩
 ·by_cases h:id=site
  ·subst h;rw[aL]at hid;simp only[Option.some.injEq]at hid;subst hid;exact hB
  ·rw[an h]at hid;have hR:=hM.dG id b' hid;refine hR.cG (fun j hj=>?_) (by simp[h]) (fun _ _ h=>h) (fun g hg=>hold id b' g hid hg);have:=hM.H8 hid hj;have:j≠site:=fun e=>by subst e;rw[hs]at this;cases this
   simp[this]
 ·by_cases h:id=site
  ·subst h;rw[aL]at hid;simp only[Option.some.injEq]at hid;subst hid;simp only[if_true]at hg;exact⟨(q6 g hg).1,fun _=>(q6 g hg).2.1⟩
  ·rw[an h]at hid;simp only[h,if_false]at hg;exact hM.own id b' g hid hg
 ·by_cases e1:OU=site
  ·by_cases e2:id2=site
   ·rw[e1,e2]
   ·exfalso;subst e1;rw[aL]at h1;simp only[Option.some.injEq]at h1;subst h1;simp only[if_true]at g1;rw[an e2]at h2;simp only[e2,if_false]at g2;exact(q6 g g1).2.2 id2 b2 h2 g2
  ·by_cases e2:id2=site
   ·exfalso;subst e2;rw[aL]at h2;simp only[Option.some.injEq]at h2;subst h2;simp only[if_true]at g2;rw[an e1]at h1;simp only[e1,if_false]at g1;exact(q6 g g2).2.2 OU b1 h1 g1
   ·rw[an e1]at h1;rw[an e2]at h2;simp only[e1,if_false]at g1;simp only[e2,if_false]at g2;exact hM.inj OU id2 b1 b2 g h1 h2 g1 g2
 ·by_cases h:id=site
  ·subst h;rw[aL]at hid;simp only[Option.some.injEq]at hid;subst hid;simp only[if_true];exact AG
  ·rw[an h]at hid;simp only[h,if_false];exact hM.apart id b' hid
 ·by_cases e:id=site
  ·subst e;simp
  ·rw[an e];by_cases h:j=site
   ·subst h;rw[aL]at hj;simp only[Option.some.injEq]at hj;subst hj;exact hn id hh
   ·rw[an h]at hj;exact hM.fh j cs id hj hh
end
section
variable {R:Type} {E:Env}
structure jo(P:Program)(w0:bt)(μ:Ro)(φ:Nat→aC)(m:Mem)(w w':World)(site:Nat)(b:bI)(ph:aC):Prop where
 below:jm w0.heap.size w w'
 ro:∀k o,μ k=some o→w'.heap[k]?=some o
 kv:∀id b' g,m id=some b'→b'.ec (φ id) g→w'.heap[g]?=w.heap[g]?
 own:∀g,ph.g=some g→w0.heap.size≤g∧μ g=none∧∀id b',m id=some b'→¬b'.ec (φ id) g
 rep:∀φ',φ' site=ph→(∀id,b.names id=true→φ' id=φ id)→fM P μ φ' w' site b
 names:∀id,b.names id=true→(m id).isSome=true
 lp:∀st,b=.loop st→∃g rc,ph.g=some g∧w0.rc site=some (g,rc)∧w'.heap[g]?=some (.loop (st.obj rc)):=by intro st h;cases h
theorem cH{draw:Bool}{site:Nat}{b:bI}{f:Fr}{m:Mem}{k:Fr→Mem→bl→Option R}{r:R}(h:fresh draw site b f m k=some r)(FL:∀i off,b.rowAt i off=true→False:=by intro i off h;simp[bI.rowAt]at h):∃f' m',(∀(R':Type)(k':Fr→Mem→bl→Option R'),fresh draw site b f m k'=k' f' m' [(true,site)])∧k f' m' [(true,site)]=some r∧m' site=some b∧(draw=true→m site=none∧f'=f∧m'=al m site b)∧(∀(P:Program)(G:Nat→Option (List PV))(w0:bt)(μ:Ro)(φ:Nat→aC)(w w':World)(ρ:Nat→Value)(ph:aC),au P G w0 μ φ m w→cj P μ φ m f ρ→jo P w0 μ φ m w w' site b ph→∃φ',φ' site=ph∧au P G w0 μ φ' m' w'∧cj P μ φ' m' f' ρ):=by
 unfold fresh at h;cases hs:m site with
 |none=>
  simp only[hs]at h;refine⟨f,al m site b,fun R' k'=>by simp only[fresh,hs],h,by simp,fun _=>⟨rfl,rfl,rfl⟩,fun P G w0 μ φ w w' ρ ph hM hF hp=>?_⟩;have Ia:∀id,(m id).isSome=true→id≠site:=fun id hid e=>by subst e;rw[hs]at hid;cases hid
  refine⟨fun i=>if i=site then ph else φ i,by simp,hM.put hs hp.below hp.ro hp.kv (fun g hg=>hp.own g (l5 FL hg)) (nV FL) (hp.rep _ (by simp) fun id hid=>by simp[Ia id (hp.names id hid)]) hp.names hp.lp,?_⟩;exact hF.mono (fun _ _ h=>h) fun id hid=>⟨by simp[Ia id hid],by rw[an (Ia id hid)];exact hid⟩
 |some b0=>
  simp only[hs]at h;split at h
  ·cases h
  ·rename_i hc;simp only[Bool.or_eq_true,not_or,Bool.not_eq_true]at hc;refine⟨eO site f,al (bB site m) site b,fun R' k'=>by simp only[fresh,hs];simp[hc],h,by simp,fun hd=>(by rw[hc.1]at hd;cases hd),fun P G w0 μ φ w w' ρ ph hM hF hp=>?_⟩;have qA:=hM.forget site;have zt:=hF.forget site;have hs1:aX (bB site m) site site=none:=by simp
   have Ia:∀id,(aX (bB site m) site id).isSome=true→id≠site:=fun id hid e=>by subst e;simp at hid
   have XH:∀id,b.names id=true→id≠site:=fun id hid e=>by subst e;rw[hc.2]at hid;cases hid
   refine⟨fun i=>if i=site then ph else φ i,by simp,?_,?_⟩
   ·rw[←uQ];refine qA.put hs1 hp.below hp.ro (fun id b' g hid hg=>?_) (fun g hg=>?_) (nV FL) (hp.rep _ (by simp) fun id hid=>by simp[XH id hid]) (fun id hid=>pM (XH id hid) (hp.names id hid)) hp.lp
    ·obtain⟨_,b2,oY,rfl⟩:=eK hid;exact hp.kv id b2 g oY (fC.1 hg)
    ·obtain⟨h1,h2,h3⟩:=hp.own g (l5 FL hg);refine⟨h1,h2,fun id b' hid ho=>?_⟩;obtain⟨_,b2,oY,rfl⟩:=eK hid;exact h3 id b2 oY (fC.1 ho)
   ·rw[←uQ];exact zt.mono (fun _ _ h=>h) fun id hid=>⟨by simp[Ia id hid],by rw[an (Ia id hid)];exact hid⟩
theorem jo.alloc{P:Program}{G:Nat→Option (List PV)}{w0:bt}{μ:Ro}{φ:Nat→aC}{m:Mem}{w:World}{site:Nat}{b:bI}{ph:aC}{o:Obj}(hM:au P G w0 μ φ m w)(SR:ph.g=some w.heap.size)(rep:∀φ',φ' site=ph→(∀id,b.names id=true→φ' id=φ id)→fM P μ φ' (w.alloc o) site b)(names:∀id,b.names id=true→(m id).isSome=true)(lp:∀st,b=.loop st→∃g rc,ph.g=some g∧w0.rc site=some (g,rc)∧(w.alloc o).heap[g]?=some (.loop (st.obj rc)):=by intro st h;cases h):jo P w0 μ φ m w (w.alloc o) site b ph:=by
 have kD:w0.heap.size≤w.heap.size:=hM.below.size;refine⟨(jm.refl _ w).alloc kD o,fun k o' hk=>?_,fun id b' g hid hg=>jm.heap_alloc w o g ((hM.dG id b' hid).AD hg),fun g hg=>?_,rep,names,lp⟩
 ·have:=hM.ro k o' hk;rw[jm.heap_alloc w o k (Array.getElem?_eq_some_iff.1 this).1];exact this
 ·rw[SR]at hg;simp only[Option.some.injEq]at hg;subst hg;refine⟨kD,?_,fun id b' hid hg=>?_⟩
  ·cases hq:μ w.heap.size with
   |none=>rfl
   |some o'=>have:=hM.ro _ _ hq;simp at this
  ·have:=(hM.dG id b' hid).AD hg;omega
theorem fD(w:World)(o:Obj):(w.alloc o).heap[w.heap.size]?=some o:=heap_alloc_new w o
variable{t:TypeId}
theorem eC{cs:List V}(h:dm E t=some cs):∃i z,E.P.info? t=some i∧i.zero=some z∧i.size=aO E.P t∧cs.length=aO E.P t∧z.cells.size=aO E.P t∧(∀id,cq id cs=false)∧(∀(μ:Ro)(φ:Nat→aC)(i:Nat)u y,cs[i]?=some u→z.cells[i]?=some y→af E.P μ φ u y)∧(∀(i:Nat)(y:Value),z.cells[i]?=some y→y.oneCell'=true):=by
 unfold dm zeroV at h;cases hi:E.P.info? t with
 |none=>simp[hi]at h
 |some i=>
  cases hz:i.zero with
  |none=>simp[hi,hz]at h
  |some z=>
   simp only[hi,hz,Option.bind_some,Option.map_some]at h;obtain⟨h1,h2,h3⟩:=toCells_ok h;obtain⟨h4,_,h6⟩:=h3 E.P (fun _=>none) (fun _=>default) z (qw z);refine⟨i,z,rfl,hz,by simp[aO,hi],h1,h4,fun id=>?_,fun μ φ i u y hu hy=>(h3 E.P μ φ z (qw z)).2.1 i u y hu hy,h6⟩;cases hh:cq id cs with
   |false=>rfl
   |true=>have:=h2 id hh;rw[CB]at this;cases this
variable{P:Program}{w:World}
theorem l6{i:TypeInfo}{z:Value}(hi:P.info? t=some i)(hz:i.zero=some z):(zeroValue t).run P w=.ok z w:=by simp[zeroValue,typeInfo,hi,hz]
theorem CL{i:TypeInfo}{z:Value}(hi:P.info? t=some i)(hz:i.zero=some z):(Instr.alloc t true (.tuple #[])).run P w=.ok (.pointer (some ⟨w.heap.size,0,none⟩)) (w.alloc (.cells z.cells t)):=by simp[Instr.alloc,l6 hi hz,newVar,newRow]
theorem LC{v:Value}:(Instr.box t v).run P w=.ok (.pointer (some ⟨w.heap.size,0,none⟩)) (w.alloc (.cells v.cells t)):=by simp[Instr.box,newVar,newRow]
variable{c:Array Value}
theorem jo.box{G:Nat→Option (List PV)}{w0:bt}{μ:Ro}{φ:Nat→aC}{m:Mem}{site:Nat}{cs:List V}{T:TypeId}(hM:au P G w0 μ φ m w)(hl:c.size=cs.length)(hv:∀(i:Nat)u y,cs[i]?=some u→c[i]?=some y→af P μ φ u y)(h1:∀(i:Nat)(y:Value),c[i]?=some y→y.oneCell'=true)(hn:∀id,cq id cs=true→(m id).isSome=true):jo P w0 μ φ m w (w.alloc (.cells c T)) site (.box cs) (B8 (some w.heap.size) 0 cs.length 0):=by refine jo.alloc hM (by rfl) (fun φ' hφ M3=>⟨w.heap.size,c,T,by rw[hφ],fD w _,hl,fun i u y hu hy=>?_,h1,by rw[hφ]⟩) hn;exact(hv i u y hu hy).mono (fun _ _ h=>h) fun id hid=>M3 id (bK (List.mem_of_getElem? hu) hid)
theorem kJ(h:aO P t≠0):(P.info? t).map (·.size)=some (aO P t):=by obtain⟨i,hi,hs⟩:=ua h;simp[hi,hs]
theorem dz{T:Type}{cs new:List T}{off i:Nat}{x:T}(hb:off+new.length≤cs.length)(h:(bQ cs off new)[i]?=some x):(off≤i∧i<off+new.length∧new[i-off]?=some x)∨((i<off∨off+new.length≤i)∧cs[i]?=some x):=by
 rw[dB]at h;rw[List.append_assoc,List.getElem?_append]at h;have ht:(cs.take off).length=off:=by simp;omega
 rw[ht]at h;split at h
 ·rename_i hi;exact .inr ⟨.inl hi,(eh h).2⟩
 ·rw[List.getElem?_append]at h;split at h
  ·exact .inl ⟨by omega,by omega,h⟩
  ·rw[List.getElem?_drop]at h;refine .inr ⟨.inr (by omega),?_⟩;rw[←h];congr 1;omega
theorem cO{T:Type}{cs new:List T}{off:Nat}(hb:off+new.length≤cs.length):(bQ cs off new).length=cs.length:=by simp[dB];omega
variable{g:Nat}
theorem gG{v:Value}{o:Nat}{T:TypeId}(hz:v.cells.size=aO P t)(hi:(P.info? t).map (·.size)=some (aO P t))(hg:w.heap[g]?=some (.cells c T (0,0)))(hb:o+v.cells.size≤c.size)(h1:∀(i:Nat)(y:Value),v.cells[i]?=some y→y.oneCell'=true):(Instr.storeAt t (.pointer (some ⟨g,o,none⟩)) v).run P w=.ok () (w.setRow g (bQ c.toList o v.cells.toList).toArray):=by
 have sy:=run_storeCells_at P g o T v.cells.toList 0 c w hg (by simpa using hb) (fun x hx=>by obtain⟨i,hi⟩:=List.getElem?_of_mem hx;exact h1 i x (by simpa using hi));have kD:(sizeOf t).run P w=.ok (aO P t) w:=by
  cases hq:P.info? t with
  |none=>simp[hq]at hi
  |some i=>simp[sizeOf,typeInfo,hq,aO]
 simp only[Instr.storeAt,Instr.sureAddr,storeVar,Sem.run_bind,Sem.run_pure,Result.andThen_ok,kD,hz,ne_eq,not_true_eq_false,if_false,sy,Nat.add_zero];rw[dB];try rfl
variable{xs:Array Value}
theorem cJ{k:Nat}(h:k≠g):(w.setRow g xs).heap[k]?=w.heap[k]?:=by unfold World.setRow;simp[Array.getElem?_modify,Ne.symm h]
theorem setRow_size:(w.setRow g xs).heap.size=w.heap.size:=by simp[World.setRow]
theorem jm.setRow{B:Nat}(h:B≤g):jm B w (w.setRow g xs):=⟨⟨rfl,rfl,rfl,Nat.le_of_eq setRow_size.symm,fun k hk=>cJ (by omega)⟩,fun _=>Nat.le_refl _⟩
end
end Go.Ab
set_option linter.unusedVariables false
namespace Go.Ab
open Go.RowKit (Below)
section
variable {P:Program} {G:Nat→Option (List PV)} {w0:bt} {μ:Ro} {φ:Nat→aC} {m m':Mem} {w:World}
def iC(m m':Mem):Prop:=∀id,(m id).isSome=true→(m' id).isSome=true
theorem iC.refl(m:Mem):iC m m:=fun _ h=>h
theorem iC.trans{a b c:Mem}(h:iC a b)(k:iC b c):iC a c:=fun id hid=>k id (h id hid)
variable{id:Nat}
theorem iC.set{b:bI}:iC m (al m id b):=fun j hj=>by
 by_cases e:j=id
 ·subst e;simp
 ·rw[an e];exact hj
theorem cj.kK{f:Fr}{ρ:Nat→Value}{μ':Ro}(h:cj P μ φ m f ρ)(hμ:∀b o,μ b=some o→μ' b=some o)(hl:iC m m'):cj P μ' φ m' f ρ:=h.mono hμ fun id hid=>⟨rfl,hl id hid⟩
variable{v:V}{p:PV}
theorem LD(h:zZ m v=some (p,m')):iC m m'∧∀(P:Program)(G:Nat→Option (List PV))(w0:bt)(μ:Ro)(φ:Nat→aC)(w:World)(x:Value),au P G w0 μ φ m w→af P μ φ v x→∃μ',(∀b o,μ b=some o→μ' b=some o)∧au P G w0 μ' φ m' w∧ah P μ' p x:=by
 unfold zZ at h;split at h
 ·simp only[Option.some.injEq,Prod.mk.injEq]at h;obtain⟨rfl,rfl⟩:=h;exact⟨.refl _,fun P G w0 μ φ w x hM hx=>⟨μ,fun _ _ h=>h,hM,by cases hx with|pv hx=>exact hx⟩⟩
 ·simp only[Option.some.injEq,Prod.mk.injEq]at h;obtain⟨rfl,rfl⟩:=h;exact⟨.refl _,fun P G w0 μ φ w x hM hx=>⟨μ,fun _ _ h=>h,hM,by cases hx;exact .ja⟩⟩
 ·rename_i id;split at h
  ·rename_i s et es hm;simp only[Option.some.injEq,Prod.mk.injEq]at h;obtain⟨rfl,rfl⟩:=h;refine⟨.set,fun P G w0 μ φ w x hM hx=>⟨_,jO hM (φ id).g,hM.freeze hm,?_⟩⟩;refine(hM.arr (.inl hm)).full hM hx (jO hM _) fun g hg=>?_;simp[mY,hg]
  ·rename_i s et es hm;simp only[Option.some.injEq,Prod.mk.injEq]at h;obtain⟨rfl,rfl⟩:=h;refine⟨.refl _,fun P G w0 μ φ w x hM hx=>⟨μ,fun _ _ h=>h,hM,?_⟩⟩;refine(hM.arr (.inr hm)).full hM hx (fun _ _ h=>h) fun g hg=>?_;obtain⟨o,ho⟩:=Option.isSome_iff_exists.1 ((hM.dG id _ hm).2 g hg);rw[ho,hM.ro _ _ ho]
  ·rename_i s et es hm;simp only[Option.some.injEq,Prod.mk.injEq]at h;obtain⟨rfl,rfl⟩:=h;refine⟨.set,fun P G w0 μ φ w x hM hx=>⟨_,nW hM _,hM.LB hm,?_⟩⟩;have PD:=hM.LB hm;have hF:aJ P _ φ w id s et (es.map PV.strip):=(PD.dG id _ (aL _ _ _)).1;refine hF.CF (hx.uM (nW hM _)) (fun _ _ h=>h) fun g hg=>?_;unfold qz;rw[if_pos (show(bI.nest s et es).ec (φ id) g from .inl hg)]
  ·cases h
 ·cases h
theorem CM(h:zZ df v=some (p,m')):∀(P:Program)(μ:Ro)(φ:Nat→aC)(x:Value),af P μ φ v x→ah P μ p x:=by
 unfold zZ at h;split at h
 ·simp only[Option.some.injEq,Prod.mk.injEq]at h;obtain⟨rfl,rfl⟩:=h;exact fun P μ φ x hx=>by cases hx with|pv hx=>exact hx
 ·simp only[Option.some.injEq,Prod.mk.injEq]at h;obtain⟨rfl,rfl⟩:=h;exact fun P μ φ x hx=>by cases hx;exact .ja
 ·simp[df]at h
 ·cases h
theorem nX(h:zZ df v=some (p,m')):m'=df:=by
 unfold zZ at h;split at h
 ·simp only[Option.some.injEq,Prod.mk.injEq]at h;exact h.2.symm
 ·simp only[Option.some.injEq,Prod.mk.injEq]at h;exact h.2.symm
 ·simp[df]at h
 ·cases h
theorem AH:∀{cs:List V}{m m':Mem}{ps:List PV},kh m cs=some (ps,m')→iC m m'∧ps.length=cs.length∧∀(P:Program)(G:Nat→Option (List PV))(w0:bt)(μ:Ro)(φ:Nat→aC)(w:World)(X:Nat→Value),au P G w0 μ φ m w→(∀(i:Nat)u,cs[i]?=some u→af P μ φ u (X i))→∃μ',(∀b o,μ b=some o→μ' b=some o)∧au P G w0 μ' φ m' w∧∀(i:Nat)p,ps[i]?=some p→ah P μ' p (X i)
 |[],m,m',ps,h=>by simp only[kh,Option.some.injEq,Prod.mk.injEq]at h;obtain⟨rfl,rfl⟩:=h;exact⟨.refl _,rfl,fun P G w0 μ φ w X hM _=>⟨μ,fun _ _ h=>h,hM,by simp⟩⟩
 |c::r,m,m',ps,h=>by
  simp only[kh]at h;split at h
  ·rename_i p m1 h1;split at h
   ·rename_i SS m2 h2;simp only[Option.some.injEq,Prod.mk.injEq]at h;obtain⟨rfl,rfl⟩:=h;obtain⟨a1,a2⟩:=LD h1;obtain⟨b1,b2,b3⟩:=AH h2;refine⟨a1.trans b1,by simp[b2],fun P G w0 μ φ w X hM hx=>?_⟩;obtain⟨μ1,c1,c2,c3⟩:=a2 P G w0 μ φ w (X 0) hM (hx 0 c (by simp));obtain⟨μ2,d1,d2,d3⟩:=b3 P G w0 μ1 φ w (fun i=>X (i+1)) c2 (fun i u hu=>(hx (i+1) u (by simpa using hu)).uM c1);refine⟨μ2,fun b o h=>d1 b o (c1 b o h),d2,fun i q hq=>?_⟩;cases i with
    |zero=>simp at hq;subst hq;exact c3.mono d1
    |succ i=>exact d3 i q (by simpa using hq)
   ·cases h
  ·cases h
theorem vj:∀{cs:List V}{m':Mem}{ps:List PV},kh df cs=some (ps,m')→ps.length=cs.length∧∀(P:Program)(μ:Ro)(φ:Nat→aC)(X:Nat→Value),(∀(i:Nat)u,cs[i]?=some u→af P μ φ u (X i))→∀(i:Nat)p,ps[i]?=some p→ah P μ p (X i)
 |[],m',ps,h=>by simp only[kh,Option.some.injEq,Prod.mk.injEq]at h;obtain⟨rfl,rfl⟩:=h;exact⟨rfl,by simp⟩
 |c::r,m',ps,h=>by
  simp only[kh]at h;split at h
  ·rename_i p m1 h1;split at h
   ·rename_i SS m2 h2;simp only[Option.some.injEq,Prod.mk.injEq]at h;obtain⟨rfl,rfl⟩:=h;have:=nX h1;subst this;obtain⟨b2,b3⟩:=vj h2;refine⟨by simp[b2],fun P μ φ X hx i q hq=>?_⟩;cases i with
    |zero=>simp at hq;subst hq;exact CM h1 P μ φ _ (hx 0 c (by simp))
    |succ i=>exact b3 P μ φ (fun i=>X (i+1)) (fun i u hu=>hx (i+1) u (by simpa using hu)) i q (by simpa using hq)
   ·cases h
  ·cases h
structure pN(P:Program)(μ:Ro)(n:Nat)(p:PV)(x:Value):Prop where
 len:p.cells.length=n
 size:x.cells.size=n
 rep:∀(j:Nat)q y,p.cells[j]?=some q→x.cells[j]?=some y→ah P μ q y
 one:∀(j:Nat)y,x.cells[j]?=some y→y.oneCell'=true
variable{n:Nat}{agg:Bool}
theorem uT{P:Program}{μ:Ro}{ps:List PV}{x:Value}(hp:(if agg then some (.agg ps)else match ps with|[p]=>some p|_=>none)=some p)(hl:ps.length=n)(hs:x.cells.size=n)(hr:∀(j:Nat)q y,ps[j]?=some q→x.cells[j]?=some y→ah P μ q y)(h1:∀(j:Nat)y,x.cells[j]?=some y→y.oneCell'=true):pN P μ n p x:=by
 have hc:p.cells=ps:=by
  cases agg with
  |true=>simp at hp;subst hp;rfl
  |false=>
   simp only[Bool.false_eq_true,if_false]at hp;split at hp
   ·rename_i q;simp only[Option.some.injEq]at hp;subst hp;have bp:0<x.cells.size:=by simp at hl;omega
    have XI:=hr 0 q _ (by simp) (Array.getElem?_eq_getElem bp);have Fh:=h1 0 _ (Array.getElem?_eq_getElem bp);generalize x.cells[0]=y at XI Fh;cases q<;>first|rfl|(cases XI;simp[Value.oneCell']at Fh)
   ·cases hp
 exact⟨by rw[hc];exact hl,hs,by rw[hc];exact hr,h1⟩
theorem AJ{m m':Mem}(h:iN m n agg v=some (p,m')):iC m m'∧∀(P:Program)(G:Nat→Option (List PV))(w0:bt)(μ:Ro)(φ:Nat→aC)(w:World)(x:Value),au P G w0 μ φ m w→af P μ φ v x→∃μ',(∀b o,μ b=some o→μ' b=some o)∧au P G w0 μ' φ m' w∧pN P μ' n p x:=by
 unfold iN at h;split at h
 ·rename_i cs hc;obtain⟨c1,c2,c3⟩:=toCells_ok hc;split at h
  ·rename_i ps m1 hf;obtain⟨f1,f2,f3⟩:=AH hf;have hp:(if agg then some (.agg ps)else match ps with|[p]=>some p|_=>none)=some p∧m1=m':=by
    cases agg with
    |true=>simp at h;exact⟨by simp[h.1],h.2⟩
    |false=>
     simp only[Bool.false_eq_true,if_false]at h⊢;split at h
     ·simp only[Option.some.injEq,Prod.mk.injEq]at h;exact⟨by simp[h.1],h.2⟩
     ·cases h
   obtain⟨hp,rfl⟩:=hp;refine⟨f1,fun P G w0 μ φ w x hM hx=>?_⟩;obtain⟨d1,d2,d3⟩:=c3 P μ φ x hx;have hX:∀(i:Nat),i<cs.length→x.cells[i]?=some (x.cells.getD i undef):=fun i hi=>by
    have bp:i<x.cells.size:=by omega
    rw[Array.getElem?_eq_getElem bp];simp[Array.getD,bp]
   obtain⟨μ',e1,e2,e3⟩:=f3 P G w0 μ φ w (fun i=>x.cells.getD i undef) hM fun i u hu=>d2 i u _ hu (hX i (List.getElem?_eq_some_iff.1 hu).1);refine⟨μ',e1,e2,uT hp (by omega) d1 (fun j q y hq hy=>?_) d3⟩;have:=e3 j q hq;rw[hX j (by have:=(List.getElem?_eq_some_iff.1 hq).1;omega)]at hy;simp only[Option.some.injEq]at hy;subst hy;exact this
  ·cases h
 ·cases h
theorem wh{m':Mem}(h:iN df n agg v=some (p,m')):∀(P:Program)(μ:Ro)(φ:Nat→aC)(x:Value),af P μ φ v x→pN P μ n p x:=by
 unfold iN at h;split at h
 ·rename_i cs hc;obtain⟨c1,c2,c3⟩:=toCells_ok hc;split at h
  ·rename_i ps m1 hf;obtain⟨f2,f3⟩:=vj hf;have hp:(if agg then some (.agg ps)else match ps with|[p]=>some p|_=>none)=some p:=by
    cases agg with
    |true=>simp at h;simp[h.1]
    |false=>
     simp only[Bool.false_eq_true,if_false]at h⊢;split at h
     ·simp only[Option.some.injEq,Prod.mk.injEq]at h;simp[h.1]
     ·cases h
   refine fun P μ φ x hx=>?_;obtain⟨d1,d2,d3⟩:=c3 P μ φ x hx;have hX:∀(i:Nat),i<cs.length→x.cells[i]?=some (x.cells.getD i undef):=fun i hi=>by
    have bp:i<x.cells.size:=by omega
    rw[Array.getElem?_eq_getElem bp];simp[Array.getD,bp]
   have e3:=f3 P μ φ (fun i=>x.cells.getD i undef) fun i u hu=>d2 i u _ hu (hX i (List.getElem?_eq_some_iff.1 hu).1);refine uT hp (by omega) d1 (fun j q y hq hy=>?_) d3;have:=e3 j q hq;rw[hX j (by have:=(List.getElem?_eq_some_iff.1 hq).1;omega)]at hy;simp only[Option.some.injEq]at hy;subst hy;exact this
  ·cases h
 ·cases h
theorem FM{draw:Bool}{m m':Mem}(h:sE draw m n agg v=some (p,m')):iC m m'∧(draw=true→m'=m∧∀m2:Mem,sE true m2 n agg v=some (p,m2))∧∀(P:Program)(G:Nat→Option (List PV))(w0:bt)(μ:Ro)(φ:Nat→aC)(w:World)(x:Value),au P G w0 μ φ m w→af P μ φ v x→∃μ',(∀b o,μ b=some o→μ' b=some o)∧au P G w0 μ' φ m' w∧pN P μ' n p x:=by
 unfold sE at h;split at h
 ·rename_i hd;split at h
  ·rename_i q m1 hf;simp only[Option.some.injEq,Prod.mk.injEq]at h;obtain⟨rfl,rfl⟩:=h;exact⟨.refl _,fun _=>⟨rfl,fun m2=>by simp[sE,hf]⟩,fun P G w0 μ φ w x hM hx=>⟨μ,fun _ _ h=>h,hM,wh hf P μ φ x hx⟩⟩
  ·cases h
 ·rename_i hd;obtain⟨h1,h2⟩:=AJ h;exact⟨h1,fun LF=>absurd LF hd,h2⟩
theorem aJ.set{P:Program}{μ:Ro}{φ:Nat→aC}{w:World}{id sz:Nat}{et:TypeId}{es:List PV}(hA:aJ P μ φ w id sz et es){g:Nat}(hg:(φ id).g=some g){i off n:Nat}{e p q:PV}{x:Value}(he:es[i]?=some e)(hE:pN P μ n p x)(hb:off+n≤sz)(hq:q.cells=bQ (aI sz e) off p.cells):∃c T,w.heap[g]?=some (.cells c T (0,0))∧i*sz+off+x.cells.size≤c.size∧aJ P μ φ (w.setRow g (bQ c.toList (i*sz+off) x.cells.toList).toArray) id sz et (es.set i q):=by
 obtain⟨a1,a2,a3,a4,a5,a6,a7⟩:=hA;rw[hg]at a7;obtain⟨c,c1,c2,c3,c4,c5⟩:=a7;have hi:i<es.length:=(List.getElem?_eq_some_iff.1 he).1;have DS:i*sz+off+n≤c.size:=by have:(i+1)*sz≤(φ id).cap*sz:=Nat.mul_le_mul_right _ (by omega);rw[Nat.add_mul]at this;omega
 have CN:x.cells.toList.length=n:=by simpa using hE.size
 have Az:(aI sz e).length=sz:=bf _ _;have SE:q.cells.length=sz:=by rw[hq,cO (by rw[Az,hE.len];exact hb),Az]
 have iS:(bQ c.toList (i*sz+off) x.cells.toList).length=c.size:=by rw[cO (by simp[hE.size];omega)];simp
 have qB:∀(i':Nat)e',(es.set i q)[i']?=some e'→(i'=i∧e'=q)∨(i'≠i∧es[i']?=some e'):=by
  intro i' e' h';rw[List.getElem?_set]at h';split at h'
  ·rename_i CO;subst CO;simp[hi]at h';exact .inl ⟨rfl,h'.symm⟩
  ·rename_i CO;exact .inr ⟨fun e=>CO e.symm,h'⟩
 refine⟨c,et,c1,by rw[hE.size];exact DS,?_⟩;refine⟨by simp[a1],a2,a3,a4,fun i' e' h'=>?_,a6,?_⟩
 ·rcases qB i' e' h' with⟨_,rfl⟩|⟨_,h'⟩
  ·exact SE
  ·exact a5 i' e' h'
 ·rw[hg];refine⟨_,setRow_heap w g c _ et (0,0) c1,by simp[iS,c2],by simpa using c3,fun i' e' j p' x' h' hj hx=>?_,fun j x' hj hx=>?_⟩
  ·rw[List.getElem?_toArray]at hx;rcases dz (by simp[hE.size];omega) hx with⟨b1,b2,b3⟩|⟨b1,b2⟩
   ·rw[CN]at b2;have CO:i'=i∧e'=q:=by
     rcases qB i' e' h' with h|⟨cR,h'⟩
     ·exact h
     ·exfalso;have xf:=(List.getElem?_eq_some_iff.1 hj).1;rw[a5 i' e' h']at xf;rcases Nat.lt_or_gt_of_ne cR with bp|hgt
      ·have:(i'+1)*sz≤i*sz:=Nat.mul_le_mul_right _ bp;rw[Nat.add_mul]at this;omega
      ·have:(i+1)*sz≤i'*sz:=Nat.mul_le_mul_right _ hgt;rw[Nat.add_mul]at this;omega
    obtain⟨rfl,rfl⟩:=CO;rw[hq]at hj;rcases dz (by rw[Az,hE.len];exact hb) hj with⟨d1,d2,d3⟩|⟨d1,d2⟩
    ·exact hE.rep _ _ _ d3 (by rw[←Array.getElem?_toList,←b3];congr 1;omega)
    ·exfalso;rw[hE.len]at d1;omega
   ·rw[CN]at b1;have b2:c[i'*sz+j]?=some x':=by simpa using b2
    rcases qB i' e' h' with⟨rfl,rfl⟩|⟨cR,h'⟩
    ·rw[hq]at hj;rcases dz (by rw[Az,hE.len];exact hb) hj with⟨d1,d2,d3⟩|⟨d1,d2⟩
     ·exfalso;rw[hE.len]at d2;omega
     ·rw[fH (a5 i' e he)]at d2;exact c4 i' e j p' x' he d2 b2
    ·exact c4 i' e' j p' x' h' hj b2
  ·rw[List.getElem?_toArray]at hx;rw[List.length_set]at hj;rcases dz (by simp[hE.size];omega) hx with⟨b1,b2,b3⟩|⟨b1,b2⟩
   ·exact hE.one _ x' (by simpa using b3)
   ·exact c5 j x' hj (by simpa using b2)
variable{off:Nat}
theorem DT{s0:Nat}{e:PV}(he:e.cells.length=s0)(ho:off<s0)(hp:∀cs,p≠.agg cs):(setRow s0 e off p).cells=e.cells.set off p:=by
 have h1:p.cells=[p]:=by cases p<;>first|rfl|exact absurd rfl (hp _)
 unfold setRow;split
 ·rename_i hs;subst hs;have:off=0:=by omega
  subst this;match hc:e.cells,he with
  |[c],_=>simp[h1]
 ·simp only[PV.cells,fH he]
theorem AK{s:Nat}{e:PV}(h1:p.cells.length=n)(h2:e.cells.length=s):(setCells s e off n p).cells=bQ (aI s e) off p.cells:=by
 unfold setCells;split
 ·rename_i h;obtain⟨rfl,rfl⟩:=h;rw[dB,h1];simp[bf]
 ·rfl
theorem aS.change{P:Program}{μ μ':Ro}{φ φ':Nat→aC}{w w':World}{sz:Nat}{et:TypeId}{es es':List PV}(h:aS P μ φ w id sz et es)(hlen:es'.length=es.length)(se:∀(i:Nat)e,es'[i]?=some e→e.cells.length=sz)(hφ:(φ' id).toyD=(φ id).toyD)(hw:∀g,(φ id).g=some g→w'.heap[g]?=w.heap[g]?)(hc:∀(i:Nat)e'(j:Nat)p' g c x,es'[i]?=some e'→e'.cells[j]?=some p'→(φ id).g=some g→w.heap[g]?=some (.cells c et (0,0))→c[i*sz+j]?=some x→(∀e p,es[i]?=some e→e.cells[j]?=some p→ef P μ ((φ id).row i j) w p x)→ef P μ' ((φ' id).row i j) w' p' x):aS P μ' φ' w' id sz et es':=by
 obtain⟨a1,a2,a3,a4,a5,a6,a7⟩:=h;unfold aS;rw[hφ];refine⟨by rw[hlen];exact a1,a2,a3,a4,se,a6,?_⟩;cases hg:(φ id).g with
 |none=>rw[hg]at a7;refine⟨?_,a7.2⟩;have:=a7.1;subst this;exact List.eq_nil_of_length_eq_zero hlen
 |some g=>rw[hg]at a7;obtain⟨c,c1,c2,c3,c4,c5⟩:=a7;exact⟨c,by rw[hw g hg];exact c1,c2,by rw[hlen];exact c3,fun i e' j p' x h1 h2 h3=>hc i e' j p' g c x h1 h2 hg c1 h3 fun e p he hp=>c4 i e j p x he hp h3,fun i x hi hx=>c5 i x (by rw[←hlen];exact hi) hx⟩
theorem eg{T:Type}{l:List T}{i i':Nat}{q e':T}(h:(l.set i q)[i']?=some e'):(i'=i∧e'=q)∨(i'≠i∧l[i']?=some e'):=by
 rw[List.getElem?_set]at h;split at h
 ·rename_i CO;subst CO;split at h
  ·simp only[Option.some.injEq]at h;exact .inl ⟨rfl,h.symm⟩
  ·cases h
 ·rename_i CO;exact .inr ⟨fun e=>CO e.symm,h⟩
theorem aS.set{P:Program}{μ:Ro}{φ:Nat→aC}{w:World}{sz:Nat}{et:TypeId}{es:List PV}(hA:aS P μ φ w id sz et es)(AG:(bI.nest sz et es).apart (φ id)){g:Nat}(hg:(φ id).g=some g){i:Nat}{e q:PV}{x:Value}(he:es[i]?=some e)(hE:pN P μ n p x)(hb:off+n≤sz)(hq:q.cells=bQ (aI sz e) off p.cells):∃c T,w.heap[g]?=some (.cells c T (0,0))∧i*sz+off+x.cells.size≤c.size∧aS P μ φ (w.setRow g (bQ c.toList (i*sz+off) x.cells.toList).toArray) id sz et (es.set i q)∧∀i' pI,(bI.nest sz et (es.set i q)).rowAt i' pI=true→(bI.nest sz et es).rowAt i' pI=true:=by
 have sx:=hA;obtain⟨a1,a2,a3,a4,a5,a6,a7⟩:=hA;rw[hg]at a7;obtain⟨c,c1,c2,c3,c4,c5⟩:=a7;have hi:i<es.length:=(List.getElem?_eq_some_iff.1 he).1;have DS:i*sz+off+n≤c.size:=by have:(i+1)*sz≤(φ id).cap*sz:=Nat.mul_le_mul_right _ (by omega);rw[Nat.add_mul]at this;omega
 have CN:x.cells.toList.length=n:=by simpa using hE.size
 have Az:(aI sz e).length=sz:=bf _ _;have SE:q.cells.length=sz:=by rw[hq,cO (by rw[Az,hE.len];exact hb),Az]
 have iS:(bQ c.toList (i*sz+off) x.cells.toList).length=c.size:=by rw[cO (by simp[hE.size];omega)];simp
 have cR:∀i' j' g',(bI.nest sz et es).rowAt i' j'=true→((φ id).row i' j').g=some g'→g'≠g:=fun i' j' g' hr bU e=>(AG i' j' g' hr bU).1 (by rw[e];exact hg);have sy:∀{i' j':Nat}{e' p':PV}{x':Value}{l:List Value},es[i']?=some e'→e'.cells[j']?=some p'→ef P μ ((φ id).row i' j') w p' x'→ef P μ ((φ id).row i' j') (w.setRow g l.toArray) p' x':=fun h1 h2 h3=>h3.cG (fun _ _ h=>h) fun hr g' bU=>cJ (cR _ _ g' (by rw[dy h1 h2];exact hr) bU);refine⟨c,et,c1,by rw[hE.size];exact DS,⟨by simp[a1],a2,a3,a4,fun i' e' h'=>?_,a6,?_⟩,?_⟩
 ·rcases eg h' with⟨_,rfl⟩|⟨_,h'⟩
  ·exact SE
  ·exact a5 i' e' h'
 ·rw[hg];refine⟨_,setRow_heap w g c _ et (0,0) c1,by simp[iS,c2],by simpa using c3,fun i' e' j p' x' h' hj hx=>?_,fun j x' hj hx=>?_⟩
  ·rw[List.getElem?_toArray]at hx;rcases dz (by simp[hE.size];omega) hx with⟨b1,b2,b3⟩|⟨b1,b2⟩
   ·rw[CN]at b2;have CO:i'=i∧e'=q:=by
     rcases eg h' with h|⟨cR,h'⟩
     ·exact h
     ·exfalso;have xf:=(List.getElem?_eq_some_iff.1 hj).1;rw[a5 i' e' h']at xf;rcases Nat.lt_or_gt_of_ne cR with bp|hgt
      ·have:(i'+1)*sz≤i*sz:=Nat.mul_le_mul_right _ bp;rw[Nat.add_mul]at this;omega
      ·have:(i+1)*sz≤i'*sz:=Nat.mul_le_mul_right _ hgt;rw[Nat.add_mul]at this;omega
    obtain⟨rfl,rfl⟩:=CO;rw[hq]at hj;rcases dz (by rw[Az,hE.len];exact hb) hj with⟨d1,d2,d3⟩|⟨d1,d2⟩
    ·exact .pure (hE.rep _ _ _ d3 (by rw[←Array.getElem?_toList,←b3];congr 1;omega))
    ·exfalso;rw[hE.len]at d1;omega
   ·rw[CN]at b1;have b2:c[i'*sz+j]?=some x':=by simpa using b2
    rcases eg h' with⟨rfl,rfl⟩|⟨cR,h'⟩
    ·rw[hq]at hj;rcases dz (by rw[Az,hE.len];exact hb) hj with⟨d1,d2,d3⟩|⟨d1,d2⟩
     ·exfalso;rw[hE.len]at d2;omega
     ·rw[fH (a5 i' e he)]at d2;exact sy he d2 (c4 i' e j p' x' he d2 b2)
    ·exact sy h' hj (c4 i' e' j p' x' h' hj b2)
  ·rw[List.getElem?_toArray]at hx;rw[List.length_set]at hj;rcases dz (by simp[hE.size];omega) hx with⟨b1,b2,b3⟩|⟨b1,b2⟩
   ·exact hE.one _ x' (by simpa using b3)
   ·exact c5 j x' hj (by simpa using b2)
 ·intro i' pI hr;rcases iB hr with⟨_,_,_,e',s,rs,fL,h',pt⟩|⟨_,_,_,_,_,_,fL,_⟩
  ·simp only[bI.nest.injEq]at fL;obtain⟨rfl,rfl,rfl⟩:=fL;rcases eg h' with⟨rfl,rfl⟩|⟨cR,h'⟩
   ·rw[hq]at pt;rcases dz (by rw[Az,hE.len];exact hb) pt with⟨d1,d2,d3⟩|⟨d1,d2⟩
    ·exfalso;have bp:pI-off<x.cells.size:=by rw[hE.size,←hE.len];exact(List.getElem?_eq_some_iff.1 d3).1
     exact absurd (hE.rep _ _ _ d3 (Array.getElem?_eq_getElem bp)).zK (by simp[PV.isRow])
    ·rw[fH (a5 i' e he)]at d2;rw[dy he d2];rfl
   ·rw[dy h' pt];rfl
  ·cases fL
end
section
variable {R:Type} {E:Env}
theorem M4{draw:Bool}{t:TypeId}{a x:V}{m:Mem}{k:Mem→bl→Option R}{r:R}(h:qW E draw t a x m k=some r):∃m' ft,k m' ft=some r∧(draw=true→∃id b,m'=al m id b∧ft=[(true,id)]∧∀m2:Mem,m2 id=m id→∀(R':Type)(k':Mem→bl→Option R'),qW E true t a x m2 k'=k' (al m2 id b) [(true,id)])∧iC m m'∧∀(G:Nat→Option (List PV))(w0:bt)(μ:Ro)(φ:Nat→aC)(w:World)(ya yx:Value),au E.P G w0 μ φ m w→af E.P μ φ a ya→af E.P μ φ x yx→(∀id,x.has id=true→(m id).isSome=true)→∃w' μ',(Instr.storeAt t ya yx).run E.P w=.ok () w'∧(∀b o,μ b=some o→μ' b=some o)∧au E.P G w0 μ' φ m' w':=by
 unfold qW at h;split at h
 ·rename_i id off;split at h
  ·rename_i cs hm;split at h
   ·rename_i new hn;split at h
    ·rename_i hb;refine⟨_,_,h,fun hd=>⟨id,_,rfl,rfl,fun m2 cN R' k'=>by simp only[qW,cN,hm,hn];rw[if_pos hb]⟩,.set,fun G w0 μ φ w ya yx hM ha hx hlx=>?_⟩;obtain⟨n1,n2,n3⟩:=toCells_ok hn;obtain⟨x1,x2,x3⟩:=n3 _ _ _ _ hx;cases ha with
     | @op _ _ g hg=>
      obtain⟨g',c,T,bU,hh,hs,hv,h1,xy⟩:=hM.dG id _ hm;rw[hg]at bU;simp only[Option.some.injEq]at bU;subst bU;have hi:=kJ (P:=E.P) (t:=t) (by omega);have nf:off+yx.cells.toList.length≤c.toList.length:=by simp;omega
      refine⟨_,μ,gG x1 hi hh (by omega) x3,fun _ _ h=>h,?_⟩;refine hM.write hm rfl hg (jm.setRow (Nat.le_refl _)) setRow_size (fun k hk=>cJ hk) ⟨g,_,T,hg,setRow_heap w g c _ T (0,0) hh,?_,fun i u y hu hy=>?_,fun i y hy=>?_,by rw[cO (by omega)];exact xy⟩ rfl fun j hj=>?_
      ·simp only[List.size_toArray];rw[cO nf,cO (by omega)];simp[hs]
      ·rw[List.getElem?_toArray]at hy;have e1:yx.cells.toList.length=new.length:=by simp;omega
       rcases dz nf hy with⟨b1,b2,b3⟩|⟨b1,b2⟩<;>rcases dz (by omega) hu with⟨d1,d2,d3⟩|⟨d1,d2⟩
       ·exact x2 _ u y d3 (by simpa using b3)
       ·exfalso;omega
       ·exfalso;omega
       ·exact hv i u y d2 (by simpa using b2)
      ·rw[List.getElem?_toArray]at hy;rcases dz nf hy with⟨b1,b2,b3⟩|⟨b1,b2⟩
       ·exact x3 _ y (by simpa using b3)
       ·exact h1 i y (by simpa using b2)
      ·simp only[bI.names]at hj;obtain⟨v,Ib,hh'⟩:=cS.1 hj;simp only[dB,List.mem_append]at Ib;rcases Ib with(Ib|Ib)|Ib
       ·exact hM.fh id cs j hm (bK (List.mem_of_mem_take Ib) hh')
       ·exact hlx j (n2 j (bK Ib hh'))
       ·exact hM.fh id cs j hm (bK (List.mem_of_mem_drop Ib) hh')
    ·cases h
   ·cases h
  ·cases h
 ·rename_i id i off;split at h
  ·rename_i p m1 hf;obtain⟨f1,f2,f3⟩:=FM hf;split at h
   ·rename_i s et es hm;obtain⟨e,he,h⟩:=Option.bind_eq_some_iff.1 h;have key:∀q,0<aO E.P t→off+aO E.P t≤s→(p.cells.length=aO E.P t→e.cells.length=s→q.cells=bQ (aI s e) off p.cells)→∀(G:Nat→Option (List PV))(w0:bt)(μ:Ro)(φ:Nat→aC)(w:World)(ya yx:Value),au E.P G w0 μ φ m w→af E.P μ φ (.oe id i off) ya→af E.P μ φ x yx→(∀id,x.has id=true→(m id).isSome=true)→∃w' μ',(Instr.storeAt t ya yx).run E.P w=.ok () w'∧(∀b o,μ b=some o→μ' b=some o)∧au E.P G w0 μ' φ (al m1 id (.arr s et (es.set i q))) w':=by
     intro q hz hb hq G w0 μ φ w ya yx hM ha hx _;obtain⟨μ',g1,g2,g3⟩:=f3 _ _ _ _ _ _ _ hM hx;cases ha with
     | @oe _ _ _ g hg=>have hA:aJ E.P μ' φ w id s et es:=g2.dG id _ hm;have M5:=hq g3.len (hA.2.2.2.2.1 i e he);obtain⟨c,T,hh,nf,sx⟩:=hA.set hg he g3 hb M5;have kD:(φ id).sz=s:=hA.2.1;have hi:=kJ (P:=E.P) (t:=t) (by omega);refine⟨_,μ',?_,g1,g2.write hm rfl hg (jm.setRow (Nat.le_refl _)) setRow_size (fun k hk=>cJ hk) sx rfl fun j hj=>by simp[bI.names]at hj⟩;rw[kD];exact gG g3.size hi hh nf g3.one
    split at h
    ·rename_i hb;refine⟨_,_,h,fun hd=>?_,f1.trans .set,key p (by omega) (by omega) fun h1 h2=>?_⟩
     ·obtain⟨rfl,f4⟩:=f2 hd;refine⟨id,_,rfl,rfl,fun m2 cN R' k'=>?_⟩;simp only[qW,f4 m2,cN,hm,he,Option.bind_some];rw[if_pos hb]
     ·rw[hb.1,dB,h1,hb.2.1];simp[bf]
    ·rename_i YC;split at h
     ·rename_i hb;refine⟨_,_,h,fun hd=>?_,f1.trans .set,key _ (by omega) (by omega) fun _ _=>rfl⟩;obtain⟨rfl,f4⟩:=f2 hd;refine⟨id,_,rfl,rfl,fun m2 cN R' k'=>?_⟩;simp only[qW,f4 m2,cN,hm,he,Option.bind_some];rw[if_neg YC,if_pos hb]
     ·cases h
   ·rename_i s et es hm;obtain⟨e,he,h⟩:=Option.bind_eq_some_iff.1 h;split at h
    ·rename_i hb;refine⟨_,_,h,fun hd=>?_,f1.trans .set,fun G w0 μ φ w ya yx hM ha hx _=>?_⟩
     ·obtain⟨rfl,f4⟩:=f2 hd;refine⟨id,_,rfl,rfl,fun m2 cN R' k'=>?_⟩;simp only[qW,f4 m2,cN,hm,he,Option.bind_some];rw[if_pos hb]
     ·obtain⟨μ',g1,g2,g3⟩:=f3 _ _ _ _ _ _ _ hM hx;cases ha with
      | @oe _ _ _ g hg=>have hA:aS E.P μ' φ w id s et es:=g2.dG id _ hm;obtain⟨c,T,hh,nf,sx,YD⟩:=aS.set (q:=.agg (bQ (aI s e) off p.cells)) hA (g2.apart id _ hm) hg he g3 hb.1 rfl;have kD:(φ id).sz=s:=hA.2.1;have hi:=kJ (P:=E.P) (t:=t) (by omega);refine⟨_,μ',?_,g1,g2.write hm rfl hg (jm.setRow (Nat.le_refl _)) setRow_size (fun k hk=>cJ hk) sx rfl (fun j hj=>by simp[bI.names]at hj) (fun st h=>by cases h) YD⟩;rw[kD];exact gG g3.size hi hh nf g3.one
    ·cases h
   ·cases h
  ·cases h
 ·rename_i id i off s j off2;split at h
  ·rename_i p m1 hf;split at h
   ·rename_i s0 et es hm;obtain⟨e,he,h⟩:=Option.bind_eq_some_iff.1 h;obtain⟨rs,hr,h⟩:=Option.bind_eq_some_iff.1 h;obtain⟨q,hq,h⟩:=Option.bind_eq_some_iff.1 h;split at h
    ·rename_i hb;refine⟨_,_,h,fun _=>⟨id,_,rfl,rfl,fun m2 cN R' k'=>?_⟩,.set,fun G w0 μ φ w ya yx hM ha hx _=>?_⟩
     ·simp only[qW,hf,cN,hm,he,hr,hq,Option.bind_some];rw[if_pos hb]
     ·have hE:=wh hf E.P μ φ yx hx;have hN:aS E.P μ φ w id s0 et es:=hM.dG id _ hm;obtain⟨g,y,hg,uU,⟨⟨Ag,hA⟩,hV⟩,Yx⟩:=hN.row he hr;have AG:=hM.apart id _ hm;have iw:(bI.nest s0 et es).rowAt i off=true:=by rw[dy he Yx];rfl
      have xz:=hN.2.2.2.2.1 i e he;have DU:(setRow s0 e off (.fK s (rs.set j (setCells s q off2 (aO E.P t) p)))).cells=e.cells.set off (.fK s (rs.set j (setCells s q off2 (aO E.P t) p))):=DT xz hb.2.2 (by simp);cases ha with
      | @vU _ _ _ _ _ _ g' bU hs=>
       obtain⟨cR,YE⟩:=AG i off g' iw bU;obtain⟨c,T,hh,nf,sx⟩:=hA.set (g:=g') bU hq hE hb.1 (AK hE.len (hA.2.2.2.2.1 j q hq));have hi:=kJ (P:=E.P) (t:=t) (by omega);refine⟨_,μ,gG hE.size hi hh nf hE.one,fun _ _ h=>h,hM.PC hm rfl (.inr ⟨i,off,iw,bU⟩) (jm.setRow (Nat.le_refl _)) setRow_size (fun k hk=>cJ hk) ?_ rfl (fun j hj=>by simp[bI.names]at hj) ?_⟩
       ·refine aS.change hN (by simp) (fun i' e' h'=>?_) rfl (fun g0 HN=>cJ fun e=>cR (by rw[←e];exact HN)) (fun i' e' j' p' g0 c0 x' h' pt HN hc0 Ic hold=>?_)
        ·rcases eg h' with⟨_,rfl⟩|⟨_,h'⟩
         ·rw[DU,List.length_set];exact xz
         ·exact hN.2.2.2.2.1 i' e' h'
        ·have other:∀e'' p'',es[i']?=some e''→e''.cells[j']?=some p''→(i',j')≠(i,off)→ef E.P μ ((φ id).row i' j') (w.setRow g' (bQ c.toList (j*s+off2) yx.cells.toList).toArray) p'' x':=fun e'' p'' h1 h2 h3=>(hold e'' p'' h1 h2).cG (fun _ _ h=>h) fun qn g'' ac8=>cJ fun e=>by subst e;obtain⟨e1,e2⟩:=YE i' j' (by rw[dy h1 h2];exact qn) ac8;exact h3 (by rw[e1,e2])
         rcases eg h' with⟨rfl,rfl⟩|⟨PE,h'⟩
         ·rw[DU]at pt;rcases eg pt with⟨rfl,rfl⟩|⟨hnj,pt⟩
          ·have Ie:eH E.P μ ((φ id).row i' j') w s rs x':=hold e _ he Yx;refine⟨⟨Ag,sx⟩,?_⟩;exact Ie.2
          ·exact other e p' he pt fun e=>hnj (by simpa using e)
         ·exact other e' p' h' pt fun e=>PE (by have:=congrArg Prod.fst e;exact this)
       ·intro i' pI qn;rcases iB qn with⟨_,_,_,e',s',YF,fL,h',pt⟩|⟨_,_,_,_,_,_,fL,_⟩
        ·simp only[bI.nest.injEq]at fL;obtain⟨rfl,rfl,rfl⟩:=fL;rcases eg h' with⟨rfl,rfl⟩|⟨PE,h'⟩
         ·rw[DU]at pt;rcases eg pt with⟨rfl,_⟩|⟨hnj,pt⟩
          ·exact iw
          ·rw[dy he pt];rfl
         ·rw[dy h' pt];rfl
        ·cases fL
    ·cases h
   ·cases h
  ·cases h
 ·cases h
end
end Go.Ab
set_option linter.unusedVariables false
namespace Go.Ab
open Go.RowKit (Below)
structure Cells(P:Program)(μ:Ro)(sz:Nat)(es:List PV)(xs:List Value):Prop where
 len:xs.length=es.length*sz
 each:∀(i:Nat)e,es[i]?=some e→e.cells.length=sz
 rep:∀(i:Nat)e(j:Nat)p y,es[i]?=some e→e.cells[j]?=some p→xs[i*sz+j]?=some y→ah P μ p y
 one:∀(i:Nat)y,xs[i]?=some y→y.oneCell'=true
section
variable {P:Program} {μ μ':Ro} {φ:Nat→aC} {w:World} {sz:Nat} {es es':List PV} {xs YG:List Value}
theorem Cells.nil:Cells P μ sz [] []:=⟨by simp,by simp,by simp,by simp⟩
theorem Cells.mono(h:Cells P μ sz es xs)(hμ:∀b o,μ b=some o→μ' b=some o):Cells P μ' sz es xs:=⟨h.len,h.each,fun i e j p y h1 h2 h3=>(h.rep i e j p y h1 h2 h3).mono hμ,h.one⟩
theorem AL{i j n:Nat}(hi:i<n)(hj:j<sz):i*sz+j<n*sz:=by have:(i+1)*sz≤n*sz:=Nat.mul_le_mul_right _ hi;rw[Nat.add_mul]at this;omega
theorem Cells.append(h:Cells P μ sz es xs)(h':Cells P μ sz es' YG):Cells P μ sz (es++es') (xs++YG):=by
 refine⟨by simp[h.len,h'.len,Nat.add_mul],fun i e hi=>?_,fun i e j p y hi hj hy=>?_,fun i y hy=>?_⟩
 ·rw[List.getElem?_append]at hi;split at hi
  ·exact h.each i e hi
  ·exact h'.each _ e hi
 ·rw[List.getElem?_append]at hi hy;split at hi
  ·rename_i hl;have xf:j<sz:=by rw[←h.each i e hi];exact(List.getElem?_eq_some_iff.1 hj).1
   rw[if_pos (by rw[h.len];exact AL hl xf)]at hy;exact h.rep i e j p y hi hj hy
  ·rename_i hl;have hle:es.length*sz≤i*sz:=Nat.mul_le_mul_right _ (by omega);rw[if_neg (by rw[h.len];omega)]at hy;refine h'.rep _ e j p y hi hj ?_;rw[←hy,h.len,Nat.sub_mul];congr 1;omega
 ·rw[List.getElem?_append]at hy;split at hy
  ·exact h.one i y hy
  ·exact h'.one _ y hy
theorem Cells.take(h:Cells P μ sz es xs)(n:Nat):Cells P μ sz (es.take n) (xs.take (n*sz)):=by
 refine⟨?_,fun i e hi=>h.each i e (eh hi).2,fun i e j p y hi hj hy=>h.rep i e j p y (eh hi).2 hj (eh hy).2,fun i y hy=>h.one i y (eh hy).2⟩;rw[List.length_take,List.length_take,h.len];rcases Nat.le_total n es.length with hn|hn
 ·rw[Nat.min_eq_left hn,Nat.min_eq_left (Nat.mul_le_mul_right _ hn)]
 ·rw[Nat.min_eq_right hn,Nat.min_eq_right (Nat.mul_le_mul_right _ hn)]
theorem Cells.drop(h:Cells P μ sz es xs)(n:Nat):Cells P μ sz (es.drop n) (xs.drop (n*sz)):=by refine⟨by simp[h.len,Nat.sub_mul],fun i e hi=>h.each _ e (kG hi),fun i e j p y hi hj hy=>h.rep _ e j p y (kG hi) hj ?_,fun i y hy=>h.one _ y (kG hy)⟩;rw[←kG hy,Nat.add_mul];congr 1;omega
variable{id:Nat}{et:TypeId}
theorem aJ.cells(hA:aJ P μ φ w id sz et es){g:Nat}(hg:(φ id).g=some g):∃c:Array Value,w.heap[g]?=some (.cells c et (0,0))∧(φ id).cap*sz≤c.size∧es.length≤(φ id).cap∧es.length*sz≤c.size∧Cells P μ sz es (c.toList.take (es.length*sz)):=by
 obtain⟨a1,a2,a3,a4,a5,a6,a7⟩:=hA;rw[hg]at a7;obtain⟨c,c1,c2,c3,c4,c5⟩:=a7;have hle:es.length*sz≤c.size:=Nat.le_trans (Nat.mul_le_mul_right _ c3) c2;refine⟨c,c1,c2,c3,hle,by simp;omega,a5,fun i e j p y hi hj hy=>?_,fun i y hy=>?_⟩
 ·exact c4 i e j p y hi hj (by simpa using(eh hy).2)
 ·have:=eh hy;exact c5 i y this.1 (by simpa using this.2)
theorem aJ.nY{g:Nat}{c:Array Value}(SR:(φ id).toyD=⟨some g,(φ id).cap,es.length,sz⟩)(kD:sz=aO P et)(ei:0<sz)(mJ:(φ id).cap≤maxLen)(hh:w.heap[g]?=some (.cells c et (0,0)))(hc:(φ id).cap*sz≤c.size)(hle:es.length≤(φ id).cap)(hC:Cells P μ sz es (c.toList.take (es.length*sz))):aJ P μ φ w id sz et es:=by
 have e1:(φ id).g=some g:=by rw[SR]
 refine⟨by rw[SR],by rw[SR],kD,ei,hC.each,mJ,?_⟩;rw[e1];have xf:∀(i:Nat)e(j:Nat)p,es[i]?=some e→e.cells[j]?=some p→i*sz+j<es.length*sz:=fun i e j p hi hj=>AL (List.getElem?_eq_some_iff.1 hi).1 (by rw[←hC.each i e hi];exact(List.getElem?_eq_some_iff.1 hj).1);refine⟨c,hh,hc,hle,fun i e j p x hi hj hx=>?_,fun i x hi hx=>?_⟩
 ·exact hC.rep i e j p x hi hj (by rw[List.getElem?_take_of_lt (xf i e j p hi hj)];simpa using hx)
 ·exact hC.one i x (by rw[List.getElem?_take_of_lt hi];simpa using hx)
inductive uV(P:Program)(μ:Ro)(w:World)(sz:Nat)(es:List PV):Value→Prop
 |none:es=[]→uV P μ w sz es (.slice none 0 0)
 |some {a:Addr} {c:Nat} (xs:List Value):Cells P μ sz es xs→(∀(j:Nat)v,xs[j]?=some v→w.cell? (a.add j)=some v)→es.length≤c→c≤maxLen→uV P μ w sz es (.slice (some a) es.length c)
theorem aJ.src(hA:aJ P μ φ w id sz et es){g:Nat}(hg:(φ id).g=some g){lo len cap:Nat}(hl:lo+len≤es.length)(uW:len≤cap)(afD:lo+cap≤(φ id).cap):uV P μ w sz ((es.drop lo).take len) (.slice (some ⟨g,lo*sz,none⟩) len cap):=by
 obtain⟨c,c1,c2,c3,c4,c5⟩:=hA.cells hg;have mJ:=hA.mh;have hlen:((es.drop lo).take len).length=len:=by simp;omega
 have:=uV.some (P:=P) (μ:=μ) (w:=w) (sz:=sz) (es:=(es.drop lo).take len) (a:=⟨g,lo*sz,none⟩) (c:=cap) _ ((c5.drop lo).take len) (fun j v hv=>?_) (by omega) (by omega)
 ·rw[hlen]at this;exact this
 ·have h1:=(eh hv).2;have h2:=(eh (kG h1)).2;rw[Addr.add_mid,dJ c1];simpa using h2
end
section
variable {R:Type} {E:Env}
theorem ah.src{P:Program}{G:Nat→Option (List PV)}{w0:bt}{μ:Ro}{φ:Nat→aC}{m:Mem}{w:World}{sz:Nat}{es:List PV}{y:Value}(hM:au P G w0 μ φ m w)(h:ah P μ (.rs sz es) y):uV P μ w sz es y:=by
 cases h with
 |ja=>exact .none rfl
 |Fg hc=>exact .some (es:=[]) [] .nil (by simp) (by simp) hc
 | @rs _ _ b o cap X h1 h2 h3 h4 h5 h6=>
  by_cases hz:sz=0
  ·subst hz;refine .some [] ⟨by simp,h3,fun i e j p y hi hj=>?_,by simp⟩ (by simp) h1 h2;have:=h3 i e hi;have:=(List.getElem?_eq_some_iff.1 hj).1;omega
  ·have eG:∀k v,((List.range (es.length*sz)).map fun k=>X (k/sz) (k%sz))[k]?=some v→∃(e:PV)(p:PV),es[k/sz]?=some e∧e.cells[k%sz]?=some p∧v=X (k/sz) (k%sz):=by
    intro k v hk;have bp:k<es.length*sz:=by have:=(List.getElem?_eq_some_iff.1 hk).1;simpa using this
    rw[List.getElem?_map,List.getElem?_range bp]at hk;simp at hk;have hi:k/sz<es.length:=(Nat.div_lt_iff_lt_mul (by omega)).2 bp;have hj:k%sz<(es[k/sz]).cells.length:=by rw[h3 _ _ (List.getElem?_eq_getElem hi)];exact Nat.mod_lt _ (by omega)
    exact⟨_,_,List.getElem?_eq_getElem hi,List.getElem?_eq_getElem hj,hk.symm⟩
   refine .some ((List.range (es.length*sz)).map fun k=>X (k/sz) (k%sz)) ⟨by simp,h3,fun i e j p y hi hj hy=>?_,fun k v hk=>?_⟩ (fun k v hk=>?_) h1 h2
   ·obtain⟨e',p',he,hp,rfl⟩:=eG _ _ hy;have xf:j<sz:=by rw[←h3 i e hi];exact(List.getElem?_eq_some_iff.1 hj).1
    have e1:(i*sz+j)/sz=i:=by rw[Nat.mul_comm,Nat.mul_add_div (by omega),Nat.div_eq_of_lt xf];rfl
    have e2:(i*sz+j)%sz=j:=by rw[Nat.mul_comm,Nat.mul_add_mod,Nat.mod_eq_of_lt xf]
    rw[e1,e2];exact h5 i e j p hi hj
   ·obtain⟨e',p',he,hp,rfl⟩:=eG _ _ hk;exact h6 _ e' _ p' he hp
   ·obtain⟨e',p',he,hp,rfl⟩:=eG _ _ hk;rw[Addr.add_mid];have:=hM.cellAt (h4 _ e' _ p' he hp);rw[←this];congr 2;rw[Nat.add_assoc,Nat.div_add_mod' k sz]
theorem lO{m:Mem}{sz:Nat}{x:V}{es:List PV}{ft:bl}(h:eF m sz x=some (es,ft)):(∀m2:Mem,(∀x∈ft,m2 x.2=m x.2)→eF m2 sz x=some (es,ft))∧(∀x∈ft,x.1=false)∧∀(P:Program)(G:Nat→Option (List PV))(w0:bt)(μ:Ro)(φ:Nat→aC)(w:World)(y:Value),au P G w0 μ φ m w→af P μ φ x y→uV P μ w sz es y:=by
 unfold eF at h;split at h
 ·rename_i s es';split at h
  ·rename_i hs;simp only[Option.some.injEq,Prod.mk.injEq]at h;obtain⟨rfl,rfl⟩:=h;subst hs;exact⟨fun m2 _=>by simp[eF],by simp,fun P G w0 μ φ w y hM hy=>by cases hy with|pv hy=>exact hy.src hM⟩
  ·split at h
   ·simp only[Option.some.injEq,Prod.mk.injEq]at h;obtain⟨rfl,rfl⟩:=h;refine⟨fun m2 _=>by simp[eF],by simp,fun P G w0 μ φ w y hM hy=>?_⟩;cases hy with
    |pv hy=>cases hy with
     |ja=>exact .none rfl
     |Fg hc=>exact .some (es:=[]) [] .nil (by simp) (by simp) hc
     |rs X h1 h2=>exact .some (es:=[]) [] .nil (by simp) h1 h2
   ·cases h
 ·simp only[Option.some.injEq,Prod.mk.injEq]at h;obtain⟨rfl,rfl⟩:=h;exact⟨fun m2 _=>by simp[eF],by simp,fun P G w0 μ φ w y hM hy=>by cases hy;exact .none rfl⟩
 ·rename_i id;have key:∀(s:Nat)(et:TypeId)(es:List PV),(m id=some (.arr s et es)∨m id=some (.nr s et es))→∀(P:Program)(G:Nat→Option (List PV))(w0:bt)(μ:Ro)(φ:Nat→aC)(w:World)(y:Value),au P G w0 μ φ m w→af P μ φ (.os id) y→uV P μ w s es y:=by
   intro s et es hm P G w0 μ φ w y hM hy;have hA:=hM.arr hm;cases hy with
   |oX hg=>obtain⟨a1,a2,a3,a4,a5,a6,a7⟩:=hA;rw[hg]at a7;exact .none a7.1
   |os hg=>have:=hA.src hg (lo:=0) (len:=es.length) (cap:=(φ id).cap) (by omega) (hA.mh).1 (by omega);rw[hA.1];simpa using this
  split at h
  ·rename_i s' et es' hm;split at h
   ·rename_i hs;simp only[Option.some.injEq,Prod.mk.injEq]at h;obtain⟨rfl,rfl⟩:=h;subst hs;exact⟨fun m2 cN=>by have:=cN (false,id) (by simp);simp only at this;simp[eF,this,hm],by simp,key _ _ _ (.inl hm)⟩
   ·cases h
  ·rename_i s' et es' hm;split at h
   ·rename_i hs;simp only[Option.some.injEq,Prod.mk.injEq]at h;obtain⟨rfl,rfl⟩:=h;subst hs;exact⟨fun m2 cN=>by have:=cN (false,id) (by simp);simp only at this;simp[eF,this,hm],by simp,key _ _ _ (.inr hm)⟩
   ·cases h
  ·cases h
 ·rename_i id lo len;have key:∀(s:Nat)(et:TypeId)(es:List PV),(m id=some (.arr s et es)∨m id=some (.nr s et es))→∀(P:Program)(G:Nat→Option (List PV))(w0:bt)(μ:Ro)(φ:Nat→aC)(w:World)(y:Value),au P G w0 μ φ m w→af P μ φ (.ff id lo len) y→uV P μ w s ((es.drop lo).take len) y:=by
   intro s et es hm P G w0 μ φ w y hM hy;have hA:=hM.arr hm;have hle:=hA.mh;have M6:=hA.1;have kD:=hA.2.1;cases hy with
   |nQ hg=>simp;exact .none rfl
   |ff hg hl ha Uj Cg=>
    rcases ha with rfl|⟨ha,_⟩
    ·rw[kD];exact hA.src hg (by omega) Uj Cg
    ·have h0:len=0:=by omega
     subst h0;simp only[List.take_zero];exact .some (es:=[]) [] .nil (by simp) (by simp) (by omega)
  split at h
  ·rename_i s' et es' hm;split at h
   ·rename_i hs;simp only[Option.some.injEq,Prod.mk.injEq]at h;obtain⟨rfl,rfl⟩:=h;subst hs;exact⟨fun m2 cN=>by have:=cN (false,id) (by simp);simp only at this;simp[eF,this,hm],by simp,key _ _ _ (.inl hm)⟩
   ·cases h
  ·rename_i s' et es' hm;split at h
   ·rename_i hs;simp only[Option.some.injEq,Prod.mk.injEq]at h;obtain⟨rfl,rfl⟩:=h;subst hs;exact⟨fun m2 cN=>by have:=cN (false,id) (by simp);simp only at this;simp[eF,this,hm],by simp,key _ _ _ (.inr hm)⟩
   ·cases h
  ·cases h
 ·rename_i id i off;split at h
  ·rename_i s0 et0 cX hm;obtain⟨e,he,h⟩:=Option.bind_eq_some_iff.1 h;obtain⟨rs,hr,h⟩:=Option.bind_eq_some_iff.1 h;simp only[Option.some.injEq,Prod.mk.injEq]at h;obtain⟨rfl,rfl⟩:=h;refine⟨fun m2 cN=>by have:=cN (false,id) (by simp);simp only at this;simp[eF,this,hm,he,hr],by simp,fun P G w0 μ φ w y hM hy=>?_⟩;have hN:aS P μ φ w id s0 et0 cX:=hM.dG id _ hm;obtain⟨_,_,_,_,⟨⟨Ag,hA⟩,_⟩,_⟩:=hN.row he hr;have hy:=hy.H7 (ν:=μ);cases hy with
   |oX hg=>obtain⟨a1,a2,a3,a4,a5,a6,a7⟩:=hA;rw[hg]at a7;exact .none a7.1
   |os hg=>have:=hA.src hg (lo:=0) (len:=rs.length) (cap:=(((φ id).row i off).up).cap) (by omega) (hA.mh).1 (by omega);rw[hA.1];simpa using this
  ·cases h
 ·cases h
end
end Go.Ab
set_option linter.unusedVariables false
namespace Go.Ab
open Go.RowKit (Below)
section
variable {P:Program} {w:World}
theorem mL{t ty e:TypeId}(hu:P.underlying t=some (.slice e))(hz:aO P e≠0){base a:Option Addr}{n cap c:Nat}(hn:n≤cap):(Builtin.append_ #[t,t] ty #[.slice base n cap,.slice a 0 c]).run P w=.ok (.slice base n cap) w:=by
 obtain⟨i,hi,hs⟩:=ua hz;have hl:∀x:Addr,(loadCells x 0).run P w=.ok #[] w:=fun x=>by simpa using run_loadCells_list (P:=P) w x [] (by simp)
 cases base<;>cases a<;>simp[Builtin.append_,run_underlying hu,sizeOf,typeInfo,hi,Builtin.lenOf,Builtin.firstCells,hn,hl,storeCells]
end
section
variable {R:Type} {E:Env}
variable{t:TypeId}
theorem CP{P:Program}{i:TypeInfo}(hi:P.info? t=some i):i.bytes=Cc P t∧i.size=aO P t:=by simp[Cc,aO,hi]
theorem AM{P:Program}{e ty:TypeId}{sz len n:Nat}{z:Value}{i:TypeInfo}(hu:P.underlying t=some (.slice e))(hi:P.info? e=some i)(XJ:i.zero=some z)(FN:z.cells.size=sz)(kD:sz=aO P e)(ei:0<aO P e)(YH:0<Cc P e)(ek:(len+n)*Cc P e≤aa){w:World}{ys yx:Value}{os xs:List Value}(hs:(ys=.slice none 0 0∧len=0∧os=[])∨∃(g cap:Nat)(c:Array Value),ys=.slice (some ⟨g,0,none⟩) len cap∧w.heap[g]?=some (.cells c e (0,0))∧cap*sz≤c.size∧len≤cap∧cap≤maxLen∧os=c.toList.take (len*sz))(hx:(yx=.slice none 0 0∧n=0∧xs=[])∨∃(a:Addr)(cx:Nat),yx=.slice (some a) n cx∧xs.length=n*sz∧(∀(j:Nat)v,xs[j]?=some v→w.cell? (a.add j)=some v)∧(∀v∈xs,v.oneCell'=true)∧n≤cx∧cx≤maxLen):∃w' y,(Builtin.append_ #[t,t] ty #[ys,yx]).run P w=.ok y w'∧((y=.slice none 0 0∧w'=w∧len=0∧n=0)∨∃(g cap:Nat)(c:Array Value),y=.slice (some ⟨g,0,none⟩) (len+n) cap∧w'.heap[g]?=some (.cells c e (0,0))∧cap*sz≤c.size∧len+n≤cap∧cap≤maxLen∧c.toList.take ((len+n)*sz)=os++xs∧((∃SU,ys=.slice (some ⟨g,0,none⟩) len SU∧jm g w w'∧∀k,k≠g→w'.heap[k]?=w.heap[k]?)∨(g=w.heap.size∧w'=w.drew.alloc (.cells c e)))):=by
 obtain⟨Up,Uq⟩:=CP hi;have VG:len+n≤140737488355328:=by have:(len+n)*1≤(len+n)*Cc P e:=Nat.mul_le_mul_left _ YH;simp only[aa]at ek;omega
 have ac9:len+n≤maxLen:=by simp only[maxLen];omega
 have OW:∀n,(Builtin.zeroCells z.cells n).size=n*sz:=fun n=>by rw[size_zeroCells,FN]
 rcases hs with⟨rfl,rfl,rfl⟩|⟨g,cap,c,rfl,g4,g5,g6,g7,rfl⟩
 ·rcases hx with⟨rfl,rfl,rfl⟩|⟨a,cx,rfl,CN,FO,YI,Ur,PF⟩
  ·exact⟨w,_,mL hu (by omega) (Nat.le_refl _),.inl ⟨rfl,rfl,rfl,rfl⟩⟩
  ·by_cases h0:n=0
   ·subst h0;exact⟨w,_,mL hu (by omega) (Nat.le_refl _),.inl ⟨rfl,rfl,rfl,rfl⟩⟩
   ·have hr:=run_append_nil (P:=P) w t ty e i z hu hi XJ a n cx xs (by rw[CN,kD,Uq]) FO (by omega) (by simp only[Nat.zero_add]at VG;omega) (by simp only[aa,Nat.zero_add]at ek;rw[Up];omega);have Ch:=grownCap_ge w n 0 e;refine⟨_,_,hr,.inr ⟨w.heap.size,grownCap w n 0 e,xs.toArray++Builtin.zeroCells z.cells (grownCap w n 0 e-n),by simp,fD w.drew _,?_,by simpa using Ch,grownCap_le_maxLen w _ 0 e (by simpa using ac9),?_,.inr ⟨rfl,rfl⟩⟩⟩
    ·rw[Array.size_append,OW];simp only[List.size_toArray,CN,←Nat.add_mul];exact Nat.mul_le_mul_right _ (by omega)
    ·simp only[Array.toList_append,List.nil_append,Nat.zero_add];exact List.take_left' CN
 ·have h1:(c.toList.take (len*sz)).length=len*sz:=by have:len*sz≤cap*sz:=Nat.mul_le_mul_right _ g6;simp;omega
  rcases hx with⟨rfl,rfl,rfl⟩|⟨a,cx,rfl,CN,FO,YI,Ur,PF⟩
  ·exact⟨w,_,mL hu (by omega) g6,.inr ⟨g,cap,c,rfl,g4,g5,by simpa using g6,g7,by simp,.inl ⟨cap,rfl,jm.refl _ _,fun _ _=>rfl⟩⟩⟩
  ·by_cases OX:len+n≤cap
   ·have nf:len*i.size+xs.length≤c.size:=by rw[Uq,←kD,CN,←Nat.add_mul];exact Nat.le_trans (Nat.mul_le_mul_right _ OX) g5
    have hr:=run_append_room (P:=P) w t ty e i hu hi g len cap c g4 a n cx xs (by rw[CN,kD,Uq]) FO YI OX nf;rw[Uq,←kD]at hr nf;refine⟨_,_,hr,.inr ⟨g,cap,_,rfl,setRow_heap w g c _ e (0,0) g4,?_,OX,g7,?_,.inl ⟨cap,rfl,jm.setRow (Nat.le_refl _),fun k hk=>cJ hk⟩⟩⟩
    ·simp only[List.size_toArray,List.length_append,List.length_take,List.length_drop,Array.length_toList];omega
    ·simp only[];exact List.take_left' (by rw[List.length_append,h1,CN,Nat.add_mul])
   ·have hr:=run_append_grow (P:=P) w t ty e i z hu hi XJ ⟨g,0,none⟩ len cap (c.toList.take (len*sz)) (by rw[h1,kD,Uq]) (fun j v hj=>by
      rw[Addr.add_mid,dJ g4];simpa using(eh hj).2) a n cx xs (by rw[CN,kD,Uq]) FO (by omega) (by omega)
     (growslice_fits (by omega) (by rw[Up];simpa[aa]using ek))
    have Ch:=grownCap_ge w (len+n) cap e;refine⟨_,_,hr,.inr ⟨w.heap.size,_,_,rfl,fD w.drew _,?_,Ch,grownCap_le_maxLen w _ cap e (by omega),?_,.inr ⟨rfl,rfl⟩⟩⟩
    ·rw[Array.size_append,Array.size_append,OW];simp only[List.size_toArray,CN,h1,←Nat.add_mul];exact Nat.mul_le_mul_right _ (by omega)
    ·simp only[Array.toList_append];exact List.take_left' (by rw[List.length_append,h1,CN,Nat.add_mul])
theorem AN{e ty:TypeId}{sz:Nat}{es new:List PV}{z:List V}(hu:E.P.underlying t=some (.slice e))(hz:dm E e=some z)(kD:sz=aO E.P e)(ei:0<aO E.P e)(YH:0<Cc E.P e)(ek:(es++new).length*Cc E.P e≤aa){G:Nat→Option (List PV)}{w0:bt}{μ:Ro}{φ:Nat→aC}{m:Mem}{w:World}{ρ:Nat→Value}{f:Fr}{draw:Bool}{site:Nat}(hM:au E.P G w0 μ φ m w)(hF:cj E.P μ φ m f ρ){ys yx:Value}(hx:uV E.P μ w sz new yx)(hs:(ys=.slice none 0 0∧es=[])∨∃(g cap:Nat)(c:Array Value),ys=.slice (some ⟨g,0,none⟩) es.length cap∧w0.heap.size≤g∧μ g=none∧(∀id b',m id=some b'→¬b'.ec (φ id) g)∧w.heap[g]?=some (.cells c e (0,0))∧cap*sz≤c.size∧es.length≤cap∧cap≤maxLen∧es.length*sz≤c.size∧Cells E.P μ sz es (c.toList.take (es.length*sz))){f':Fr}{m':Mem}(sK:∀(P:Program)(G:Nat→Option (List PV))(w0:bt)(μ:Ro)(φ:Nat→aC)(w w':World)(ρ:Nat→Value)(ph:aC),au P G w0 μ φ m w→cj P μ φ m f ρ→jo P w0 μ φ m w w' site (.arr sz e (es++new)) ph→∃φ',φ' site=ph∧au P G w0 μ φ' m' w'∧cj P μ φ' m' f' ρ):∃w' y φ',(Builtin.append_ #[t,t] ty #[ys,yx]).run E.P w=.ok y w'∧au E.P G w0 μ φ' m' w'∧cj E.P μ φ' m' f' ρ∧af E.P μ φ' (.os site) y:=by
 obtain⟨i,zv,hi,XJ,Uq,_,FN,_,_,_⟩:=eC hz;have FP:(es++new).length=es.length+new.length:=by simp
 obtain⟨os,VH,hC⟩:∃os,((ys=.slice none 0 0∧es.length=0∧os=[])∨∃(g cap:Nat)(c:Array Value),ys=.slice (some ⟨g,0,none⟩) es.length cap∧w.heap[g]?=some (.cells c e (0,0))∧cap*sz≤c.size∧es.length≤cap∧cap≤maxLen∧os=c.toList.take (es.length*sz))∧Cells E.P μ sz es os:=by
  rcases hs with⟨h1,rfl⟩|⟨g,cap,c,h1,h2,h3,h4,h5,h6,h7,h8,h9,Fh⟩
  ·exact⟨[],.inl ⟨h1,rfl,rfl⟩,.nil⟩
  ·exact⟨_,.inr ⟨g,cap,c,h1,h5,h6,h7,h8,rfl⟩,Fh⟩
 obtain⟨xs,FO,hCx⟩:∃xs,((yx=.slice none 0 0∧new.length=0∧xs=[])∨∃(a:Addr)(cx:Nat),yx=.slice (some a) new.length cx∧xs.length=new.length*sz∧(∀(j:Nat)v,xs[j]?=some v→w.cell? (a.add j)=some v)∧(∀v∈xs,v.oneCell'=true)∧new.length≤cx∧cx≤maxLen)∧Cells E.P μ sz new xs:=by
  cases hx with
  |none hn=>subst hn;exact⟨[],.inl ⟨rfl,rfl,rfl⟩,.nil⟩
  | @some a cx xs hC FO Ur PF=>exact⟨xs,.inr ⟨a,cx,rfl,hC.len,FO,fun u hu=>by obtain⟨j,hj⟩:=List.getElem?_of_mem hu;exact hC.one j u hj,Ur,PF⟩,hC⟩
 obtain⟨w',y,hr,PG⟩:=AM (ty:=ty) hu hi XJ (by rw[FN,kD]) kD ei YH (by rw[←FP];exact ek) VH FO;rcases PG with⟨rfl,rfl,h1,h2⟩|⟨g',zr,c',rfl,b1,b2,b3,b4,b5,b6⟩
 ·have h1:es=[]:=List.eq_nil_of_length_eq_zero h1;have h2:new=[]:=List.eq_nil_of_length_eq_zero h2;obtain⟨φ',a1,a2,a3⟩:=sK E.P G w0 μ φ w' w' ρ (B8 none 0 0 sz) hM hF ⟨jm.refl _ _,hM.ro,fun _ _ _ _ _=>rfl,by simp,fun φ' hp _=>by refine⟨by rw[hp,h1,h2];rfl,by rw[hp],kD,by omega,by rw[h1,h2];simp,by rw[hp];simp[maxLen],?_⟩;rw[hp];exact⟨by rw[h1,h2];rfl,rfl⟩,by simp[bI.names],fun st h=>by cases h⟩;exact⟨w',_,φ',hr,a2,a3,.oX (by rw[a1])⟩
 ·have YJ:Cells E.P μ sz (es++new) (c'.toList.take ((es++new).length*sz)):=by rw[FP,b5];exact hC.append hCx
  have fin:∀(φ':Nat→aC),φ' site=B8 (some g') zr (es++new).length sz→af E.P μ φ' (.os site) (.slice (some ⟨g',0,none⟩) (es.length+new.length) zr):=fun φ' a1=>by have:=af.os (P:=E.P) (μ:=μ) (φ:=φ') (id:=site) (g:=g') (by rw[a1]);rw[a1,FP]at this;exact this
  rcases b6 with⟨SU,XK,b6,b7⟩|⟨rfl,rfl⟩
  ·rcases hs with⟨h1,_⟩|⟨g,cap,c,h1,h2,h3,h4,_⟩
   ·rw[XK]at h1;cases h1
   rw[XK]at h1;simp only[Value.slice.injEq,Option.some.injEq,Addr.mk.injEq]at h1;obtain⟨⟨rfl,_⟩,_⟩:=h1;obtain⟨φ',a1,a2,a3⟩:=sK E.P G w0 μ φ w w' ρ (B8 (some g') zr (es++new).length sz) hM hF ⟨b6.mono h2,fun k o hk=>by rw[b7 k (fun e=>by subst e;rw[h3]at hk;cases hk)];exact hM.ro k o hk,fun id b' g' hid bU=>b7 g' (fun e=>by subst e;exact h4 id b' hid bU),fun g' bU=>by simp only[Option.some.injEq]at bU;subst bU;exact⟨h2,h3,h4⟩,fun φ' hp _=>aJ.nY (by rw[hp]) kD (by omega) (by rw[hp];exact b4) b1 (by rw[hp];exact b2) (by rw[hp,FP];exact b3) YJ,by simp[bI.names],fun st h=>by cases h⟩;exact⟨w',_,φ',hr,a2,a3,fin φ' a1⟩
  ·obtain⟨φ',a1,a2,a3⟩:=sK E.P G w0 μ φ w.drew _ ρ (B8 (some w.heap.size) zr (es++new).length sz) hM.drew hF (jo.alloc (o:=.cells c' e) hM.drew rfl (fun φ' hp _=>aJ.nY (g:=w.heap.size) (by rw[hp]) kD (by omega) (by rw[hp];exact b4) (fD w.drew _) (by rw[hp];exact b2) (by rw[hp,FP];exact b3) YJ) (by simp[bI.names]));exact⟨_,_,φ',hr,a2,a3,fin φ' a1⟩
end
end Go.Ab
set_option linter.unusedVariables false
namespace Go.Ab
open Go.RowKit (Below)
section
variable {R:Type} {E:Env}
theorem Ig{draw:Bool}{site:Nat}{t t':TypeId}{s x:V}{f:Fr}{m:Mem}{k:V→Fr→Mem→Option R}{r:R}(h:vZ E draw site t t' s x f m k=some r):draw=false∧t'=t∧∃place f' m',k (.os place) f' m'=some r∧(m' place).isSome=true∧∀(G:Nat→Option (List PV))(w0:bt)(μ:Ro)(φ:Nat→aC)(w:World)(ρ:Nat→Value)(ys yx:Value)(ty:TypeId),au E.P G w0 μ φ m w→cj E.P μ φ m f ρ→af E.P μ φ s ys→af E.P μ φ x yx→∃w' y φ',(Builtin.append_ #[t,t] ty #[ys,yx]).run E.P w=.ok y w'∧au E.P G w0 μ φ' m' w'∧cj E.P μ φ' m' f' ρ∧af E.P μ φ' (.os place) y:=by
 unfold vZ at h;split at h
 ·cases h
 ·rename_i hd;simp only[Bool.or_eq_true,not_or,Bool.not_eq_true,Bool.not_eq_false',decide_eq_true_eq,Bool.not_eq_eq_eq_not,Bool.not_true,Bool.not_false]at hd;refine⟨hd.1,by simpa using hd.2,?_⟩;split at h
  ·rename_i e hu;split at h
   ·cases h
   ·rename_i hz;obtain⟨z,hz⟩:∃z,dm E e=some z:=by
     cases hq:dm E e with
     |none=>simp[hq]at hz
     |some z=>exact⟨z,rfl⟩
    split at h
    ·rename_i new ft xz;obtain⟨_,_,vk⟩:=lO xz;split at h
     ·split at h
      ·rename_i hb;obtain⟨f',m',_,hk,uf,_,sK⟩:=cH h;refine⟨_,f',m',hk,by simp[uf],fun G w0 μ φ w ρ ys yx ty hM hF hs hx=>?_⟩;cases hs;exact AN (es:=[]) (draw:=false) hu hz rfl hb.2.2 hb.2.1 (by simpa using hb.1) hM hF (vk _ _ _ _ _ _ _ hM hx) (.inl ⟨rfl,rfl⟩) sK
      ·cases h
     ·rename_i id;split at h
      ·rename_i sz et es hm;split at h
       ·rename_i hc;obtain⟨rfl,rfl,afE⟩:=hc;split at h
        ·rename_i hb;obtain⟨f',m',_,hk,uf,_,sK⟩:=cH h;refine⟨_,f',m',hk,by simp[uf],fun G w0 μ φ w ρ ys yx ty hM hF hs hx=>?_⟩;have qA:=hM.forget id;have zt:=hF.forget id;have hA:aJ E.P μ φ w id (aO E.P et) et es:=hM.dG id _ hm;have ei:0<aO E.P et:=hA.2.2.2.1;refine AN (draw:=false) hu hz rfl ei hb.2 hb.1 qA zt (vk _ _ _ _ _ _ _ hM hx) ?_ sK;cases hs with
         |oX hg=>have a7:=hA.2.2.2.2.2.2;rw[hg]at a7;exact .inl ⟨rfl,a7.1⟩
         | @os _ g hg=>obtain⟨c,c1,c2,c3,c4,c5⟩:=hA.cells hg;obtain⟨o1,o2⟩:=hM.own id _ g hm (.inl hg);refine .inr ⟨g,(φ id).cap,c,by rw[hA.1],o1,o2 rfl,fun j b' hj bU=>?_,c1,c2,c3,hA.mh.2,c4,c5⟩;obtain⟨cR,b2,oY,rfl⟩:=eK hj;exact cR (hM.inj j id b2 _ g oY hm (fC.1 bU) (.inl hg))
        ·cases h
       ·cases h
      ·cases h
     ·cases h
    ·cases h
  ·cases h
theorem DV{P:Program}{w:World}{dT ty elem:TypeId}{ts:List TypeId}{g YK dCap:Nat}{c:Array Value}{T:TypeId}{sz:Nat}{es new:List PV}{μ:Ro}{yx:Value}(hu:P.underlying dT=some (.slice elem))(kD:sz=aO P elem)(ei:0<sz)(hx:uV P μ w sz new yx)(hg:w.heap[g]?=some (.cells c T (0,0)))(hle:es.length*sz≤c.size)(hd:YK=es.length)(hC:Cells P μ sz es (c.toList.take (es.length*sz))):∃c':Array Value,(Builtin.copy_ (dT::ts).toArray ty #[.slice (some ⟨g,0,none⟩) YK dCap,yx]).run P w=.ok (goInt ((min new.length es.length:Nat):Int)) (w.setRow g c')∧c'.size=c.size∧Cells P μ sz (new.take es.length++es.drop new.length) (c'.toList.take ((new.take es.length++es.drop new.length).length*sz)):=by
 subst hd;obtain⟨i,hi,hs⟩:=ua (P:=P) (t:=elem) (by omega);have YM:(new.take es.length++es.drop new.length).length=es.length:=by simp;omega
 rw[YM];cases hx with
 |none hn=>subst hn;refine⟨c,?_,rfl,by simpa using hC⟩;have:=setRow_self w g c T (0,0) hg;rw[this];simp[Builtin.copy_,run_underlying hu,Builtin.lenOf,Builtin.firstCells,sizeOf,typeInfo,hi,storeCells]
 | @some a cx xs hX FO Ur PF=>
  have SV:Nat.min new.length es.length=min new.length es.length:=rfl;have hl:(xs.take (min new.length es.length*sz)).length=min new.length es.length*i.size:=by rw[hs,←kD,List.length_take,hX.len];exact Nat.min_eq_left (Nat.mul_le_mul_right _ (Nat.min_le_left _ _))
  have ada:min new.length es.length*sz≤es.length*sz:=Nat.mul_le_mul_right _ (Nat.min_le_right _ _);have hf:=run_firstCells_some (P:=P) w i.size (min new.length es.length) a new.length cx (xs.take (min new.length es.length*sz)) hl (fun j v hj=>FO j v (eh hj).2);have FI:(xs.take (min new.length es.length*sz)).length=min new.length es.length*sz:=by rw[hl,hs,kD]
  have sy:=run_storeCells_at P g 0 T (xs.take (min new.length es.length*sz)) 0 c w hg (by rw[FI];omega) (fun v hv=>by obtain⟨j,hj⟩:=List.getElem?_of_mem hv;exact hX.one j v (eh hj).2);simp only[Nat.zero_add,List.take_zero,List.nil_append,FI]at sy;refine⟨(xs.take (min new.length es.length*sz)++c.toList.drop (min new.length es.length*sz)).toArray,?_,?_,?_⟩
  ·have YN:Nat.min new.length es.length=min new.length es.length:=rfl;simp[Builtin.copy_,run_underlying hu,Builtin.lenOf,sizeOf,typeInfo,hi,YN,hf,sy]
  ·simp only[List.size_toArray,List.length_append,FI,List.length_drop,Array.length_toList];omega
  ·have e1:(xs.take (min new.length es.length*sz)++c.toList.drop (min new.length es.length*sz)).take (es.length*sz)=xs.take (min new.length es.length*sz)++(c.toList.take (es.length*sz)).drop (min new.length es.length*sz):=by rw[List.take_append,FI,List.drop_take,List.take_of_length_le (by rw[FI];exact ada)]
   simp only[];rw[e1];have h1:=(hX.take (min new.length es.length)).append (hC.drop (min new.length es.length));have e2:new.take (min new.length es.length)=new.take es.length:=by
    rcases Nat.le_total new.length es.length with hh|hh
    ·rw[Nat.min_eq_left hh,List.take_length,List.take_of_length_le hh]
    ·rw[Nat.min_eq_right hh]
   have e3:es.drop (min new.length es.length)=es.drop new.length:=by
    rcases Nat.le_total new.length es.length with hh|hh
    ·rw[Nat.min_eq_left hh]
    ·rw[Nat.min_eq_right hh,List.drop_length,List.drop_eq_nil_of_le hh]
   rw[e2,e3]at h1;exact h1
theorem CQ{R:Type}(m:Mem)(sz:Nat)(x:V)(k:List PV→bl→Option R):DJ m sz x k=(eF m sz x).bind fun p=>k p.1 p.2:=by
 cases x with
 |sD id i off=>
  simp only[DJ,eF];cases hm:m id with
  |none=>rfl
  |some b=>
   cases b with
   |nest s e es=>
    simp only;cases es[i]? with
    |none=>rfl
    |some e=>simp only[Option.bind_some];cases aT sz (cell e off)<;>rfl
   |_=>rfl
 |_=>
  simp only[DJ];generalize eF m sz _=o;cases o with
  |none=>rfl
  |some p=>rfl
theorem PH{t:TypeId}{d x:V}{m:Mem}{k:V→Mem→bl→Option R}{r:R}(h:Fu E t d x m k=some r):∃n id b ft,(∀m2:Mem,(∀x∈((true,id)::ft:bl),m2 x.2=m x.2)→∀(R':Type)(k':V→Mem→bl→Option R'),Fu E t d x m2 k'=k' (.pv (.int .i64 n)) (al m2 id b) ((true,id)::ft))∧k (.pv (.int .i64 n)) (al m id b) ((true,id)::ft)=some r∧∀(G:Nat→Option (List PV))(w0:bt)(μ:Ro)(φ:Nat→aC)(w:World)(ρ:Nat→Value)(f:Fr)(yd yx:Value)(ts:List TypeId)(ty:TypeId),au E.P G w0 μ φ m w→cj E.P μ φ m f ρ→af E.P μ φ d yd→af E.P μ φ x yx→∃w' φ',(Builtin.copy_ (t::ts).toArray ty #[yd,yx]).run E.P w=.ok (.int .i64 n) w'∧au E.P G w0 μ φ' (al m id b) w'∧cj E.P μ φ' (al m id b) f ρ∧(Lit.int .i64 n).wf=true:=by
 unfold Fu at h;split at h
 ·rename_i e hu;split at h
  ·rename_i id;split at h
   ·rename_i sz et es hm;split at h
    ·rename_i hc;rw[CQ]at h;obtain⟨⟨new,ft⟩,xz,h⟩:=Option.bind_eq_some_iff.1 h
     ·obtain⟨FQ,_,vk⟩:=lO xz;refine⟨_,id,_,ft,fun m2 cN R' k'=>?_,h,fun G w0 μ φ w ρ f yd yx ts ty hM hF hd hx=>?_⟩
      ·have h1:=cN (true,id) (by simp);simp only at h1;simp only[Fu,hu,h1,hm];rw[if_pos hc,CQ];simp only[FQ m2 (fun y hy=>cN y (by simp[hy])),Option.bind_some]
      ·have hA:aJ E.P μ φ w id sz et es:=hM.dG id _ hm;have hS:=vk _ _ _ _ _ _ _ hM hx;have hle:=hA.mh;have hlen:(new.take es.length++es.drop new.length).length=es.length:=by simp;omega
       have zL:(Lit.int .i64 ((min new.length es.length:Nat):Int)).wf=true:=Av (by omega);cases hd with
       |oX hg=>
        have a7:=hA.2.2.2.2.2.2;rw[hg]at a7;have h0:=a7.1;subst h0;refine⟨w,φ,?_,?_,?_,zL⟩
        ·obtain⟨i,hi,hs⟩:=ua (P:=E.P) (t:=e) (by have:=hA.2.2.2.1;omega);have HO:∀x:Addr,(loadCells x 0).run E.P w=.ok #[] w:=fun x=>by simpa using run_loadCells_list (P:=E.P) w x [] (by simp)
         cases hS with
         |none hn=>subst hn;simp[Builtin.copy_,run_underlying hu,Builtin.lenOf,Builtin.firstCells,sizeOf,typeInfo,hi,hA.1,goInt]
         |some xs hX FO Ur PF=>simp[Builtin.copy_,run_underlying hu,Builtin.lenOf,Builtin.firstCells,sizeOf,typeInfo,hi,hA.1,HO,goInt]
        ·have:al m id (.arr sz et (new.take ([]:List PV).length++([]:List PV).drop new.length))=m:=by
          funext j;by_cases e:j=id
          ·subst e;simp[hm]
          ·rw[an e]
         rw[this];exact hM
        ·exact hF.kK (fun _ _ h=>h) .set
       | @os _ g hg=>
        obtain⟨c,c1,c2,c3,c4,c5⟩:=hA.cells hg;obtain⟨c',r1,r2,r3⟩:=DV (ts:=ts) (ty:=ty) (dCap:=(φ id).cap) hu hc.1 hA.2.2.2.1 hS c1 c4 hA.1 c5;refine⟨_,φ,r1,hM.write hm rfl hg (jm.setRow (Nat.le_refl _)) setRow_size (fun k hk=>cJ hk) ?_ rfl (by simp[bI.names]),hF.kK (fun _ _ h=>h) .set,zL⟩;refine aJ.nY (g:=g) ?_ hA.2.2.1 hA.2.2.2.1 hle.2 (setRow_heap w g c c' et (0,0) c1) (by rw[r2];exact c2) (by rw[hlen];exact c3) r3;rw[hlen,←hA.1,←hA.2.1];cases hq:(φ id).toyD with
        |mk a b c d=>rw[hq]at hg;simp only at hg;simp[hg]
    ·cases h
   ·cases h
  ·cases h
 ·cases h
end
end Go.Ab
