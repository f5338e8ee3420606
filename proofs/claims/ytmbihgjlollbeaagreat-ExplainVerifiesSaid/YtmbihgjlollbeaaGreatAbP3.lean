import Derived.Test.YtmbihgjlollbeaaGreatAbP2
import Derived.Great.BuildSlice
import Derived.Laws.AppendOwn
import Derived.Laws.MakeOwn
set_option linter.all false
namespace Go.Ab
open Go.RowKit (Below)
structure cp(P:Program)(μ:Ro)(φ:Nat→aP)(m:Mem)(f:Fr)(ρ:Nat→Value):Prop where
 fr:∀t,au P μ φ (f t) (ρ t)
 live:∀t id,(f t).has id=true→(m id).isSome=true
section
variable {P:Program} {G:Nat→Option (List PV)} {w0:bO} {μ μ':Ro} {φ φ':Nat→aP} {m m':Mem} {w w':World} {f:Fr} {ρ:Nat→Value}
theorem cp.mono(h:cp P μ φ m f ρ)(hμ:∀b o,μ b=some o→μ' b=some o)(hφ:∀id,(m id).isSome=true→φ' id=φ id∧(m' id).isSome=true):cp P μ' φ' m' f ρ:=⟨fun t=>(h.fr t).mono hμ fun id hid=>(hφ id (h.live t id hid)).1,fun t id hid=>(hφ id (h.live t id hid)).2⟩
theorem gm{id j:Nat}{b:bX}(h:bF (bS id m) id j=some b):j≠id∧∃b',m j=some b'∧b=il id b':=by
 by_cases e:j=id
 ·subst e;simp at h
 simp_all[gZ,K0]
theorem zh{id j:Nat}(h:j≠id)(hm:(m j).isSome=true):(bF (bS id m) id j).isSome=true:=by grind [gZ,bS]
theorem cp.forget(h:cp P μ φ m f ρ)(id:Nat):cp P μ φ (bF (bS id m) id) (fD id f) ρ:=by refine⟨fun t=>(h.fr t).kill id,fun t j hj=>?_⟩;obtain⟨h1,h2⟩:=CL hj;exact zh h2 (h.live t j h1)
theorem aL.put(hM:aL P G w0 μ φ m w){site:Nat}{b:bX}{ph:aP}(hs:m site=none)(T6:nD w0.heap.size w w')(B4:∀k o,μ k=some o→w'.heap[k]?=some o)(hold:∀id b' g,m id=some b'→b'.owns (φ id) g→w'.heap[g]?=w.heap[g]?)(H7:∀g,b.owns ph g→w0.heap.size≤g∧μ g=none∧∀id b',m id=some b'→¬b'.owns (φ id) g)(Np:b.apart ph)(hB:iK P μ (fun i=>if i=site then ph else φ i) w' site b)(hn:∀id,b.names id=true→(m id).isSome=true)(hlp:∀st,b=.loop st→∃g rc,ph.g=some g∧w0.rc site=some (g,rc)∧w'.heap[g]?=some (.loop (st.obj rc))):aL P G w0 μ (fun i=>if i=site then ph else φ i) (aD m site b) w':=by
 refine⟨hM.below.trans T6,B4,hM.aW,fun id b' hid=>?_,fun id b' g hid hg=>?_,fun id1 id2 b1 b2 g h1 h2 g1 g2=>?_,fun id b' hid=>?_,fun j cs id hj hh=>?_,hM.base,hM.dY,fun id st hid=>?_⟩
 rotate_right
 ·by_cases h:id=site
  ·simp_all
  ·rw[aF h]at hid;obtain⟨g,rc,h1,h2,h3⟩:=hM.Jj id st hid;exact⟨g,rc,by simp_all,h2,by rw[hold id _ g hid (.inl h1)];omega⟩
 ·by_cases h:id=site
  ·simp_all
  ·rw[aF h]at hid;have hR:=hM.dX id b' hid;refine hR.cF (fun j hj=>?_) (by simp[h]) (fun _ _ h=>h) (fun g hg=>hold id b' g hid hg);have:=hM.T3 hid hj;grind
 ·by_cases h:id=site
  ·simp_all
  ·rw[aF h]at hid;simp only[h,IT]at hg;exact hM.own id b' g hid hg
 ·by_cases e1:id1=site
  ·by_cases e2:id2=site
   ·omega
   simp_all[cg,cO,BY,aF,IT]
  ·by_cases e2:id2=site
   ·simp_all[cg,cO,BY,aF,IT]
   ·rw[aF e1]at h1;rw[aF e2]at h2;simp only[e1,IT]at g1;simp only[e2,IT]at g2;exact hM.inj id1 id2 b1 b2 g h1 h2 g1 g2
 ·by_cases h:id=site
  ·simp_all
  ·rw[aF h]at hid;simp only[h,IT];exact hM.apart id b' hid
 ·by_cases e:id=site
  ·subst e;simp
  ·rw[aF e];by_cases h:j=site
   ·subst h;rw[cg]at hj;simp only[cO]at hj;subst hj;exact hn id hh
   ·rw[aF h]at hj;exact hM.gz j cs id hj hh
end
section
variable {R:Type} {E:Env}
structure nA(P:Program)(w0:bO)(μ:Ro)(φ:Nat→aP)(m:Mem)(w w':World)(site:Nat)(b:bX)(ph:aP):Prop where
 below:nD w0.heap.size w w'
 ro:∀k o,μ k=some o→w'.heap[k]?=some o
 py:∀id b' g,m id=some b'→b'.owns (φ id) g→w'.heap[g]?=w.heap[g]?
 own:∀g,ph.g=some g→w0.heap.size≤g∧μ g=none∧∀id b',m id=some b'→¬b'.owns (φ id) g
 rep:∀φ',φ' site=ph→(∀id,b.names id=true→φ' id=φ id)→iK P μ φ' w' site b
 names:∀id,b.names id=true→(m id).isSome=true
 lp:∀st,b=.loop st→∃g rc,ph.g=some g∧w0.rc site=some (g,rc)∧w'.heap[g]?=some (.loop (st.obj rc)):=by intro st h;cases h
theorem eM{draw:Bool}{site:Nat}{b:bX}{f:Fr}{m:Mem}{k:Fr→Mem→bN→Option R}{r:R}(h:fresh draw site b f m k=some r)(TJ:∀i off,b.rowAt i off=true→False:=by intro i off h;simp[bX.rowAt]at h):∃f' m',(∀(R':Type)(k':Fr→Mem→bN→Option R'),fresh draw site b f m k'=k' f' m' [(true,site)])∧k f' m' [(true,site)]=some r∧m' site=some b∧(draw=true→m site=none∧f'=f∧m'=aD m site b)∧(∀(P:Program)(G:Nat→Option (List PV))(w0:bO)(μ:Ro)(φ:Nat→aP)(w w':World)(ρ:Nat→Value)(ph:aP),aL P G w0 μ φ m w→cp P μ φ m f ρ→nA P w0 μ φ m w w' site b ph→∃φ',φ' site=ph∧aL P G w0 μ φ' m' w'∧cp P μ φ' m' f' ρ):=by
 unfold fresh at h;cases hs:m site with
 |none=>
  simp only[hs]at h;refine⟨f,aD m site b,fun R' k'=>by simp only[fresh,hs],h,by simp,fun _=>⟨rfl,rfl,rfl⟩,fun P G w0 μ φ w w' ρ ph hM hF hp=>?_⟩;have Rk:∀id,(m id).isSome=true→id≠site:=fun id hid e=>by simp_all
  refine⟨fun i=>if i=site then ph else φ i,by simp,hM.put hs hp.below hp.ro hp.py (fun g hg=>hp.own g (sE TJ hg)) (wm TJ) (hp.rep _ (by simp) fun id hid=>by simp[Rk id (hp.names id hid)]) hp.names hp.lp,?_⟩;exact hF.mono (fun _ _ h=>h) fun id hid=>⟨by simp[Rk id hid],by grind [aF,id]⟩
 |some b0=>
  simp only[hs]at h;split at h
  ·cases h
  ·rename_i hc;simp only[asz,avy,atj]at hc;refine⟨fD site f,aD (bS site m) site b,fun R' k'=>by simp only[fresh,hs];simp[hc],h,by simp,fun hd=>(by simp_all),fun P G w0 μ φ w w' ρ ph hM hF hp=>?_⟩;have Bg:=hM.forget site;have J1:=hF.forget site;have ZW:bF (bS site m) site site=none:=by simp
   have Rk:∀id,(bF (bS site m) site id).isSome=true→id≠site:=fun id hid e=>by subst e;simp at hid
   have hnm:∀id,b.names id=true→id≠site:=fun id hid e=>by simp_all
   refine⟨fun i=>if i=site then ph else φ i,by simp,?_,?_⟩
   ·rw[←E7];refine Bg.put ZW hp.below hp.ro (fun id b' g hid hg=>?_) (fun g hg=>?_) (wm TJ) (hp.rep _ (by simp) fun id hid=>by simp[hnm id hid]) (fun id hid=>zh (hnm id hid) (hp.names id hid)) hp.lp
    ·obtain⟨_,b2,yq,rfl⟩:=gm hid;exact hp.py id b2 g yq (hU.1 hg)
    ·obtain⟨h1,h2,h3⟩:=hp.own g (sE TJ hg);refine⟨h1,h2,fun id b' hid ho=>?_⟩;obtain⟨_,b2,yq,rfl⟩:=gm hid;exact h3 id b2 yq (hU.1 ho)
   ·rw[←E7];exact J1.mono (fun _ _ h=>h) fun id hid=>⟨by simp[Rk id hid],by grind [aF,id]⟩
theorem nA.alloc{P:Program}{G:Nat→Option (List PV)}{w0:bO}{μ:Ro}{φ:Nat→aP}{m:Mem}{w:World}{site:Nat}{b:bX}{ph:aP}{o:Obj}(hM:aL P G w0 μ φ m w)(hph:ph.g=some w.heap.size)(rep:∀φ',φ' site=ph→(∀id,b.names id=true→φ' id=φ id)→iK P μ φ' (w.alloc o) site b)(names:∀id,b.names id=true→(m id).isSome=true)(lp:∀st,b=.loop st→∃g rc,ph.g=some g∧w0.rc site=some (g,rc)∧(w.alloc o).heap[g]?=some (.loop (st.obj rc)):=by intro st h;cases h):nA P w0 μ φ m w (w.alloc o) site b ph:=by
 have rW:w0.heap.size≤w.heap.size:=hM.below.size;refine⟨(nD.refl _ w).alloc rW o,fun k o' hk=>?_,fun id b' g hid hg=>nD.heap_alloc w o g ((hM.dX id b' hid).KZ hg),fun g hg=>?_,rep,names,lp⟩
 ·have:=hM.ro k o' hk;grind [nD.heap_alloc]
 ·rw[hph]at hg;simp only[cO]at hg;subst hg;refine⟨rW,?_,fun id b' hid hg=>?_⟩
  ·cases hq:μ w.heap.size with
   |none=>rfl
   |some o'=>have:=hM.ro _ _ hq;simp at this
  ·have:=(hM.dX id b' hid).KZ hg;omega
theorem gq(w:World)(o:Obj):(w.alloc o).heap[w.heap.size]?=some o:=heap_alloc_new w o
variable{t:TypeId}
theorem fb{cs:List V}(h:dD E t=some cs):∃i z,E.P.info? t=some i∧i.zero=some z∧i.size=bj E.P t∧cs.length=bj E.P t∧z.cells.size=bj E.P t∧(∀id,cA id cs=false)∧(∀(μ:Ro)(φ:Nat→aP)(i:Nat)u y,cs[i]?=some u→z.cells[i]?=some y→au E.P μ φ u y)∧(∀(i:Nat)(y:Value),z.cells[i]?=some y→y.oneCell'=true):=by
 unfold dD zeroV at h;cases hi:E.P.info? t with
 |none=>simp[hi]at h
 |some i=>
  cases hz:i.zero with
  |none=>simp[hi,hz]at h
  |some z=>
   simp only[hi,hz,asq,No]at h;obtain⟨h1,h2,h3⟩:=toCells_ok h;obtain⟨h4,_,h6⟩:=h3 E.P (fun _=>none) (fun _=>default) z (Ar z);refine⟨i,z,rfl,hz,by simp[bj,hi],h1,h4,fun id=>?_,fun μ φ i u y hu hy=>(h3 E.P μ φ z (Ar z)).2.1 i u y hu hy,h6⟩;cases hh:cA id cs with
   |false=>rfl
   |true=>grind [id,NV]
variable{P:Program}{w:World}
theorem sF{i:TypeInfo}{z:Value}(hi:P.info? t=some i)(hz:i.zero=some z):(zeroValue t).run P w=.ok z w:=by simp[zeroValue,typeInfo,hi,hz]
theorem Ic{i:TypeInfo}{z:Value}(hi:P.info? t=some i)(hz:i.zero=some z):(Instr.alloc t true (.tuple #[])).run P w=.ok (.pointer (some ⟨w.heap.size,0,none⟩)) (w.alloc (.cells z.cells t)):=by simp[Instr.alloc,sF hi hz,newVar,newRow]
theorem Wp{v:Value}:(Instr.box t v).run P w=.ok (.pointer (some ⟨w.heap.size,0,none⟩)) (w.alloc (.cells v.cells t)):=by rfl
variable{c:Array Value}
theorem nA.box{G:Nat→Option (List PV)}{w0:bO}{μ:Ro}{φ:Nat→aP}{m:Mem}{site:Nat}{cs:List V}{T:TypeId}(hM:aL P G w0 μ φ m w)(hl:c.size=cs.length)(hv:∀(i:Nat)u y,cs[i]?=some u→c[i]?=some y→au P μ φ u y)(h1:∀(i:Nat)(y:Value),c[i]?=some y→y.oneCell'=true)(hn:∀id,cA id cs=true→(m id).isSome=true):nA P w0 μ φ m w (w.alloc (.cells c T)) site (.box cs) (JY (some w.heap.size) 0 cs.length 0):=by refine nA.alloc hM (by rfl) (fun φ' hφ hn'=>⟨w.heap.size,c,T,by rw[hφ],gq w _,hl,fun i u y hu hy=>?_,h1,by rw[hφ]⟩) hn;exact(hv i u y hu hy).mono (fun _ _ h=>h) fun id hid=>hn' id (bZ (aqY hu) hid)
theorem mQ(h:bj P t≠0):(P.info? t).map (·.size)=some (bj P t):=by simp_all[Es]
theorem dE{T:Type}{cs new:List T}{off i:Nat}{x:T}(hb:off+new.length≤cs.length)(h:(bY cs off new)[i]?=some x):(off≤i∧i<off+new.length∧new[i-off]?=some x)∨((i<off∨off+new.length≤i)∧cs[i]?=some x):=by rw[eu]at h;rw[asD,asH]at h;grind
theorem cL{T:Type}{cs new:List T}{off:Nat}(hb:off+new.length≤cs.length):(bY cs off new).length=cs.length:=by simp[eu];omega
variable{g:Nat}
theorem hZ{v:Value}{o:Nat}{T:TypeId}(hz:v.cells.size=bj P t)(hi:(P.info? t).map (·.size)=some (bj P t))(hg:w.heap[g]?=some (.cells c T (0,0)))(hb:o+v.cells.size≤c.size)(h1:∀(i:Nat)(y:Value),v.cells[i]?=some y→y.oneCell'=true):(Instr.storeAt t (.pointer (some ⟨g,o,none⟩)) v).run P w=.ok () (w.setRow g (bY c.toList o v.cells.toList).toArray):=by
 have uQ:=run_storeCells_at P g o T v.cells.toList 0 c w hg (by omega) (fun x hx=>by grind [List.getElem?_of_mem]);have rW:(sizeOf t).run P w=.ok (bj P t) w:=by
  cases hq:P.info? t with
  |none=>simp[hq]at hi
  |some i=>simp[sizeOf,typeInfo,hq,bj]
 simp only[Instr.storeAt,Instr.sureAddr,storeVar,Sem.run_bind,Sem.run_pure,Result.andThen_ok,rW,hz,avA,not_true_eq_false,IT,uQ,atv];rw[eu];try rfl
variable{xs:Array Value}
theorem cr{k:Nat}(h:k≠g):(w.setRow g xs).heap[k]?=w.heap[k]?:=by simp_all[World.setRow,atH,Ne.symm]
theorem setRow_size:(w.setRow g xs).heap.size=w.heap.size:=by simp[World.setRow]
theorem nD.setRow{B:Nat}(h:B≤g):nD B w (w.setRow g xs):=⟨⟨rfl,rfl,rfl,avu setRow_size.symm,fun k hk=>cr (by omega)⟩,fun _=>ast _⟩
end
section
variable {P:Program} {G:Nat→Option (List PV)} {w0:bO} {μ:Ro} {φ:Nat→aP} {m m':Mem} {w:World}
def mh(m m':Mem):Prop:=∀id,(m id).isSome=true→(m' id).isSome=true
theorem mh.refl(m:Mem):mh m m:=fun _ h=>h
theorem mh.trans{a b c:Mem}(h:mh a b)(k:mh b c):mh a c:=fun id hid=>k id (h id hid)
variable{id:Nat}
theorem mh.set{b:bX}:mh m (aD m id b):=fun j hj=>by
 by_cases e:j=id
 ·subst e;simp
 ·rw[aF e];omega
theorem cp.pP{f:Fr}{ρ:Nat→Value}{μ':Ro}(h:cp P μ φ m f ρ)(hμ:∀b o,μ b=some o→μ' b=some o)(hl:mh m m'):cp P μ' φ m' f ρ:=h.mono hμ fun id hid=>⟨rfl,hl id hid⟩
variable{v:V}{p:PV}
theorem Wq(h:KB m v=some (p,m')):mh m m'∧∀(P:Program)(G:Nat→Option (List PV))(w0:bO)(μ:Ro)(φ:Nat→aP)(w:World)(x:Value),aL P G w0 μ φ m w→au P μ φ v x→∃μ',(∀b o,μ b=some o→μ' b=some o)∧aL P G w0 μ' φ m' w∧av P μ' p x:=by
 unfold KB at h;split at h
 ·simp only[cO,amn]at h;obtain⟨rfl,rfl⟩:=h;exact⟨.refl _,fun P G w0 μ φ w x hM hx=>⟨μ,fun _ _ h=>h,hM,by cases hx with|pv hx=>omega⟩⟩
 ·simp only[cO,amn]at h;obtain⟨rfl,rfl⟩:=h;exact⟨.refl _,fun P G w0 μ φ w x hM hx=>⟨μ,fun _ _ h=>h,hM,by cases hx;exact .ny⟩⟩
 ·rename_i id;split at h
  ·rename_i s et es hm;simp only[cO,amn]at h;obtain⟨rfl,rfl⟩:=h;refine⟨.set,fun P G w0 μ φ w x hM hx=>⟨_,oH hM (φ id).g,hM.freeze hm,?_⟩⟩;refine(hM.arr (.inl hm)).full hM hx (oH hM _) fun g hg=>?_;simp[uR,hg]
  ·rename_i s et es hm;simp only[cO,amn]at h;obtain⟨rfl,rfl⟩:=h;refine⟨.refl _,fun P G w0 μ φ w x hM hx=>⟨μ,fun _ _ h=>h,hM,?_⟩⟩;refine(hM.arr (.inr hm)).full hM hx (fun _ _ h=>h) fun g hg=>?_;obtain⟨o,ho⟩:=asA.1 ((hM.dX id _ hm).2 g hg);rw[ho,hM.ro _ _ ho]
  ·rename_i s et es hm;simp only[cO,amn]at h;obtain⟨rfl,rfl⟩:=h;refine⟨.set,fun P G w0 μ φ w x hM hx=>⟨_,wo hM _,hM.Wo hm,?_⟩⟩;have hM':=hM.Wo hm;have hF:aX P _ φ w id s et (es.map PV.strip):=(hM'.dX id _ (cg _ _ _)).1;refine hF.N1 (hx.E3 (wo hM _)) (fun _ _ h=>h) fun g hg=>?_;unfold Aw;rw[IN (show(bX.nest s et es).owns (φ id) g from .inl hg)]
  ·cases h
 ·cases h
theorem N7(h:KB dq v=some (p,m')):∀(P:Program)(μ:Ro)(φ:Nat→aP)(x:Value),au P μ φ v x→av P μ p x:=by
 unfold KB at h;split at h
 ·simp only[cO,amn]at h;obtain⟨rfl,rfl⟩:=h;exact fun P μ φ x hx=>by cases hx with|pv hx=>omega
 ·simp only[cO,amn]at h;obtain⟨rfl,rfl⟩:=h;exact fun P μ φ x hx=>by cases hx;exact .ny
 ·simp[dq]at h
 ·cases h
theorem wq(h:KB dq v=some (p,m')):m'=dq:=by unfold KB at h;grind [Option.some.injEq,Prod.mk.injEq,dq]
theorem K2:∀{cs:List V}{m m':Mem}{ps:List PV},pj m cs=some (ps,m')→mh m m'∧ps.length=cs.length∧∀(P:Program)(G:Nat→Option (List PV))(w0:bO)(μ:Ro)(φ:Nat→aP)(w:World)(X:Nat→Value),aL P G w0 μ φ m w→(∀(i:Nat)u,cs[i]?=some u→au P μ φ u (X i))→∃μ',(∀b o,μ b=some o→μ' b=some o)∧aL P G w0 μ' φ m' w∧∀(i:Nat)p,ps[i]?=some p→av P μ' p (X i)
 |[],m,m',ps,h=>by simp only[pj,cO,amn]at h;obtain⟨rfl,rfl⟩:=h;exact⟨.refl _,rfl,fun P G w0 μ φ w X hM _=>⟨μ,fun _ _ h=>h,hM,by simp⟩⟩
 |c::r,m,m',ps,h=>by
  simp only[pj]at h;split at h
  ·rename_i p m1 h1;split at h
   ·rename_i ps1 m2 h2;simp only[cO,amn]at h;obtain⟨rfl,rfl⟩:=h;obtain⟨a1,a2⟩:=Wq h1;obtain⟨b1,b2,b3⟩:=K2 h2;refine⟨a1.trans b1,by simp[b2],fun P G w0 μ φ w X hM hx=>?_⟩;obtain⟨μ1,c1,c2,c3⟩:=a2 P G w0 μ φ w (X 0) hM (hx 0 c (by simp));obtain⟨μ2,d1,d2,d3⟩:=b3 P G w0 μ1 φ w (fun i=>X (i+1)) c2 (fun i u hu=>(hx (i+1) u (by simpa using hu)).E3 c1);refine⟨μ2,fun b o h=>d1 b o (c1 b o h),d2,fun i q hq=>?_⟩;cases i with
    |zero=>simp at hq;subst hq;exact c3.mono d1
    |succ i=>simp_all
   ·cases h
  ·cases h
theorem FJ:∀{cs:List V}{m':Mem}{ps:List PV},pj dq cs=some (ps,m')→ps.length=cs.length∧∀(P:Program)(μ:Ro)(φ:Nat→aP)(X:Nat→Value),(∀(i:Nat)u,cs[i]?=some u→au P μ φ u (X i))→∀(i:Nat)p,ps[i]?=some p→av P μ p (X i)
 |[],m',ps,h=>by simp only[pj,cO,amn]at h;simp_all
 |c::r,m',ps,h=>by
  simp only[pj]at h;split at h
  ·rename_i p m1 h1;split at h
   ·rename_i ps1 m2 h2;simp only[cO,amn]at h;obtain⟨rfl,rfl⟩:=h;have:=wq h1;subst this;obtain⟨b2,b3⟩:=FJ h2;refine⟨by simp[b2],fun P μ φ X hx i q hq=>?_⟩;cases i with
    |zero=>simp at hq;subst hq;exact N7 h1 P μ φ _ (hx 0 c (by simp))
    |succ i=>exact b3 P μ φ (fun i=>X (i+1)) (fun i u hu=>hx (i+1) u (by simpa using hu)) i q (by simpa using hq)
   ·cases h
  ·cases h
structure zi(P:Program)(μ:Ro)(n:Nat)(p:PV)(x:Value):Prop where
 len:p.cells.length=n
 size:x.cells.size=n
 rep:∀(j:Nat)q y,p.cells[j]?=some q→x.cells[j]?=some y→av P μ q y
 one:∀(j:Nat)y,x.cells[j]?=some y→y.oneCell'=true
variable{n:Nat}{agg:Bool}
theorem E8{P:Program}{μ:Ro}{ps:List PV}{x:Value}(hp:(if agg then some (.agg ps)else match ps with|[p]=>some p|_=>none)=some p)(hl:ps.length=n)(hs:x.cells.size=n)(hr:∀(j:Nat)q y,ps[j]?=some q→x.cells[j]?=some y→av P μ q y)(h1:∀(j:Nat)y,x.cells[j]?=some y→y.oneCell'=true):zi P μ n p x:=by
 have hc:p.cells=ps:=by
  cases agg with
  |true=>simp at hp;subst hp;rfl
  |false=>
   simp only[cQ,IT]at hp;split at hp
   ·rename_i q;simp only[cO]at hp;subst hp;have cd:0<x.cells.size:=by simp at hl;omega
    have hr0:=hr 0 q _ (by simp) (aiX cd);have h10:=h1 0 _ (aiX cd);generalize x.cells[0]=y at hr0 h10;cases q<;>first|rfl|(cases hr0;simp[Value.oneCell']at h10)
   ·cases hp
 exact⟨by rw[hc];omega,hs,by rw[hc];omega,h1⟩
theorem K3{m m':Mem}(h:mM m n agg v=some (p,m')):mh m m'∧∀(P:Program)(G:Nat→Option (List PV))(w0:bO)(μ:Ro)(φ:Nat→aP)(w:World)(x:Value),aL P G w0 μ φ m w→au P μ φ v x→∃μ',(∀b o,μ b=some o→μ' b=some o)∧aL P G w0 μ' φ m' w∧zi P μ' n p x:=by
 unfold mM at h;split at h
 ·rename_i cs hc;obtain⟨c1,c2,c3⟩:=toCells_ok hc;split at h
  ·rename_i ps m1 hf;obtain⟨f1,f2,f3⟩:=K2 hf;have hp:(if agg then some (.agg ps)else match ps with|[p]=>some p|_=>none)=some p∧m1=m':=by grind
   obtain⟨hp,rfl⟩:=hp;refine⟨f1,fun P G w0 μ φ w x hM hx=>?_⟩;obtain⟨d1,d2,d3⟩:=c3 P μ φ x hx;have hX:∀(i:Nat),i<cs.length→x.cells[i]?=some (x.cells.getD i undef):=fun i hi=>by simp_all
   obtain⟨μ',e1,e2,e3⟩:=f3 P G w0 μ φ w (fun i=>x.cells.getD i undef) hM fun i u hu=>d2 i u _ hu (hX i (OF.1 hu).1);refine⟨μ',e1,e2,E8 hp (by omega) d1 (fun j q y hq hy=>?_) d3⟩;grind
  ·cases h
 ·cases h
theorem GW{m':Mem}(h:mM dq n agg v=some (p,m')):∀(P:Program)(μ:Ro)(φ:Nat→aP)(x:Value),au P μ φ v x→zi P μ n p x:=by
 unfold mM at h;split at h
 ·rename_i cs hc;obtain⟨c1,c2,c3⟩:=toCells_ok hc;split at h
  ·rename_i ps m1 hf;obtain⟨f2,f3⟩:=FJ hf;have hp:(if agg then some (.agg ps)else match ps with|[p]=>some p|_=>none)=some p:=by grind
   refine fun P μ φ x hx=>?_;obtain⟨d1,d2,d3⟩:=c3 P μ φ x hx;have hX:∀(i:Nat),i<cs.length→x.cells[i]?=some (x.cells.getD i undef):=fun i hi=>by simp_all
   have e3:=f3 P μ φ (fun i=>x.cells.getD i undef) fun i u hu=>d2 i u _ hu (hX i (OF.1 hu).1);refine E8 hp (by omega) d1 (fun j q y hq hy=>?_) d3;grind
  ·cases h
 ·cases h
theorem Rl{draw:Bool}{m m':Mem}(h:CE draw m n agg v=some (p,m')):mh m m'∧(draw=true→m'=m∧∀m2:Mem,CE true m2 n agg v=some (p,m2))∧∀(P:Program)(G:Nat→Option (List PV))(w0:bO)(μ:Ro)(φ:Nat→aP)(w:World)(x:Value),aL P G w0 μ φ m w→au P μ φ v x→∃μ',(∀b o,μ b=some o→μ' b=some o)∧aL P G w0 μ' φ m' w∧zi P μ' n p x:=by
 unfold CE at h;split at h
 ·rename_i hd;split at h
  ·rename_i q m1 hf;simp only[cO,amn]at h;obtain⟨rfl,rfl⟩:=h;exact⟨.refl _,fun _=>⟨rfl,fun m2=>by simp[CE,hf]⟩,fun P G w0 μ φ w x hM hx=>⟨μ,fun _ _ h=>h,hM,GW hf P μ φ x hx⟩⟩
  ·cases h
 grind [K3,absurd]
theorem aX.set{P:Program}{μ:Ro}{φ:Nat→aP}{w:World}{id sz:Nat}{et:TypeId}{es:List PV}(hA:aX P μ φ w id sz et es){g:Nat}(hg:(φ id).g=some g){i off n:Nat}{e p q:PV}{x:Value}(he:es[i]?=some e)(hE:zi P μ n p x)(hb:off+n≤sz)(hq:q.cells=bY (aQ sz e) off p.cells):∃c T,w.heap[g]?=some (.cells c T (0,0))∧i*sz+off+x.cells.size≤c.size∧aX P μ φ (w.setRow g (bY c.toList (i*sz+off) x.cells.toList).toArray) id sz et (es.set i q):=by
 obtain⟨a1,a2,a3,a4,a5,a6,a7⟩:=hA;rw[hg]at a7;obtain⟨c,T,c1,c2,c3,c4,c5⟩:=a7;have hi:i<es.length:=(OF.1 he).1;have TK:i*sz+off+n≤c.size:=by have:(i+1)*sz≤(φ id).cap*sz:=asj _ (by omega);grind
 have Rm:x.cells.toList.length=n:=by simpa using hE.size
 have N2:(aQ sz e).length=sz:=bt _ _;have hql:q.cells.length=sz:=by rw[hq,cL (by rw[N2,hE.len];omega),N2]
 have Ey:(bY c.toList (i*sz+off) x.cells.toList).length=c.size:=by simp_all[cL]
 have rX:∀(i':Nat)e',(es.set i q)[i']?=some e'→(i'=i∧e'=q)∨(i'≠i∧es[i']?=some e'):=by grind
 refine⟨c,T,c1,by rw[hE.size];omega,?_⟩;refine⟨by simp[a1],a2,a3,a4,fun i' e' h'=>?_,a6,?_⟩
 ·grind
 ·rw[hg];refine⟨_,T,setRow_heap w g c _ T (0,0) c1,by simp[Ey,c2],by simpa using c3,fun i' e' j p' x' h' hj hx=>?_,fun j x' hj hx=>?_⟩
  ·rw[asM]at hx;rcases dE (by simp[hE.size];omega) hx with⟨b1,b2,b3⟩|⟨b1,b2⟩
   ·rw[Rm]at b2;have hii:i'=i∧e'=q:=by
     rcases rX i' e' h' with h|⟨cV,h'⟩
     ·omega
     ·exfalso;have zj:=(OF.1 hj).1;rw[a5 i' e' h']at zj;rcases Nat.lt_or_gt_of_ne cV with cd|hgt
      ·have:(i'+1)*sz≤i*sz:=asj _ cd;grind
      ·have:(i+1)*sz≤i'*sz:=asj _ hgt;grind
    obtain⟨rfl,rfl⟩:=hii;rw[hq]at hj;rcases dE (by rw[N2,hE.len];omega) hj with⟨d1,d2,d3⟩|⟨d1,d2⟩
    ·exact hE.rep _ _ _ d3 (by rw[←asX,←b3];congr 1;omega)
    ·exfalso;rw[hE.len]at d1;omega
   ·rw[Rm]at b1;have b2:c[i'*sz+j]?=some x':=by simpa using b2
    rcases rX i' e' h' with⟨rfl,rfl⟩|⟨cV,h'⟩
    ·rw[hq]at hj;rcases dE (by rw[N2,hE.len];omega) hj with⟨d1,d2,d3⟩|⟨d1,d2⟩
     ·exfalso;rw[hE.len]at d2;omega
     grind [fa]
    grind
  ·rw[asM]at hx;rw[atW]at hj;rcases dE (by simp[hE.size];omega) hx with⟨b1,b2,b3⟩|⟨b1,b2⟩
   ·exact hE.one _ x' (by simpa using b3)
   grind
variable{off:Nat}
theorem Pw{s0:Nat}{e:PV}(he:e.cells.length=s0)(ho:off<s0)(hp:∀cs,p≠.agg cs):(setRow s0 e off p).cells=e.cells.set off p:=by
 have h1:p.cells=[p]:=by cases p<;>first|rfl|exact absurd rfl (hp _)
 unfold setRow;split
 ·rename_i hs;subst hs;have:off=0:=by omega
  subst this;match hc:e.cells,he with
  |[c],_=>simp[h1]
 simp_all[PV.cells,fa]
theorem K4{s:Nat}{e:PV}(h1:p.cells.length=n)(h2:e.cells.length=s):(setCells s e off n p).cells=bY (aQ s e) off p.cells:=by
 unfold setCells;split
 ·rename_i h;obtain⟨rfl,rfl⟩:=h;simp_all[eu,bt]
 rfl
theorem bu.change{P:Program}{μ μ':Ro}{φ φ':Nat→aP}{w w':World}{sz:Nat}{et:TypeId}{es es':List PV}(h:bu P μ φ w id sz et es)(hlen:es'.length=es.length)(A2:∀(i:Nat)e,es'[i]?=some e→e.cells.length=sz)(hφ:(φ' id).toJk=(φ id).toJk)(hw:∀g,(φ id).g=some g→w'.heap[g]?=w.heap[g]?)(hc:∀(i:Nat)e'(j:Nat)p' g c T x,es'[i]?=some e'→e'.cells[j]?=some p'→(φ id).g=some g→w.heap[g]?=some (.cells c T (0,0))→c[i*sz+j]?=some x→(∀e p,es[i]?=some e→e.cells[j]?=some p→eH P μ ((φ id).row i j) w p x)→eH P μ' ((φ' id).row i j) w' p' x):bu P μ' φ' w' id sz et es':=by
 obtain⟨a1,a2,a3,a4,a5,a6,a7⟩:=h;unfold bu;rw[hφ];refine⟨by omega,a2,a3,a4,A2,a6,?_⟩;cases hg:(φ id).g with
 |none=>simp_all
 |some g=>grind
theorem fE{T:Type}{l:List T}{i i':Nat}{q e':T}(h:(l.set i q)[i']?=some e'):(i'=i∧e'=q)∨(i'≠i∧l[i']?=some e'):=by grind
theorem bu.set{P:Program}{μ:Ro}{φ:Nat→aP}{w:World}{sz:Nat}{et:TypeId}{es:List PV}(hA:bu P μ φ w id sz et es)(Np:(bX.nest sz et es).apart (φ id)){g:Nat}(hg:(φ id).g=some g){i:Nat}{e q:PV}{x:Value}(he:es[i]?=some e)(hE:zi P μ n p x)(hb:off+n≤sz)(hq:q.cells=bY (aQ sz e) off p.cells):∃c T,w.heap[g]?=some (.cells c T (0,0))∧i*sz+off+x.cells.size≤c.size∧bu P μ φ (w.setRow g (bY c.toList (i*sz+off) x.cells.toList).toArray) id sz et (es.set i q)∧∀i' Ba,(bX.nest sz et (es.set i q)).rowAt i' Ba=true→(bX.nest sz et es).rowAt i' Ba=true:=by
 have FG:=hA;obtain⟨a1,a2,a3,a4,a5,a6,a7⟩:=hA;rw[hg]at a7;obtain⟨c,T,c1,c2,c3,c4,c5⟩:=a7;have hi:i<es.length:=(OF.1 he).1;have TK:i*sz+off+n≤c.size:=by have:(i+1)*sz≤(φ id).cap*sz:=asj _ (by omega);grind
 have Rm:x.cells.toList.length=n:=by simpa using hE.size
 have N2:(aQ sz e).length=sz:=bt _ _;have hql:q.cells.length=sz:=by rw[hq,cL (by rw[N2,hE.len];omega),N2]
 have Ey:(bY c.toList (i*sz+off) x.cells.toList).length=c.size:=by simp_all[cL]
 have cV:∀i' j' g',(bX.nest sz et es).rowAt i' j'=true→((φ id).row i' j').g=some g'→g'≠g:=fun i' j' g' hr du e=>(Np i' j' g' hr du).1 (by rw[e];omega);have uQ:∀{i' j':Nat}{e' p':PV}{x':Value}{l:List Value},es[i']?=some e'→e'.cells[j']?=some p'→eH P μ ((φ id).row i' j') w p' x'→eH P μ ((φ id).row i' j') (w.setRow g l.toArray) p' x':=fun h1 h2 h3=>h3.cF (fun _ _ h=>h) fun hr g' du=>cr (cV _ _ g' (by rw[dS h1 h2];omega) du);refine⟨c,T,c1,by rw[hE.size];omega,⟨by simp[a1],a2,a3,a4,fun i' e' h'=>?_,a6,?_⟩,?_⟩
 ·grind
 ·rw[hg];refine⟨_,T,setRow_heap w g c _ T (0,0) c1,by simp[Ey,c2],by simpa using c3,fun i' e' j p' x' h' hj hx=>?_,fun j x' hj hx=>?_⟩
  ·rw[asM]at hx;rcases dE (by simp[hE.size];omega) hx with⟨b1,b2,b3⟩|⟨b1,b2⟩
   ·rw[Rm]at b2;have hii:i'=i∧e'=q:=by
     rcases fE h' with h|⟨cV,h'⟩
     ·omega
     ·exfalso;have zj:=(OF.1 hj).1;rw[a5 i' e' h']at zj;rcases Nat.lt_or_gt_of_ne cV with cd|hgt
      ·have:(i'+1)*sz≤i*sz:=asj _ cd;grind
      ·have:(i+1)*sz≤i'*sz:=asj _ hgt;grind
    obtain⟨rfl,rfl⟩:=hii;rw[hq]at hj;rcases dE (by rw[N2,hE.len];omega) hj with⟨d1,d2,d3⟩|⟨d1,d2⟩
    ·exact .pure (hE.rep _ _ _ d3 (by rw[←asX,←b3];congr 1;omega))
    ·exfalso;rw[hE.len]at d1;omega
   ·rw[Rm]at b1;have b2:c[i'*sz+j]?=some x':=by simpa using b2
    rcases fE h' with⟨rfl,rfl⟩|⟨cV,h'⟩
    ·rw[hq]at hj;rcases dE (by rw[N2,hE.len];omega) hj with⟨d1,d2,d3⟩|⟨d1,d2⟩
     ·exfalso;rw[hE.len]at d2;omega
     grind [fa]
    simp_all
  ·rw[asM]at hx;rw[atW]at hj;rcases dE (by simp[hE.size];omega) hx with⟨b1,b2,b3⟩|⟨b1,b2⟩
   ·exact hE.one _ x' (by simpa using b3)
   grind
 ·intro i' Ba hr;rcases mf hr with⟨_,_,_,e',s,rs,ke,h',Ax⟩|⟨_,_,_,_,_,_,ke,_⟩
  ·simp only[bX.nest.injEq]at ke;obtain⟨rfl,rfl,rfl⟩:=ke;rcases fE h' with⟨rfl,rfl⟩|⟨cV,h'⟩
   ·rw[hq]at Ax;rcases dE (by rw[N2,hE.len];omega) Ax with⟨d1,d2,d3⟩|⟨d1,d2⟩
    ·exfalso;have cd:Ba-off<x.cells.size:=by rw[hE.size,←hE.len];omega
     exact absurd (hE.rep _ _ _ d3 (aiX cd)).Ki (by simp[PV.isRow])
    ·rw[fa (a5 i' e he)]at d2;rw[dS he d2];rfl
   ·rw[dS h' Ax];rfl
  ·cases ke
end
section
variable {R:Type} {E:Env}
theorem E9{p:PV}:∀{n o j:Nat}{q:PV},(er p o n)[j]?=some q→j<n∧q=cell p (o+j)
 |0,o,j,q,h=>by simp[er]at h
 |n+1,o,0,q,h=>⟨by omega,by simpa[er]using h.symm⟩
 |n+1,o,j+1,q,h=>by simp only[er,atQ]at h;obtain⟨h1,h2⟩:=E9 h;grind
theorem zk{p:PV}:∀{n o:Nat},(er p o n).length=n
 |0,_=>rfl
 |n+1,o=>by simp[er,zk]
variable{n:Nat}
theorem FK{s i:Nat}{p e:PV}(h:(fZ s n p)[i]?=some e):i<n∧e=.agg (er p (i*s) s):=by unfold fZ at h;grind
theorem acb{p:PV}{u:Unit}(h:asAgg n p=some u):∃cs,p=.agg cs∧cs.length=n:=by unfold asAgg at h;grind
theorem ZX{t:TypeId}{i off s:Nat}{et:TypeId}{b:Option bX}{x:V}{p:PV}(h:TU E t i off b x=some (s,et,n,p)):∃es,b=some (.arr s et es)∧x=.pv p∧HZ E t s i off=true∧n=es.length:=by unfold TU at h;grind
theorem N8{P:Program}{μ:Ro}{s k:Nat}{cs:List PV}{xs:Array Value}(hp:av P μ (.agg cs) (.agg xs))(hl:cs.length=n*s){i j:Nat}{e q:PV}(he:(fZ s n (.agg cs))[i]?=some e)(hq:e.cells[j]?=some q)(hk:k=i*s+j):∃x,xs[k]?=some x∧av P μ q x∧x.oneCell'=true:=by
 obtain⟨h1,rfl⟩:=FK he;obtain⟨h2,rfl⟩:=E9 hq;have cd:i*s+j<n*s:=by have:(i+1)*s≤n*s:=asj _ (by omega);grind
 subst hk;cases hp with
 |agg g1 g2 g3=>have hc:cs[i*s+j]?=some cs[i*s+j]:=cN (by omega);have hx:xs[i*s+j]?=some xs[i*s+j]:=aiX (by omega);grind [cell,PV.cells]
theorem ZY{draw:Bool}{t:TypeId}{a x:V}{m:Mem}{k:Mem→bN→Option R}{r:R}(h:zb E draw t a x m k=some r):∃m' ft,k m' ft=some r∧(draw=true→∃id b,m'=aD m id b∧ft=[(true,id)]∧∀m2:Mem,m2 id=m id→∀(R':Type)(k':Mem→bN→Option R'),zb E true t a x m2 k'=k' (aD m2 id b) [(true,id)])∧mh m m'∧∀(G:Nat→Option (List PV))(w0:bO)(μ:Ro)(φ:Nat→aP)(w:World)(ya yx:Value),aL E.P G w0 μ φ m w→au E.P μ φ a ya→au E.P μ φ x yx→(∀id,x.has id=true→(m id).isSome=true)→∃w' μ',(Instr.storeAt t ya yx).run E.P w=.ok () w'∧(∀b o,μ b=some o→μ' b=some o)∧aL E.P G w0 μ' φ m' w':=by
 unfold zb at h;split at h
 ·rename_i id off;split at h
  ·rename_i cs hm;split at h
   ·rename_i new hn;split at h
    ·rename_i hb;refine⟨_,_,h,fun hd=>⟨id,_,rfl,rfl,fun m2 db R' k'=>by simp_all[zb,IN]⟩,.set,fun G w0 μ φ w ya yx hM ha hx hlx=>?_⟩;obtain⟨n1,n2,n3⟩:=toCells_ok hn;obtain⟨x1,x2,x3⟩:=n3 _ _ _ _ hx;cases ha with
     | @op _ _ g hg=>
      obtain⟨g',c,T,du,hh,hs,hv,h1,JZ⟩:=hM.dX id _ hm;rw[hg]at du;simp only[cO]at du;subst du;have hi:=mQ (P:=E.P) (t:=t) (by omega);have oI:off+yx.cells.toList.length≤c.toList.length:=by simp;omega
      refine⟨_,μ,hZ x1 hi hh (by omega) x3,fun _ _ h=>h,?_⟩;refine hM.write hm rfl hg (nD.setRow (ast _)) setRow_size (fun k hk=>cr hk) ⟨g,_,T,hg,setRow_heap w g c _ T (0,0) hh,?_,fun i u y hu hy=>?_,fun i y hy=>?_,by simp_all[cL]⟩ rfl fun j hj=>?_
      ·simp_all[atn,cL]
      ·rw[asM]at hy;have e1:yx.cells.toList.length=new.length:=by simp;omega
       rcases dE oI hy with⟨b1,b2,b3⟩|⟨b1,b2⟩<;>rcases dE (by omega) hu with⟨d1,d2,d3⟩|⟨d1,d2⟩
       ·grind
       ·omega
       ·omega
       grind
      ·rw[asM]at hy;rcases dE oI hy with⟨b1,b2,b3⟩|⟨b1,b2⟩
       ·grind
       grind
      ·simp only[bX.names]at hj;obtain⟨v,hv',hh'⟩:=cW.1 hj;simp only[eu,asF]at hv';rcases hv' with(hv'|hv')|hv'
       ·exact hM.gz id cs j hm (bZ (atq hv') hh')
       ·grind [bZ]
       ·exact hM.gz id cs j hm (bZ (atx hv') hh')
    ·cases h
   ·cases h
  ·cases h
 ·rename_i id i off;split at h
  ·rename_i s et n p hwv;obtain⟨es,hm,rfl,hw,hn⟩:=ZX hwv;subst hn;obtain⟨u,hu,h⟩:=By.1 h;split at h
   ·rename_i hl;obtain⟨ha,rfl,rfl,_⟩:=N0 hw;obtain⟨cs,rfl,A2⟩:=acb hu;refine⟨_,_,h,fun _=>⟨id,_,rfl,rfl,fun m2 db R' k'=>?_⟩,.set,fun G w0 μ φ w ya yx hM ha hx _=>?_⟩
    ·simp_all[zb,asq,IN]
    ·have hA:aX E.P μ φ w id s et es:=hM.dX id _ hm;cases ha with
     | @oe _ _ _ g hg=>
      cases hx with
      |pv hx=>
       have Px:=hx;cases hx with
       | @agg _ xs g1 g2 g3=>
        obtain⟨a1,a2,a3,a4,a5,a6,a7⟩:=hA;rw[hg]at a7;obtain⟨c,T,c1,c2,c3,c4,c5⟩:=a7;have hle:es.length*s≤c.size:=asZ (asj _ c3) c2;have QH:xs.size=es.length*s:=by omega
        have eS:bj E.P t≠0:=by omega
        have hl1:=hl.1;have hi:=mQ (P:=E.P) (t:=t) eS;have hcz:(Value.agg xs).cells.size=bj E.P t:=by simp[Value.cells];omega
        refine⟨w.setRow g (bY c.toList 0 xs.toList).toArray,μ,?_,fun _ _ h=>h,hM.write hm rfl hg (nD.setRow (ast _)) setRow_size (fun k hk=>cr hk) ?_ rfl (fun j hj=>by simp[bX.names]at hj)⟩
        ·rw[show 0*(φ id).sz+0=0 by omega];exact hZ hcz hi c1 (by omega) (fun i y hy=>g3 i y hy)
        ·have N2:∀(i:Nat)(x:Value),i<es.length*s→(bY c.toList 0 xs.toList).toArray[i]?=some x→xs[i]?=some x:=fun i x hi hx=>by
          rw[asM]at hx;rcases dE (by simp;omega) hx with⟨b1,b2,b3⟩|⟨b1,b2⟩
          ·simpa using b3
          grind
         refine⟨by rw[a1];simp[fZ],a2,a3,a4,fun i e he=>?_,a6,?_⟩
         ·obtain⟨_,rfl⟩:=FK he;exact zk
         ·rw[hg];refine⟨_,T,setRow_heap w g c _ T (0,0) c1,?_,?_,fun i e j q x he hq hx=>?_,fun i x hi hx=>?_⟩
          ·simp_all[atn,cL,Value.cells]
          ·simpa[fZ]using c3
          ·obtain⟨x',x1,x2,_⟩:=N8 (k:=i*s+j) Px (by omega) he hq rfl;grind
          grind [fZ]
   ·cases h
  rename_i hwn;split at h
  ·rename_i p m1 hf;obtain⟨f1,f2,f3⟩:=Rl hf;split at h
   ·rename_i s et es hm;obtain⟨e,he,h⟩:=By.1 h;have key:∀q,0<bj E.P t→off+bj E.P t≤s→(p.cells.length=bj E.P t→e.cells.length=s→q.cells=bY (aQ s e) off p.cells)→∀(G:Nat→Option (List PV))(w0:bO)(μ:Ro)(φ:Nat→aP)(w:World)(ya yx:Value),aL E.P G w0 μ φ m w→au E.P μ φ (.oe id i off) ya→au E.P μ φ x yx→(∀id,x.has id=true→(m id).isSome=true)→∃w' μ',(Instr.storeAt t ya yx).run E.P w=.ok () w'∧(∀b o,μ b=some o→μ' b=some o)∧aL E.P G w0 μ' φ (aD m1 id (.arr s et (es.set i q))) w':=by
     intro q hz hb hq G w0 μ φ w ya yx hM ha hx _;obtain⟨μ',g1,g2,g3⟩:=f3 _ _ _ _ _ _ _ hM hx;cases ha with
     | @oe _ _ _ g hg=>have hA:aX E.P μ' φ w id s et es:=g2.dX id _ hm;have hq':=hq g3.len (hA.2.2.2.2.1 i e he);obtain⟨c,T,hh,oI,FG⟩:=hA.set hg he g3 hb hq';have rW:(φ id).sz=s:=hA.2.1;have hi:=mQ (P:=E.P) (t:=t) (by omega);refine⟨_,μ',?_,g1,g2.write hm rfl hg (nD.setRow (ast _)) setRow_size (fun k hk=>cr hk) FG rfl fun j hj=>by simp[bX.names]at hj⟩;rw[rW];exact hZ g3.size hi hh oI g3.one
    split at h
    ·rename_i hb;refine⟨_,_,h,fun hd=>?_,f1.trans .set,key p (by omega) (by omega) fun h1 h2=>?_⟩
     ·obtain⟨rfl,f4⟩:=f2 hd;refine⟨id,_,rfl,rfl,fun m2 db R' k'=>?_⟩;simp_all[zb,asq,IN]
     simp_all[eu,bt]
    ·rename_i Wr;split at h
     ·rename_i hb;refine⟨_,_,h,fun hd=>?_,f1.trans .set,key _ (by omega) (by omega) fun _ _=>rfl⟩;obtain⟨rfl,f4⟩:=f2 hd;refine⟨id,_,rfl,rfl,fun m2 db R' k'=>?_⟩;simp_all[zb,asq,IS,IN]
     ·cases h
   ·rename_i s et es hm;obtain⟨e,he,h⟩:=By.1 h;split at h
    ·rename_i hb;refine⟨_,_,h,fun hd=>?_,f1.trans .set,fun G w0 μ φ w ya yx hM ha hx _=>?_⟩
     ·obtain⟨rfl,f4⟩:=f2 hd;refine⟨id,_,rfl,rfl,fun m2 db R' k'=>?_⟩;simp_all[zb,asq,IN]
     ·obtain⟨μ',g1,g2,g3⟩:=f3 _ _ _ _ _ _ _ hM hx;cases ha with
      | @oe _ _ _ g hg=>have hA:bu E.P μ' φ w id s et es:=g2.dX id _ hm;obtain⟨c,T,hh,oI,FG,hrw⟩:=bu.set (q:=.agg (bY (aQ s e) off p.cells)) hA (g2.apart id _ hm) hg he g3 hb.1 rfl;have rW:(φ id).sz=s:=hA.2.1;have hi:=mQ (P:=E.P) (t:=t) (by omega);refine⟨_,μ',?_,g1,g2.write hm rfl hg (nD.setRow (ast _)) setRow_size (fun k hk=>cr hk) FG rfl (fun j hj=>by simp[bX.names]at hj) (fun st h=>by cases h) hrw⟩;rw[rW];exact hZ g3.size hi hh oI g3.one
    ·cases h
   ·cases h
  ·cases h
 ·rename_i id i off s j off2;split at h
  ·rename_i p m1 hf;split at h
   ·rename_i s0 et es hm;obtain⟨e,he,h⟩:=By.1 h;obtain⟨rs,hr,h⟩:=By.1 h;obtain⟨q,hq,h⟩:=By.1 h;split at h
    ·rename_i hb;refine⟨_,_,h,fun _=>⟨id,_,rfl,rfl,fun m2 db R' k'=>?_⟩,.set,fun G w0 μ φ w ya yx hM ha hx _=>?_⟩
     ·simp_all[zb,asq,IN]
     ·have hE:=GW hf E.P μ φ yx hx;have hN:bu E.P μ φ w id s0 et es:=hM.dX id _ hm;obtain⟨g,y,hg,GX,⟨⟨M9,hA⟩,hV⟩,hce⟩:=hN.row he hr;have Np:=hM.apart id _ hm;have pz:(bX.nest s0 et es).rowAt i off=true:=by rw[dS he hce];rfl
      have N9:=hN.2.2.2.2.1 i e he;have acd:(setRow s0 e off (.uY s (rs.set j (setCells s q off2 (bj E.P t) p)))).cells=e.cells.set off (.uY s (rs.set j (setCells s q off2 (bj E.P t) p))):=Pw N9 hb.2.2 (by simp);cases ha with
      | @GI _ _ _ _ _ _ g' du hs=>
       obtain⟨cV,arQ⟩:=Np i off g' pz du;obtain⟨c,T,hh,oI,FG⟩:=hA.set (g:=g') du hq hE hb.1 (K4 hE.len (hA.2.2.2.2.1 j q hq));have hi:=mQ (P:=E.P) (t:=t) (by omega);refine⟨_,μ,hZ hE.size hi hh oI hE.one,fun _ _ h=>h,hM.ab8 hm rfl (.inr ⟨i,off,pz,du⟩) (nD.setRow (ast _)) setRow_size (fun k hk=>cr hk) ?_ rfl (fun j hj=>by simp[bX.names]at hj) ?_⟩
       ·refine bu.change hN (by simp) (fun i' e' h'=>?_) rfl (fun g0 T2=>cr fun e=>cV (by rw[←e];omega)) (fun i' e' j' p' g0 c0 _ x' h' Ax T2 Na Px hold=>?_)
        ·rcases fE h' with⟨_,rfl⟩|⟨_,h'⟩
         ·grind
         ·exact hN.2.2.2.2.1 i' e' h'
        ·have other:∀e'' p'',es[i']?=some e''→e''.cells[j']?=some p''→(i',j')≠(i,off)→eH E.P μ ((φ id).row i' j') (w.setRow g' (bY c.toList (j*s+off2) yx.cells.toList).toArray) p'' x':=fun e'' p'' h1 h2 h3=>(hold e'' p'' h1 h2).cF (fun _ _ h=>h) fun Cz g'' arZ=>cr fun e=>by grind [dS]
         rcases fE h' with⟨rfl,rfl⟩|⟨hni,h'⟩
         ·rw[acd]at Ax;rcases fE Ax with⟨rfl,rfl⟩|⟨hnj,Ax⟩
          ·have ZZ:fm E.P μ ((φ id).row i' j') w s rs x':=hold e _ he hce;refine⟨⟨M9,FG⟩,?_⟩;exact ZZ.2
          grind
         grind
       ·intro i' Ba Cz;rcases mf Cz with⟨_,_,_,e',s',rs',ke,h',Ax⟩|⟨_,_,_,_,_,_,ke,_⟩
        ·simp only[bX.nest.injEq]at ke;obtain⟨rfl,rfl,rfl⟩:=ke;rcases fE h' with⟨rfl,rfl⟩|⟨hni,h'⟩
         ·rw[acd]at Ax;rcases fE Ax with⟨rfl,_⟩|⟨hnj,Ax⟩
          ·omega
          ·rw[dS he Ax];rfl
         ·rw[dS h' Ax];rfl
        ·cases ke
    ·cases h
   ·cases h
  ·cases h
 ·cases h
end
structure Cells(P:Program)(μ:Ro)(sz:Nat)(es:List PV)(xs:List Value):Prop where
 len:xs.length=es.length*sz
 each:∀(i:Nat)e,es[i]?=some e→e.cells.length=sz
 rep:∀(i:Nat)e(j:Nat)p y,es[i]?=some e→e.cells[j]?=some p→xs[i*sz+j]?=some y→av P μ p y
 one:∀(i:Nat)y,xs[i]?=some y→y.oneCell'=true
section
variable {P:Program} {μ μ':Ro} {φ:Nat→aP} {w:World} {sz:Nat} {es es':List PV} {xs xs':List Value}
theorem Cells.nil:Cells P μ sz [] []:=⟨by simp,by simp,by simp,by simp⟩
theorem Cells.mono(h:Cells P μ sz es xs)(hμ:∀b o,μ b=some o→μ' b=some o):Cells P μ' sz es xs:=⟨h.len,h.each,fun i e j p y h1 h2 h3=>(h.rep i e j p y h1 h2 h3).mono hμ,h.one⟩
theorem K5{i j n:Nat}(hi:i<n)(hj:j<sz):i*sz+j<n*sz:=by have:(i+1)*sz≤n*sz:=asj _ hi;grind
theorem Cells.append(h:Cells P μ sz es xs)(h':Cells P μ sz es' xs'):Cells P μ sz (es++es') (xs++xs'):=by
 refine⟨by simp[h.len,h'.len,as2],fun i e hi=>?_,fun i e j p y hi hj hy=>?_,fun i y hy=>?_⟩
 ·rw[asH]at hi;split at hi
  ·exact h.each i e hi
  ·exact h'.each _ e hi
 ·rw[asH]at hi hy;split at hi
  ·rename_i hl;have zj:j<sz:=by rw[←h.each i e hi];grind
   rw[IN (by rw[h.len];exact K5 hl zj)]at hy;exact h.rep i e j p y hi hj hy
  ·rename_i hl;have hle:es.length*sz≤i*sz:=asj _ (by omega);rw[IS (by rw[h.len];omega)]at hy;refine h'.rep _ e j p y hi hj ?_;rw[←hy,h.len,Nat.sub_mul];congr 1;omega
 ·rw[asH]at hy;split at hy
  ·exact h.one i y hy
  ·exact h'.one _ y hy
theorem Cells.take(h:Cells P μ sz es xs)(n:Nat):Cells P μ sz (es.take n) (xs.take (n*sz)):=by refine⟨?_,fun i e hi=>h.each i e (jH hi).2,fun i e j p y hi hj hy=>h.rep i e j p y (jH hi).2 hj (jH hy).2,fun i y hy=>h.one i y (jH hy).2⟩;rw[asQ,asQ,h.len];simp
theorem Cells.drop(h:Cells P μ sz es xs)(n:Nat):Cells P μ sz (es.drop n) (xs.drop (n*sz)):=by refine⟨by simp[h.len,Nat.sub_mul],fun i e hi=>h.each _ e (As hi),fun i e j p y hi hj hy=>h.rep _ e j p y (As hi) hj ?_,fun i y hy=>h.one _ y (As hy)⟩;grind
variable{id:Nat}{et:TypeId}
theorem aX.cells(hA:aX P μ φ w id sz et es){g:Nat}(hg:(φ id).g=some g):∃(c:Array Value)(T:TypeId),w.heap[g]?=some (.cells c T (0,0))∧(φ id).cap*sz≤c.size∧es.length≤(φ id).cap∧es.length*sz≤c.size∧Cells P μ sz es (c.toList.take (es.length*sz)):=by
 obtain⟨a1,a2,a3,a4,a5,a6,a7⟩:=hA;rw[hg]at a7;obtain⟨c,T,c1,c2,c3,c4,c5⟩:=a7;have hle:es.length*sz≤c.size:=asZ (asj _ c3) c2;refine⟨c,T,c1,c2,c3,hle,by simp;omega,a5,fun i e j p y hi hj hy=>?_,fun i y hy=>?_⟩
 ·grind
 grind
theorem aX.tH{g:Nat}{T:TypeId}{c:Array Value}(hph:(φ id).toJk=⟨some g,(φ id).cap,es.length,sz⟩)(rW:sz=bj P et)(eS:0<sz)(vb:(φ id).cap≤maxLen)(hh:w.heap[g]?=some (.cells c T (0,0)))(hc:(φ id).cap*sz≤c.size)(hle:es.length≤(φ id).cap)(hC:Cells P μ sz es (c.toList.take (es.length*sz))):aX P μ φ w id sz et es:=by
 have e1:(φ id).g=some g:=by rw[hph]
 refine⟨by rw[hph],by rw[hph],rW,eS,hC.each,vb,?_⟩;rw[e1];have zj:∀(i:Nat)e(j:Nat)p,es[i]?=some e→e.cells[j]?=some p→i*sz+j<es.length*sz:=fun i e j p hi hj=>K5 (OF.1 hi).1 (by rw[←hC.each i e hi];grind);refine⟨c,T,hh,hc,hle,fun i e j p x hi hj hx=>?_,fun i x hi hx=>?_⟩
 ·exact hC.rep i e j p x hi hj (by grind)
 ·exact hC.one i x (by grind)
inductive Fa(P:Program)(μ:Ro)(w:World)(sz:Nat)(es:List PV):Value→Prop
 |none:es=[]→Fa P μ w sz es (.slice none 0 0)
 |some {a:Addr} {c:Nat} (xs:List Value):Cells P μ sz es xs→(∀(j:Nat)v,xs[j]?=some v→w.cell? (a.add j)=some v)→es.length≤c→c≤maxLen→Fa P μ w sz es (.slice (some a) es.length c)
theorem aX.src(hA:aX P μ φ w id sz et es){g:Nat}(hg:(φ id).g=some g){lo len cap:Nat}(hl:lo+len≤es.length)(hcc:len≤cap)(ar0:lo+cap≤(φ id).cap):Fa P μ w sz ((es.drop lo).take len) (.slice (some ⟨g,lo*sz,none⟩) len cap):=by
 obtain⟨c,T,c1,c2,c3,c4,c5⟩:=hA.cells hg;have vb:=hA.tG;have hlen:((es.drop lo).take len).length=len:=by simp;omega
 have:=Fa.some (P:=P) (μ:=μ) (w:=w) (sz:=sz) (es:=(es.drop lo).take len) (a:=⟨g,lo*sz,none⟩) (c:=cap) _ ((c5.drop lo).take len) (fun j v hv=>?_) (by omega) (by omega)
 ·simp_all
 grind [jH,As,Addr.add_mid,dL]
end
section
variable {R:Type} {E:Env}
theorem av.src{P:Program}{G:Nat→Option (List PV)}{w0:bO}{μ:Ro}{φ:Nat→aP}{m:Mem}{w:World}{sz:Nat}{es:List PV}{y:Value}(hM:aL P G w0 μ φ m w)(h:av P μ (.rs sz es) y):Fa P μ w sz es y:=by
 cases h with
 |ny=>exact .none rfl
 |Ni hc=>exact .some (es:=[]) [] .nil (by simp) (by simp) hc
 | @rs _ _ b o cap X h1 h2 h3 h4 h5 h6=>
  by_cases hz:sz=0
  ·subst hz;refine .some [] ⟨by simp,h3,fun i e j p y hi hj=>?_,by simp⟩ (by simp) h1 h2;simp
  ·have eR:∀k v,((List.range (es.length*sz)).map fun k=>X (k/sz) (k%sz))[k]?=some v→∃(e:PV)(p:PV),es[k/sz]?=some e∧e.cells[k%sz]?=some p∧v=X (k/sz) (k%sz):=by
    intro k v hk;have cd:k<es.length*sz:=by grind
    rw[AT,as8 cd]at hk;simp at hk;have hi:k/sz<es.length:=(Nat.div_lt_iff_lt_mul (by omega)).2 cd;have hj:k%sz<(es[k/sz]).cells.length:=by rw[h3 _ _ (cN hi)];exact avi _ (by omega)
    simp_all
   refine .some ((List.range (es.length*sz)).map fun k=>X (k/sz) (k%sz)) ⟨by simp,h3,fun i e j p y hi hj hy=>?_,fun k v hk=>?_⟩ (fun k v hk=>?_) h1 h2
   ·obtain⟨e',p',he,hp,rfl⟩:=eR _ _ hy;have zj:j<sz:=by grind
    have e1:(i*sz+j)/sz=i:=by rw[auo,Nat.mul_add_div (by omega),au4 zj];rfl
    simp_all[auo,Nat.mul_add_mod,at5]
   ·grind
   ·obtain⟨e',p',he,hp,rfl⟩:=eR _ _ hk;rw[Addr.add_mid];have:=hM.cellAt (h4 _ e' _ p' he hp);rw[←this];simp[congr,asW,Nat.div_add_mod']
theorem rY{m:Mem}{sz:Nat}{x:V}{es:List PV}{ft:bN}(h:ga m sz x=some (es,ft)):(∀m2:Mem,(∀x∈ft,m2 x.2=m x.2)→ga m2 sz x=some (es,ft))∧(∀x∈ft,x.1=false)∧∀(P:Program)(G:Nat→Option (List PV))(w0:bO)(μ:Ro)(φ:Nat→aP)(w:World)(y:Value),aL P G w0 μ φ m w→au P μ φ x y→Fa P μ w sz es y:=by
 unfold ga at h;split at h
 ·rename_i s es';split at h
  ·rename_i hs;simp only[cO,amn]at h;obtain⟨rfl,rfl⟩:=h;subst hs;exact⟨fun m2 _=>by simp[ga],by simp,fun P G w0 μ φ w y hM hy=>by cases hy with|pv hy=>exact hy.src hM⟩
  ·split at h
   ·simp only[cO,amn]at h;obtain⟨rfl,rfl⟩:=h;refine⟨fun m2 _=>by simp[ga],by simp,fun P G w0 μ φ w y hM hy=>?_⟩;cases hy with
    |pv hy=>cases hy with
     |ny=>exact .none rfl
     |Ni hc=>exact .some (es:=[]) [] .nil (by simp) (by simp) hc
     |rs X h1 h2=>exact .some (es:=[]) [] .nil (by simp) h1 h2
   ·cases h
 ·simp only[cO,amn]at h;obtain⟨rfl,rfl⟩:=h;exact⟨fun m2 _=>by rfl,by simp,fun P G w0 μ φ w y hM hy=>by cases hy;exact .none rfl⟩
 ·rename_i id;have key:∀(s:Nat)(et:TypeId)(es:List PV),(m id=some (.arr s et es)∨m id=some (.vK s et es))→∀(P:Program)(G:Nat→Option (List PV))(w0:bO)(μ:Ro)(φ:Nat→aP)(w:World)(y:Value),aL P G w0 μ φ m w→au P μ φ (.os id) y→Fa P μ w s es y:=by
   intro s et es hm P G w0 μ φ w y hM hy;have hA:=hM.arr hm;cases hy with
   |yp hg=>obtain⟨a1,a2,a3,a4,a5,a6,a7⟩:=hA;rw[hg]at a7;exact .none a7.1
   |os hg=>have:=hA.src hg (lo:=0) (len:=es.length) (cap:=(φ id).cap) (by omega) (hA.tG).1 (by omega);rw[hA.1];simpa using this
  split at h
  ·rename_i s' et es' hm;split at h
   ·rename_i hs;simp only[cO,amn]at h;obtain⟨rfl,rfl⟩:=h;subst hs;exact⟨fun m2 db=>by have:=db (false,id) (by simp);simp_all[ga],by simp,key _ _ _ (.inl hm)⟩
   ·cases h
  ·rename_i s' et es' hm;split at h
   ·rename_i hs;simp only[cO,amn]at h;obtain⟨rfl,rfl⟩:=h;subst hs;exact⟨fun m2 db=>by have:=db (false,id) (by simp);simp_all[ga],by simp,key _ _ _ (.inr hm)⟩
   ·cases h
  ·cases h
 ·rename_i id lo len;have key:∀(s:Nat)(et:TypeId)(es:List PV),(m id=some (.arr s et es)∨m id=some (.vK s et es))→∀(P:Program)(G:Nat→Option (List PV))(w0:bO)(μ:Ro)(φ:Nat→aP)(w:World)(y:Value),aL P G w0 μ φ m w→au P μ φ (.gx id lo len) y→Fa P μ w s ((es.drop lo).take len) y:=by
   intro s et es hm P G w0 μ φ w y hM hy;have hA:=hM.arr hm;have hle:=hA.tG;have Oa:=hA.1;have rW:=hA.2.1;cases hy with
   |wa hg=>simp;exact .none rfl
   |gx hg hl ha hc1 hc2=>
    rcases ha with rfl|⟨ha,_⟩
    ·rw[rW];exact hA.src hg (by omega) hc1 hc2
    ·have h0:len=0:=by omega
     subst h0;simp only[at3];exact .some (es:=[]) [] .nil (by simp) (by simp) (by omega)
  split at h
  ·rename_i s' et es' hm;split at h
   ·rename_i hs;simp only[cO,amn]at h;obtain⟨rfl,rfl⟩:=h;subst hs;exact⟨fun m2 db=>by have:=db (false,id) (by simp);simp_all[ga],by simp,key _ _ _ (.inl hm)⟩
   ·cases h
  ·rename_i s' et es' hm;split at h
   ·rename_i hs;simp only[cO,amn]at h;obtain⟨rfl,rfl⟩:=h;subst hs;exact⟨fun m2 db=>by have:=db (false,id) (by simp);simp_all[ga],by simp,key _ _ _ (.inr hm)⟩
   ·cases h
  ·cases h
 ·rename_i id i off;split at h
  ·rename_i s0 et0 es0 hm;obtain⟨e,he,h⟩:=By.1 h;obtain⟨rs,hr,h⟩:=By.1 h;simp only[cO,amn]at h;obtain⟨rfl,rfl⟩:=h;refine⟨fun m2 db=>by have:=db (false,id) (by simp);simp_all[ga],by simp,fun P G w0 μ φ w y hM hy=>?_⟩;have hN:bu P μ φ w id s0 et0 es0:=hM.dX id _ hm;obtain⟨_,_,_,_,⟨⟨M9,hA⟩,_⟩,_⟩:=hN.row he hr;have hy:=hy.T0 (ν:=μ);cases hy with
   |yp hg=>obtain⟨a1,a2,a3,a4,a5,a6,a7⟩:=hA;rw[hg]at a7;exact .none a7.1
   |os hg=>have:=hA.src hg (lo:=0) (len:=rs.length) (cap:=(((φ id).row i off).up).cap) (by omega) (hA.tG).1 (by omega);rw[hA.1];simpa using this
  ·cases h
 ·cases h
end
section
variable {P:Program} {w:World}
theorem tX{t ty e:TypeId}(hu:P.underlying t=some (.slice e))(hz:bj P e≠0){base a:Option Addr}{n cap c:Nat}(hn:n≤cap):(Builtin.append_ #[t,t] ty #[.slice base n cap,.slice a 0 c]).run P w=.ok (.slice base n cap) w:=by
 obtain⟨i,hi,hs⟩:=Es hz;have hl:∀x:Addr,(loadCells x 0).run P w=.ok #[] w:=fun x=>by rfl
 cases base<;>cases a<;>simp[Builtin.append_,run_underlying hu,sizeOf,typeInfo,hi,Builtin.lenOf,Builtin.firstCells,hn,hl,storeCells]
end
theorem Ie{P:Program}{w:World}(t ty e T:TypeId)(i:TypeInfo)(ht:P.underlying t=some (.slice e))(hi:P.info? e=some i)(g T7 ai8:Nat)(cur:Array Value)(hg:w.heap[g]?=some (.cells cur T (0,0)))(a:Addr)(m c:Nat)(news:List Value)(hl:news.length=m*i.size)(amG:∀j u,news[j]?=some u→w.cell? (a.add j)=some u)(h1:∀u∈news,u.oneCell'=true)(ee:T7+m≤ai8)(oI:T7*i.size+news.length≤cur.size):(Builtin.append_ #[t,t] ty #[.slice (some ⟨g,0,none⟩) T7 ai8,.slice (some a) m c]).run P w=.ok (.slice (some ⟨g,0,none⟩) (T7+m) ai8) (w.setRow g (cur.toList.take (T7*i.size)++news++cur.toList.drop (T7*i.size+news.length)).toArray):=by have hf:=run_firstCells_some (P:=P) w i.size m a m c news hl amG;have uQ:=run_storeCells_at P g (T7*i.size) T news 0 cur w hg (by omega) h1;simp only[atv]at uQ;simp[Builtin.append_,run_underlying ht,sizeOf,typeInfo,hi,Builtin.lenOf,ee,hf,Addr.add_mid,uQ]
section
variable {R:Type} {E:Env}
variable{t:TypeId}
theorem Ob{P:Program}{i:TypeInfo}(hi:P.info? t=some i):i.bytes=Nf P t∧i.size=bj P t:=by simp[Nf,bj,hi]
theorem K6{P:Program}{e ty:TypeId}{sz len n:Nat}{z:Value}{i:TypeInfo}(hu:P.underlying t=some (.slice e))(hi:P.info? e=some i)(hzv:i.zero=some z)(Ws:z.cells.size=sz)(rW:sz=bj P e)(eS:0<bj P e)(hby:0<Nf P e)(ee:(len+n)*Nf P e≤ah){w:World}{ys yx:Value}{os xs:List Value}(hs:(ys=.slice none 0 0∧len=0∧os=[])∨∃(g cap:Nat)(c:Array Value)(T:TypeId),ys=.slice (some ⟨g,0,none⟩) len cap∧w.heap[g]?=some (.cells c T (0,0))∧cap*sz≤c.size∧len≤cap∧cap≤maxLen∧os=c.toList.take (len*sz))(hx:(yx=.slice none 0 0∧n=0∧xs=[])∨∃(a:Addr)(cx:Nat),yx=.slice (some a) n cx∧xs.length=n*sz∧(∀(j:Nat)v,xs[j]?=some v→w.cell? (a.add j)=some v)∧(∀v∈xs,v.oneCell'=true)∧n≤cx∧cx≤maxLen):∃w' y,(Builtin.append_ #[t,t] ty #[ys,yx]).run P w=.ok y w'∧((y=.slice none 0 0∧w'=w∧len=0∧n=0)∨∃(g cap:Nat)(c:Array Value)(T:TypeId),y=.slice (some ⟨g,0,none⟩) (len+n) cap∧w'.heap[g]?=some (.cells c T (0,0))∧cap*sz≤c.size∧len+n≤cap∧cap≤maxLen∧c.toList.take ((len+n)*sz)=os++xs∧((∃agR,ys=.slice (some ⟨g,0,none⟩) len agR∧nD g w w'∧∀k,k≠g→w'.heap[k]?=w.heap[k]?)∨(g=w.heap.size∧w'=w.drew.alloc (.cells c e)))):=by
 obtain⟨hib,his⟩:=Ob hi;have apS:len+n≤140737488355328:=by have:(len+n)*1≤(len+n)*Nf P e:=atD _ hby;grind [ah]
 have ar1:len+n≤maxLen:=by simp only[maxLen];omega
 have hzc:∀n,(Builtin.zeroCells z.cells n).size=n*sz:=fun n=>by rw[size_zeroCells,Ws]
 rcases hs with⟨rfl,rfl,rfl⟩|⟨g,cap,c,T,rfl,g4,g5,g6,g7,rfl⟩
 ·rcases hx with⟨rfl,rfl,rfl⟩|⟨a,cx,rfl,Rm,QH,hx1,hcx,hcm⟩
  ·exact⟨w,_,tX hu (by omega) (ast _),.inl ⟨rfl,rfl,rfl,rfl⟩⟩
  ·by_cases h0:n=0
   ·subst h0;exact⟨w,_,tX hu (by omega) (ast _),.inl ⟨rfl,rfl,rfl,rfl⟩⟩
   ·have hr:=run_append_nil (P:=P) w t ty e i z hu hi hzv a n cx xs (by rw[Rm,rW,his]) QH (by omega) (by omega) (by simp only[ah,as5]at ee;rw[hib];omega);have Kk:=grownCap_ge w n 0 e;refine⟨_,_,hr,.inr ⟨w.heap.size,grownCap w n 0 e,xs.toArray++Builtin.zeroCells z.cells (grownCap w n 0 e-n),e,by simp,gq w.drew _,?_,by omega,grownCap_le_maxLen w _ 0 e (by omega),?_,.inr ⟨rfl,rfl⟩⟩⟩
    ·rw[auU,hzc];simp only[atn,Rm,←as2];simp_all
    simp_all
 ·have h1:(c.toList.take (len*sz)).length=len*sz:=by have:len*sz≤cap*sz:=asj _ g6;simp;omega
  rcases hx with⟨rfl,rfl,rfl⟩|⟨a,cx,rfl,Rm,QH,hx1,hcx,hcm⟩
  ·exact⟨w,_,tX hu (by omega) g6,.inr ⟨g,cap,c,T,rfl,g4,g5,by omega,g7,by simp,.inl ⟨cap,rfl,nD.refl _ _,fun _ _=>rfl⟩⟩⟩
  ·by_cases hrm:len+n≤cap
   ·have oI:len*i.size+xs.length≤c.size:=by rw[his,←rW,Rm,←as2];exact asZ (asj _ hrm) g5
    have hr:=Ie (P:=P) (w:=w) t ty e T i hu hi g len cap c g4 a n cx xs (by rw[Rm,rW,his]) QH hx1 hrm oI;rw[his,←rW]at hr oI;refine⟨_,_,hr,.inr ⟨g,cap,_,T,rfl,setRow_heap w g c _ T (0,0) g4,?_,hrm,g7,?_,.inl ⟨cap,rfl,nD.setRow (ast _),fun k hk=>cr hk⟩⟩⟩
    ·grind
    grind [List.take_left',List.length_append,Nat.add_mul]
   ·have hr:=run_append_grow (P:=P) w t ty e i z hu hi hzv ⟨g,0,none⟩ len cap (c.toList.take (len*sz)) (by rw[h1,rW,his]) (fun j v hj=>by
      grind [Addr.add_mid,dL,jH]) a n cx xs (by rw[Rm,rW,his]) QH (by omega) (by omega)
     (growslice_fits (by omega) (by simp_all[ah]))
    have Kk:=grownCap_ge w (len+n) cap e;refine⟨_,_,hr,.inr ⟨w.heap.size,_,_,e,rfl,gq w.drew _,?_,Kk,grownCap_le_maxLen w _ cap e (by omega),?_,.inr ⟨rfl,rfl⟩⟩⟩
    ·rw[auU,auU,hzc];simp only[atn,Rm,h1,←as2];simp_all
    grind [Array.toList_append,List.take_left',List.length_append,Nat.add_mul]
theorem K7{e ty:TypeId}{sz:Nat}{es new:List PV}{z:List V}(hu:E.P.underlying t=some (.slice e))(hz:dD E e=some z)(rW:sz=bj E.P e)(eS:0<bj E.P e)(hby:0<Nf E.P e)(ee:(es++new).length*Nf E.P e≤ah){G:Nat→Option (List PV)}{w0:bO}{μ:Ro}{φ:Nat→aP}{m:Mem}{w:World}{ρ:Nat→Value}{f:Fr}{draw:Bool}{site:Nat}(hM:aL E.P G w0 μ φ m w)(hF:cp E.P μ φ m f ρ){ys yx:Value}(hx:Fa E.P μ w sz new yx)(hs:(ys=.slice none 0 0∧es=[])∨∃(g cap:Nat)(c:Array Value)(T:TypeId),ys=.slice (some ⟨g,0,none⟩) es.length cap∧w0.heap.size≤g∧μ g=none∧(∀id b',m id=some b'→¬b'.owns (φ id) g)∧w.heap[g]?=some (.cells c T (0,0))∧cap*sz≤c.size∧es.length≤cap∧cap≤maxLen∧es.length*sz≤c.size∧Cells E.P μ sz es (c.toList.take (es.length*sz))){f':Fr}{m':Mem}(Ce:∀(P:Program)(G:Nat→Option (List PV))(w0:bO)(μ:Ro)(φ:Nat→aP)(w w':World)(ρ:Nat→Value)(ph:aP),aL P G w0 μ φ m w→cp P μ φ m f ρ→nA P w0 μ φ m w w' site (.arr sz e (es++new)) ph→∃φ',φ' site=ph∧aL P G w0 μ φ' m' w'∧cp P μ φ' m' f' ρ):∃w' y φ',(Builtin.append_ #[t,t] ty #[ys,yx]).run E.P w=.ok y w'∧aL E.P G w0 μ φ' m' w'∧cp E.P μ φ' m' f' ρ∧au E.P μ φ' (.os site) y:=by
 obtain⟨i,zv,hi,hzv,his,_,Ws,_,_,_⟩:=fb hz;have TL:(es++new).length=es.length+new.length:=by simp
 obtain⟨os,hos,hC⟩:∃os,((ys=.slice none 0 0∧es.length=0∧os=[])∨∃(g cap:Nat)(c:Array Value)(T:TypeId),ys=.slice (some ⟨g,0,none⟩) es.length cap∧w.heap[g]?=some (.cells c T (0,0))∧cap*sz≤c.size∧es.length≤cap∧cap≤maxLen∧os=c.toList.take (es.length*sz))∧Cells E.P μ sz es os:=by
  rcases hs with⟨h1,rfl⟩|⟨g,cap,c,T,h1,h2,h3,h4,h5,h6,h7,h8,h9,h10⟩
  ·exact⟨[],.inl ⟨h1,rfl,rfl⟩,.nil⟩
  grind
 obtain⟨xs,QH,hCx⟩:∃xs,((yx=.slice none 0 0∧new.length=0∧xs=[])∨∃(a:Addr)(cx:Nat),yx=.slice (some a) new.length cx∧xs.length=new.length*sz∧(∀(j:Nat)v,xs[j]?=some v→w.cell? (a.add j)=some v)∧(∀v∈xs,v.oneCell'=true)∧new.length≤cx∧cx≤maxLen)∧Cells E.P μ sz new xs:=by
  cases hx with
  |none hn=>subst hn;exact⟨[],.inl ⟨rfl,rfl,rfl⟩,.nil⟩
  | @some a cx xs hC QH hcx hcm=>exact⟨xs,.inr ⟨a,cx,rfl,hC.len,QH,fun u hu=>by obtain⟨j,hj⟩:=asE hu;exact hC.one j u hj,hcx,hcm⟩,hC⟩
 obtain⟨w',y,hr,ace⟩:=K6 (ty:=ty) hu hi hzv (by omega) rW eS hby (by simp_all) hos QH;rcases ace with⟨rfl,rfl,h1,h2⟩|⟨g',J0,c',T',rfl,b1,b2,b3,b4,b5,b6⟩
 ·have h1:es=[]:=aso h1;have h2:new=[]:=aso h2;obtain⟨φ',a1,a2,a3⟩:=Ce E.P G w0 μ φ w' w' ρ (JY none 0 0 sz) hM hF ⟨nD.refl _ _,hM.ro,fun _ _ _ _ _=>rfl,by simp,fun φ' hp _=>by refine⟨by rw[hp,h1,h2];rfl,by rw[hp],rW,by omega,by rw[h1,h2];simp,by rw[hp];simp[maxLen],?_⟩;simp_all,by simp[bX.names],fun st h=>by cases h⟩;exact⟨w',_,φ',hr,a2,a3,.yp (by rw[a1])⟩
 ·have hCC:Cells E.P μ sz (es++new) (c'.toList.take ((es++new).length*sz)):=by rw[TL,b5];exact hC.append hCx
  have fin:∀(φ':Nat→aP),φ' site=JY (some g') J0 (es++new).length sz→au E.P μ φ' (.os site) (.slice (some ⟨g',0,none⟩) (es.length+new.length) J0):=fun φ' a1=>by have:=au.os (P:=E.P) (μ:=μ) (φ:=φ') (id:=site) (g:=g') (by rw[a1]);simp_all
  rcases b6 with⟨agR,hys,b6,b7⟩|⟨rfl,rfl⟩
  ·rcases hs with⟨h1,_⟩|⟨g,cap,c,_,h1,h2,h3,h4,_⟩
   ·rw[hys]at h1;cases h1
   rw[hys]at h1;simp only[Value.slice.injEq,cO,Addr.mk.injEq]at h1;obtain⟨⟨rfl,_⟩,_⟩:=h1;obtain⟨φ',a1,a2,a3⟩:=Ce E.P G w0 μ φ w w' ρ (JY (some g') J0 (es++new).length sz) hM hF ⟨b6.mono h2,fun k o hk=>by rw[b7 k (fun e=>by simp_all)];exact hM.ro k o hk,fun id b' g' hid du=>b7 g' (fun e=>by simp_all),fun g' du=>by simp_all,fun φ' hp _=>aX.tH (by rw[hp]) rW (by omega) (by rw[hp];omega) b1 (by rw[hp];omega) (by rw[hp,TL];omega) hCC,by simp[bX.names],fun st h=>by cases h⟩;grind
  ·obtain⟨φ',a1,a2,a3⟩:=Ce E.P G w0 μ φ w.drew _ ρ (JY (some w.heap.size) J0 (es++new).length sz) hM.drew hF (nA.alloc (o:=.cells c' e) hM.drew rfl (fun φ' hp _=>aX.tH (g:=w.heap.size) (by rw[hp]) rW (by omega) (by rw[hp];omega) (gq w.drew _) (by rw[hp];omega) (by rw[hp,TL];omega) hCC) (by simp[bX.names]));grind
end
section
variable {R:Type} {E:Env}
theorem T8{draw:Bool}{site:Nat}{t t':TypeId}{s x:V}{f:Fr}{m:Mem}{k:V→Fr→Mem→Option R}{r:R}(h:GN E draw site t t' s x f m k=some r):draw=false∧t'=t∧∃place f' m',k (.os place) f' m'=some r∧(m' place).isSome=true∧∀(G:Nat→Option (List PV))(w0:bO)(μ:Ro)(φ:Nat→aP)(w:World)(ρ:Nat→Value)(ys yx:Value)(ty:TypeId),aL E.P G w0 μ φ m w→cp E.P μ φ m f ρ→au E.P μ φ s ys→au E.P μ φ x yx→∃w' y φ',(Builtin.append_ #[t,t] ty #[ys,yx]).run E.P w=.ok y w'∧aL E.P G w0 μ φ' m' w'∧cp E.P μ φ' m' f' ρ∧au E.P μ φ' (.os place) y:=by
 unfold GN at h;split at h
 ·cases h
 ·rename_i hd;simp only[asz,avy,atj,as6,cT,Bool.not_eq_eq_eq_not,ahX,asw]at hd;refine⟨hd.1,by simpa using hd.2,?_⟩;split at h
  ·rename_i e hu;split at h
   ·cases h
   ·rename_i hz;obtain⟨z,hz⟩:∃z,dD E e=some z:=by
     cases hq:dD E e with
     |none=>simp[hq]at hz
     |some z=>simp
    split at h
    ·rename_i new ft N9;obtain⟨_,_,FL⟩:=rY N9;split at h
     ·split at h
      ·rename_i hb;obtain⟨f',m',_,hk,CA,_,Ce⟩:=eM h;refine⟨_,f',m',hk,by simp[CA],fun G w0 μ φ w ρ ys yx ty hM hF hs hx=>?_⟩;cases hs;exact K7 (es:=[]) (draw:=false) hu hz rfl hb.2.2 hb.2.1 (by simpa using hb.1) hM hF (FL _ _ _ _ _ _ _ hM hx) (.inl ⟨rfl,rfl⟩) Ce
      ·cases h
     ·rename_i id;split at h
      ·rename_i sz et es hm;split at h
       ·rename_i hc;obtain⟨rfl,rfl,ar2⟩:=hc;split at h
        ·rename_i hb;obtain⟨f',m',_,hk,CA,_,Ce⟩:=eM h;refine⟨_,f',m',hk,by simp[CA],fun G w0 μ φ w ρ ys yx ty hM hF hs hx=>?_⟩;have Bg:=hM.forget id;have J1:=hF.forget id;have hA:aX E.P μ φ w id (bj E.P et) et es:=hM.dX id _ hm;have eS:0<bj E.P et:=hA.2.2.2.1;refine K7 (draw:=false) hu hz rfl eS hb.2 hb.1 Bg J1 (FL _ _ _ _ _ _ _ hM hx) ?_ Ce;cases hs with
         |yp hg=>have a7:=hA.2.2.2.2.2.2;simp_all
         | @os _ g hg=>obtain⟨c,T,c1,c2,c3,c4,c5⟩:=hA.cells hg;obtain⟨o1,o2⟩:=hM.own id _ g hm (.inl hg);refine .inr ⟨g,(φ id).cap,c,T,by rw[hA.1],o1,o2 rfl,fun j b' hj du=>?_,c1,c2,c3,hA.tG.2,c4,c5⟩;obtain⟨cV,b2,yq,rfl⟩:=gm hj;exact cV (hM.inj j id b2 _ g yq hm (hU.1 du) (.inl hg))
        ·cases h
       ·cases h
      ·cases h
     ·cases h
    ·cases h
  ·cases h
theorem Py{P:Program}{w:World}{dT ty elem:TypeId}{ts:List TypeId}{g amH dCap:Nat}{c:Array Value}{T:TypeId}{sz:Nat}{es new:List PV}{μ:Ro}{yx:Value}(hu:P.underlying dT=some (.slice elem))(rW:sz=bj P elem)(eS:0<sz)(hx:Fa P μ w sz new yx)(hg:w.heap[g]?=some (.cells c T (0,0)))(hle:es.length*sz≤c.size)(hd:amH=es.length)(hC:Cells P μ sz es (c.toList.take (es.length*sz))):∃c':Array Value,(Builtin.copy_ (dT::ts).toArray ty #[.slice (some ⟨g,0,none⟩) amH dCap,yx]).run P w=.ok (goInt ((min new.length es.length:Nat):Int)) (w.setRow g c')∧c'.size=c.size∧Cells P μ sz (new.take es.length++es.drop new.length) (c'.toList.take ((new.take es.length++es.drop new.length).length*sz)):=by
 subst hd;obtain⟨i,hi,hs⟩:=Es (P:=P) (t:=elem) (by omega);have hnl:(new.take es.length++es.drop new.length).length=es.length:=by simp;omega
 rw[hnl];cases hx with
 |none hn=>subst hn;refine⟨c,?_,rfl,by simpa using hC⟩;have:=setRow_self w g c T (0,0) hg;rw[this];simp[Builtin.copy_,run_underlying hu,Builtin.lenOf,Builtin.firstCells,sizeOf,typeInfo,hi,storeCells]
 | @some a cx xs hX QH hcx hcm=>
  have acf:Nat.min new.length es.length=min new.length es.length:=rfl;have hl:(xs.take (min new.length es.length*sz)).length=min new.length es.length*i.size:=by rw[hs,←rW,asQ,hX.len];simp
  have ar3:min new.length es.length*sz≤es.length*sz:=asj _ (Nat.min_le_right _ _);have hf:=run_firstCells_some (P:=P) w i.size (min new.length es.length) a new.length cx (xs.take (min new.length es.length*sz)) hl (fun j v hj=>QH j v (jH hj).2);have hl':(xs.take (min new.length es.length*sz)).length=min new.length es.length*sz:=by rw[hl,hs,rW]
  have uQ:=run_storeCells_at P g 0 T (xs.take (min new.length es.length*sz)) 0 c w hg (by omega) (fun v hv=>by obtain⟨j,hj⟩:=asE hv;exact hX.one j v (jH hj).2);simp only[as5,at3,atC,hl']at uQ;refine⟨(xs.take (min new.length es.length*sz)++c.toList.drop (min new.length es.length*sz)).toArray,?_,?_,?_⟩
  ·have arR:Nat.min new.length es.length=min new.length es.length:=rfl;simp_all[Builtin.copy_,run_underlying,Builtin.lenOf,sizeOf,typeInfo]
  ·grind
  ·have e1:(xs.take (min new.length es.length*sz)++c.toList.drop (min new.length es.length*sz)).take (es.length*sz)=xs.take (min new.length es.length*sz)++(c.toList.take (es.length*sz)).drop (min new.length es.length*sz):=by simp_all[List.take_append,List.drop_take,asG]
   simp only[];rw[e1];have h1:=(hX.take (min new.length es.length)).append (hC.drop (min new.length es.length));have e2:new.take (min new.length es.length)=new.take es.length:=by grind
   have e3:es.drop (min new.length es.length)=es.drop new.length:=by simp
   simp_all
theorem Oc{R:Type}(m:Mem)(sz:Nat)(x:V)(k:List PV→bN→Option R):Pl m sz x k=(ga m sz x).bind fun p=>k p.1 p.2:=by
 cases x with
 |CC id i off=>simp only[Pl,ga];grind
 |_=>simp only[Pl];grind
theorem acg{t:TypeId}{d x:V}{m:Mem}{k:V→Mem→bN→Option R}{r:R}(h:Q3 E t d x m k=some r):∃n id b ft,(∀m2:Mem,(∀x∈((true,id)::ft:bN),m2 x.2=m x.2)→∀(R':Type)(k':V→Mem→bN→Option R'),Q3 E t d x m2 k'=k' (.pv (.int .i64 n)) (aD m2 id b) ((true,id)::ft))∧k (.pv (.int .i64 n)) (aD m id b) ((true,id)::ft)=some r∧∀(G:Nat→Option (List PV))(w0:bO)(μ:Ro)(φ:Nat→aP)(w:World)(ρ:Nat→Value)(f:Fr)(yd yx:Value)(ts:List TypeId)(ty:TypeId),aL E.P G w0 μ φ m w→cp E.P μ φ m f ρ→au E.P μ φ d yd→au E.P μ φ x yx→∃w' φ',(Builtin.copy_ (t::ts).toArray ty #[yd,yx]).run E.P w=.ok (.int .i64 n) w'∧aL E.P G w0 μ φ' (aD m id b) w'∧cp E.P μ φ' (aD m id b) f ρ∧(Lit.int .i64 n).wf=true:=by
 unfold Q3 at h;split at h
 ·rename_i e hu;split at h
  ·rename_i id;split at h
   ·rename_i sz et es hm;split at h
    ·rename_i hc;rw[Oc]at h;obtain⟨⟨new,ft⟩,N9,h⟩:=By.1 h
     ·obtain⟨T9,_,FL⟩:=rY N9;refine⟨_,id,_,ft,fun m2 db R' k'=>?_,h,fun G w0 μ φ w ρ f yd yx ts ty hM hF hd hx=>?_⟩
      ·have h1:=db (true,id) (by simp);simp_all[Q3,IN,Oc,asq]
      ·have hA:aX E.P μ φ w id sz et es:=hM.dX id _ hm;have hS:=FL _ _ _ _ _ _ _ hM hx;have hle:=hA.tG;have hlen:(new.take es.length++es.drop new.length).length=es.length:=by simp;omega
       have Kj:(Lit.int .i64 ((min new.length es.length:Nat):Int)).wf=true:=KW (by omega);cases hd with
       |yp hg=>
        have a7:=hA.2.2.2.2.2.2;rw[hg]at a7;have h0:=a7.1;subst h0;refine⟨w,φ,?_,?_,?_,Kj⟩
        ·obtain⟨i,hi,hs⟩:=Es (P:=E.P) (t:=e) (by have:=hA.2.2.2.1;omega);have Wt:∀x:Addr,(loadCells x 0).run E.P w=.ok #[] w:=fun x=>by rfl
         cases hS with
         |none hn=>subst hn;simp[Builtin.copy_,run_underlying hu,Builtin.lenOf,Builtin.firstCells,sizeOf,typeInfo,hi,hA.1,goInt]
         |some xs hX QH hcx hcm=>simp[Builtin.copy_,run_underlying hu,Builtin.lenOf,Builtin.firstCells,sizeOf,typeInfo,hi,hA.1,Wt,goInt]
        ·have:aD m id (.arr sz et (new.take ([]:List PV).length++([]:List PV).drop new.length))=m:=by
          funext j;by_cases e:j=id
          ·subst e;simp[hm]
          ·rw[aF e]
         rw[this];omega
        ·exact hF.pP (fun _ _ h=>h) .set
       | @os _ g hg=>
        obtain⟨c,T,c1,c2,c3,c4,c5⟩:=hA.cells hg;obtain⟨c',r1,r2,r3⟩:=Py (ts:=ts) (ty:=ty) (dCap:=(φ id).cap) hu hc.1 hA.2.2.2.1 hS c1 c4 hA.1 c5;refine⟨_,φ,r1,hM.write hm rfl hg (nD.setRow (ast _)) setRow_size (fun k hk=>cr hk) ?_ rfl (by simp[bX.names]),hF.pP (fun _ _ h=>h) .set,Kj⟩;refine aX.tH (g:=g) ?_ hA.2.2.1 hA.2.2.2.1 hle.2 (setRow_heap w g c c' T (0,0) c1) (by omega) (by rw[hlen];omega) r3;rw[hlen,←hA.1,←hA.2.1];cases hq:(φ id).toJk with
        |mk a b c d=>simp_all
    ·cases h
   ·cases h
  ·cases h
 ·cases h
end
end Go.Ab
