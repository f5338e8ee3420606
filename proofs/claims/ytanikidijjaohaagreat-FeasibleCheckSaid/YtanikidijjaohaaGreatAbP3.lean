import Derived.Test.YtanikidijjaohaaGreatAbP2
import Derived.Great.BuildSlice
import Derived.Laws.AppendOwn
import Derived.Laws.MakeOwn
set_option linter.unusedVariables false
set_option linter.unusedSimpArgs false
namespace Go.Ab
open Go.RowKit (Below)
structure bX(P:Program)(μ:Ro)(φ:Nat→aA)(m:Mem)(f:Fr)(ρ:Nat→Value):Prop where
 fr:∀t,ae P μ φ (f t) (ρ t)
 live:∀t id,(f t).has id=true→(m id).isSome=true
section
variable {P:Program} {G:Nat→Option (List PV)} {w0:bu} {μ μ':Ro} {φ φ':Nat→aA} {m m':Mem} {w w':World} {f:Fr} {ρ:Nat→Value}
theorem bX.mono(h:bX P μ φ m f ρ)(hμ:∀b o,μ b=some o→μ' b=some o)(hφ:∀id,(m id).isSome=true→φ' id=φ id∧(m' id).isSome=true):bX P μ' φ' m' f ρ:=⟨fun t=>(h.fr t).mono hμ fun id an=>(hφ id (h.live t id an)).1,fun t id an=>(hφ id (h.live t id an)).2⟩
theorem fk{id j:Nat}{b:bF}(h:bl (bB id m) id j=some b):j≠id∧∃b',m j=some b'∧b=fZ id b':=by
 by_cases e:j=id
 ·subst e;simp at h
 ·rw[fo e]at h;exact⟨e,CI h⟩
theorem rL{id j:Nat}(h:j≠id)(hm:(m j).isSome=true):(bl (bB id m) id j).isSome=true:=by obtain⟨b,hb⟩:=agT.1 hm;rw[fo h];simp[bB,hb]
theorem bX.forget(h:bX P μ φ m f ρ)(id:Nat):bX P μ φ (bl (bB id m) id) (eL id f) ρ:=by refine⟨fun t=>(h.fr t).kill id,fun t j hj=>?_⟩;obtain⟨h1,h2⟩:=uP hj;exact rL h2 (h.live t j h1)
theorem aw.put(hM:aw P G w0 μ φ m w){site:Nat}{b:bF}{ph:aA}(hs:m site=none)(Lo:kv w0.heap.size w w')(tq:∀k o,μ k=some o→w'.heap[k]?=some o)(hold:∀id b' g,m id=some b'→b'.dU (φ id) g→w'.heap[g]?=w.heap[g]?)(uN:∀g,b.dU ph g→w0.heap.size≤g∧μ g=none∧∀id b',m id=some b'→¬b'.dU (φ id) g)(Ep:b.apart ph)(hB:gm P μ (fun i=>if i=site then ph else φ i) w' site b)(hn:∀id,b.names id=true→(m id).isSome=true)(Zc:∀st,b=.loop st→∃g rc,ph.g=some g∧w0.rc site=some (g,rc)∧w'.heap[g]?=some (.loop (st.obj rc))):aw P G w0 μ (fun i=>if i=site then ph else φ i) (al m site b) w':=by
 refine⟨hM.below.trans Lo,tq,hM.aH,fun id b' an=>?_,fun id b' g an hg=>?_,fun Sb id2 b1 b2 g h1 h2 g1 g2=>?_,fun id b' an=>?_,fun j cs id hj hh=>?_,hM.base,hM.dx,fun id st an=>?_⟩
 rotate_right
 ·by_cases h:id=site
  ·subst h;rw[bm]at an;simp only[AI]at an;obtain⟨g,rc,h1,h2,h3⟩:=Zc st an;exact⟨g,rc,by simp[h1],h2,h3⟩
  ·rw[ao h]at an;obtain⟨g,rc,h1,h2,h3⟩:=hM.A5 id st an;exact⟨g,rc,by simp only[h,Xq];exact h1,h2,by rw[hold id _ g an (.inl h1)];exact h3⟩
 ·by_cases h:id=site
  ·subst h;rw[bm]at an;simp only[AI]at an;subst an;exact hB
  ·rw[ao h]at an;have hR:=hM.du id b' an;refine hR.cr (fun j hj=>?_) (by simp[h]) (fun _ _ h=>h) (fun g hg=>hold id b' g an hg);have:=hM.Lk an hj;have:j≠site:=fun e=>by subst e;rw[hs]at this;cases this
   simp[this]
 ·by_cases h:id=site
  ·subst h;rw[bm]at an;simp only[AI]at an;subst an;simp only[T1]at hg;exact⟨(uN g hg).1,fun _=>(uN g hg).2.1⟩
  ·rw[ao h]at an;simp only[h,Xq]at hg;exact hM.own id b' g an hg
 ·by_cases e1:Sb=site
  ·by_cases e2:id2=site
   ·rw[e1,e2]
   ·exfalso;subst e1;rw[bm]at h1;simp only[AI]at h1;subst h1;simp only[T1]at g1;rw[ao e2]at h2;simp only[e2,Xq]at g2;exact(uN g g1).2.2 id2 b2 h2 g2
  ·by_cases e2:id2=site
   ·exfalso;subst e2;rw[bm]at h2;simp only[AI]at h2;subst h2;simp only[T1]at g2;rw[ao e1]at h1;simp only[e1,Xq]at g1;exact(uN g g2).2.2 Sb b1 h1 g1
   ·rw[ao e1]at h1;rw[ao e2]at h2;simp only[e1,Xq]at g1;simp only[e2,Xq]at g2;exact hM.inj Sb id2 b1 b2 g h1 h2 g1 g2
 ·by_cases h:id=site
  ·subst h;rw[bm]at an;simp only[AI]at an;subst an;simp only[T1];exact Ep
  ·rw[ao h]at an;simp only[h,Xq];exact hM.apart id b' an
 ·by_cases e:id=site
  ·subst e;simp
  ·rw[ao e];by_cases h:j=site
   ·subst h;rw[bm]at hj;simp only[AI]at hj;subst hj;exact hn id hh
   ·rw[ao h]at hj;exact hM.fy j cs id hj hh
end
section
variable {R:Type} {E:Env}
structure kq(P:Program)(w0:bu)(μ:Ro)(φ:Nat→aA)(m:Mem)(w w':World)(site:Nat)(b:bF)(ph:aA):Prop where
 below:kv w0.heap.size w w'
 ro:∀k o,μ k=some o→w'.heap[k]?=some o
 lR:∀id b' g,m id=some b'→b'.dU (φ id) g→w'.heap[g]?=w.heap[g]?
 own:∀g,ph.g=some g→w0.heap.size≤g∧μ g=none∧∀id b',m id=some b'→¬b'.dU (φ id) g
 rep:∀φ',φ' site=ph→(∀id,b.names id=true→φ' id=φ id)→gm P μ φ' w' site b
 names:∀id,b.names id=true→(m id).isSome=true
 lp:∀st,b=.loop st→∃g rc,ph.g=some g∧w0.rc site=some (g,rc)∧w'.heap[g]?=some (.loop (st.obj rc)):=by intro st h;cases h
theorem dX{draw:Bool}{site:Nat}{b:bF}{f:Fr}{m:Mem}{k:Fr→Mem→bp→Option R}{r:R}(h:fresh draw site b f m k=some r)(KX:∀i off,b.rowAt i off=true→False:=by intro i off h;simp[bF.rowAt]at h):∃f' m',(∀(R':Type)(k':Fr→Mem→bp→Option R'),fresh draw site b f m k'=k' f' m' [(true,site)])∧k f' m' [(true,site)]=some r∧m' site=some b∧(draw=true→m site=none∧f'=f∧m'=al m site b)∧(∀(P:Program)(G:Nat→Option (List PV))(w0:bu)(μ:Ro)(φ:Nat→aA)(w w':World)(ρ:Nat→Value)(ph:aA),aw P G w0 μ φ m w→bX P μ φ m f ρ→kq P w0 μ φ m w w' site b ph→∃φ',φ' site=ph∧aw P G w0 μ φ' m' w'∧bX P μ φ' m' f' ρ):=by
 unfold fresh at h;cases hs:m site with
 |none=>
  simp only[hs]at h;refine⟨f,al m site b,fun R' k'=>by simp only[fresh,hs],h,by simp,fun _=>⟨rfl,rfl,rfl⟩,fun P G w0 μ φ w w' ρ ph hM hF hp=>?_⟩;have Fh:∀id,(m id).isSome=true→id≠site:=fun id an e=>by subst e;rw[hs]at an;cases an
  refine⟨fun i=>if i=site then ph else φ i,by simp,hM.put hs hp.below hp.ro hp.lR (fun g hg=>hp.own g (nH KX hg)) (pV KX) (hp.rep _ (by simp) fun id an=>by simp[Fh id (hp.names id an)]) hp.names hp.lp,?_⟩;exact hF.mono (fun _ _ h=>h) fun id an=>⟨by simp[Fh id an],by rw[ao (Fh id an)];exact an⟩
 |some b0=>
  simp only[hs]at h;split at h
  ·cases h
  ·rename_i hc;simp only[afk,ajV,ahM]at hc;refine⟨eL site f,al (bB site m) site b,fun R' k'=>by simp only[fresh,hs];simp[hc],h,by simp,fun hd=>(by rw[hc.1]at hd;cases hd),fun P G w0 μ φ w w' ρ ph hM hF hp=>?_⟩;have tx:=hM.forget site;have BK:=hF.forget site;have hs1:bl (bB site m) site site=none:=by simp
   have Fh:∀id,(bl (bB site m) site id).isSome=true→id≠site:=fun id an e=>by subst e;simp at an
   have hnm:∀id,b.names id=true→id≠site:=fun id an e=>by subst e;rw[hc.2]at an;cases an
   refine⟨fun i=>if i=site then ph else φ i,by simp,?_,?_⟩
   ·rw[←xe];refine tx.put hs1 hp.below hp.ro (fun id b' g an hg=>?_) (fun g hg=>?_) (pV KX) (hp.rep _ (by simp) fun id an=>by simp[hnm id an]) (fun id an=>rL (hnm id an) (hp.names id an)) hp.lp
    ·obtain⟨_,b2,tf,rfl⟩:=fk an;exact hp.lR id b2 g tf (fU.1 hg)
    ·obtain⟨h1,h2,h3⟩:=hp.own g (nH KX hg);refine⟨h1,h2,fun id b' an ho=>?_⟩;obtain⟨_,b2,tf,rfl⟩:=fk an;exact h3 id b2 tf (fU.1 ho)
   ·rw[←xe];exact BK.mono (fun _ _ h=>h) fun id an=>⟨by simp[Fh id an],by rw[ao (Fh id an)];exact an⟩
theorem kq.alloc{P:Program}{G:Nat→Option (List PV)}{w0:bu}{μ:Ro}{φ:Nat→aA}{m:Mem}{w:World}{site:Nat}{b:bF}{ph:aA}{o:Obj}(hM:aw P G w0 μ φ m w)(V3:ph.g=some w.heap.size)(rep:∀φ',φ' site=ph→(∀id,b.names id=true→φ' id=φ id)→gm P μ φ' (w.alloc o) site b)(names:∀id,b.names id=true→(m id).isSome=true)(lp:∀st,b=.loop st→∃g rc,ph.g=some g∧w0.rc site=some (g,rc)∧(w.alloc o).heap[g]?=some (.loop (st.obj rc)):=by intro st h;cases h):kq P w0 μ φ m w (w.alloc o) site b ph:=by
 have mP:w0.heap.size≤w.heap.size:=hM.below.size;refine⟨(kv.refl _ w).alloc mP o,fun k o' hk=>?_,fun id b' g an hg=>kv.heap_alloc w o g ((hM.du id b' an).CH hg),fun g hg=>?_,rep,names,lp⟩
 ·have:=hM.ro k o' hk;rw[kv.heap_alloc w o k (YH.1 this).1];exact this
 ·rw[V3]at hg;simp only[AI]at hg;subst hg;refine⟨mP,?_,fun id b' an hg=>?_⟩
  ·cases hq:μ w.heap.size with
   |none=>rfl
   |some o'=>have:=hM.ro _ _ hq;simp at this
  ·have:=(hM.du id b' an).CH hg;omega
theorem fp(w:World)(o:Obj):(w.alloc o).heap[w.heap.size]?=some o:=heap_alloc_new w o
variable{t:TypeId}
theorem eu{cs:List V}(h:c7 E t=some cs):∃i z,E.P.info? t=some i∧i.zero=some z∧i.size=aR E.P t∧cs.length=aR E.P t∧z.cells.size=aR E.P t∧(∀id,ck id cs=false)∧(∀(μ:Ro)(φ:Nat→aA)(i:Nat)u y,cs[i]?=some u→z.cells[i]?=some y→ae E.P μ φ u y)∧(∀(i:Nat)(y:Value),z.cells[i]?=some y→y.oneCell'=true):=by
 unfold c7 zeroV at h;cases hi:E.P.info? t with
 |none=>simp[hi]at h
 |some i=>
  cases hz:i.zero with
  |none=>simp[hi,hz]at h
  |some z=>
   simp only[hi,hz,agO,adN]at h;obtain⟨h1,h2,h3⟩:=toCells_ok h;obtain⟨h4,_,h6⟩:=h3 E.P (fun _=>none) (fun _=>default) z (sx z);refine⟨i,z,rfl,hz,by simp[aR,hi],h1,h4,fun id=>?_,fun μ φ i u y hu hy=>(h3 E.P μ φ z (sx z)).2.1 i u y hu hy,h6⟩;cases hh:ck id cs with
   |false=>rfl
   |true=>have:=h2 id hh;rw[E5]at this;cases this
variable{P:Program}{w:World}
theorem nI{i:TypeInfo}{z:Value}(hi:P.info? t=some i)(hz:i.zero=some z):(zeroValue t).run P w=.ok z w:=by simp[zeroValue,typeInfo,hi,hz]
theorem Ac{i:TypeInfo}{z:Value}(hi:P.info? t=some i)(hz:i.zero=some z):(Instr.alloc t true (.tuple #[])).run P w=.ok (.pointer (some ⟨w.heap.size,0,none⟩)) (w.alloc (.cells z.cells t)):=by simp[Instr.alloc,nI hi hz,newVar,newRow]
theorem Pp{v:Value}:(Instr.box t v).run P w=.ok (.pointer (some ⟨w.heap.size,0,none⟩)) (w.alloc (.cells v.cells t)):=by simp[Instr.box,newVar,newRow]
variable{c:Array Value}
theorem kq.box{G:Nat→Option (List PV)}{w0:bu}{μ:Ro}{φ:Nat→aA}{m:Mem}{site:Nat}{cs:List V}{T:TypeId}(hM:aw P G w0 μ φ m w)(hl:c.size=cs.length)(hv:∀(i:Nat)u y,cs[i]?=some u→c[i]?=some y→ae P μ φ u y)(h1:∀(i:Nat)(y:Value),c[i]?=some y→y.oneCell'=true)(hn:∀id,ck id cs=true→(m id).isSome=true):kq P w0 μ φ m w (w.alloc (.cells c T)) site (.box cs) (BI (some w.heap.size) 0 cs.length 0):=by refine kq.alloc hM (by rfl) (fun φ' hφ QI=>⟨w.heap.size,c,T,by rw[hφ],fp w _,hl,fun i u y hu hy=>?_,h1,by rw[hφ]⟩) hn;exact(hv i u y hu hy).mono (fun _ _ h=>h) fun id an=>QI id (bI (aaQ hu) an)
theorem j8(h:aR P t≠0):(P.info? t).map (·.size)=some (aR P t):=by obtain⟨i,hi,hs⟩:=wA h;simp[hi,hs]
theorem c8{T:Type}{cs new:List T}{off i:Nat}{x:T}(hb:off+new.length≤cs.length)(h:(bH cs off new)[i]?=some x):(off≤i∧i<off+new.length∧new[i-off]?=some x)∨((i<off∨off+new.length≤i)∧cs[i]?=some x):=by
 rw[dw]at h;rw[ahk,ag7]at h;have ht:(cs.take off).length=off:=by simp;omega
 rw[ht]at h;split at h
 ·rename_i hi;exact .inr ⟨.inl hi,(eC h).2⟩
 ·rw[ag7]at h;split at h
  ·exact .inl ⟨by omega,by omega,h⟩
  ·rw[aja]at h;refine .inr ⟨.inr (by omega),?_⟩;rw[←h];congr 1;omega
theorem cw{T:Type}{cs new:List T}{off:Nat}(hb:off+new.length≤cs.length):(bH cs off new).length=cs.length:=by simp[dw];omega
variable{g:Nat}
theorem fV{v:Value}{o:Nat}{T:TypeId}(hz:v.cells.size=aR P t)(hi:(P.info? t).map (·.size)=some (aR P t))(hg:w.heap[g]?=some (.cells c T (0,0)))(hb:o+v.cells.size≤c.size)(h1:∀(i:Nat)(y:Value),v.cells[i]?=some y→y.oneCell'=true):(Instr.storeAt t (.pointer (some ⟨g,o,none⟩)) v).run P w=.ok () (w.setRow g (bH c.toList o v.cells.toList).toArray):=by
 have pw:=run_storeCells_at P g o T v.cells.toList 0 c w hg (by simpa using hb) (fun x hx=>by obtain⟨i,hi⟩:=ag4 hx;exact h1 i x (by simpa using hi));have mP:(sizeOf t).run P w=.ok (aR P t) w:=by
  cases hq:P.info? t with
  |none=>simp[hq]at hi
  |some i=>simp[sizeOf,typeInfo,hq,aR]
 simp only[Instr.storeAt,Instr.sureAddr,storeVar,Sem.run_bind,Sem.run_pure,Result.andThen_ok,mP,hz,aj0,not_true_eq_false,Xq,pw,ahL];rw[dw];try rfl
variable{xs:Array Value}
theorem bY{k:Nat}(h:k≠g):(w.setRow g xs).heap[k]?=w.heap[k]?:=by unfold World.setRow;simp[aia,Ne.symm h]
theorem setRow_size:(w.setRow g xs).heap.size=w.heap.size:=by simp[World.setRow]
theorem kv.setRow{B:Nat}(h:B≤g):kv B w (w.setRow g xs):=⟨⟨rfl,rfl,rfl,Nat.le_of_eq setRow_size.symm,fun k hk=>bY (by omega)⟩,fun _=>agM _⟩
end
section
variable {P:Program} {G:Nat→Option (List PV)} {w0:bu} {μ:Ro} {φ:Nat→aA} {m m':Mem} {w:World}
def jN(m m':Mem):Prop:=∀id,(m id).isSome=true→(m' id).isSome=true
theorem jN.refl(m:Mem):jN m m:=fun _ h=>h
theorem jN.trans{a b c:Mem}(h:jN a b)(k:jN b c):jN a c:=fun id an=>k id (h id an)
variable{id:Nat}
theorem jN.set{b:bF}:jN m (al m id b):=fun j hj=>by
 by_cases e:j=id
 ·subst e;simp
 ·rw[ao e];omega
theorem bX.l0{f:Fr}{ρ:Nat→Value}{μ':Ro}(h:bX P μ φ m f ρ)(hμ:∀b o,μ b=some o→μ' b=some o)(hl:jN m m'):bX P μ' φ m' f ρ:=h.mono hμ fun id an=>⟨rfl,hl id an⟩
variable{v:V}{p:PV}
theorem Pq(h:Ck m v=some (p,m')):jN m m'∧∀(P:Program)(G:Nat→Option (List PV))(w0:bu)(μ:Ro)(φ:Nat→aA)(w:World)(x:Value),aw P G w0 μ φ m w→ae P μ φ v x→∃μ',(∀b o,μ b=some o→μ' b=some o)∧aw P G w0 μ' φ m' w∧af P μ' p x:=by
 unfold Ck at h;split at h
 ·simp only[AI,Xp]at h;obtain⟨rfl,rfl⟩:=h;exact⟨.refl _,fun P G w0 μ φ w x hM hx=>⟨μ,fun _ _ h=>h,hM,by cases hx with|pv hx=>omega⟩⟩
 ·simp only[AI,Xp]at h;obtain⟨rfl,rfl⟩:=h;exact⟨.refl _,fun P G w0 μ φ w x hM hx=>⟨μ,fun _ _ h=>h,hM,by cases hx;exact .ko⟩⟩
 ·rename_i id;split at h
  ·rename_i s et es hm;simp only[AI,Xp]at h;obtain⟨rfl,rfl⟩:=h;refine⟨.set,fun P G w0 μ φ w x hM hx=>⟨_,lr hM (φ id).g,hM.freeze hm,?_⟩⟩;refine(hM.arr (.inl hm)).full hM hx (lr hM _) fun g hg=>?_;simp[oV,hg]
  ·rename_i s et es hm;simp only[AI,Xp]at h;obtain⟨rfl,rfl⟩:=h;refine⟨.refl _,fun P G w0 μ φ w x hM hx=>⟨μ,fun _ _ h=>h,hM,?_⟩⟩;refine(hM.arr (.inr hm)).full hM hx (fun _ _ h=>h) fun g hg=>?_;obtain⟨o,ho⟩:=agT.1 ((hM.du id _ hm).2 g hg);rw[ho,hM.ro _ _ ho]
  ·rename_i s et es hm;simp only[AI,Xp]at h;obtain⟨rfl,rfl⟩:=h;refine⟨.set,fun P G w0 μ φ w x hM hx=>⟨_,pW hM _,hM.Po hm,?_⟩⟩;have SR:=hM.Po hm;have hF:aK P _ φ w id s et (es.map PV.strip):=(SR.du id _ (bm _ _ _)).1;refine hF.Fb (hx.w8 (pW hM _)) (fun _ _ h=>h) fun g hg=>?_;unfold sB;rw[BY (show(bF.nest s et es).dU (φ id) g from .inl hg)]
  ·cases h
 ·cases h
theorem Fi(h:Ck cW v=some (p,m')):∀(P:Program)(μ:Ro)(φ:Nat→aA)(x:Value),ae P μ φ v x→af P μ p x:=by
 unfold Ck at h;split at h
 ·simp only[AI,Xp]at h;obtain⟨rfl,rfl⟩:=h;exact fun P μ φ x hx=>by cases hx with|pv hx=>omega
 ·simp only[AI,Xp]at h;obtain⟨rfl,rfl⟩:=h;exact fun P μ φ x hx=>by cases hx;exact .ko
 ·simp[cW]at h
 ·cases h
theorem pX(h:Ck cW v=some (p,m')):m'=cW:=by unfold Ck at h;grind [Option.some.injEq,Prod.mk.injEq,cW]
theorem CK:∀{cs:List V}{m m':Mem}{ps:List PV},lJ m cs=some (ps,m')→jN m m'∧ps.length=cs.length∧∀(P:Program)(G:Nat→Option (List PV))(w0:bu)(μ:Ro)(φ:Nat→aA)(w:World)(X:Nat→Value),aw P G w0 μ φ m w→(∀(i:Nat)u,cs[i]?=some u→ae P μ φ u (X i))→∃μ',(∀b o,μ b=some o→μ' b=some o)∧aw P G w0 μ' φ m' w∧∀(i:Nat)p,ps[i]?=some p→af P μ' p (X i)
 |[],m,m',ps,h=>by simp only[lJ,AI,Xp]at h;obtain⟨rfl,rfl⟩:=h;exact⟨.refl _,rfl,fun P G w0 μ φ w X hM _=>⟨μ,fun _ _ h=>h,hM,by simp⟩⟩
 |c::r,m,m',ps,h=>by
  simp only[lJ]at h;split at h
  ·rename_i p m1 h1;split at h
   ·rename_i XT m2 h2;simp only[AI,Xp]at h;obtain⟨rfl,rfl⟩:=h;obtain⟨a1,a2⟩:=Pq h1;obtain⟨b1,b2,b3⟩:=CK h2;refine⟨a1.trans b1,by simp[b2],fun P G w0 μ φ w X hM hx=>?_⟩;obtain⟨μ1,c1,c2,c3⟩:=a2 P G w0 μ φ w (X 0) hM (hx 0 c (by simp));obtain⟨μ2,d1,d2,d3⟩:=b3 P G w0 μ1 φ w (fun i=>X (i+1)) c2 (fun i u hu=>(hx (i+1) u (by simpa using hu)).w8 c1);refine⟨μ2,fun b o h=>d1 b o (c1 b o h),d2,fun i q hq=>?_⟩;cases i with
    |zero=>simp at hq;subst hq;exact c3.mono d1
    |succ i=>simp_all
   ·cases h
  ·cases h
theorem xI:∀{cs:List V}{m':Mem}{ps:List PV},lJ cW cs=some (ps,m')→ps.length=cs.length∧∀(P:Program)(μ:Ro)(φ:Nat→aA)(X:Nat→Value),(∀(i:Nat)u,cs[i]?=some u→ae P μ φ u (X i))→∀(i:Nat)p,ps[i]?=some p→af P μ p (X i)
 |[],m',ps,h=>by simp only[lJ,AI,Xp]at h;simp_all
 |c::r,m',ps,h=>by
  simp only[lJ]at h;split at h
  ·rename_i p m1 h1;split at h
   ·rename_i XT m2 h2;simp only[AI,Xp]at h;obtain⟨rfl,rfl⟩:=h;have:=pX h1;subst this;obtain⟨b2,b3⟩:=xI h2;refine⟨by simp[b2],fun P μ φ X hx i q hq=>?_⟩;cases i with
    |zero=>simp at hq;subst hq;exact Fi h1 P μ φ _ (hx 0 c (by simp))
    |succ i=>exact b3 P μ φ (fun i=>X (i+1)) (fun i u hu=>hx (i+1) u (by simpa using hu)) i q (by simpa using hq)
   ·cases h
  ·cases h
structure rM(P:Program)(μ:Ro)(n:Nat)(p:PV)(x:Value):Prop where
 len:p.cells.length=n
 size:x.cells.size=n
 rep:∀(j:Nat)q y,p.cells[j]?=some q→x.cells[j]?=some y→af P μ q y
 one:∀(j:Nat)y,x.cells[j]?=some y→y.oneCell'=true
variable{n:Nat}{agg:Bool}
theorem xf{P:Program}{μ:Ro}{ps:List PV}{x:Value}(hp:(if agg then some (.agg ps)else match ps with|[p]=>some p|_=>none)=some p)(hl:ps.length=n)(hs:x.cells.size=n)(hr:∀(j:Nat)q y,ps[j]?=some q→x.cells[j]?=some y→af P μ q y)(h1:∀(j:Nat)y,x.cells[j]?=some y→y.oneCell'=true):rM P μ n p x:=by
 have hc:p.cells=ps:=by
  cases agg with
  |true=>simp at hp;subst hp;rfl
  |false=>
   simp only[AT,Xq]at hp;split at hp
   ·rename_i q;simp only[AI]at hp;subst hp;have bS:0<x.cells.size:=by simp at hl;omega
    have hr0:=hr 0 q _ (by simp) (OF bS);have Vy:=h1 0 _ (OF bS);generalize x.cells[0]=y at hr0 Vy;cases q<;>first|rfl|(cases hr0;simp[Value.oneCell']at Vy)
   ·cases hp
 exact⟨by rw[hc];omega,hs,by rw[hc];omega,h1⟩
theorem CL{m m':Mem}(h:j4 m n agg v=some (p,m')):jN m m'∧∀(P:Program)(G:Nat→Option (List PV))(w0:bu)(μ:Ro)(φ:Nat→aA)(w:World)(x:Value),aw P G w0 μ φ m w→ae P μ φ v x→∃μ',(∀b o,μ b=some o→μ' b=some o)∧aw P G w0 μ' φ m' w∧rM P μ' n p x:=by
 unfold j4 at h;split at h
 ·rename_i cs hc;obtain⟨c1,c2,c3⟩:=toCells_ok hc;split at h
  ·rename_i ps m1 hf;obtain⟨f1,f2,f3⟩:=CK hf;have hp:(if agg then some (.agg ps)else match ps with|[p]=>some p|_=>none)=some p∧m1=m':=by grind
   obtain⟨hp,rfl⟩:=hp;refine⟨f1,fun P G w0 μ φ w x hM hx=>?_⟩;obtain⟨d1,d2,d3⟩:=c3 P μ φ x hx;have hX:∀(i:Nat),i<cs.length→x.cells[i]?=some (x.cells.getD i undef):=fun i hi=>by simp_all
   obtain⟨μ',e1,e2,e3⟩:=f3 P G w0 μ φ w (fun i=>x.cells.getD i undef) hM fun i u hu=>d2 i u _ hu (hX i (HO.1 hu).1);refine⟨μ',e1,e2,xf hp (by omega) d1 (fun j q y hq hy=>?_) d3⟩;grind
  ·cases h
 ·cases h
theorem yZ{m':Mem}(h:j4 cW n agg v=some (p,m')):∀(P:Program)(μ:Ro)(φ:Nat→aA)(x:Value),ae P μ φ v x→rM P μ n p x:=by
 unfold j4 at h;split at h
 ·rename_i cs hc;obtain⟨c1,c2,c3⟩:=toCells_ok hc;split at h
  ·rename_i ps m1 hf;obtain⟨f2,f3⟩:=xI hf;have hp:(if agg then some (.agg ps)else match ps with|[p]=>some p|_=>none)=some p:=by grind
   refine fun P μ φ x hx=>?_;obtain⟨d1,d2,d3⟩:=c3 P μ φ x hx;have hX:∀(i:Nat),i<cs.length→x.cells[i]?=some (x.cells.getD i undef):=fun i hi=>by simp_all
   have e3:=f3 P μ φ (fun i=>x.cells.getD i undef) fun i u hu=>d2 i u _ hu (hX i (HO.1 hu).1);refine xf hp (by omega) d1 (fun j q y hq hy=>?_) d3;grind
  ·cases h
 ·cases h
theorem Ix{draw:Bool}{m m':Mem}(h:uH draw m n agg v=some (p,m')):jN m m'∧(draw=true→m'=m∧∀m2:Mem,uH true m2 n agg v=some (p,m2))∧∀(P:Program)(G:Nat→Option (List PV))(w0:bu)(μ:Ro)(φ:Nat→aA)(w:World)(x:Value),aw P G w0 μ φ m w→ae P μ φ v x→∃μ',(∀b o,μ b=some o→μ' b=some o)∧aw P G w0 μ' φ m' w∧rM P μ' n p x:=by
 unfold uH at h;split at h
 ·rename_i hd;split at h
  ·rename_i q m1 hf;simp only[AI,Xp]at h;obtain⟨rfl,rfl⟩:=h;exact⟨.refl _,fun _=>⟨rfl,fun m2=>by simp[uH,hf]⟩,fun P G w0 μ φ w x hM hx=>⟨μ,fun _ _ h=>h,hM,yZ hf P μ φ x hx⟩⟩
  ·cases h
 grind [CL,absurd]
theorem aK.set{P:Program}{μ:Ro}{φ:Nat→aA}{w:World}{id sz:Nat}{et:TypeId}{es:List PV}(hA:aK P μ φ w id sz et es){g:Nat}(hg:(φ id).g=some g){i off n:Nat}{e p q:PV}{x:Value}(he:es[i]?=some e)(hE:rM P μ n p x)(hb:off+n≤sz)(hq:q.cells=bH (aC sz e) off p.cells):∃c T,w.heap[g]?=some (.cells c T (0,0))∧i*sz+off+x.cells.size≤c.size∧aK P μ φ (w.setRow g (bH c.toList (i*sz+off) x.cells.toList).toArray) id sz et (es.set i q):=by
 obtain⟨a1,a2,a3,a4,a5,a6,a7⟩:=hA;rw[hg]at a7;obtain⟨c,T,c1,c2,c3,c4,c5⟩:=a7;have hi:i<es.length:=(HO.1 he).1;have KY:i*sz+off+n≤c.size:=by have:(i+1)*sz≤(φ id).cap*sz:=aaP _ (by omega);grind
 have Fj:x.cells.toList.length=n:=by simpa using hE.size
 have B3:(aC sz e).length=sz:=aW _ _;have Y1:q.cells.length=sz:=by rw[hq,cw (by rw[B3,hE.len];omega),B3]
 have sk:(bH c.toList (i*sz+off) x.cells.toList).length=c.size:=by simp_all[cw]
 have tz:∀(i':Nat)e',(es.set i q)[i']?=some e'→(i'=i∧e'=q)∨(i'≠i∧es[i']?=some e'):=by grind
 refine⟨c,T,c1,by rw[hE.size];omega,?_⟩;refine⟨by simp[a1],a2,a3,a4,fun i' e' h'=>?_,a6,?_⟩
 ·grind
 ·rw[hg];refine⟨_,T,setRow_heap w g c _ T (0,0) c1,by simp[sk,c2],by simpa using c3,fun i' e' j p' x' h' hj hx=>?_,fun j x' hj hx=>?_⟩
  ·rw[ag8]at hx;rcases c8 (by simp[hE.size];omega) hx with⟨b1,b2,b3⟩|⟨b1,b2⟩
   ·rw[Fj]at b2;have Sd:i'=i∧e'=q:=by
     rcases tz i' e' h' with h|⟨cL,h'⟩
     ·omega
     ·exfalso;have Ad:=(HO.1 hj).1;rw[a5 i' e' h']at Ad;rcases Nat.lt_or_gt_of_ne cL with bS|hgt
      ·have:(i'+1)*sz≤i*sz:=aaP _ bS;grind
      ·have:(i+1)*sz≤i'*sz:=aaP _ hgt;grind
    obtain⟨rfl,rfl⟩:=Sd;rw[hq]at hj;rcases c8 (by rw[B3,hE.len];omega) hj with⟨d1,d2,d3⟩|⟨d1,d2⟩
    ·exact hE.rep _ _ _ d3 (by rw[←agR,←b3];congr 1;omega)
    ·exfalso;rw[hE.len]at d1;omega
   ·rw[Fj]at b1;have b2:c[i'*sz+j]?=some x':=by simpa using b2
    rcases tz i' e' h' with⟨rfl,rfl⟩|⟨cL,h'⟩
    ·rw[hq]at hj;rcases c8 (by rw[B3,hE.len];omega) hj with⟨d1,d2,d3⟩|⟨d1,d2⟩
     ·exfalso;rw[hE.len]at d2;omega
     grind [dK]
    grind
  ·rw[ag8]at hx;rw[aiF]at hj;rcases c8 (by simp[hE.size];omega) hx with⟨b1,b2,b3⟩|⟨b1,b2⟩
   ·exact hE.one _ x' (by simpa using b3)
   grind
variable{off:Nat}
theorem GM{s0:Nat}{e:PV}(he:e.cells.length=s0)(ho:off<s0)(hp:∀cs,p≠.agg cs):(setRow s0 e off p).cells=e.cells.set off p:=by
 have h1:p.cells=[p]:=by cases p<;>first|rfl|exact absurd rfl (hp _)
 unfold setRow;split
 ·rename_i hs;subst hs;have:off=0:=by omega
  subst this;match hc:e.cells,he with
  |[c],_=>simp[h1]
 simp_all[PV.cells,dK]
theorem CM{s:Nat}{e:PV}(h1:p.cells.length=n)(h2:e.cells.length=s):(setCells s e off n p).cells=bH (aC s e) off p.cells:=by
 unfold setCells;split
 ·rename_i h;obtain⟨rfl,rfl⟩:=h;simp_all[dw,aW]
 rfl
theorem aX.change{P:Program}{μ μ':Ro}{φ φ':Nat→aA}{w w':World}{sz:Nat}{et:TypeId}{es es':List PV}(h:aX P μ φ w id sz et es)(hlen:es'.length=es.length)(sC:∀(i:Nat)e,es'[i]?=some e→e.cells.length=sz)(hφ:(φ' id).toA6=(φ id).toA6)(hw:∀g,(φ id).g=some g→w'.heap[g]?=w.heap[g]?)(hc:∀(i:Nat)e'(j:Nat)p' g c T x,es'[i]?=some e'→e'.cells[j]?=some p'→(φ id).g=some g→w.heap[g]?=some (.cells c T (0,0))→c[i*sz+j]?=some x→(∀e p,es[i]?=some e→e.cells[j]?=some p→dW P μ ((φ id).row i j) w p x)→dW P μ' ((φ' id).row i j) w' p' x):aX P μ' φ' w' id sz et es':=by
 obtain⟨a1,a2,a3,a4,a5,a6,a7⟩:=h;unfold aX;rw[hφ];refine⟨by omega,a2,a3,a4,sC,a6,?_⟩;cases hg:(φ id).g with
 |none=>simp_all
 |some g=>grind
theorem eM{T:Type}{l:List T}{i i':Nat}{q e':T}(h:(l.set i q)[i']?=some e'):(i'=i∧e'=q)∨(i'≠i∧l[i']?=some e'):=by grind
theorem aX.set{P:Program}{μ:Ro}{φ:Nat→aA}{w:World}{sz:Nat}{et:TypeId}{es:List PV}(hA:aX P μ φ w id sz et es)(Ep:(bF.nest sz et es).apart (φ id)){g:Nat}(hg:(φ id).g=some g){i:Nat}{e q:PV}{x:Value}(he:es[i]?=some e)(hE:rM P μ n p x)(hb:off+n≤sz)(hq:q.cells=bH (aC sz e) off p.cells):∃c T,w.heap[g]?=some (.cells c T (0,0))∧i*sz+off+x.cells.size≤c.size∧aX P μ φ (w.setRow g (bH c.toList (i*sz+off) x.cells.toList).toArray) id sz et (es.set i q)∧∀i' rH,(bF.nest sz et (es.set i q)).rowAt i' rH=true→(bF.nest sz et es).rowAt i' rH=true:=by
 have xc:=hA;obtain⟨a1,a2,a3,a4,a5,a6,a7⟩:=hA;rw[hg]at a7;obtain⟨c,T,c1,c2,c3,c4,c5⟩:=a7;have hi:i<es.length:=(HO.1 he).1;have KY:i*sz+off+n≤c.size:=by have:(i+1)*sz≤(φ id).cap*sz:=aaP _ (by omega);grind
 have Fj:x.cells.toList.length=n:=by simpa using hE.size
 have B3:(aC sz e).length=sz:=aW _ _;have Y1:q.cells.length=sz:=by rw[hq,cw (by rw[B3,hE.len];omega),B3]
 have sk:(bH c.toList (i*sz+off) x.cells.toList).length=c.size:=by simp_all[cw]
 have cL:∀i' j' g',(bF.nest sz et es).rowAt i' j'=true→((φ id).row i' j').g=some g'→g'≠g:=fun i' j' g' hr cv e=>(Ep i' j' g' hr cv).1 (by rw[e];omega);have pw:∀{i' j':Nat}{e' p':PV}{x':Value}{l:List Value},es[i']?=some e'→e'.cells[j']?=some p'→dW P μ ((φ id).row i' j') w p' x'→dW P μ ((φ id).row i' j') (w.setRow g l.toArray) p' x':=fun h1 h2 h3=>h3.cr (fun _ _ h=>h) fun hr g' cv=>bY (cL _ _ g' (by rw[dq h1 h2];omega) cv);refine⟨c,T,c1,by rw[hE.size];omega,⟨by simp[a1],a2,a3,a4,fun i' e' h'=>?_,a6,?_⟩,?_⟩
 ·grind
 ·rw[hg];refine⟨_,T,setRow_heap w g c _ T (0,0) c1,by simp[sk,c2],by simpa using c3,fun i' e' j p' x' h' hj hx=>?_,fun j x' hj hx=>?_⟩
  ·rw[ag8]at hx;rcases c8 (by simp[hE.size];omega) hx with⟨b1,b2,b3⟩|⟨b1,b2⟩
   ·rw[Fj]at b2;have Sd:i'=i∧e'=q:=by
     rcases eM h' with h|⟨cL,h'⟩
     ·omega
     ·exfalso;have Ad:=(HO.1 hj).1;rw[a5 i' e' h']at Ad;rcases Nat.lt_or_gt_of_ne cL with bS|hgt
      ·have:(i'+1)*sz≤i*sz:=aaP _ bS;grind
      ·have:(i+1)*sz≤i'*sz:=aaP _ hgt;grind
    obtain⟨rfl,rfl⟩:=Sd;rw[hq]at hj;rcases c8 (by rw[B3,hE.len];omega) hj with⟨d1,d2,d3⟩|⟨d1,d2⟩
    ·exact .pure (hE.rep _ _ _ d3 (by rw[←agR,←b3];congr 1;omega))
    ·exfalso;rw[hE.len]at d1;omega
   ·rw[Fj]at b1;have b2:c[i'*sz+j]?=some x':=by simpa using b2
    rcases eM h' with⟨rfl,rfl⟩|⟨cL,h'⟩
    ·rw[hq]at hj;rcases c8 (by rw[B3,hE.len];omega) hj with⟨d1,d2,d3⟩|⟨d1,d2⟩
     ·exfalso;rw[hE.len]at d2;omega
     grind [dK]
    simp_all
  ·rw[ag8]at hx;rw[aiF]at hj;rcases c8 (by simp[hE.size];omega) hx with⟨b1,b2,b3⟩|⟨b1,b2⟩
   ·exact hE.one _ x' (by simpa using b3)
   grind
 ·intro i' rH hr;rcases jM hr with⟨_,_,_,e',s,rs,gX,h',sD⟩|⟨_,_,_,_,_,_,gX,_⟩
  ·simp only[bF.nest.injEq]at gX;obtain⟨rfl,rfl,rfl⟩:=gX;rcases eM h' with⟨rfl,rfl⟩|⟨cL,h'⟩
   ·rw[hq]at sD;rcases c8 (by rw[B3,hE.len];omega) sD with⟨d1,d2,d3⟩|⟨d1,d2⟩
    ·exfalso;have bS:rH-off<x.cells.size:=by rw[hE.size,←hE.len];omega
     exact absurd (hE.rep _ _ _ d3 (OF bS)).B2 (by simp[PV.isRow])
    ·rw[dK (a5 i' e he)]at d2;rw[dq he d2];rfl
   ·rw[dq h' sD];rfl
  ·cases gX
end
section
variable {R:Type} {E:Env}
theorem xg{p:PV}:∀{n o j:Nat}{q:PV},(dO p o n)[j]?=some q→j<n∧q=cell p (o+j)
 |0,o,j,q,h=>by simp[dO]at h
 |n+1,o,0,q,h=>⟨by omega,by simpa[dO]using h.symm⟩
 |n+1,o,j+1,q,h=>by simp only[dO,aim]at h;obtain⟨h1,h2⟩:=xg h;grind
theorem rN{p:PV}:∀{n o:Nat},(dO p o n).length=n
 |0,_=>rfl
 |n+1,o=>by simp[dO,rN]
variable{n:Nat}
theorem xJ{s i:Nat}{p e:PV}(h:(ff s n p)[i]?=some e):i<n∧e=.agg (dO p (i*s) s):=by unfold ff at h;grind
theorem SS{p:PV}{u:Unit}(h:asAgg n p=some u):∃cs,p=.agg cs∧cs.length=n:=by unfold asAgg at h;grind
theorem QJ{t:TypeId}{i off s:Nat}{et:TypeId}{b:Option bF}{x:V}{p:PV}(h:Lb E t i off b x=some (s,et,n,p)):∃es,b=some (.arr s et es)∧x=.pv p∧zQ E t s i off=true∧n=es.length:=by unfold Lb at h;grind
theorem Fk{P:Program}{μ:Ro}{s k:Nat}{cs:List PV}{xs:Array Value}(hp:af P μ (.agg cs) (.agg xs))(hl:cs.length=n*s){i j:Nat}{e q:PV}(he:(ff s n (.agg cs))[i]?=some e)(hq:e.cells[j]?=some q)(hk:k=i*s+j):∃x,xs[k]?=some x∧af P μ q x∧x.oneCell'=true:=by
 obtain⟨h1,rfl⟩:=xJ he;obtain⟨h2,rfl⟩:=xg hq;have bS:i*s+j<n*s:=by have:(i+1)*s≤n*s:=aaP _ (by omega);grind
 subst hk;cases hp with
 |agg g1 g2 g3=>have hc:cs[i*s+j]?=some cs[i*s+j]:=AS (by omega);have hx:xs[i*s+j]?=some xs[i*s+j]:=OF (by omega);grind [cell,PV.cells]
theorem QK{draw:Bool}{t:TypeId}{a x:V}{m:Mem}{k:Mem→bp→Option R}{r:R}(h:rG E draw t a x m k=some r):∃m' ft,k m' ft=some r∧(draw=true→∃id b,m'=al m id b∧ft=[(true,id)]∧∀m2:Mem,m2 id=m id→∀(R':Type)(k':Mem→bp→Option R'),rG E true t a x m2 k'=k' (al m2 id b) [(true,id)])∧jN m m'∧∀(G:Nat→Option (List PV))(w0:bu)(μ:Ro)(φ:Nat→aA)(w:World)(ya yx:Value),aw E.P G w0 μ φ m w→ae E.P μ φ a ya→ae E.P μ φ x yx→(∀id,x.has id=true→(m id).isSome=true)→∃w' μ',(Instr.storeAt t ya yx).run E.P w=.ok () w'∧(∀b o,μ b=some o→μ' b=some o)∧aw E.P G w0 μ' φ m' w':=by
 unfold rG at h;split at h
 ·rename_i id off;split at h
  ·rename_i cs hm;split at h
   ·rename_i new hn;split at h
    ·rename_i hb;refine⟨_,_,h,fun hd=>⟨id,_,rfl,rfl,fun m2 cQ R' k'=>by simp_all[rG,BY]⟩,.set,fun G w0 μ φ w ya yx hM ha hx hlx=>?_⟩;obtain⟨n1,n2,n3⟩:=toCells_ok hn;obtain⟨x1,x2,x3⟩:=n3 _ _ _ _ hx;cases ha with
     | @op _ _ g hg=>
      obtain⟨g',c,T,cv,hh,hs,hv,h1,zJ⟩:=hM.du id _ hm;rw[hg]at cv;simp only[AI]at cv;subst cv;have hi:=j8 (P:=E.P) (t:=t) (by omega);have pY:off+yx.cells.toList.length≤c.toList.length:=by simp;omega
      refine⟨_,μ,fV x1 hi hh (by omega) x3,fun _ _ h=>h,?_⟩;refine hM.write hm rfl hg (kv.setRow (agM _)) setRow_size (fun k hk=>bY hk) ⟨g,_,T,hg,setRow_heap w g c _ T (0,0) hh,?_,fun i u y hu hy=>?_,fun i y hy=>?_,by simp_all[cw]⟩ rfl fun j hj=>?_
      ·simp_all[ahr,cw]
      ·rw[ag8]at hy;have e1:yx.cells.toList.length=new.length:=by simp;omega
       rcases c8 pY hy with⟨b1,b2,b3⟩|⟨b1,b2⟩<;>rcases c8 (by omega) hu with⟨d1,d2,d3⟩|⟨d1,d2⟩
       ·grind
       ·omega
       ·omega
       grind
      ·rw[ag8]at hy;rcases c8 pY hy with⟨b1,b2,b3⟩|⟨b1,b2⟩
       ·grind
       grind
      ·simp only[bF.names]at hj;obtain⟨v,QL,hh'⟩:=cF.1 hj;simp only[dw,ag2]at QL;rcases QL with(QL|QL)|QL
       ·exact hM.fy id cs j hm (bI (ahJ QL) hh')
       ·grind [bI]
       ·exact hM.fy id cs j hm (bI (ah3 QL) hh')
    ·cases h
   ·cases h
  ·cases h
 ·rename_i id i off;split at h
  ·rename_i s et n p hwv;obtain⟨es,hm,rfl,hw,hn⟩:=QJ hwv;subst hn;obtain⟨u,hu,h⟩:=By.1 h;split at h
   ·rename_i hl;obtain⟨ha,rfl,rfl,_⟩:=Fa hw;obtain⟨cs,rfl,sC⟩:=SS hu;refine⟨_,_,h,fun _=>⟨id,_,rfl,rfl,fun m2 cQ R' k'=>?_⟩,.set,fun G w0 μ φ w ya yx hM ha hx _=>?_⟩
    ·simp_all[rG,agO,BY]
    ·have hA:aK E.P μ φ w id s et es:=hM.du id _ hm;cases ha with
     | @oe _ _ _ g hg=>
      cases hx with
      |pv hx=>
       have Pr:=hx;cases hx with
       | @agg _ xs g1 g2 g3=>
        obtain⟨a1,a2,a3,a4,a5,a6,a7⟩:=hA;rw[hg]at a7;obtain⟨c,T,c1,c2,c3,c4,c5⟩:=a7;have hle:es.length*s≤c.size:=ahl (aaP _ c3) c2;have H6:xs.size=es.length*s:=by omega
        have er:aR E.P t≠0:=by omega
        have hl1:=hl.1;have hi:=j8 (P:=E.P) (t:=t) er;have hcz:(Value.agg xs).cells.size=aR E.P t:=by simp[Value.cells];omega
        refine⟨w.setRow g (bH c.toList 0 xs.toList).toArray,μ,?_,fun _ _ h=>h,hM.write hm rfl hg (kv.setRow (agM _)) setRow_size (fun k hk=>bY hk) ?_ rfl (fun j hj=>by simp[bF.names]at hj)⟩
        ·rw[show 0*(φ id).sz+0=0 by omega];exact fV hcz hi c1 (by omega) (fun i y hy=>g3 i y hy)
        ·have B3:∀(i:Nat)(x:Value),i<es.length*s→(bH c.toList 0 xs.toList).toArray[i]?=some x→xs[i]?=some x:=fun i x hi hx=>by
          rw[ag8]at hx;rcases c8 (by simp;omega) hx with⟨b1,b2,b3⟩|⟨b1,b2⟩
          ·simpa using b3
          grind
         refine⟨by rw[a1];simp[ff],a2,a3,a4,fun i e he=>?_,a6,?_⟩
         ·obtain⟨_,rfl⟩:=xJ he;exact rN
         ·rw[hg];refine⟨_,T,setRow_heap w g c _ T (0,0) c1,?_,?_,fun i e j q x he hq hx=>?_,fun i x hi hx=>?_⟩
          ·simp_all[ahr,cw,Value.cells]
          ·simpa[ff]using c3
          ·obtain⟨x',x1,x2,_⟩:=Fk (k:=i*s+j) Pr (by omega) he hq rfl;grind
          grind [ff]
   ·cases h
  rename_i hwn;split at h
  ·rename_i p m1 hf;obtain⟨f1,f2,f3⟩:=Ix hf;split at h
   ·rename_i s et es hm;obtain⟨e,he,h⟩:=By.1 h;have key:∀q,0<aR E.P t→off+aR E.P t≤s→(p.cells.length=aR E.P t→e.cells.length=s→q.cells=bH (aC s e) off p.cells)→∀(G:Nat→Option (List PV))(w0:bu)(μ:Ro)(φ:Nat→aA)(w:World)(ya yx:Value),aw E.P G w0 μ φ m w→ae E.P μ φ (.oe id i off) ya→ae E.P μ φ x yx→(∀id,x.has id=true→(m id).isSome=true)→∃w' μ',(Instr.storeAt t ya yx).run E.P w=.ok () w'∧(∀b o,μ b=some o→μ' b=some o)∧aw E.P G w0 μ' φ (al m1 id (.arr s et (es.set i q))) w':=by
     intro q hz hb hq G w0 μ φ w ya yx hM ha hx _;obtain⟨μ',g1,g2,g3⟩:=f3 _ _ _ _ _ _ _ hM hx;cases ha with
     | @oe _ _ _ g hg=>have hA:aK E.P μ' φ w id s et es:=g2.du id _ hm;have hq':=hq g3.len (hA.2.2.2.2.1 i e he);obtain⟨c,T,hh,pY,xc⟩:=hA.set hg he g3 hb hq';have mP:(φ id).sz=s:=hA.2.1;have hi:=j8 (P:=E.P) (t:=t) (by omega);refine⟨_,μ',?_,g1,g2.write hm rfl hg (kv.setRow (agM _)) setRow_size (fun k hk=>bY hk) xc rfl fun j hj=>by simp[bF.names]at hj⟩;rw[mP];exact fV g3.size hi hh pY g3.one
    split at h
    ·rename_i hb;refine⟨_,_,h,fun hd=>?_,f1.trans .set,key p (by omega) (by omega) fun h1 h2=>?_⟩
     ·obtain⟨rfl,f4⟩:=f2 hd;refine⟨id,_,rfl,rfl,fun m2 cQ R' k'=>?_⟩;simp_all[rG,agO,BY]
     simp_all[dw,aW]
    ·rename_i hnb;split at h
     ·rename_i hb;refine⟨_,_,h,fun hd=>?_,f1.trans .set,key _ (by omega) (by omega) fun _ _=>rfl⟩;obtain⟨rfl,f4⟩:=f2 hd;refine⟨id,_,rfl,rfl,fun m2 cQ R' k'=>?_⟩;simp_all[rG,agO,IN,BY]
     ·cases h
   ·rename_i s et es hm;obtain⟨e,he,h⟩:=By.1 h;split at h
    ·rename_i hb;refine⟨_,_,h,fun hd=>?_,f1.trans .set,fun G w0 μ φ w ya yx hM ha hx _=>?_⟩
     ·obtain⟨rfl,f4⟩:=f2 hd;refine⟨id,_,rfl,rfl,fun m2 cQ R' k'=>?_⟩;simp_all[rG,agO,BY]
     ·obtain⟨μ',g1,g2,g3⟩:=f3 _ _ _ _ _ _ _ hM hx;cases ha with
      | @oe _ _ _ g hg=>have hA:aX E.P μ' φ w id s et es:=g2.du id _ hm;obtain⟨c,T,hh,pY,xc,hrw⟩:=aX.set (q:=.agg (bH (aC s e) off p.cells)) hA (g2.apart id _ hm) hg he g3 hb.1 rfl;have mP:(φ id).sz=s:=hA.2.1;have hi:=j8 (P:=E.P) (t:=t) (by omega);refine⟨_,μ',?_,g1,g2.write hm rfl hg (kv.setRow (agM _)) setRow_size (fun k hk=>bY hk) xc rfl (fun j hj=>by simp[bF.names]at hj) (fun st h=>by cases h) hrw⟩;rw[mP];exact fV g3.size hi hh pY g3.one
    ·cases h
   ·cases h
  ·cases h
 ·rename_i id i off s j off2;split at h
  ·rename_i p m1 hf;split at h
   ·rename_i s0 et es hm;obtain⟨e,he,h⟩:=By.1 h;obtain⟨rs,hr,h⟩:=By.1 h;obtain⟨q,hq,h⟩:=By.1 h;split at h
    ·rename_i hb;refine⟨_,_,h,fun _=>⟨id,_,rfl,rfl,fun m2 cQ R' k'=>?_⟩,.set,fun G w0 μ φ w ya yx hM ha hx _=>?_⟩
     ·simp_all[rG,agO,BY]
     ·have hE:=yZ hf E.P μ φ yx hx;have hN:aX E.P μ φ w id s0 et es:=hM.du id _ hm;obtain⟨g,y,hg,xh,⟨⟨Eo,hA⟩,hV⟩,hce⟩:=hN.row he hr;have Ep:=hM.apart id _ hm;have kx:(bF.nest s0 et es).rowAt i off=true:=by rw[dq he hce];rfl
      have B4:=hN.2.2.2.2.1 i e he;have QM:(setRow s0 e off (.pd s (rs.set j (setCells s q off2 (aR E.P t) p)))).cells=e.cells.set off (.pd s (rs.set j (setCells s q off2 (aR E.P t) p))):=GM B4 hb.2.2 (by simp);cases ha with
      | @yL _ _ _ _ _ _ g' cv hs=>
       obtain⟨cL,agk⟩:=Ep i off g' kx cv;obtain⟨c,T,hh,pY,xc⟩:=hA.set (g:=g') cv hq hE hb.1 (CM hE.len (hA.2.2.2.2.1 j q hq));have hi:=j8 (P:=E.P) (t:=t) (by omega);refine⟨_,μ,fV hE.size hi hh pY hE.one,fun _ _ h=>h,hM.SP hm rfl (.inr ⟨i,off,kx,cv⟩) (kv.setRow (agM _)) setRow_size (fun k hk=>bY hk) ?_ rfl (fun j hj=>by simp[bF.names]at hj) ?_⟩
       ·refine aX.change hN (by simp) (fun i' e' h'=>?_) rfl (fun g0 Lj=>bY fun e=>cL (by rw[←e];omega)) (fun i' e' j' p' g0 c0 _ x' h' sD Lj XU Pr hold=>?_)
        ·rcases eM h' with⟨_,rfl⟩|⟨_,h'⟩
         ·grind
         ·exact hN.2.2.2.2.1 i' e' h'
        ·have other:∀e'' p'',es[i']?=some e''→e''.cells[j']?=some p''→(i',j')≠(i,off)→dW E.P μ ((φ id).row i' j') (w.setRow g' (bH c.toList (j*s+off2) yx.cells.toList).toArray) p'' x':=fun e'' p'' h1 h2 h3=>(hold e'' p'' h1 h2).cr (fun _ _ h=>h) fun yK g'' agr=>bY fun e=>by grind [dq]
         rcases eM h' with⟨rfl,rfl⟩|⟨Vz,h'⟩
         ·rw[QM]at sD;rcases eM sD with⟨rfl,rfl⟩|⟨hnj,sD⟩
          ·have Lp:eB E.P μ ((φ id).row i' j') w s rs x':=hold e _ he hce;refine⟨⟨Eo,xc⟩,?_⟩;exact Lp.2
          grind
         grind
       ·intro i' rH yK;rcases jM yK with⟨_,_,_,e',s',rs',gX,h',sD⟩|⟨_,_,_,_,_,_,gX,_⟩
        ·simp only[bF.nest.injEq]at gX;obtain⟨rfl,rfl,rfl⟩:=gX;rcases eM h' with⟨rfl,rfl⟩|⟨Vz,h'⟩
         ·rw[QM]at sD;rcases eM sD with⟨rfl,_⟩|⟨hnj,sD⟩
          ·omega
          ·rw[dq he sD];rfl
         ·rw[dq h' sD];rfl
        ·cases gX
    ·cases h
   ·cases h
  ·cases h
 ·cases h
end
structure Cells(P:Program)(μ:Ro)(sz:Nat)(es:List PV)(xs:List Value):Prop where
 len:xs.length=es.length*sz
 each:∀(i:Nat)e,es[i]?=some e→e.cells.length=sz
 rep:∀(i:Nat)e(j:Nat)p y,es[i]?=some e→e.cells[j]?=some p→xs[i*sz+j]?=some y→af P μ p y
 one:∀(i:Nat)y,xs[i]?=some y→y.oneCell'=true
section
variable {P:Program} {μ μ':Ro} {φ:Nat→aA} {w:World} {sz:Nat} {es es':List PV} {xs xs':List Value}
theorem Cells.nil:Cells P μ sz [] []:=⟨by simp,by simp,by simp,by simp⟩
theorem Cells.mono(h:Cells P μ sz es xs)(hμ:∀b o,μ b=some o→μ' b=some o):Cells P μ' sz es xs:=⟨h.len,h.each,fun i e j p y h1 h2 h3=>(h.rep i e j p y h1 h2 h3).mono hμ,h.one⟩
theorem CN{i j n:Nat}(hi:i<n)(hj:j<sz):i*sz+j<n*sz:=by have:(i+1)*sz≤n*sz:=aaP _ hi;rw[ahj]at this;omega
theorem Cells.append(h:Cells P μ sz es xs)(h':Cells P μ sz es' xs'):Cells P μ sz (es++es') (xs++xs'):=by
 refine⟨by simp[h.len,h'.len,ahj],fun i e hi=>?_,fun i e j p y hi hj hy=>?_,fun i y hy=>?_⟩
 ·rw[ag7]at hi;split at hi
  ·exact h.each i e hi
  ·exact h'.each _ e hi
 ·rw[ag7]at hi hy;split at hi
  ·rename_i hl;have Ad:j<sz:=by rw[←h.each i e hi];exact(HO.1 hj).1
   rw[BY (by rw[h.len];exact CN hl Ad)]at hy;exact h.rep i e j p y hi hj hy
  ·rename_i hl;have hle:es.length*sz≤i*sz:=aaP _ (by omega);rw[IN (by rw[h.len];omega)]at hy;refine h'.rep _ e j p y hi hj ?_;rw[←hy,h.len,Nat.sub_mul];congr 1;omega
 ·rw[ag7]at hy;split at hy
  ·exact h.one i y hy
  ·exact h'.one _ y hy
theorem Cells.take(h:Cells P μ sz es xs)(n:Nat):Cells P μ sz (es.take n) (xs.take (n*sz)):=by
 refine⟨?_,fun i e hi=>h.each i e (eC hi).2,fun i e j p y hi hj hy=>h.rep i e j p y (eC hi).2 hj (eC hy).2,fun i y hy=>h.one i y (eC hy).2⟩;rw[ahu,ahu,h.len];rcases ajY n es.length with hn|hn
 ·rw[ahH hn,ahH (aaP _ hn)]
 ·rw[aiP hn,aiP (aaP _ hn)]
theorem Cells.drop(h:Cells P μ sz es xs)(n:Nat):Cells P μ sz (es.drop n) (xs.drop (n*sz)):=by refine⟨by simp[h.len,Nat.sub_mul],fun i e hi=>h.each _ e (pR hi),fun i e j p y hi hj hy=>h.rep _ e j p y (pR hi) hj ?_,fun i y hy=>h.one _ y (pR hy)⟩;rw[←pR hy,ahj];congr 1;omega
variable{id:Nat}{et:TypeId}
theorem aK.cells(hA:aK P μ φ w id sz et es){g:Nat}(hg:(φ id).g=some g):∃(c:Array Value)(T:TypeId),w.heap[g]?=some (.cells c T (0,0))∧(φ id).cap*sz≤c.size∧es.length≤(φ id).cap∧es.length*sz≤c.size∧Cells P μ sz es (c.toList.take (es.length*sz)):=by
 obtain⟨a1,a2,a3,a4,a5,a6,a7⟩:=hA;rw[hg]at a7;obtain⟨c,T,c1,c2,c3,c4,c5⟩:=a7;have hle:es.length*sz≤c.size:=ahl (aaP _ c3) c2;refine⟨c,T,c1,c2,c3,hle,by simp;omega,a5,fun i e j p y hi hj hy=>?_,fun i y hy=>?_⟩
 ·exact c4 i e j p y hi hj (by simpa using(eC hy).2)
 ·have:=eC hy;exact c5 i y this.1 (by simpa using this.2)
theorem aK.nR{g:Nat}{T:TypeId}{c:Array Value}(V3:(φ id).toA6=⟨some g,(φ id).cap,es.length,sz⟩)(mP:sz=aR P et)(er:0<sz)(oz:(φ id).cap≤maxLen)(hh:w.heap[g]?=some (.cells c T (0,0)))(hc:(φ id).cap*sz≤c.size)(hle:es.length≤(φ id).cap)(hC:Cells P μ sz es (c.toList.take (es.length*sz))):aK P μ φ w id sz et es:=by
 have e1:(φ id).g=some g:=by rw[V3]
 refine⟨by rw[V3],by rw[V3],mP,er,hC.each,oz,?_⟩;rw[e1];have Ad:∀(i:Nat)e(j:Nat)p,es[i]?=some e→e.cells[j]?=some p→i*sz+j<es.length*sz:=fun i e j p hi hj=>CN (HO.1 hi).1 (by rw[←hC.each i e hi];exact(HO.1 hj).1);refine⟨c,T,hh,hc,hle,fun i e j p x hi hj hx=>?_,fun i x hi hx=>?_⟩
 ·exact hC.rep i e j p x hi hj (by rw[ahh (Ad i e j p hi hj)];simpa using hx)
 ·exact hC.one i x (by rw[ahh hi];simpa using hx)
inductive xi(P:Program)(μ:Ro)(w:World)(sz:Nat)(es:List PV):Value→Prop
 |none:es=[]→xi P μ w sz es (.slice none 0 0)
 |some {a:Addr} {c:Nat} (xs:List Value):Cells P μ sz es xs→(∀(j:Nat)v,xs[j]?=some v→w.cell? (a.add j)=some v)→es.length≤c→c≤maxLen→xi P μ w sz es (.slice (some a) es.length c)
theorem aK.src(hA:aK P μ φ w id sz et es){g:Nat}(hg:(φ id).g=some g){lo len cap:Nat}(hl:lo+len≤es.length)(hcc:len≤cap)(ags:lo+cap≤(φ id).cap):xi P μ w sz ((es.drop lo).take len) (.slice (some ⟨g,lo*sz,none⟩) len cap):=by
 obtain⟨c,T,c1,c2,c3,c4,c5⟩:=hA.cells hg;have oz:=hA.nQ;have hlen:((es.drop lo).take len).length=len:=by simp;omega
 have:=xi.some (P:=P) (μ:=μ) (w:=w) (sz:=sz) (es:=(es.drop lo).take len) (a:=⟨g,lo*sz,none⟩) (c:=cap) _ ((c5.drop lo).take len) (fun j v hv=>?_) (by omega) (by omega)
 ·rw[hlen]at this;exact this
 ·have h1:=(eC hv).2;have h2:=(eC (pR h1)).2;rw[Addr.add_mid,df c1];simpa using h2
end
section
variable {R:Type} {E:Env}
theorem af.src{P:Program}{G:Nat→Option (List PV)}{w0:bu}{μ:Ro}{φ:Nat→aA}{m:Mem}{w:World}{sz:Nat}{es:List PV}{y:Value}(hM:aw P G w0 μ φ m w)(h:af P μ (.rs sz es) y):xi P μ w sz es y:=by
 cases h with
 |ko=>exact .none rfl
 |Ez hc=>exact .some (es:=[]) [] .nil (by simp) (by simp) hc
 | @rs _ _ b o cap X h1 h2 h3 h4 h5 h6=>
  by_cases hz:sz=0
  ·subst hz;refine .some [] ⟨by simp,h3,fun i e j p y hi hj=>?_,by simp⟩ (by simp) h1 h2;have:=h3 i e hi;have:=(HO.1 hj).1;omega
  ·have eH:∀k v,((List.range (es.length*sz)).map fun k=>X (k/sz) (k%sz))[k]?=some v→∃(e:PV)(p:PV),es[k/sz]?=some e∧e.cells[k%sz]?=some p∧v=X (k/sz) (k%sz):=by
    intro k v hk;have bS:k<es.length*sz:=by have:=(HO.1 hk).1;simpa using this
    rw[IS,ahS bS]at hk;simp at hk;have hi:k/sz<es.length:=(Nat.div_lt_iff_lt_mul (by omega)).2 bS;have hj:k%sz<(es[k/sz]).cells.length:=by rw[h3 _ _ (AS hi)];exact ajI _ (by omega)
    exact⟨_,_,AS hi,AS hj,hk.symm⟩
   refine .some ((List.range (es.length*sz)).map fun k=>X (k/sz) (k%sz)) ⟨by simp,h3,fun i e j p y hi hj hy=>?_,fun k v hk=>?_⟩ (fun k v hk=>?_) h1 h2
   ·obtain⟨e',p',he,hp,rfl⟩:=eH _ _ hy;have Ad:j<sz:=by rw[←h3 i e hi];exact(HO.1 hj).1
    have e1:(i*sz+j)/sz=i:=by rw[aiD,Nat.mul_add_div (by omega),ajw Ad];rfl
    have e2:(i*sz+j)%sz=j:=by rw[aiD,ajG,aio Ad]
    rw[e1,e2];exact h5 i e j p hi hj
   ·obtain⟨e',p',he,hp,rfl⟩:=eH _ _ hk;exact h6 _ e' _ p' he hp
   ·obtain⟨e',p',he,hp,rfl⟩:=eH _ _ hk;rw[Addr.add_mid];have:=hM.cellAt (h4 _ e' _ p' he hp);rw[←this];congr 2;rw[ahm,Nat.div_add_mod' k sz]
theorem na{m:Mem}{sz:Nat}{x:V}{es:List PV}{ft:bp}(h:eA m sz x=some (es,ft)):(∀m2:Mem,(∀x∈ft,m2 x.2=m x.2)→eA m2 sz x=some (es,ft))∧(∀x∈ft,x.1=false)∧∀(P:Program)(G:Nat→Option (List PV))(w0:bu)(μ:Ro)(φ:Nat→aA)(w:World)(y:Value),aw P G w0 μ φ m w→ae P μ φ x y→xi P μ w sz es y:=by
 unfold eA at h;split at h
 ·rename_i s es';split at h
  ·rename_i hs;simp only[AI,Xp]at h;obtain⟨rfl,rfl⟩:=h;subst hs;exact⟨fun m2 _=>by simp[eA],by simp,fun P G w0 μ φ w y hM hy=>by cases hy with|pv hy=>exact hy.src hM⟩
  ·split at h
   ·simp only[AI,Xp]at h;obtain⟨rfl,rfl⟩:=h;refine⟨fun m2 _=>by simp[eA],by simp,fun P G w0 μ φ w y hM hy=>?_⟩;cases hy with
    |pv hy=>cases hy with
     |ko=>exact .none rfl
     |Ez hc=>exact .some (es:=[]) [] .nil (by simp) (by simp) hc
     |rs X h1 h2=>exact .some (es:=[]) [] .nil (by simp) h1 h2
   ·cases h
 ·simp only[AI,Xp]at h;obtain⟨rfl,rfl⟩:=h;exact⟨fun m2 _=>by simp[eA],by simp,fun P G w0 μ φ w y hM hy=>by cases hy;exact .none rfl⟩
 ·rename_i id;have key:∀(s:Nat)(et:TypeId)(es:List PV),(m id=some (.arr s et es)∨m id=some (.pt s et es))→∀(P:Program)(G:Nat→Option (List PV))(w0:bu)(μ:Ro)(φ:Nat→aA)(w:World)(y:Value),aw P G w0 μ φ m w→ae P μ φ (.os id) y→xi P μ w s es y:=by
   intro s et es hm P G w0 μ φ w y hM hy;have hA:=hM.arr hm;cases hy with
   |q6 hg=>obtain⟨a1,a2,a3,a4,a5,a6,a7⟩:=hA;rw[hg]at a7;exact .none a7.1
   |os hg=>have:=hA.src hg (lo:=0) (len:=es.length) (cap:=(φ id).cap) (by omega) (hA.nQ).1 (by omega);rw[hA.1];simpa using this
  split at h
  ·rename_i s' et es' hm;split at h
   ·rename_i hs;simp only[AI,Xp]at h;obtain⟨rfl,rfl⟩:=h;subst hs;exact⟨fun m2 cQ=>by have:=cQ (false,id) (by simp);simp only at this;simp[eA,this,hm],by simp,key _ _ _ (.inl hm)⟩
   ·cases h
  ·rename_i s' et es' hm;split at h
   ·rename_i hs;simp only[AI,Xp]at h;obtain⟨rfl,rfl⟩:=h;subst hs;exact⟨fun m2 cQ=>by have:=cQ (false,id) (by simp);simp only at this;simp[eA,this,hm],by simp,key _ _ _ (.inr hm)⟩
   ·cases h
  ·cases h
 ·rename_i id lo len;have key:∀(s:Nat)(et:TypeId)(es:List PV),(m id=some (.arr s et es)∨m id=some (.pt s et es))→∀(P:Program)(G:Nat→Option (List PV))(w0:bu)(μ:Ro)(φ:Nat→aA)(w:World)(y:Value),aw P G w0 μ φ m w→ae P μ φ (.fx id lo len) y→xi P μ w s ((es.drop lo).take len) y:=by
   intro s et es hm P G w0 μ φ w y hM hy;have hA:=hM.arr hm;have hle:=hA.nQ;have GN:=hA.1;have mP:=hA.2.1;cases hy with
   |pO hg=>simp;exact .none rfl
   |fx hg hl ha Y6 SI=>
    rcases ha with rfl|⟨ha,_⟩
    ·rw[mP];exact hA.src hg (by omega) Y6 SI
    ·have h0:len=0:=by omega
     subst h0;simp only[aid];exact .some (es:=[]) [] .nil (by simp) (by simp) (by omega)
  split at h
  ·rename_i s' et es' hm;split at h
   ·rename_i hs;simp only[AI,Xp]at h;obtain⟨rfl,rfl⟩:=h;subst hs;exact⟨fun m2 cQ=>by have:=cQ (false,id) (by simp);simp only at this;simp[eA,this,hm],by simp,key _ _ _ (.inl hm)⟩
   ·cases h
  ·rename_i s' et es' hm;split at h
   ·rename_i hs;simp only[AI,Xp]at h;obtain⟨rfl,rfl⟩:=h;subst hs;exact⟨fun m2 cQ=>by have:=cQ (false,id) (by simp);simp only at this;simp[eA,this,hm],by simp,key _ _ _ (.inr hm)⟩
   ·cases h
  ·cases h
 ·rename_i id i off;split at h
  ·rename_i s0 et0 jG hm;obtain⟨e,he,h⟩:=By.1 h;obtain⟨rs,hr,h⟩:=By.1 h;simp only[AI,Xp]at h;obtain⟨rfl,rfl⟩:=h;refine⟨fun m2 cQ=>by have:=cQ (false,id) (by simp);simp only at this;simp[eA,this,hm,he,hr],by simp,fun P G w0 μ φ w y hM hy=>?_⟩;have hN:aX P μ φ w id s0 et0 jG:=hM.du id _ hm;obtain⟨_,_,_,_,⟨⟨Eo,hA⟩,_⟩,_⟩:=hN.row he hr;have hy:=hy.Li (ν:=μ);cases hy with
   |q6 hg=>obtain⟨a1,a2,a3,a4,a5,a6,a7⟩:=hA;rw[hg]at a7;exact .none a7.1
   |os hg=>have:=hA.src hg (lo:=0) (len:=rs.length) (cap:=(((φ id).row i off).up).cap) (by omega) (hA.nQ).1 (by omega);rw[hA.1];simpa using this
  ·cases h
 ·cases h
end
section
variable {P:Program} {w:World}
theorem oB{t ty e:TypeId}(hu:P.underlying t=some (.slice e))(hz:aR P e≠0){base a:Option Addr}{n cap c:Nat}(hn:n≤cap):(Builtin.append_ #[t,t] ty #[.slice base n cap,.slice a 0 c]).run P w=.ok (.slice base n cap) w:=by
 obtain⟨i,hi,hs⟩:=wA hz;have hl:∀x:Addr,(loadCells x 0).run P w=.ok #[] w:=fun x=>by simpa using run_loadCells_list (P:=P) w x [] (by simp)
 cases base<;>cases a<;>simp[Builtin.append_,run_underlying hu,sizeOf,typeInfo,hi,Builtin.lenOf,Builtin.firstCells,hn,hl,storeCells]
end
theorem Ae{P:Program}{w:World}(t ty e T:TypeId)(i:TypeInfo)(ht:P.underlying t=some (.slice e))(hi:P.info? e=some i)(g Lq Zd:Nat)(cur:Array Value)(hg:w.heap[g]?=some (.cells cur T (0,0)))(a:Addr)(m c:Nat)(news:List Value)(hl:news.length=m*i.size)(aa9:∀j u,news[j]?=some u→w.cell? (a.add j)=some u)(h1:∀u∈news,u.oneCell'=true)(gu:Lq+m≤Zd)(pY:Lq*i.size+news.length≤cur.size):(Builtin.append_ #[t,t] ty #[.slice (some ⟨g,0,none⟩) Lq Zd,.slice (some a) m c]).run P w=.ok (.slice (some ⟨g,0,none⟩) (Lq+m) Zd) (w.setRow g (cur.toList.take (Lq*i.size)++news++cur.toList.drop (Lq*i.size+news.length)).toArray):=by have hf:=run_firstCells_some (P:=P) w i.size m a m c news hl aa9;have pw:=run_storeCells_at P g (Lq*i.size) T news 0 cur w hg (by simpa using pY) h1;simp only[ahL]at pw;simp[Builtin.append_,run_underlying ht,sizeOf,typeInfo,hi,Builtin.lenOf,gu,hf,Addr.add_mid,pw]
section
variable {R:Type} {E:Env}
variable{t:TypeId}
theorem Fl{P:Program}{i:TypeInfo}(hi:P.info? t=some i):i.bytes=Ev P t∧i.size=aR P t:=by simp[Ev,aR,hi]
theorem CO{P:Program}{e ty:TypeId}{sz len n:Nat}{z:Value}{i:TypeInfo}(hu:P.underlying t=some (.slice e))(hi:P.info? e=some i)(hzv:i.zero=some z)(Lr:z.cells.size=sz)(mP:sz=aR P e)(er:0<aR P e)(hby:0<Ev P e)(gu:(len+n)*Ev P e≤aj){w:World}{ys yx:Value}{os xs:List Value}(hs:(ys=.slice none 0 0∧len=0∧os=[])∨∃(g cap:Nat)(c:Array Value)(T:TypeId),ys=.slice (some ⟨g,0,none⟩) len cap∧w.heap[g]?=some (.cells c T (0,0))∧cap*sz≤c.size∧len≤cap∧cap≤maxLen∧os=c.toList.take (len*sz))(hx:(yx=.slice none 0 0∧n=0∧xs=[])∨∃(a:Addr)(cx:Nat),yx=.slice (some a) n cx∧xs.length=n*sz∧(∀(j:Nat)v,xs[j]?=some v→w.cell? (a.add j)=some v)∧(∀v∈xs,v.oneCell'=true)∧n≤cx∧cx≤maxLen):∃w' y,(Builtin.append_ #[t,t] ty #[ys,yx]).run P w=.ok y w'∧((y=.slice none 0 0∧w'=w∧len=0∧n=0)∨∃(g cap:Nat)(c:Array Value)(T:TypeId),y=.slice (some ⟨g,0,none⟩) (len+n) cap∧w'.heap[g]?=some (.cells c T (0,0))∧cap*sz≤c.size∧len+n≤cap∧cap≤maxLen∧c.toList.take ((len+n)*sz)=os++xs∧((∃V4,ys=.slice (some ⟨g,0,none⟩) len V4∧kv g w w'∧∀k,k≠g→w'.heap[k]?=w.heap[k]?)∨(g=w.heap.size∧w'=w.drew.alloc (.cells c e)))):=by
 obtain⟨Ze,XV⟩:=Fl hi;have Zf:len+n≤140737488355328:=by have:(len+n)*1≤(len+n)*Ev P e:=ah7 _ hby;simp only[aj]at gu;omega
 have aer:len+n≤maxLen:=by simp only[maxLen];omega
 have Se:∀n,(Builtin.zeroCells z.cells n).size=n*sz:=fun n=>by rw[size_zeroCells,Lr]
 rcases hs with⟨rfl,rfl,rfl⟩|⟨g,cap,c,T,rfl,g4,g5,g6,g7,rfl⟩
 ·rcases hx with⟨rfl,rfl,rfl⟩|⟨a,cx,rfl,Fj,H6,hx1,XW,SU⟩
  ·exact⟨w,_,oB hu (by omega) (agM _),.inl ⟨rfl,rfl,rfl,rfl⟩⟩
  ·by_cases h0:n=0
   ·subst h0;exact⟨w,_,oB hu (by omega) (agM _),.inl ⟨rfl,rfl,rfl,rfl⟩⟩
   ·have hr:=run_append_nil (P:=P) w t ty e i z hu hi hzv a n cx xs (by rw[Fj,mP,XV]) H6 (by omega) (by simp only[ahp]at Zf;omega) (by simp only[aj,ahp]at gu;rw[Ze];omega);have EF:=grownCap_ge w n 0 e;refine⟨_,_,hr,.inr ⟨w.heap.size,grownCap w n 0 e,xs.toArray++Builtin.zeroCells z.cells (grownCap w n 0 e-n),e,by simp,fp w.drew _,?_,by simpa using EF,grownCap_le_maxLen w _ 0 e (by simpa using aer),?_,.inr ⟨rfl,rfl⟩⟩⟩
    ·rw[ajn,Se];simp only[ahr,Fj,←ahj];exact aaP _ (by omega)
    ·simp only[ajQ,ah9,ahp];exact ai5 Fj
 ·have h1:(c.toList.take (len*sz)).length=len*sz:=by have:len*sz≤cap*sz:=aaP _ g6;simp;omega
  rcases hx with⟨rfl,rfl,rfl⟩|⟨a,cx,rfl,Fj,H6,hx1,XW,SU⟩
  ·exact⟨w,_,oB hu (by omega) g6,.inr ⟨g,cap,c,T,rfl,g4,g5,by simpa using g6,g7,by simp,.inl ⟨cap,rfl,kv.refl _ _,fun _ _=>rfl⟩⟩⟩
  ·by_cases hrm:len+n≤cap
   ·have pY:len*i.size+xs.length≤c.size:=by rw[XV,←mP,Fj,←ahj];exact ahl (aaP _ hrm) g5
    have hr:=Ae (P:=P) (w:=w) t ty e T i hu hi g len cap c g4 a n cx xs (by rw[Fj,mP,XV]) H6 hx1 hrm pY;rw[XV,←mP]at hr pY;refine⟨_,_,hr,.inr ⟨g,cap,_,T,rfl,setRow_heap w g c _ T (0,0) g4,?_,hrm,g7,?_,.inl ⟨cap,rfl,kv.setRow (agM _),fun k hk=>bY hk⟩⟩⟩
    ·simp only[ahr,ag1,ahu,air,ahV];omega
    ·simp only[];exact ai5 (by rw[ag1,h1,Fj,ahj])
   ·have hr:=run_append_grow (P:=P) w t ty e i z hu hi hzv ⟨g,0,none⟩ len cap (c.toList.take (len*sz)) (by rw[h1,mP,XV]) (fun j v hj=>by
      rw[Addr.add_mid,df g4];simpa using(eC hj).2) a n cx xs (by rw[Fj,mP,XV]) H6 (by omega) (by omega)
     (growslice_fits (by omega) (by rw[Ze];simpa[aj]using gu))
    have EF:=grownCap_ge w (len+n) cap e;refine⟨_,_,hr,.inr ⟨w.heap.size,_,_,e,rfl,fp w.drew _,?_,EF,grownCap_le_maxLen w _ cap e (by omega),?_,.inr ⟨rfl,rfl⟩⟩⟩
    ·rw[ajn,ajn,Se];simp only[ahr,Fj,h1,←ahj];exact aaP _ (by omega)
    ·simp only[ajQ];exact ai5 (by rw[ag1,h1,Fj,ahj])
theorem CP{e ty:TypeId}{sz:Nat}{es new:List PV}{z:List V}(hu:E.P.underlying t=some (.slice e))(hz:c7 E e=some z)(mP:sz=aR E.P e)(er:0<aR E.P e)(hby:0<Ev E.P e)(gu:(es++new).length*Ev E.P e≤aj){G:Nat→Option (List PV)}{w0:bu}{μ:Ro}{φ:Nat→aA}{m:Mem}{w:World}{ρ:Nat→Value}{f:Fr}{draw:Bool}{site:Nat}(hM:aw E.P G w0 μ φ m w)(hF:bX E.P μ φ m f ρ){ys yx:Value}(hx:xi E.P μ w sz new yx)(hs:(ys=.slice none 0 0∧es=[])∨∃(g cap:Nat)(c:Array Value)(T:TypeId),ys=.slice (some ⟨g,0,none⟩) es.length cap∧w0.heap.size≤g∧μ g=none∧(∀id b',m id=some b'→¬b'.dU (φ id) g)∧w.heap[g]?=some (.cells c T (0,0))∧cap*sz≤c.size∧es.length≤cap∧cap≤maxLen∧es.length*sz≤c.size∧Cells E.P μ sz es (c.toList.take (es.length*sz))){f':Fr}{m':Mem}(uA:∀(P:Program)(G:Nat→Option (List PV))(w0:bu)(μ:Ro)(φ:Nat→aA)(w w':World)(ρ:Nat→Value)(ph:aA),aw P G w0 μ φ m w→bX P μ φ m f ρ→kq P w0 μ φ m w w' site (.arr sz e (es++new)) ph→∃φ',φ' site=ph∧aw P G w0 μ φ' m' w'∧bX P μ φ' m' f' ρ):∃w' y φ',(Builtin.append_ #[t,t] ty #[ys,yx]).run E.P w=.ok y w'∧aw E.P G w0 μ φ' m' w'∧bX E.P μ φ' m' f' ρ∧ae E.P μ φ' (.os site) y:=by
 obtain⟨i,zv,hi,hzv,XV,_,Lr,_,_,_⟩:=eu hz;have Fm:(es++new).length=es.length+new.length:=by simp
 obtain⟨os,hos,hC⟩:∃os,((ys=.slice none 0 0∧es.length=0∧os=[])∨∃(g cap:Nat)(c:Array Value)(T:TypeId),ys=.slice (some ⟨g,0,none⟩) es.length cap∧w.heap[g]?=some (.cells c T (0,0))∧cap*sz≤c.size∧es.length≤cap∧cap≤maxLen∧os=c.toList.take (es.length*sz))∧Cells E.P μ sz es os:=by
  rcases hs with⟨h1,rfl⟩|⟨g,cap,c,T,h1,h2,h3,h4,h5,h6,h7,h8,h9,Vy⟩
  ·exact⟨[],.inl ⟨h1,rfl,rfl⟩,.nil⟩
  ·exact⟨_,.inr ⟨g,cap,c,T,h1,h5,h6,h7,h8,rfl⟩,Vy⟩
 obtain⟨xs,H6,hCx⟩:∃xs,((yx=.slice none 0 0∧new.length=0∧xs=[])∨∃(a:Addr)(cx:Nat),yx=.slice (some a) new.length cx∧xs.length=new.length*sz∧(∀(j:Nat)v,xs[j]?=some v→w.cell? (a.add j)=some v)∧(∀v∈xs,v.oneCell'=true)∧new.length≤cx∧cx≤maxLen)∧Cells E.P μ sz new xs:=by
  cases hx with
  |none hn=>subst hn;exact⟨[],.inl ⟨rfl,rfl,rfl⟩,.nil⟩
  | @some a cx xs hC H6 XW SU=>exact⟨xs,.inr ⟨a,cx,rfl,hC.len,H6,fun u hu=>by obtain⟨j,hj⟩:=ag4 hu;exact hC.one j u hj,XW,SU⟩,hC⟩
 obtain⟨w',y,hr,SV⟩:=CO (ty:=ty) hu hi hzv (by rw[Lr,mP]) mP er hby (by rw[←Fm];exact gu) hos H6;rcases SV with⟨rfl,rfl,h1,h2⟩|⟨g',BJ,c',T',rfl,b1,b2,b3,b4,b5,b6⟩
 ·have h1:es=[]:=afl h1;have h2:new=[]:=afl h2;obtain⟨φ',a1,a2,a3⟩:=uA E.P G w0 μ φ w' w' ρ (BI none 0 0 sz) hM hF ⟨kv.refl _ _,hM.ro,fun _ _ _ _ _=>rfl,by simp,fun φ' hp _=>by refine⟨by rw[hp,h1,h2];rfl,by rw[hp],mP,by omega,by rw[h1,h2];simp,by rw[hp];simp[maxLen],?_⟩;rw[hp];exact⟨by rw[h1,h2];rfl,rfl⟩,by simp[bF.names],fun st h=>by cases h⟩;exact⟨w',_,φ',hr,a2,a3,.q6 (by rw[a1])⟩
 ·have hCC:Cells E.P μ sz (es++new) (c'.toList.take ((es++new).length*sz)):=by rw[Fm,b5];exact hC.append hCx
  have fin:∀(φ':Nat→aA),φ' site=BI (some g') BJ (es++new).length sz→ae E.P μ φ' (.os site) (.slice (some ⟨g',0,none⟩) (es.length+new.length) BJ):=fun φ' a1=>by have:=ae.os (P:=E.P) (μ:=μ) (φ:=φ') (id:=site) (g:=g') (by rw[a1]);rw[a1,Fm]at this;exact this
  rcases b6 with⟨V4,hys,b6,b7⟩|⟨rfl,rfl⟩
  ·rcases hs with⟨h1,_⟩|⟨g,cap,c,_,h1,h2,h3,h4,_⟩
   ·rw[hys]at h1;cases h1
   rw[hys]at h1;simp only[Value.slice.injEq,AI,Addr.mk.injEq]at h1;obtain⟨⟨rfl,_⟩,_⟩:=h1;obtain⟨φ',a1,a2,a3⟩:=uA E.P G w0 μ φ w w' ρ (BI (some g') BJ (es++new).length sz) hM hF ⟨b6.mono h2,fun k o hk=>by rw[b7 k (fun e=>by subst e;rw[h3]at hk;cases hk)];exact hM.ro k o hk,fun id b' g' an cv=>b7 g' (fun e=>by subst e;exact h4 id b' an cv),fun g' cv=>by simp only[AI]at cv;subst cv;exact⟨h2,h3,h4⟩,fun φ' hp _=>aK.nR (by rw[hp]) mP (by omega) (by rw[hp];exact b4) b1 (by rw[hp];exact b2) (by rw[hp,Fm];exact b3) hCC,by simp[bF.names],fun st h=>by cases h⟩;exact⟨w',_,φ',hr,a2,a3,fin φ' a1⟩
  ·obtain⟨φ',a1,a2,a3⟩:=uA E.P G w0 μ φ w.drew _ ρ (BI (some w.heap.size) BJ (es++new).length sz) hM.drew hF (kq.alloc (o:=.cells c' e) hM.drew rfl (fun φ' hp _=>aK.nR (g:=w.heap.size) (by rw[hp]) mP (by omega) (by rw[hp];exact b4) (fp w.drew _) (by rw[hp];exact b2) (by rw[hp,Fm];exact b3) hCC) (by simp[bF.names]));exact⟨_,_,φ',hr,a2,a3,fin φ' a1⟩
end
section
variable {R:Type} {E:Env}
theorem Lt{draw:Bool}{site:Nat}{t t':TypeId}{s x:V}{f:Fr}{m:Mem}{k:V→Fr→Mem→Option R}{r:R}(h:yQ E draw site t t' s x f m k=some r):draw=false∧t'=t∧∃place f' m',k (.os place) f' m'=some r∧(m' place).isSome=true∧∀(G:Nat→Option (List PV))(w0:bu)(μ:Ro)(φ:Nat→aA)(w:World)(ρ:Nat→Value)(ys yx:Value)(ty:TypeId),aw E.P G w0 μ φ m w→bX E.P μ φ m f ρ→ae E.P μ φ s ys→ae E.P μ φ x yx→∃w' y φ',(Builtin.append_ #[t,t] ty #[ys,yx]).run E.P w=.ok y w'∧aw E.P G w0 μ φ' m' w'∧bX E.P μ φ' m' f' ρ∧ae E.P μ φ' (.os place) y:=by
 unfold yQ at h;split at h
 ·cases h
 ·rename_i hd;simp only[afk,ajV,ahM,ahF,No,Bool.not_eq_eq_eq_not,afj,agX]at hd;refine⟨hd.1,by simpa using hd.2,?_⟩;split at h
  ·rename_i e hu;split at h
   ·cases h
   ·rename_i hz;obtain⟨z,hz⟩:∃z,c7 E e=some z:=by
     cases hq:c7 E e with
     |none=>simp[hq]at hz
     |some z=>exact⟨z,rfl⟩
    split at h
    ·rename_i new ft B4;obtain⟨_,_,xK⟩:=na B4;split at h
     ·split at h
      ·rename_i hb;obtain⟨f',m',_,hk,uE,_,uA⟩:=dX h;refine⟨_,f',m',hk,by simp[uE],fun G w0 μ φ w ρ ys yx ty hM hF hs hx=>?_⟩;cases hs;exact CP (es:=[]) (draw:=false) hu hz rfl hb.2.2 hb.2.1 (by simpa using hb.1) hM hF (xK _ _ _ _ _ _ _ hM hx) (.inl ⟨rfl,rfl⟩) uA
      ·cases h
     ·rename_i id;split at h
      ·rename_i sz et es hm;split at h
       ·rename_i hc;obtain⟨rfl,rfl,agt⟩:=hc;split at h
        ·rename_i hb;obtain⟨f',m',_,hk,uE,_,uA⟩:=dX h;refine⟨_,f',m',hk,by simp[uE],fun G w0 μ φ w ρ ys yx ty hM hF hs hx=>?_⟩;have tx:=hM.forget id;have BK:=hF.forget id;have hA:aK E.P μ φ w id (aR E.P et) et es:=hM.du id _ hm;have er:0<aR E.P et:=hA.2.2.2.1;refine CP (draw:=false) hu hz rfl er hb.2 hb.1 tx BK (xK _ _ _ _ _ _ _ hM hx) ?_ uA;cases hs with
         |q6 hg=>have a7:=hA.2.2.2.2.2.2;rw[hg]at a7;exact .inl ⟨rfl,a7.1⟩
         | @os _ g hg=>obtain⟨c,T,c1,c2,c3,c4,c5⟩:=hA.cells hg;obtain⟨o1,o2⟩:=hM.own id _ g hm (.inl hg);refine .inr ⟨g,(φ id).cap,c,T,by rw[hA.1],o1,o2 rfl,fun j b' hj cv=>?_,c1,c2,c3,hA.nQ.2,c4,c5⟩;obtain⟨cL,b2,tf,rfl⟩:=fk hj;exact cL (hM.inj j id b2 _ g tf hm (fU.1 cv) (.inl hg))
        ·cases h
       ·cases h
      ·cases h
     ·cases h
    ·cases h
  ·cases h
theorem GO{P:Program}{w:World}{dT ty elem:TypeId}{ts:List TypeId}{g aba dCap:Nat}{c:Array Value}{T:TypeId}{sz:Nat}{es new:List PV}{μ:Ro}{yx:Value}(hu:P.underlying dT=some (.slice elem))(mP:sz=aR P elem)(er:0<sz)(hx:xi P μ w sz new yx)(hg:w.heap[g]?=some (.cells c T (0,0)))(hle:es.length*sz≤c.size)(hd:aba=es.length)(hC:Cells P μ sz es (c.toList.take (es.length*sz))):∃c':Array Value,(Builtin.copy_ (dT::ts).toArray ty #[.slice (some ⟨g,0,none⟩) aba dCap,yx]).run P w=.ok (goInt ((min new.length es.length:Nat):Int)) (w.setRow g c')∧c'.size=c.size∧Cells P μ sz (new.take es.length++es.drop new.length) (c'.toList.take ((new.take es.length++es.drop new.length).length*sz)):=by
 subst hd;obtain⟨i,hi,hs⟩:=wA (P:=P) (t:=elem) (by omega);have hnl:(new.take es.length++es.drop new.length).length=es.length:=by simp;omega
 rw[hnl];cases hx with
 |none hn=>subst hn;refine⟨c,?_,rfl,by simpa using hC⟩;have:=setRow_self w g c T (0,0) hg;rw[this];simp[Builtin.copy_,run_underlying hu,Builtin.lenOf,Builtin.firstCells,sizeOf,typeInfo,hi,storeCells]
 | @some a cx xs hX H6 XW SU=>
  have QN:Nat.min new.length es.length=min new.length es.length:=rfl;have hl:(xs.take (min new.length es.length*sz)).length=min new.length es.length*i.size:=by rw[hs,←mP,ahu,hX.len];exact ahH (aaP _ (Nat.min_le_left _ _))
  have aes:min new.length es.length*sz≤es.length*sz:=aaP _ (Nat.min_le_right _ _);have hf:=run_firstCells_some (P:=P) w i.size (min new.length es.length) a new.length cx (xs.take (min new.length es.length*sz)) hl (fun j v hj=>H6 j v (eC hj).2);have KV:(xs.take (min new.length es.length*sz)).length=min new.length es.length*sz:=by rw[hl,hs,mP]
  have pw:=run_storeCells_at P g 0 T (xs.take (min new.length es.length*sz)) 0 c w hg (by rw[KV];omega) (fun v hv=>by obtain⟨j,hj⟩:=ag4 hv;exact hX.one j v (eC hj).2);simp only[ahp,aid,ah9,KV]at pw;refine⟨(xs.take (min new.length es.length*sz)++c.toList.drop (min new.length es.length*sz)).toArray,?_,?_,?_⟩
  ·have abb:Nat.min new.length es.length=min new.length es.length:=rfl;simp[Builtin.copy_,run_underlying hu,Builtin.lenOf,sizeOf,typeInfo,hi,abb,hf,pw]
  ·simp only[ahr,ag1,KV,air,ahV];omega
  ·have e1:(xs.take (min new.length es.length*sz)++c.toList.drop (min new.length es.length*sz)).take (es.length*sz)=xs.take (min new.length es.length*sz)++(c.toList.take (es.length*sz)).drop (min new.length es.length*sz):=by rw[List.take_append,KV,List.drop_take,ahx (by rw[KV];exact aes)]
   simp only[];rw[e1];have h1:=(hX.take (min new.length es.length)).append (hC.drop (min new.length es.length));have e2:new.take (min new.length es.length)=new.take es.length:=by
    rcases ajY new.length es.length with hh|hh
    ·rw[ahH hh,aht,ahx hh]
    ·rw[aiP hh]
   have e3:es.drop (min new.length es.length)=es.drop new.length:=by
    rcases ajY new.length es.length with hh|hh
    ·rw[ahH hh]
    ·rw[aiP hh,ahe,ajy hh]
   rw[e2,e3]at h1;exact h1
theorem Fo{R:Type}(m:Mem)(sz:Nat)(x:V)(k:List PV→bp→Option R):Gz m sz x k=(eA m sz x).bind fun p=>k p.1 p.2:=by
 cases x with
 |uF id i off=>
  simp only[Gz,eA];cases hm:m id with
  |none=>rfl
  |some b=>
   cases b with
   |nest s e es=>
    simp only;cases es[i]? with
    |none=>rfl
    |some e=>simp only[agO];cases eK sz (cell e off)<;>rfl
   |_=>rfl
 |_=>
  simp only[Gz];generalize eA m sz _=o;cases o with
  |none=>rfl
  |some p=>rfl
theorem SX{t:TypeId}{d x:V}{m:Mem}{k:V→Mem→bp→Option R}{r:R}(h:Ih E t d x m k=some r):∃n id b ft,(∀m2:Mem,(∀x∈((true,id)::ft:bp),m2 x.2=m x.2)→∀(R':Type)(k':V→Mem→bp→Option R'),Ih E t d x m2 k'=k' (.pv (.int .i64 n)) (al m2 id b) ((true,id)::ft))∧k (.pv (.int .i64 n)) (al m id b) ((true,id)::ft)=some r∧∀(G:Nat→Option (List PV))(w0:bu)(μ:Ro)(φ:Nat→aA)(w:World)(ρ:Nat→Value)(f:Fr)(yd yx:Value)(ts:List TypeId)(ty:TypeId),aw E.P G w0 μ φ m w→bX E.P μ φ m f ρ→ae E.P μ φ d yd→ae E.P μ φ x yx→∃w' φ',(Builtin.copy_ (t::ts).toArray ty #[yd,yx]).run E.P w=.ok (.int .i64 n) w'∧aw E.P G w0 μ φ' (al m id b) w'∧bX E.P μ φ' (al m id b) f ρ∧(Lit.int .i64 n).wf=true:=by
 unfold Ih at h;split at h
 ·rename_i e hu;split at h
  ·rename_i id;split at h
   ·rename_i sz et es hm;split at h
    ·rename_i hc;rw[Fo]at h;obtain⟨⟨new,ft⟩,B4,h⟩:=By.1 h
     ·obtain⟨Iy,_,xK⟩:=na B4;refine⟨_,id,_,ft,fun m2 cQ R' k'=>?_,h,fun G w0 μ φ w ρ f yd yx ts ty hM hF hd hx=>?_⟩
      ·have h1:=cQ (true,id) (by simp);simp only at h1;simp only[Ih,hu,h1,hm];rw[BY hc,Fo];simp only[Iy m2 (fun y hy=>cQ y (by simp[hy])),agO]
      ·have hA:aK E.P μ φ w id sz et es:=hM.du id _ hm;have hS:=xK _ _ _ _ _ _ _ hM hx;have hle:=hA.nQ;have hlen:(new.take es.length++es.drop new.length).length=es.length:=by simp;omega
       have yV:(Lit.int .i64 ((min new.length es.length:Nat):Int)).wf=true:=CE (by omega);cases hd with
       |q6 hg=>
        have a7:=hA.2.2.2.2.2.2;rw[hg]at a7;have h0:=a7.1;subst h0;refine⟨w,φ,?_,?_,?_,yV⟩
        ·obtain⟨i,hi,hs⟩:=wA (P:=E.P) (t:=e) (by have:=hA.2.2.2.1;omega);have KZ:∀x:Addr,(loadCells x 0).run E.P w=.ok #[] w:=fun x=>by simpa using run_loadCells_list (P:=E.P) w x [] (by simp)
         cases hS with
         |none hn=>subst hn;simp[Builtin.copy_,run_underlying hu,Builtin.lenOf,Builtin.firstCells,sizeOf,typeInfo,hi,hA.1,goInt]
         |some xs hX H6 XW SU=>simp[Builtin.copy_,run_underlying hu,Builtin.lenOf,Builtin.firstCells,sizeOf,typeInfo,hi,hA.1,KZ,goInt]
        ·have:al m id (.arr sz et (new.take ([]:List PV).length++([]:List PV).drop new.length))=m:=by
          funext j;by_cases e:j=id
          ·subst e;simp[hm]
          ·rw[ao e]
         rw[this];exact hM
        ·exact hF.l0 (fun _ _ h=>h) .set
       | @os _ g hg=>
        obtain⟨c,T,c1,c2,c3,c4,c5⟩:=hA.cells hg;obtain⟨c',r1,r2,r3⟩:=GO (ts:=ts) (ty:=ty) (dCap:=(φ id).cap) hu hc.1 hA.2.2.2.1 hS c1 c4 hA.1 c5;refine⟨_,φ,r1,hM.write hm rfl hg (kv.setRow (agM _)) setRow_size (fun k hk=>bY hk) ?_ rfl (by simp[bF.names]),hF.l0 (fun _ _ h=>h) .set,yV⟩;refine aK.nR (g:=g) ?_ hA.2.2.1 hA.2.2.2.1 hle.2 (setRow_heap w g c c' T (0,0) c1) (by rw[r2];exact c2) (by rw[hlen];exact c3) r3;rw[hlen,←hA.1,←hA.2.1];cases hq:(φ id).toA6 with
        |mk a b c d=>rw[hq]at hg;simp only at hg;simp[hg]
    ·cases h
   ·cases h
  ·cases h
 ·cases h
end
end Go.Ab
