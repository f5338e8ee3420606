import Derived.Test.YtmbihgjlollbeaaGreatAbP2
import Derived.Great.BuildSlice
import Derived.Laws.AppendOwn
import Derived.Laws.MakeOwn
set_option linter.unusedVariables false
set_option linter.unusedSimpArgs false
namespace Go.Ab
open Go.RowKit (Below)
structure bU(P:Program)(μ:Ro)(φ:Nat→aA)(m:Mem)(f:Fr)(ρ:Nat→Value):Prop where
 fr:∀t,ag P μ φ (f t) (ρ t)
 live:∀t id,(f t).has id=true→(m id).isSome=true
section
variable {P:Program} {G:Nat→Option (List PV)} {w0:bw} {μ μ':Ro} {φ φ':Nat→aA} {m m':Mem} {w w':World} {f:Fr} {ρ:Nat→Value}
theorem bU.mono(h:bU P μ φ m f ρ)(hμ:∀b o,μ b=some o→μ' b=some o)(hφ:∀id,(m id).isSome=true→φ' id=φ id∧(m' id).isSome=true):bU P μ' φ' m' f ρ:=⟨fun t=>(h.fr t).mono hμ fun id hid=>(hφ id (h.live t id hid)).1,fun t id hid=>(hφ id (h.live t id hid)).2⟩
theorem ff{id j:Nat}{b:bF}(h:bj (bB id m) id j=some b):j≠id∧∃b',m j=some b'∧b=fU id b':=by
 by_cases e:j=id
 ·subst e;simp at h
 ·rw[fi e]at h;exact⟨e,Dm h⟩
theorem rT{id j:Nat}(h:j≠id)(hm:(m j).isSome=true):(bj (bB id m) id j).isSome=true:=by obtain⟨b,hb⟩:=aiO.1 hm;rw[fi h];simp[bB,hb]
theorem bU.forget(h:bU P μ φ m f ρ)(id:Nat):bU P μ φ (bj (bB id m) id) (eM id f) ρ:=by refine⟨fun t=>(h.fr t).kill id,fun t j hj=>?_⟩;obtain⟨h1,h2⟩:=vt hj;exact rT h2 (h.live t j h1)
theorem av.put(hM:av P G w0 μ φ m w){site:Nat}{b:bF}{ph:aA}(hs:m site=none)(MN:jS w0.heap.size w w')(tx:∀k o,μ k=some o→w'.heap[k]?=some o)(hold:∀id b' g,m id=some b'→b'.owns (φ id) g→w'.heap[g]?=w.heap[g]?)(vp:∀g,b.owns ph g→w0.heap.size≤g∧μ g=none∧∀id b',m id=some b'→¬b'.owns (φ id) g)(E4:b.apart ph)(hB:gf P μ (fun i=>if i=site then ph else φ i) w' site b)(hn:∀id,b.names id=true→(m id).isSome=true)(hlp:∀st,b=.loop st→∃g rc,ph.g=some g∧w0.rc site=some (g,rc)∧w'.heap[g]?=some (.loop (st.obj rc))):av P G w0 μ (fun i=>if i=site then ph else φ i) (al m site b) w':=by
 refine⟨hM.below.trans MN,tx,hM.aF,fun id b' hid=>?_,fun id b' g hid hg=>?_,fun Tv id2 b1 b2 g h1 h2 g1 g2=>?_,fun id b' hid=>?_,fun j cs id hj hh=>?_,hM.base,hM.dy,fun id st hid=>?_⟩
 rotate_right
 ·by_cases h:id=site
  ·subst h;rw[bm]at hid;simp only[cN]at hid;obtain⟨g,rc,h1,h2,h3⟩:=hlp st hid;exact⟨g,rc,by simp[h1],h2,h3⟩
  ·rw[ao h]at hid;obtain⟨g,rc,h1,h2,h3⟩:=hM.BH id st hid;exact⟨g,rc,by simp only[h,T1];exact h1,h2,by rw[hold id _ g hid (.inl h1)];exact h3⟩
 ·by_cases h:id=site
  ·subst h;rw[bm]at hid;simp only[cN]at hid;subst hid;exact hB
  ·rw[ao h]at hid;have hR:=hM.dw id b' hid;refine hR.cn (fun j hj=>?_) (by simp[h]) (fun _ _ h=>h) (fun g hg=>hold id b' g hid hg);have:=hM.MK hid hj;have:j≠site:=fun e=>by subst e;rw[hs]at this;cases this
   simp[this]
 ·by_cases h:id=site
  ·subst h;rw[bm]at hid;simp only[cN]at hid;subst hid;simp only[IS]at hg;exact⟨(vp g hg).1,fun _=>(vp g hg).2.1⟩
  ·rw[ao h]at hid;simp only[h,T1]at hg;exact hM.own id b' g hid hg
 ·by_cases e1:Tv=site
  ·by_cases e2:id2=site
   ·rw[e1,e2]
   ·exfalso;subst e1;rw[bm]at h1;simp only[cN]at h1;subst h1;simp only[IS]at g1;rw[ao e2]at h2;simp only[e2,T1]at g2;exact(vp g g1).2.2 id2 b2 h2 g2
  ·by_cases e2:id2=site
   ·exfalso;subst e2;rw[bm]at h2;simp only[cN]at h2;subst h2;simp only[IS]at g2;rw[ao e1]at h1;simp only[e1,T1]at g1;exact(vp g g2).2.2 Tv b1 h1 g1
   ·rw[ao e1]at h1;rw[ao e2]at h2;simp only[e1,T1]at g1;simp only[e2,T1]at g2;exact hM.inj Tv id2 b1 b2 g h1 h2 g1 g2
 ·by_cases h:id=site
  ·subst h;rw[bm]at hid;simp only[cN]at hid;subst hid;simp only[IS];exact E4
  ·rw[ao h]at hid;simp only[h,T1];exact hM.apart id b' hid
 ·by_cases e:id=site
  ·subst e;simp
  ·rw[ao e];by_cases h:j=site
   ·subst h;rw[bm]at hj;simp only[cN]at hj;subst hj;exact hn id hh
   ·rw[ao h]at hj;exact hM.fu j cs id hj hh
end
section
variable {R:Type} {E:Env}
structure jM(P:Program)(w0:bw)(μ:Ro)(φ:Nat→aA)(m:Mem)(w w':World)(site:Nat)(b:bF)(ph:aA):Prop where
 below:jS w0.heap.size w w'
 ro:∀k o,μ k=some o→w'.heap[k]?=some o
 lD:∀id b' g,m id=some b'→b'.owns (φ id) g→w'.heap[g]?=w.heap[g]?
 own:∀g,ph.g=some g→w0.heap.size≤g∧μ g=none∧∀id b',m id=some b'→¬b'.owns (φ id) g
 rep:∀φ',φ' site=ph→(∀id,b.names id=true→φ' id=φ id)→gf P μ φ' w' site b
 names:∀id,b.names id=true→(m id).isSome=true
 lp:∀st,b=.loop st→∃g rc,ph.g=some g∧w0.rc site=some (g,rc)∧w'.heap[g]?=some (.loop (st.obj rc)):=by intro st h;cases h
theorem dY{draw:Bool}{site:Nat}{b:bF}{f:Fr}{m:Mem}{k:Fr→Mem→bq→Option R}{r:R}(h:fresh draw site b f m k=some r)(Mn:∀i off,b.rowAt i off=true→False:=by intro i off h;simp[bF.rowAt]at h):∃f' m',(∀(R':Type)(k':Fr→Mem→bq→Option R'),fresh draw site b f m k'=k' f' m' [(true,site)])∧k f' m' [(true,site)]=some r∧m' site=some b∧(draw=true→m site=none∧f'=f∧m'=al m site b)∧(∀(P:Program)(G:Nat→Option (List PV))(w0:bw)(μ:Ro)(φ:Nat→aA)(w w':World)(ρ:Nat→Value)(ph:aA),av P G w0 μ φ m w→bU P μ φ m f ρ→jM P w0 μ φ m w w' site b ph→∃φ',φ' site=ph∧av P G w0 μ φ' m' w'∧bU P μ φ' m' f' ρ):=by
 unfold fresh at h;cases hs:m site with
 |none=>
  simp only[hs]at h;refine⟨f,al m site b,fun R' k'=>by simp only[fresh,hs],h,by simp,fun _=>⟨rfl,rfl,rfl⟩,fun P G w0 μ φ w w' ρ ph hM hF hp=>?_⟩;have F0:∀id,(m id).isSome=true→id≠site:=fun id hid e=>by subst e;rw[hs]at hid;cases hid
  refine⟨fun i=>if i=site then ph else φ i,by simp,hM.put hs hp.below hp.ro hp.lD (fun g hg=>hp.own g (ny Mn hg)) (pS Mn) (hp.rep _ (by simp) fun id hid=>by simp[F0 id (hp.names id hid)]) hp.names hp.lp,?_⟩;exact hF.mono (fun _ _ h=>h) fun id hid=>⟨by simp[F0 id hid],by rw[ao (F0 id hid)];exact hid⟩
 |some b0=>
  simp only[hs]at h;split at h
  ·cases h
  ·rename_i hc;simp only[aiI,alD,ajz]at hc;refine⟨eM site f,al (bB site m) site b,fun R' k'=>by simp only[fresh,hs];simp[hc],h,by simp,fun hd=>(by rw[hc.1]at hd;cases hd),fun P G w0 μ φ w w' ρ ph hM hF hp=>?_⟩;have tE:=hM.forget site;have Cp:=hF.forget site;have hs1:bj (bB site m) site site=none:=by simp
   have F0:∀id,(bj (bB site m) site id).isSome=true→id≠site:=fun id hid e=>by subst e;simp at hid
   have hnm:∀id,b.names id=true→id≠site:=fun id hid e=>by subst e;rw[hc.2]at hid;cases hid
   refine⟨fun i=>if i=site then ph else φ i,by simp,?_,?_⟩
   ·rw[←xt];refine tE.put hs1 hp.below hp.ro (fun id b' g hid hg=>?_) (fun g hg=>?_) (pS Mn) (hp.rep _ (by simp) fun id hid=>by simp[hnm id hid]) (fun id hid=>rT (hnm id hid) (hp.names id hid)) hp.lp
    ·obtain⟨_,b2,uw,rfl⟩:=ff hid;exact hp.lD id b2 g uw (fN.1 hg)
    ·obtain⟨h1,h2,h3⟩:=hp.own g (ny Mn hg);refine⟨h1,h2,fun id b' hid ho=>?_⟩;obtain⟨_,b2,uw,rfl⟩:=ff hid;exact h3 id b2 uw (fN.1 ho)
   ·rw[←xt];exact Cp.mono (fun _ _ h=>h) fun id hid=>⟨by simp[F0 id hid],by rw[ao (F0 id hid)];exact hid⟩
theorem jM.alloc{P:Program}{G:Nat→Option (List PV)}{w0:bw}{μ:Ro}{φ:Nat→aA}{m:Mem}{w:World}{site:Nat}{b:bF}{ph:aA}{o:Obj}(hM:av P G w0 μ φ m w)(Xh:ph.g=some w.heap.size)(rep:∀φ',φ' site=ph→(∀id,b.names id=true→φ' id=φ id)→gf P μ φ' (w.alloc o) site b)(names:∀id,b.names id=true→(m id).isSome=true)(lp:∀st,b=.loop st→∃g rc,ph.g=some g∧w0.rc site=some (g,rc)∧(w.alloc o).heap[g]?=some (.loop (st.obj rc)):=by intro st h;cases h):jM P w0 μ φ m w (w.alloc o) site b ph:=by
 have mI:w0.heap.size≤w.heap.size:=hM.below.size;refine⟨(jS.refl _ w).alloc mI o,fun k o' hk=>?_,fun id b' g hid hg=>jS.heap_alloc w o g ((hM.dw id b' hid).Dl hg),fun g hg=>?_,rep,names,lp⟩
 ·have:=hM.ro k o' hk;rw[jS.heap_alloc w o k (OF.1 this).1];exact this
 ·rw[Xh]at hg;simp only[cN]at hg;subst hg;refine⟨mI,?_,fun id b' hid hg=>?_⟩
  ·cases hq:μ w.heap.size with
   |none=>rfl
   |some o'=>have:=hM.ro _ _ hq;simp at this
  ·have:=(hM.dw id b' hid).Dl hg;omega
theorem fj(w:World)(o:Obj):(w.alloc o).heap[w.heap.size]?=some o:=heap_alloc_new w o
variable{t:TypeId}
theorem ei{cs:List V}(h:db E t=some cs):∃i z,E.P.info? t=some i∧i.zero=some z∧i.size=aQ E.P t∧cs.length=aQ E.P t∧z.cells.size=aQ E.P t∧(∀id,cd id cs=false)∧(∀(μ:Ro)(φ:Nat→aA)(i:Nat)u y,cs[i]?=some u→z.cells[i]?=some y→ag E.P μ φ u y)∧(∀(i:Nat)(y:Value),z.cells[i]?=some y→y.oneCell'=true):=by
 unfold db zeroV at h;cases hi:E.P.info? t with
 |none=>simp[hi]at h
 |some i=>
  cases hz:i.zero with
  |none=>simp[hi,hz]at h
  |some z=>
   simp only[hi,hz,aiH,aff]at h;obtain⟨h1,h2,h3⟩:=toCells_ok h;obtain⟨h4,_,h6⟩:=h3 E.P (fun _=>none) (fun _=>default) z (sH z);refine⟨i,z,rfl,hz,by simp[aQ,hi],h1,h4,fun id=>?_,fun μ φ i u y hu hy=>(h3 E.P μ φ z (sH z)).2.1 i u y hu hy,h6⟩;cases hh:cd id cs with
   |false=>rfl
   |true=>have:=h2 id hh;rw[FM]at this;cases this
variable{P:Program}{w:World}
theorem nA{i:TypeInfo}{z:Value}(hi:P.info? t=some i)(hz:i.zero=some z):(zeroValue t).run P w=.ok z w:=by simp[zeroValue,typeInfo,hi,hz]
theorem AN{i:TypeInfo}{z:Value}(hi:P.info? t=some i)(hz:i.zero=some z):(Instr.alloc t true (.tuple #[])).run P w=.ok (.pointer (some ⟨w.heap.size,0,none⟩)) (w.alloc (.cells z.cells t)):=by simp[Instr.alloc,nA hi hz,newVar,newRow]
theorem Qz{v:Value}:(Instr.box t v).run P w=.ok (.pointer (some ⟨w.heap.size,0,none⟩)) (w.alloc (.cells v.cells t)):=by simp[Instr.box,newVar,newRow]
variable{c:Array Value}
theorem jM.box{G:Nat→Option (List PV)}{w0:bw}{μ:Ro}{φ:Nat→aA}{m:Mem}{site:Nat}{cs:List V}{T:TypeId}(hM:av P G w0 μ φ m w)(hl:c.size=cs.length)(hv:∀(i:Nat)u y,cs[i]?=some u→c[i]?=some y→ag P μ φ u y)(h1:∀(i:Nat)(y:Value),c[i]?=some y→y.oneCell'=true)(hn:∀id,cd id cs=true→(m id).isSome=true):jM P w0 μ φ m w (w.alloc (.cells c T)) site (.box cs) (Cn (some w.heap.size) 0 cs.length 0):=by refine jM.alloc hM (by rfl) (fun φ' hφ RU=>⟨w.heap.size,c,T,by rw[hφ],fj w _,hl,fun i u y hu hy=>?_,h1,by rw[hφ]⟩) hn;exact(hv i u y hu hy).mono (fun _ _ h=>h) fun id hid=>RU id (bH (abV hu) hid)
theorem jB(h:aQ P t≠0):(P.info? t).map (·.size)=some (aQ P t):=by obtain⟨i,hi,hs⟩:=wN h;simp[hi,hs]
theorem dc{T:Type}{cs new:List T}{off i:Nat}{x:T}(hb:off+new.length≤cs.length)(h:(bG cs off new)[i]?=some x):(off≤i∧i<off+new.length∧new[i-off]?=some x)∨((i<off∨off+new.length≤i)∧cs[i]?=some x):=by
 rw[dx]at h;rw[abW,aiX]at h;have ht:(cs.take off).length=off:=by simp;omega
 rw[ht]at h;split at h
 ·rename_i hi;exact .inr ⟨.inl hi,(eA h).2⟩
 ·rw[aiX]at h;split at h
  ·exact .inl ⟨by omega,by omega,h⟩
  ·rw[List.getElem?_drop]at h;refine .inr ⟨.inr (by omega),?_⟩;rw[←h];congr 1;omega
theorem cw{T:Type}{cs new:List T}{off:Nat}(hb:off+new.length≤cs.length):(bG cs off new).length=cs.length:=by simp[dx];omega
variable{g:Nat}
theorem fO{v:Value}{o:Nat}{T:TypeId}(hz:v.cells.size=aQ P t)(hi:(P.info? t).map (·.size)=some (aQ P t))(hg:w.heap[g]?=some (.cells c T (0,0)))(hb:o+v.cells.size≤c.size)(h1:∀(i:Nat)(y:Value),v.cells[i]?=some y→y.oneCell'=true):(Instr.storeAt t (.pointer (some ⟨g,o,none⟩)) v).run P w=.ok () (w.setRow g (bG c.toList o v.cells.toList).toArray):=by
 have vw:=run_storeCells_at P g o T v.cells.toList 0 c w hg (by simpa using hb) (fun x hx=>by obtain⟨i,hi⟩:=aiU hx;exact h1 i x (by simpa using hi));have mI:(sizeOf t).run P w=.ok (aQ P t) w:=by
  cases hq:P.info? t with
  |none=>simp[hq]at hi
  |some i=>simp[sizeOf,typeInfo,hq,aQ]
 simp only[Instr.storeAt,Instr.sureAddr,storeVar,Sem.run_bind,Sem.run_pure,Result.andThen_ok,mI,hz,alC,not_true_eq_false,T1,vw,akj];rw[dx];try rfl
variable{xs:Array Value}
theorem bW{k:Nat}(h:k≠g):(w.setRow g xs).heap[k]?=w.heap[k]?:=by unfold World.setRow;simp[ajR,Ne.symm h]
theorem setRow_size:(w.setRow g xs).heap.size=w.heap.size:=by simp[World.setRow]
theorem jS.setRow{B:Nat}(h:B≤g):jS B w (w.setRow g xs):=⟨⟨rfl,rfl,rfl,Nat.le_of_eq setRow_size.symm,fun k hk=>bW (by omega)⟩,fun _=>aiJ _⟩
end
section
variable {P:Program} {G:Nat→Option (List PV)} {w0:bw} {μ:Ro} {φ:Nat→aA} {m m':Mem} {w:World}
def jj(m m':Mem):Prop:=∀id,(m id).isSome=true→(m' id).isSome=true
theorem jj.refl(m:Mem):jj m m:=fun _ h=>h
theorem jj.trans{a b c:Mem}(h:jj a b)(k:jj b c):jj a c:=fun id hid=>k id (h id hid)
variable{id:Nat}
theorem jj.set{b:bF}:jj m (al m id b):=fun j hj=>by
 by_cases e:j=id
 ·subst e;simp
 ·rw[ao e];omega
theorem bU.lS{f:Fr}{ρ:Nat→Value}{μ':Ro}(h:bU P μ φ m f ρ)(hμ:∀b o,μ b=some o→μ' b=some o)(hl:jj m m'):bU P μ' φ m' f ρ:=h.mono hμ fun id hid=>⟨rfl,hl id hid⟩
variable{v:V}{p:PV}
theorem QA(h:CZ m v=some (p,m')):jj m m'∧∀(P:Program)(G:Nat→Option (List PV))(w0:bw)(μ:Ro)(φ:Nat→aA)(w:World)(x:Value),av P G w0 μ φ m w→ag P μ φ v x→∃μ',(∀b o,μ b=some o→μ' b=some o)∧av P G w0 μ' φ m' w∧ah P μ' p x:=by
 unfold CZ at h;split at h
 ·simp only[cN,IT]at h;obtain⟨rfl,rfl⟩:=h;exact⟨.refl _,fun P G w0 μ φ w x hM hx=>⟨μ,fun _ _ h=>h,hM,by cases hx with|pv hx=>omega⟩⟩
 ·simp only[cN,IT]at h;obtain⟨rfl,rfl⟩:=h;exact⟨.refl _,fun P G w0 μ φ w x hM hx=>⟨μ,fun _ _ h=>h,hM,by cases hx;exact .jL⟩⟩
 ·rename_i id;split at h
  ·rename_i s et es hm;simp only[cN,IT]at h;obtain⟨rfl,rfl⟩:=h;refine⟨.set,fun P G w0 μ φ w x hM hx=>⟨_,kM hM (φ id).g,hM.freeze hm,?_⟩⟩;refine(hM.arr (.inl hm)).full hM hx (kM hM _) fun g hg=>?_;simp[oN,hg]
  ·rename_i s et es hm;simp only[cN,IT]at h;obtain⟨rfl,rfl⟩:=h;refine⟨.refl _,fun P G w0 μ φ w x hM hx=>⟨μ,fun _ _ h=>h,hM,?_⟩⟩;refine(hM.arr (.inr hm)).full hM hx (fun _ _ h=>h) fun g hg=>?_;obtain⟨o,ho⟩:=aiO.1 ((hM.dw id _ hm).2 g hg);rw[ho,hM.ro _ _ ho]
  ·rename_i s et es hm;simp only[cN,IT]at h;obtain⟨rfl,rfl⟩:=h;refine⟨.set,fun P G w0 μ φ w x hM hx=>⟨_,pT hM _,hM.Qy hm,?_⟩⟩;have Ui:=hM.Qy hm;have hF:aH P _ φ w id s et (es.map PV.strip):=(Ui.dw id _ (bm _ _ _)).1;refine hF.FV (hx.xn (pT hM _)) (fun _ _ h=>h) fun g hg=>?_;unfold sK;rw[AI (show(bF.nest s et es).owns (φ id) g from .inl hg)]
  ·cases h
 ·cases h
theorem F1(h:CZ cU v=some (p,m')):∀(P:Program)(μ:Ro)(φ:Nat→aA)(x:Value),ag P μ φ v x→ah P μ p x:=by
 unfold CZ at h;split at h
 ·simp only[cN,IT]at h;obtain⟨rfl,rfl⟩:=h;exact fun P μ φ x hx=>by cases hx with|pv hx=>omega
 ·simp only[cN,IT]at h;obtain⟨rfl,rfl⟩:=h;exact fun P μ φ x hx=>by cases hx;exact .jL
 ·simp[cU]at h
 ·cases h
theorem pU(h:CZ cU v=some (p,m')):m'=cU:=by unfold CZ at h;grind [Option.some.injEq,Prod.mk.injEq,cU]
theorem Dp:∀{cs:List V}{m m':Mem}{ps:List PV},lf m cs=some (ps,m')→jj m m'∧ps.length=cs.length∧∀(P:Program)(G:Nat→Option (List PV))(w0:bw)(μ:Ro)(φ:Nat→aA)(w:World)(X:Nat→Value),av P G w0 μ φ m w→(∀(i:Nat)u,cs[i]?=some u→ag P μ φ u (X i))→∃μ',(∀b o,μ b=some o→μ' b=some o)∧av P G w0 μ' φ m' w∧∀(i:Nat)p,ps[i]?=some p→ah P μ' p (X i)
 |[],m,m',ps,h=>by simp only[lf,cN,IT]at h;obtain⟨rfl,rfl⟩:=h;exact⟨.refl _,rfl,fun P G w0 μ φ w X hM _=>⟨μ,fun _ _ h=>h,hM,by simp⟩⟩
 |c::r,m,m',ps,h=>by
  simp only[lf]at h;split at h
  ·rename_i p m1 h1;split at h
   ·rename_i Y2 m2 h2;simp only[cN,IT]at h;obtain⟨rfl,rfl⟩:=h;obtain⟨a1,a2⟩:=QA h1;obtain⟨b1,b2,b3⟩:=Dp h2;refine⟨a1.trans b1,by simp[b2],fun P G w0 μ φ w X hM hx=>?_⟩;obtain⟨μ1,c1,c2,c3⟩:=a2 P G w0 μ φ w (X 0) hM (hx 0 c (by simp));obtain⟨μ2,d1,d2,d3⟩:=b3 P G w0 μ1 φ w (fun i=>X (i+1)) c2 (fun i u hu=>(hx (i+1) u (by simpa using hu)).xn c1);refine⟨μ2,fun b o h=>d1 b o (c1 b o h),d2,fun i q hq=>?_⟩;cases i with
    |zero=>simp at hq;subst hq;exact c3.mono d1
    |succ i=>simp_all
   ·cases h
  ·cases h
theorem yj:∀{cs:List V}{m':Mem}{ps:List PV},lf cU cs=some (ps,m')→ps.length=cs.length∧∀(P:Program)(μ:Ro)(φ:Nat→aA)(X:Nat→Value),(∀(i:Nat)u,cs[i]?=some u→ag P μ φ u (X i))→∀(i:Nat)p,ps[i]?=some p→ah P μ p (X i)
 |[],m',ps,h=>by simp only[lf,cN,IT]at h;simp_all
 |c::r,m',ps,h=>by
  simp only[lf]at h;split at h
  ·rename_i p m1 h1;split at h
   ·rename_i Y2 m2 h2;simp only[cN,IT]at h;obtain⟨rfl,rfl⟩:=h;have:=pU h1;subst this;obtain⟨b2,b3⟩:=yj h2;refine⟨by simp[b2],fun P μ φ X hx i q hq=>?_⟩;cases i with
    |zero=>simp at hq;subst hq;exact F1 h1 P μ φ _ (hx 0 c (by simp))
    |succ i=>exact b3 P μ φ (fun i=>X (i+1)) (fun i u hu=>hx (i+1) u (by simpa using hu)) i q (by simpa using hq)
   ·cases h
  ·cases h
structure rU(P:Program)(μ:Ro)(n:Nat)(p:PV)(x:Value):Prop where
 len:p.cells.length=n
 size:x.cells.size=n
 rep:∀(j:Nat)q y,p.cells[j]?=some q→x.cells[j]?=some y→ah P μ q y
 one:∀(j:Nat)y,x.cells[j]?=some y→y.oneCell'=true
variable{n:Nat}{agg:Bool}
theorem xv{P:Program}{μ:Ro}{ps:List PV}{x:Value}(hp:(if agg then some (.agg ps)else match ps with|[p]=>some p|_=>none)=some p)(hl:ps.length=n)(hs:x.cells.size=n)(hr:∀(j:Nat)q y,ps[j]?=some q→x.cells[j]?=some y→ah P μ q y)(h1:∀(j:Nat)y,x.cells[j]?=some y→y.oneCell'=true):rU P μ n p x:=by
 have hc:p.cells=ps:=by
  cases agg with
  |true=>simp at hp;subst hp;rfl
  |false=>
   simp only[cT,T1]at hp;split at hp
   ·rename_i q;simp only[cN]at hp;subst hp;have bT:0<x.cells.size:=by simp at hl;omega
    have hr0:=hr 0 q _ (by simp) (IN bT);have Dq:=h1 0 _ (IN bT);generalize x.cells[0]=y at hr0 Dq;cases q<;>first|rfl|(cases hr0;simp[Value.oneCell']at Dq)
   ·cases hp
 exact⟨by rw[hc];omega,hs,by rw[hc];omega,h1⟩
theorem Dr{m m':Mem}(h:jx m n agg v=some (p,m')):jj m m'∧∀(P:Program)(G:Nat→Option (List PV))(w0:bw)(μ:Ro)(φ:Nat→aA)(w:World)(x:Value),av P G w0 μ φ m w→ag P μ φ v x→∃μ',(∀b o,μ b=some o→μ' b=some o)∧av P G w0 μ' φ m' w∧rU P μ' n p x:=by
 unfold jx at h;split at h
 ·rename_i cs hc;obtain⟨c1,c2,c3⟩:=toCells_ok hc;split at h
  ·rename_i ps m1 hf;obtain⟨f1,f2,f3⟩:=Dp hf;have hp:(if agg then some (.agg ps)else match ps with|[p]=>some p|_=>none)=some p∧m1=m':=by grind
   obtain⟨hp,rfl⟩:=hp;refine⟨f1,fun P G w0 μ φ w x hM hx=>?_⟩;obtain⟨d1,d2,d3⟩:=c3 P μ φ x hx;have hX:∀(i:Nat),i<cs.length→x.cells[i]?=some (x.cells.getD i undef):=fun i hi=>by simp_all
   obtain⟨μ',e1,e2,e3⟩:=f3 P G w0 μ φ w (fun i=>x.cells.getD i undef) hM fun i u hu=>d2 i u _ hu (hX i (AT.1 hu).1);refine⟨μ',e1,e2,xv hp (by omega) d1 (fun j q y hq hy=>?_) d3⟩;grind
  ·cases h
 ·cases h
theorem zm{m':Mem}(h:jx cU n agg v=some (p,m')):∀(P:Program)(μ:Ro)(φ:Nat→aA)(x:Value),ag P μ φ v x→rU P μ n p x:=by
 unfold jx at h;split at h
 ·rename_i cs hc;obtain⟨c1,c2,c3⟩:=toCells_ok hc;split at h
  ·rename_i ps m1 hf;obtain⟨f2,f3⟩:=yj hf;have hp:(if agg then some (.agg ps)else match ps with|[p]=>some p|_=>none)=some p:=by grind
   refine fun P μ φ x hx=>?_;obtain⟨d1,d2,d3⟩:=c3 P μ φ x hx;have hX:∀(i:Nat),i<cs.length→x.cells[i]?=some (x.cells.getD i undef):=fun i hi=>by simp_all
   have e3:=f3 P μ φ (fun i=>x.cells.getD i undef) fun i u hu=>d2 i u _ hu (hX i (AT.1 hu).1);refine xv hp (by omega) d1 (fun j q y hq hy=>?_) d3;grind
  ·cases h
 ·cases h
theorem JP{draw:Bool}{m m':Mem}(h:vi draw m n agg v=some (p,m')):jj m m'∧(draw=true→m'=m∧∀m2:Mem,vi true m2 n agg v=some (p,m2))∧∀(P:Program)(G:Nat→Option (List PV))(w0:bw)(μ:Ro)(φ:Nat→aA)(w:World)(x:Value),av P G w0 μ φ m w→ag P μ φ v x→∃μ',(∀b o,μ b=some o→μ' b=some o)∧av P G w0 μ' φ m' w∧rU P μ' n p x:=by
 unfold vi at h;split at h
 ·rename_i hd;split at h
  ·rename_i q m1 hf;simp only[cN,IT]at h;obtain⟨rfl,rfl⟩:=h;exact⟨.refl _,fun _=>⟨rfl,fun m2=>by simp[vi,hf]⟩,fun P G w0 μ φ w x hM hx=>⟨μ,fun _ _ h=>h,hM,zm hf P μ φ x hx⟩⟩
  ·cases h
 grind [Dr,absurd]
theorem aH.set{P:Program}{μ:Ro}{φ:Nat→aA}{w:World}{id sz:Nat}{et:TypeId}{es:List PV}(hA:aH P μ φ w id sz et es){g:Nat}(hg:(φ id).g=some g){i off n:Nat}{e p q:PV}{x:Value}(he:es[i]?=some e)(hE:rU P μ n p x)(hb:off+n≤sz)(hq:q.cells=bG (aJ sz e) off p.cells):∃c T,w.heap[g]?=some (.cells c T (0,0))∧i*sz+off+x.cells.size≤c.size∧aH P μ φ (w.setRow g (bG c.toList (i*sz+off) x.cells.toList).toArray) id sz et (es.set i q):=by
 obtain⟨a1,a2,a3,a4,a5,a6,a7⟩:=hA;rw[hg]at a7;obtain⟨c,T,c1,c2,c3,c4,c5⟩:=a7;have hi:i<es.length:=(AT.1 he).1;have Mo:i*sz+off+n≤c.size:=by have:(i+1)*sz≤(φ id).cap*sz:=ZG _ (by omega);grind
 have F2:x.cells.toList.length=n:=by simpa using hE.size
 have E3:(aJ sz e).length=sz:=bd _ _;have Z2:q.cells.length=sz:=by rw[hq,cw (by rw[E3,hE.len];omega),E3]
 have sx:(bG c.toList (i*sz+off) x.cells.toList).length=c.size:=by simp_all[cw]
 have vz:∀(i':Nat)e',(es.set i q)[i']?=some e'→(i'=i∧e'=q)∨(i'≠i∧es[i']?=some e'):=by grind
 refine⟨c,T,c1,by rw[hE.size];omega,?_⟩;refine⟨by simp[a1],a2,a3,a4,fun i' e' h'=>?_,a6,?_⟩
 ·grind
 ·rw[hg];refine⟨_,T,setRow_heap w g c _ T (0,0) c1,by simp[sx,c2],by simpa using c3,fun i' e' j p' x' h' hj hx=>?_,fun j x' hj hx=>?_⟩
  ·rw[ai0]at hx;rcases dc (by simp[hE.size];omega) hx with⟨b1,b2,b3⟩|⟨b1,b2⟩
   ·rw[F2]at b2;have Tx:i'=i∧e'=q:=by
     rcases vz i' e' h' with h|⟨dh,h'⟩
     ·omega
     ·exfalso;have Cq:=(AT.1 hj).1;rw[a5 i' e' h']at Cq;rcases Nat.lt_or_gt_of_ne dh with bT|hgt
      ·have:(i'+1)*sz≤i*sz:=ZG _ bT;grind
      ·have:(i+1)*sz≤i'*sz:=ZG _ hgt;grind
    obtain⟨rfl,rfl⟩:=Tx;rw[hq]at hj;rcases dc (by rw[E3,hE.len];omega) hj with⟨d1,d2,d3⟩|⟨d1,d2⟩
    ·exact hE.rep _ _ _ d3 (by rw[←aiM,←b3];congr 1;omega)
    ·exfalso;rw[hE.len]at d1;omega
   ·rw[F2]at b1;have b2:c[i'*sz+j]?=some x':=by simpa using b2
    rcases vz i' e' h' with⟨rfl,rfl⟩|⟨dh,h'⟩
    ·rw[hq]at hj;rcases dc (by rw[E3,hE.len];omega) hj with⟨d1,d2,d3⟩|⟨d1,d2⟩
     ·exfalso;rw[hE.len]at d2;omega
     grind [fa]
    grind
  ·rw[ai0]at hx;rw[ako]at hj;rcases dc (by simp[hE.size];omega) hx with⟨b1,b2,b3⟩|⟨b1,b2⟩
   ·exact hE.one _ x' (by simpa using b3)
   grind
variable{off:Nat}
theorem Hc{s0:Nat}{e:PV}(he:e.cells.length=s0)(ho:off<s0)(hp:∀cs,p≠.agg cs):(setRow s0 e off p).cells=e.cells.set off p:=by
 have h1:p.cells=[p]:=by cases p<;>first|rfl|exact absurd rfl (hp _)
 unfold setRow;split
 ·rename_i hs;subst hs;have:off=0:=by omega
  subst this;match hc:e.cells,he with
  |[c],_=>simp[h1]
 simp_all[PV.cells,fa]
theorem Dt{s:Nat}{e:PV}(h1:p.cells.length=n)(h2:e.cells.length=s):(setCells s e off n p).cells=bG (aJ s e) off p.cells:=by
 unfold setCells;split
 ·rename_i h;obtain⟨rfl,rfl⟩:=h;simp_all[dx,bd]
 rfl
theorem aW.change{P:Program}{μ μ':Ro}{φ φ':Nat→aA}{w w':World}{sz:Nat}{et:TypeId}{es es':List PV}(h:aW P μ φ w id sz et es)(hlen:es'.length=es.length)(uU:∀(i:Nat)e,es'[i]?=some e→e.cells.length=sz)(hφ:(φ' id).toBI=(φ id).toBI)(hw:∀g,(φ id).g=some g→w'.heap[g]?=w.heap[g]?)(hc:∀(i:Nat)e'(j:Nat)p' g c T x,es'[i]?=some e'→e'.cells[j]?=some p'→(φ id).g=some g→w.heap[g]?=some (.cells c T (0,0))→c[i*sz+j]?=some x→(∀e p,es[i]?=some e→e.cells[j]?=some p→dV P μ ((φ id).row i j) w p x)→dV P μ' ((φ' id).row i j) w' p' x):aW P μ' φ' w' id sz et es':=by
 obtain⟨a1,a2,a3,a4,a5,a6,a7⟩:=h;unfold aW;rw[hφ];refine⟨by omega,a2,a3,a4,uU,a6,?_⟩;cases hg:(φ id).g with
 |none=>simp_all
 |some g=>grind
theorem eN{T:Type}{l:List T}{i i':Nat}{q e':T}(h:(l.set i q)[i']?=some e'):(i'=i∧e'=q)∨(i'≠i∧l[i']?=some e'):=by grind
theorem aW.set{P:Program}{μ:Ro}{φ:Nat→aA}{w:World}{sz:Nat}{et:TypeId}{es:List PV}(hA:aW P μ φ w id sz et es)(E4:(bF.nest sz et es).apart (φ id)){g:Nat}(hg:(φ id).g=some g){i:Nat}{e q:PV}{x:Value}(he:es[i]?=some e)(hE:rU P μ n p x)(hb:off+n≤sz)(hq:q.cells=bG (aJ sz e) off p.cells):∃c T,w.heap[g]?=some (.cells c T (0,0))∧i*sz+off+x.cells.size≤c.size∧aW P μ φ (w.setRow g (bG c.toList (i*sz+off) x.cells.toList).toArray) id sz et (es.set i q)∧∀i' rP,(bF.nest sz et (es.set i q)).rowAt i' rP=true→(bF.nest sz et es).rowAt i' rP=true:=by
 have xq:=hA;obtain⟨a1,a2,a3,a4,a5,a6,a7⟩:=hA;rw[hg]at a7;obtain⟨c,T,c1,c2,c3,c4,c5⟩:=a7;have hi:i<es.length:=(AT.1 he).1;have Mo:i*sz+off+n≤c.size:=by have:(i+1)*sz≤(φ id).cap*sz:=ZG _ (by omega);grind
 have F2:x.cells.toList.length=n:=by simpa using hE.size
 have E3:(aJ sz e).length=sz:=bd _ _;have Z2:q.cells.length=sz:=by rw[hq,cw (by rw[E3,hE.len];omega),E3]
 have sx:(bG c.toList (i*sz+off) x.cells.toList).length=c.size:=by simp_all[cw]
 have dh:∀i' j' g',(bF.nest sz et es).rowAt i' j'=true→((φ id).row i' j').g=some g'→g'≠g:=fun i' j' g' hr cv e=>(E4 i' j' g' hr cv).1 (by rw[e];omega);have vw:∀{i' j':Nat}{e' p':PV}{x':Value}{l:List Value},es[i']?=some e'→e'.cells[j']?=some p'→dV P μ ((φ id).row i' j') w p' x'→dV P μ ((φ id).row i' j') (w.setRow g l.toArray) p' x':=fun h1 h2 h3=>h3.cn (fun _ _ h=>h) fun hr g' cv=>bW (dh _ _ g' (by rw[du h1 h2];omega) cv);refine⟨c,T,c1,by rw[hE.size];omega,⟨by simp[a1],a2,a3,a4,fun i' e' h'=>?_,a6,?_⟩,?_⟩
 ·grind
 ·rw[hg];refine⟨_,T,setRow_heap w g c _ T (0,0) c1,by simp[sx,c2],by simpa using c3,fun i' e' j p' x' h' hj hx=>?_,fun j x' hj hx=>?_⟩
  ·rw[ai0]at hx;rcases dc (by simp[hE.size];omega) hx with⟨b1,b2,b3⟩|⟨b1,b2⟩
   ·rw[F2]at b2;have Tx:i'=i∧e'=q:=by
     rcases eN h' with h|⟨dh,h'⟩
     ·omega
     ·exfalso;have Cq:=(AT.1 hj).1;rw[a5 i' e' h']at Cq;rcases Nat.lt_or_gt_of_ne dh with bT|hgt
      ·have:(i'+1)*sz≤i*sz:=ZG _ bT;grind
      ·have:(i+1)*sz≤i'*sz:=ZG _ hgt;grind
    obtain⟨rfl,rfl⟩:=Tx;rw[hq]at hj;rcases dc (by rw[E3,hE.len];omega) hj with⟨d1,d2,d3⟩|⟨d1,d2⟩
    ·exact .pure (hE.rep _ _ _ d3 (by rw[←aiM,←b3];congr 1;omega))
    ·exfalso;rw[hE.len]at d1;omega
   ·rw[F2]at b1;have b2:c[i'*sz+j]?=some x':=by simpa using b2
    rcases eN h' with⟨rfl,rfl⟩|⟨dh,h'⟩
    ·rw[hq]at hj;rcases dc (by rw[E3,hE.len];omega) hj with⟨d1,d2,d3⟩|⟨d1,d2⟩
     ·exfalso;rw[hE.len]at d2;omega
     grind [fa]
    simp_all
  ·rw[ai0]at hx;rw[ako]at hj;rcases dc (by simp[hE.size];omega) hx with⟨b1,b2,b3⟩|⟨b1,b2⟩
   ·exact hE.one _ x' (by simpa using b3)
   grind
 ·intro i' rP hr;rcases jh hr with⟨_,_,_,e',s,rs,gN,h',sL⟩|⟨_,_,_,_,_,_,gN,_⟩
  ·simp only[bF.nest.injEq]at gN;obtain⟨rfl,rfl,rfl⟩:=gN;rcases eN h' with⟨rfl,rfl⟩|⟨dh,h'⟩
   ·rw[hq]at sL;rcases dc (by rw[E3,hE.len];omega) sL with⟨d1,d2,d3⟩|⟨d1,d2⟩
    ·exfalso;have bT:rP-off<x.cells.size:=by rw[hE.size,←hE.len];omega
     exact absurd (hE.rep _ _ _ d3 (IN bT)).CI (by simp[PV.isRow])
    ·rw[fa (a5 i' e he)]at d2;rw[du he d2];rfl
   ·rw[du h' sL];rfl
  ·cases gN
end
section
variable {R:Type} {E:Env}
theorem xw{p:PV}:∀{n o j:Nat}{q:PV},(dL p o n)[j]?=some q→j<n∧q=cell p (o+j)
 |0,o,j,q,h=>by simp[dL]at h
 |n+1,o,0,q,h=>⟨by omega,by simpa[dL]using h.symm⟩
 |n+1,o,j+1,q,h=>by simp only[dL,aj2]at h;obtain⟨h1,h2⟩:=xw h;grind
theorem rV{p:PV}:∀{n o:Nat},(dL p o n).length=n
 |0,_=>rfl
 |n+1,o=>by simp[dL,rV]
variable{n:Nat}
theorem yn{s i:Nat}{p e:PV}(h:(gS s n p)[i]?=some e):i<n∧e=.agg (dL p (i*s) s):=by unfold gS at h;grind
theorem Uj{p:PV}{u:Unit}(h:asAgg n p=some u):∃cs,p=.agg cs∧cs.length=n:=by unfold asAgg at h;grind
theorem RV{t:TypeId}{i off s:Nat}{et:TypeId}{b:Option bF}{x:V}{p:PV}(h:MB E t i off b x=some (s,et,n,p)):∃es,b=some (.arr s et es)∧x=.pv p∧AA E t s i off=true∧n=es.length:=by unfold MB at h;grind
theorem F3{P:Program}{μ:Ro}{s k:Nat}{cs:List PV}{xs:Array Value}(hp:ah P μ (.agg cs) (.agg xs))(hl:cs.length=n*s){i j:Nat}{e q:PV}(he:(gS s n (.agg cs))[i]?=some e)(hq:e.cells[j]?=some q)(hk:k=i*s+j):∃x,xs[k]?=some x∧ah P μ q x∧x.oneCell'=true:=by
 obtain⟨h1,rfl⟩:=yn he;obtain⟨h2,rfl⟩:=xw hq;have bT:i*s+j<n*s:=by have:(i+1)*s≤n*s:=ZG _ (by omega);grind
 subst hk;cases hp with
 |agg g1 g2 g3=>have hc:cs[i*s+j]?=some cs[i*s+j]:=cO (by omega);have hx:xs[i*s+j]?=some xs[i*s+j]:=IN (by omega);grind [cell,PV.cells]
theorem RW{draw:Bool}{t:TypeId}{a x:V}{m:Mem}{k:Mem→bq→Option R}{r:R}(h:rO E draw t a x m k=some r):∃m' ft,k m' ft=some r∧(draw=true→∃id b,m'=al m id b∧ft=[(true,id)]∧∀m2:Mem,m2 id=m id→∀(R':Type)(k':Mem→bq→Option R'),rO E true t a x m2 k'=k' (al m2 id b) [(true,id)])∧jj m m'∧∀(G:Nat→Option (List PV))(w0:bw)(μ:Ro)(φ:Nat→aA)(w:World)(ya yx:Value),av E.P G w0 μ φ m w→ag E.P μ φ a ya→ag E.P μ φ x yx→(∀id,x.has id=true→(m id).isSome=true)→∃w' μ',(Instr.storeAt t ya yx).run E.P w=.ok () w'∧(∀b o,μ b=some o→μ' b=some o)∧av E.P G w0 μ' φ m' w':=by
 unfold rO at h;split at h
 ·rename_i id off;split at h
  ·rename_i cs hm;split at h
   ·rename_i new hn;split at h
    ·rename_i hb;refine⟨_,_,h,fun hd=>⟨id,_,rfl,rfl,fun m2 cL R' k'=>by simp_all[rO,AI]⟩,.set,fun G w0 μ φ w ya yx hM ha hx hlx=>?_⟩;obtain⟨n1,n2,n3⟩:=toCells_ok hn;obtain⟨x1,x2,x3⟩:=n3 _ _ _ _ hx;cases ha with
     | @op _ _ g hg=>
      obtain⟨g',c,T,cv,hh,hs,hv,h1,CJ⟩:=hM.dw id _ hm;rw[hg]at cv;simp only[cN]at cv;subst cv;have hi:=jB (P:=E.P) (t:=t) (by omega);have pV:off+yx.cells.toList.length≤c.toList.length:=by simp;omega
      refine⟨_,μ,fO x1 hi hh (by omega) x3,fun _ _ h=>h,?_⟩;refine hM.write hm rfl hg (jS.setRow (aiJ _)) setRow_size (fun k hk=>bW hk) ⟨g,_,T,hg,setRow_heap w g c _ T (0,0) hh,?_,fun i u y hu hy=>?_,fun i y hy=>?_,by simp_all[cw]⟩ rfl fun j hj=>?_
      ·simp_all[ajj,cw]
      ·rw[ai0]at hy;have e1:yx.cells.toList.length=new.length:=by simp;omega
       rcases dc pV hy with⟨b1,b2,b3⟩|⟨b1,b2⟩<;>rcases dc (by omega) hu with⟨d1,d2,d3⟩|⟨d1,d2⟩
       ·grind
       ·omega
       ·omega
       grind
      ·rw[ai0]at hy;rcases dc pV hy with⟨b1,b2,b3⟩|⟨b1,b2⟩
       ·grind
       grind
      ·simp only[bF.names]at hj;obtain⟨v,Uk,hh'⟩:=cC.1 hj;simp only[dx,aiW]at Uk;rcases Uk with(Uk|Uk)|Uk
       ·exact hM.fu id cs j hm (bH (ajX Uk) hh')
       ·grind [bH]
       ·exact hM.fu id cs j hm (bH (akd Uk) hh')
    ·cases h
   ·cases h
  ·cases h
 ·rename_i id i off;split at h
  ·rename_i s et n p hwv;obtain⟨es,hm,rfl,hw,hn⟩:=RV hwv;subst hn;obtain⟨u,hu,h⟩:=cQ.1 h;split at h
   ·rename_i hl;obtain⟨ha,rfl,rfl,_⟩:=FU hw;obtain⟨cs,rfl,uU⟩:=Uj hu;refine⟨_,_,h,fun _=>⟨id,_,rfl,rfl,fun m2 cL R' k'=>?_⟩,.set,fun G w0 μ φ w ya yx hM ha hx _=>?_⟩
    ·simp_all[rO,aiH,AI]
    ·have hA:aH E.P μ φ w id s et es:=hM.dw id _ hm;cases ha with
     | @oe _ _ _ g hg=>
      cases hx with
      |pv hx=>
       have QB:=hx;cases hx with
       | @agg _ xs g1 g2 g3=>
        obtain⟨a1,a2,a3,a4,a5,a6,a7⟩:=hA;rw[hg]at a7;obtain⟨c,T,c1,c2,c3,c4,c5⟩:=a7;have hle:es.length*s≤c.size:=ajq (ZG _ c3) c2;have Jn:xs.size=es.length*s:=by omega
        have eB:aQ E.P t≠0:=by omega
        have hl1:=hl.1;have hi:=jB (P:=E.P) (t:=t) eB;have hcz:(Value.agg xs).cells.size=aQ E.P t:=by simp[Value.cells];omega
        refine⟨w.setRow g (bG c.toList 0 xs.toList).toArray,μ,?_,fun _ _ h=>h,hM.write hm rfl hg (jS.setRow (aiJ _)) setRow_size (fun k hk=>bW hk) ?_ rfl (fun j hj=>by simp[bF.names]at hj)⟩
        ·rw[show 0*(φ id).sz+0=0 by omega];exact fO hcz hi c1 (by omega) (fun i y hy=>g3 i y hy)
        ·have E3:∀(i:Nat)(x:Value),i<es.length*s→(bG c.toList 0 xs.toList).toArray[i]?=some x→xs[i]?=some x:=fun i x hi hx=>by
          rw[ai0]at hx;rcases dc (by simp;omega) hx with⟨b1,b2,b3⟩|⟨b1,b2⟩
          ·simpa using b3
          grind
         refine⟨by rw[a1];simp[gS],a2,a3,a4,fun i e he=>?_,a6,?_⟩
         ·obtain⟨_,rfl⟩:=yn he;exact rV
         ·rw[hg];refine⟨_,T,setRow_heap w g c _ T (0,0) c1,?_,?_,fun i e j q x he hq hx=>?_,fun i x hi hx=>?_⟩
          ·simp_all[ajj,cw,Value.cells]
          ·simpa[gS]using c3
          ·obtain⟨x',x1,x2,_⟩:=F3 (k:=i*s+j) QB (by omega) he hq rfl;grind
          grind [gS]
   ·cases h
  rename_i hwn;split at h
  ·rename_i p m1 hf;obtain⟨f1,f2,f3⟩:=JP hf;split at h
   ·rename_i s et es hm;obtain⟨e,he,h⟩:=cQ.1 h;have key:∀q,0<aQ E.P t→off+aQ E.P t≤s→(p.cells.length=aQ E.P t→e.cells.length=s→q.cells=bG (aJ s e) off p.cells)→∀(G:Nat→Option (List PV))(w0:bw)(μ:Ro)(φ:Nat→aA)(w:World)(ya yx:Value),av E.P G w0 μ φ m w→ag E.P μ φ (.oe id i off) ya→ag E.P μ φ x yx→(∀id,x.has id=true→(m id).isSome=true)→∃w' μ',(Instr.storeAt t ya yx).run E.P w=.ok () w'∧(∀b o,μ b=some o→μ' b=some o)∧av E.P G w0 μ' φ (al m1 id (.arr s et (es.set i q))) w':=by
     intro q hz hb hq G w0 μ φ w ya yx hM ha hx _;obtain⟨μ',g1,g2,g3⟩:=f3 _ _ _ _ _ _ _ hM hx;cases ha with
     | @oe _ _ _ g hg=>have hA:aH E.P μ' φ w id s et es:=g2.dw id _ hm;have hq':=hq g3.len (hA.2.2.2.2.1 i e he);obtain⟨c,T,hh,pV,xq⟩:=hA.set hg he g3 hb hq';have mI:(φ id).sz=s:=hA.2.1;have hi:=jB (P:=E.P) (t:=t) (by omega);refine⟨_,μ',?_,g1,g2.write hm rfl hg (jS.setRow (aiJ _)) setRow_size (fun k hk=>bW hk) xq rfl fun j hj=>by simp[bF.names]at hj⟩;rw[mI];exact fO g3.size hi hh pV g3.one
    split at h
    ·rename_i hb;refine⟨_,_,h,fun hd=>?_,f1.trans .set,key p (by omega) (by omega) fun h1 h2=>?_⟩
     ·obtain⟨rfl,f4⟩:=f2 hd;refine⟨id,_,rfl,rfl,fun m2 cL R' k'=>?_⟩;simp_all[rO,aiH,AI]
     simp_all[dx,bd]
    ·rename_i hnb;split at h
     ·rename_i hb;refine⟨_,_,h,fun hd=>?_,f1.trans .set,key _ (by omega) (by omega) fun _ _=>rfl⟩;obtain⟨rfl,f4⟩:=f2 hd;refine⟨id,_,rfl,rfl,fun m2 cL R' k'=>?_⟩;simp_all[rO,aiH,By,AI]
     ·cases h
   ·rename_i s et es hm;obtain⟨e,he,h⟩:=cQ.1 h;split at h
    ·rename_i hb;refine⟨_,_,h,fun hd=>?_,f1.trans .set,fun G w0 μ φ w ya yx hM ha hx _=>?_⟩
     ·obtain⟨rfl,f4⟩:=f2 hd;refine⟨id,_,rfl,rfl,fun m2 cL R' k'=>?_⟩;simp_all[rO,aiH,AI]
     ·obtain⟨μ',g1,g2,g3⟩:=f3 _ _ _ _ _ _ _ hM hx;cases ha with
      | @oe _ _ _ g hg=>have hA:aW E.P μ' φ w id s et es:=g2.dw id _ hm;obtain⟨c,T,hh,pV,xq,hrw⟩:=aW.set (q:=.agg (bG (aJ s e) off p.cells)) hA (g2.apart id _ hm) hg he g3 hb.1 rfl;have mI:(φ id).sz=s:=hA.2.1;have hi:=jB (P:=E.P) (t:=t) (by omega);refine⟨_,μ',?_,g1,g2.write hm rfl hg (jS.setRow (aiJ _)) setRow_size (fun k hk=>bW hk) xq rfl (fun j hj=>by simp[bF.names]at hj) (fun st h=>by cases h) hrw⟩;rw[mI];exact fO g3.size hi hh pV g3.one
    ·cases h
   ·cases h
  ·cases h
 ·rename_i id i off s j off2;split at h
  ·rename_i p m1 hf;split at h
   ·rename_i s0 et es hm;obtain⟨e,he,h⟩:=cQ.1 h;obtain⟨rs,hr,h⟩:=cQ.1 h;obtain⟨q,hq,h⟩:=cQ.1 h;split at h
    ·rename_i hb;refine⟨_,_,h,fun _=>⟨id,_,rfl,rfl,fun m2 cL R' k'=>?_⟩,.set,fun G w0 μ φ w ya yx hM ha hx _=>?_⟩
     ·simp_all[rO,aiH,AI]
     ·have hE:=zm hf E.P μ φ yx hx;have hN:aW E.P μ φ w id s0 et es:=hM.dw id _ hm;obtain⟨g,y,hg,xx,⟨⟨E2,hA⟩,hV⟩,hce⟩:=hN.row he hr;have E4:=hM.apart id _ hm;have jT:(bF.nest s0 et es).rowAt i off=true:=by rw[du he hce];rfl
      have CK:=hN.2.2.2.2.1 i e he;have RX:(setRow s0 e off (.oX s (rs.set j (setCells s q off2 (aQ E.P t) p)))).cells=e.cells.set off (.oX s (rs.set j (setCells s q off2 (aQ E.P t) p))):=Hc CK hb.2.2 (by simp);cases ha with
      | @y7 _ _ _ _ _ _ g' cv hs=>
       obtain⟨dh,aid⟩:=E4 i off g' jT cv;obtain⟨c,T,hh,pV,xq⟩:=hA.set (g:=g') cv hq hE hb.1 (Dt hE.len (hA.2.2.2.2.1 j q hq));have hi:=jB (P:=E.P) (t:=t) (by omega);refine⟨_,μ,fO hE.size hi hh pV hE.one,fun _ _ h=>h,hM.Ug hm rfl (.inr ⟨i,off,jT,cv⟩) (jS.setRow (aiJ _)) setRow_size (fun k hk=>bW hk) ?_ rfl (fun j hj=>by simp[bF.names]at hj) ?_⟩
       ·refine aW.change hN (by simp) (fun i' e' h'=>?_) rfl (fun g0 MJ=>bW fun e=>dh (by rw[←e];omega)) (fun i' e' j' p' g0 c0 _ x' h' sL MJ hc0 QB hold=>?_)
        ·rcases eN h' with⟨_,rfl⟩|⟨_,h'⟩
         ·grind
         ·exact hN.2.2.2.2.1 i' e' h'
        ·have other:∀e'' p'',es[i']?=some e''→e''.cells[j']?=some p''→(i',j')≠(i,off)→dV E.P μ ((φ id).row i' j') (w.setRow g' (bG c.toList (j*s+off2) yx.cells.toList).toArray) p'' x':=fun e'' p'' h1 h2 h3=>(hold e'' p'' h1 h2).cn (fun _ _ h=>h) fun yY g'' aik=>bW fun e=>by grind [du]
         rcases eN h' with⟨rfl,rfl⟩|⟨WJ,h'⟩
         ·rw[RX]at sL;rcases eN sL with⟨rfl,rfl⟩|⟨hnj,sL⟩
          ·have MO:ez E.P μ ((φ id).row i' j') w s rs x':=hold e _ he hce;refine⟨⟨E2,xq⟩,?_⟩;exact MO.2
          grind
         grind
       ·intro i' rP yY;rcases jh yY with⟨_,_,_,e',s',rs',gN,h',sL⟩|⟨_,_,_,_,_,_,gN,_⟩
        ·simp only[bF.nest.injEq]at gN;obtain⟨rfl,rfl,rfl⟩:=gN;rcases eN h' with⟨rfl,rfl⟩|⟨WJ,h'⟩
         ·rw[RX]at sL;rcases eN sL with⟨rfl,_⟩|⟨hnj,sL⟩
          ·omega
          ·rw[du he sL];rfl
         ·rw[du h' sL];rfl
        ·cases gN
    ·cases h
   ·cases h
  ·cases h
 ·cases h
end
structure Cells(P:Program)(μ:Ro)(sz:Nat)(es:List PV)(xs:List Value):Prop where
 len:xs.length=es.length*sz
 each:∀(i:Nat)e,es[i]?=some e→e.cells.length=sz
 rep:∀(i:Nat)e(j:Nat)p y,es[i]?=some e→e.cells[j]?=some p→xs[i*sz+j]?=some y→ah P μ p y
 one:∀(i:Nat)y,xs[i]?=some y→y.oneCell'=true
section
variable {P:Program} {μ μ':Ro} {φ:Nat→aA} {w:World} {sz:Nat} {es es':List PV} {xs xs':List Value}
theorem Cells.nil:Cells P μ sz [] []:=⟨by simp,by simp,by simp,by simp⟩
theorem Cells.mono(h:Cells P μ sz es xs)(hμ:∀b o,μ b=some o→μ' b=some o):Cells P μ' sz es xs:=⟨h.len,h.each,fun i e j p y h1 h2 h3=>(h.rep i e j p y h1 h2 h3).mono hμ,h.one⟩
theorem Du{i j n:Nat}(hi:i<n)(hj:j<sz):i*sz+j<n*sz:=by have:(i+1)*sz≤n*sz:=ZG _ hi;rw[ajc]at this;omega
theorem Cells.append(h:Cells P μ sz es xs)(h':Cells P μ sz es' xs'):Cells P μ sz (es++es') (xs++xs'):=by
 refine⟨by simp[h.len,h'.len,ajc],fun i e hi=>?_,fun i e j p y hi hj hy=>?_,fun i y hy=>?_⟩
 ·rw[aiX]at hi;split at hi
  ·exact h.each i e hi
  ·exact h'.each _ e hi
 ·rw[aiX]at hi hy;split at hi
  ·rename_i hl;have Cq:j<sz:=by rw[←h.each i e hi];exact(AT.1 hj).1
   rw[AI (by rw[h.len];exact Du hl Cq)]at hy;exact h.rep i e j p y hi hj hy
  ·rename_i hl;have hle:es.length*sz≤i*sz:=ZG _ (by omega);rw[By (by rw[h.len];omega)]at hy;refine h'.rep _ e j p y hi hj ?_;rw[←hy,h.len,Nat.sub_mul];congr 1;omega
 ·rw[aiX]at hy;split at hy
  ·exact h.one i y hy
  ·exact h'.one _ y hy
theorem Cells.take(h:Cells P μ sz es xs)(n:Nat):Cells P μ sz (es.take n) (xs.take (n*sz)):=by
 refine⟨?_,fun i e hi=>h.each i e (eA hi).2,fun i e j p y hi hj hy=>h.rep i e j p y (eA hi).2 hj (eA hy).2,fun i y hy=>h.one i y (eA hy).2⟩;rw[ajo,ajo,h.len];rcases aly n es.length with hn|hn
 ·rw[ajY hn,ajY (ZG _ hn)]
 ·rw[akB hn,akB (ZG _ hn)]
theorem Cells.drop(h:Cells P μ sz es xs)(n:Nat):Cells P μ sz (es.drop n) (xs.drop (n*sz)):=by refine⟨by simp[h.len,Nat.sub_mul],fun i e hi=>h.each _ e (pO hi),fun i e j p y hi hj hy=>h.rep _ e j p y (pO hi) hj ?_,fun i y hy=>h.one _ y (pO hy)⟩;rw[←pO hy,ajc];congr 1;omega
variable{id:Nat}{et:TypeId}
theorem aH.cells(hA:aH P μ φ w id sz et es){g:Nat}(hg:(φ id).g=some g):∃(c:Array Value)(T:TypeId),w.heap[g]?=some (.cells c T (0,0))∧(φ id).cap*sz≤c.size∧es.length≤(φ id).cap∧es.length*sz≤c.size∧Cells P μ sz es (c.toList.take (es.length*sz)):=by
 obtain⟨a1,a2,a3,a4,a5,a6,a7⟩:=hA;rw[hg]at a7;obtain⟨c,T,c1,c2,c3,c4,c5⟩:=a7;have hle:es.length*sz≤c.size:=ajq (ZG _ c3) c2;refine⟨c,T,c1,c2,c3,hle,by simp;omega,a5,fun i e j p y hi hj hy=>?_,fun i y hy=>?_⟩
 ·exact c4 i e j p y hi hj (by simpa using(eA hy).2)
 ·have:=eA hy;exact c5 i y this.1 (by simpa using this.2)
theorem aH.nJ{g:Nat}{T:TypeId}{c:Array Value}(Xh:(φ id).toBI=⟨some g,(φ id).cap,es.length,sz⟩)(mI:sz=aQ P et)(eB:0<sz)(od:(φ id).cap≤maxLen)(hh:w.heap[g]?=some (.cells c T (0,0)))(hc:(φ id).cap*sz≤c.size)(hle:es.length≤(φ id).cap)(hC:Cells P μ sz es (c.toList.take (es.length*sz))):aH P μ φ w id sz et es:=by
 have e1:(φ id).g=some g:=by rw[Xh]
 refine⟨by rw[Xh],by rw[Xh],mI,eB,hC.each,od,?_⟩;rw[e1];have Cq:∀(i:Nat)e(j:Nat)p,es[i]?=some e→e.cells[j]?=some p→i*sz+j<es.length*sz:=fun i e j p hi hj=>Du (AT.1 hi).1 (by rw[←hC.each i e hi];exact(AT.1 hj).1);refine⟨c,T,hh,hc,hle,fun i e j p x hi hj hx=>?_,fun i x hi hx=>?_⟩
 ·exact hC.rep i e j p x hi hj (by rw[ajb (Cq i e j p hi hj)];simpa using hx)
 ·exact hC.one i x (by rw[ajb hi];simpa using hx)
inductive xy(P:Program)(μ:Ro)(w:World)(sz:Nat)(es:List PV):Value→Prop
 |none:es=[]→xy P μ w sz es (.slice none 0 0)
 |some {a:Addr} {c:Nat} (xs:List Value):Cells P μ sz es xs→(∀(j:Nat)v,xs[j]?=some v→w.cell? (a.add j)=some v)→es.length≤c→c≤maxLen→xy P μ w sz es (.slice (some a) es.length c)
theorem aH.src(hA:aH P μ φ w id sz et es){g:Nat}(hg:(φ id).g=some g){lo len cap:Nat}(hl:lo+len≤es.length)(hcc:len≤cap)(ail:lo+cap≤(φ id).cap):xy P μ w sz ((es.drop lo).take len) (.slice (some ⟨g,lo*sz,none⟩) len cap):=by
 obtain⟨c,T,c1,c2,c3,c4,c5⟩:=hA.cells hg;have od:=hA.nI;have hlen:((es.drop lo).take len).length=len:=by simp;omega
 have:=xy.some (P:=P) (μ:=μ) (w:=w) (sz:=sz) (es:=(es.drop lo).take len) (a:=⟨g,lo*sz,none⟩) (c:=cap) _ ((c5.drop lo).take len) (fun j v hv=>?_) (by omega) (by omega)
 ·rw[hlen]at this;exact this
 ·have h1:=(eA hv).2;have h2:=(eA (pO h1)).2;rw[Addr.add_mid,dp c1];simpa using h2
end
section
variable {R:Type} {E:Env}
theorem ah.src{P:Program}{G:Nat→Option (List PV)}{w0:bw}{μ:Ro}{φ:Nat→aA}{m:Mem}{w:World}{sz:Nat}{es:List PV}{y:Value}(hM:av P G w0 μ φ m w)(h:ah P μ (.rs sz es) y):xy P μ w sz es y:=by
 cases h with
 |jL=>exact .none rfl
 |Jm hc=>exact .some (es:=[]) [] .nil (by simp) (by simp) hc
 | @rs _ _ b o cap X h1 h2 h3 h4 h5 h6=>
  by_cases hz:sz=0
  ·subst hz;refine .some [] ⟨by simp,h3,fun i e j p y hi hj=>?_,by simp⟩ (by simp) h1 h2;have:=h3 i e hi;have:=(AT.1 hj).1;omega
  ·have fh:∀k v,((List.range (es.length*sz)).map fun k=>X (k/sz) (k%sz))[k]?=some v→∃(e:PV)(p:PV),es[k/sz]?=some e∧e.cells[k%sz]?=some p∧v=X (k/sz) (k%sz):=by
    intro k v hk;have bT:k<es.length*sz:=by have:=(AT.1 hk).1;simpa using this
    rw[GP,ajK bT]at hk;simp at hk;have hi:k/sz<es.length:=(Nat.div_lt_iff_lt_mul (by omega)).2 bT;have hj:k%sz<(es[k/sz]).cells.length:=by rw[h3 _ _ (cO hi)];exact alk _ (by omega)
    exact⟨_,_,cO hi,cO hj,hk.symm⟩
   refine .some ((List.range (es.length*sz)).map fun k=>X (k/sz) (k%sz)) ⟨by simp,h3,fun i e j p y hi hj hy=>?_,fun k v hk=>?_⟩ (fun k v hk=>?_) h1 h2
   ·obtain⟨e',p',he,hp,rfl⟩:=fh _ _ hy;have Cq:j<sz:=by rw[←h3 i e hi];exact(AT.1 hj).1
    have e1:(i*sz+j)/sz=i:=by rw[akl,Nat.mul_add_div (by omega),Nat.div_eq_of_lt Cq];rfl
    have e2:(i*sz+j)%sz=j:=by rw[akl,ala,ajP Cq]
    rw[e1,e2];exact h5 i e j p hi hj
   ·obtain⟨e',p',he,hp,rfl⟩:=fh _ _ hk;exact h6 _ e' _ p' he hp
   ·obtain⟨e',p',he,hp,rfl⟩:=fh _ _ hk;rw[Addr.add_mid];have:=hM.cellAt (h4 _ e' _ p' he hp);rw[←this];congr 2;rw[ajg,Nat.div_add_mod' k sz]
theorem mU{m:Mem}{sz:Nat}{x:V}{es:List PV}{ft:bq}(h:ey m sz x=some (es,ft)):(∀m2:Mem,(∀x∈ft,m2 x.2=m x.2)→ey m2 sz x=some (es,ft))∧(∀x∈ft,x.1=false)∧∀(P:Program)(G:Nat→Option (List PV))(w0:bw)(μ:Ro)(φ:Nat→aA)(w:World)(y:Value),av P G w0 μ φ m w→ag P μ φ x y→xy P μ w sz es y:=by
 unfold ey at h;split at h
 ·rename_i s es';split at h
  ·rename_i hs;simp only[cN,IT]at h;obtain⟨rfl,rfl⟩:=h;subst hs;exact⟨fun m2 _=>by simp[ey],by simp,fun P G w0 μ φ w y hM hy=>by cases hy with|pv hy=>exact hy.src hM⟩
  ·split at h
   ·simp only[cN,IT]at h;obtain⟨rfl,rfl⟩:=h;refine⟨fun m2 _=>by simp[ey],by simp,fun P G w0 μ φ w y hM hy=>?_⟩;cases hy with
    |pv hy=>cases hy with
     |jL=>exact .none rfl
     |Jm hc=>exact .some (es:=[]) [] .nil (by simp) (by simp) hc
     |rs X h1 h2=>exact .some (es:=[]) [] .nil (by simp) h1 h2
   ·cases h
 ·simp only[cN,IT]at h;obtain⟨rfl,rfl⟩:=h;exact⟨fun m2 _=>by simp[ey],by simp,fun P G w0 μ φ w y hM hy=>by cases hy;exact .none rfl⟩
 ·rename_i id;have key:∀(s:Nat)(et:TypeId)(es:List PV),(m id=some (.arr s et es)∨m id=some (.pt s et es))→∀(P:Program)(G:Nat→Option (List PV))(w0:bw)(μ:Ro)(φ:Nat→aA)(w:World)(y:Value),av P G w0 μ φ m w→ag P μ φ (.os id) y→xy P μ w s es y:=by
   intro s et es hm P G w0 μ φ w y hM hy;have hA:=hM.arr hm;cases hy with
   |qY hg=>obtain⟨a1,a2,a3,a4,a5,a6,a7⟩:=hA;rw[hg]at a7;exact .none a7.1
   |os hg=>have:=hA.src hg (lo:=0) (len:=es.length) (cap:=(φ id).cap) (by omega) (hA.nI).1 (by omega);rw[hA.1];simpa using this
  split at h
  ·rename_i s' et es' hm;split at h
   ·rename_i hs;simp only[cN,IT]at h;obtain⟨rfl,rfl⟩:=h;subst hs;exact⟨fun m2 cL=>by have:=cL (false,id) (by simp);simp only at this;simp[ey,this,hm],by simp,key _ _ _ (.inl hm)⟩
   ·cases h
  ·rename_i s' et es' hm;split at h
   ·rename_i hs;simp only[cN,IT]at h;obtain⟨rfl,rfl⟩:=h;subst hs;exact⟨fun m2 cL=>by have:=cL (false,id) (by simp);simp only at this;simp[ey,this,hm],by simp,key _ _ _ (.inr hm)⟩
   ·cases h
  ·cases h
 ·rename_i id lo len;have key:∀(s:Nat)(et:TypeId)(es:List PV),(m id=some (.arr s et es)∨m id=some (.pt s et es))→∀(P:Program)(G:Nat→Option (List PV))(w0:bw)(μ:Ro)(φ:Nat→aA)(w:World)(y:Value),av P G w0 μ φ m w→ag P μ φ (.fq id lo len) y→xy P μ w s ((es.drop lo).take len) y:=by
   intro s et es hm P G w0 μ φ w y hM hy;have hA:=hM.arr hm;have hle:=hA.nI;have RY:=hA.1;have mI:=hA.2.1;cases hy with
   |pL hg=>simp;exact .none rfl
   |fq hg hl ha Z7 T8=>
    rcases ha with rfl|⟨ha,_⟩
    ·rw[mI];exact hA.src hg (by omega) Z7 T8
    ·have h0:len=0:=by omega
     subst h0;simp only[ajU];exact .some (es:=[]) [] .nil (by simp) (by simp) (by omega)
  split at h
  ·rename_i s' et es' hm;split at h
   ·rename_i hs;simp only[cN,IT]at h;obtain⟨rfl,rfl⟩:=h;subst hs;exact⟨fun m2 cL=>by have:=cL (false,id) (by simp);simp only at this;simp[ey,this,hm],by simp,key _ _ _ (.inl hm)⟩
   ·cases h
  ·rename_i s' et es' hm;split at h
   ·rename_i hs;simp only[cN,IT]at h;obtain⟨rfl,rfl⟩:=h;subst hs;exact⟨fun m2 cL=>by have:=cL (false,id) (by simp);simp only at this;simp[ey,this,hm],by simp,key _ _ _ (.inr hm)⟩
   ·cases h
  ·cases h
 ·rename_i id i off;split at h
  ·rename_i s0 et0 cp hm;obtain⟨e,he,h⟩:=cQ.1 h;obtain⟨rs,hr,h⟩:=cQ.1 h;simp only[cN,IT]at h;obtain⟨rfl,rfl⟩:=h;refine⟨fun m2 cL=>by have:=cL (false,id) (by simp);simp only at this;simp[ey,this,hm,he,hr],by simp,fun P G w0 μ φ w y hM hy=>?_⟩;have hN:aW P μ φ w id s0 et0 cp:=hM.dw id _ hm;obtain⟨_,_,_,_,⟨⟨E2,hA⟩,_⟩,_⟩:=hN.row he hr;have hy:=hy.MI (ν:=μ);cases hy with
   |qY hg=>obtain⟨a1,a2,a3,a4,a5,a6,a7⟩:=hA;rw[hg]at a7;exact .none a7.1
   |os hg=>have:=hA.src hg (lo:=0) (len:=rs.length) (cap:=(((φ id).row i off).up).cap) (by omega) (hA.nI).1 (by omega);rw[hA.1];simpa using this
  ·cases h
 ·cases h
end
section
variable {P:Program} {w:World}
theorem oh{t ty e:TypeId}(hu:P.underlying t=some (.slice e))(hz:aQ P e≠0){base a:Option Addr}{n cap c:Nat}(hn:n≤cap):(Builtin.append_ #[t,t] ty #[.slice base n cap,.slice a 0 c]).run P w=.ok (.slice base n cap) w:=by
 obtain⟨i,hi,hs⟩:=wN hz;have hl:∀x:Addr,(loadCells x 0).run P w=.ok #[] w:=fun x=>by simpa using run_loadCells_list (P:=P) w x [] (by simp)
 cases base<;>cases a<;>simp[Builtin.append_,run_underlying hu,sizeOf,typeInfo,hi,Builtin.lenOf,Builtin.firstCells,hn,hl,storeCells]
end
theorem AO{P:Program}{w:World}(t ty e T:TypeId)(i:TypeInfo)(ht:P.underlying t=some (.slice e))(hi:P.info? e=some i)(g MP aab:Nat)(cur:Array Value)(hg:w.heap[g]?=some (.cells cur T (0,0)))(a:Addr)(m c:Nat)(news:List Value)(hl:news.length=m*i.size)(acn:∀j u,news[j]?=some u→w.cell? (a.add j)=some u)(h1:∀u∈news,u.oneCell'=true)(gn:MP+m≤aab)(pV:MP*i.size+news.length≤cur.size):(Builtin.append_ #[t,t] ty #[.slice (some ⟨g,0,none⟩) MP aab,.slice (some a) m c]).run P w=.ok (.slice (some ⟨g,0,none⟩) (MP+m) aab) (w.setRow g (cur.toList.take (MP*i.size)++news++cur.toList.drop (MP*i.size+news.length)).toArray):=by have hf:=run_firstCells_some (P:=P) w i.size m a m c news hl acn;have vw:=run_storeCells_at P g (MP*i.size) T news 0 cur w hg (by simpa using pV) h1;simp only[akj]at vw;simp[Builtin.append_,run_underlying ht,sizeOf,typeInfo,hi,Builtin.lenOf,gn,hf,Addr.add_mid,vw]
section
variable {R:Type} {E:Env}
variable{t:TypeId}
theorem F4{P:Program}{i:TypeInfo}(hi:P.info? t=some i):i.bytes=E9 P t∧i.size=aQ P t:=by simp[E9,aQ,hi]
theorem Dv{P:Program}{e ty:TypeId}{sz len n:Nat}{z:Value}{i:TypeInfo}(hu:P.underlying t=some (.slice e))(hi:P.info? e=some i)(hzv:i.zero=some z)(MQ:z.cells.size=sz)(mI:sz=aQ P e)(eB:0<aQ P e)(hby:0<E9 P e)(gn:(len+n)*E9 P e≤ar){w:World}{ys yx:Value}{os xs:List Value}(hs:(ys=.slice none 0 0∧len=0∧os=[])∨∃(g cap:Nat)(c:Array Value)(T:TypeId),ys=.slice (some ⟨g,0,none⟩) len cap∧w.heap[g]?=some (.cells c T (0,0))∧cap*sz≤c.size∧len≤cap∧cap≤maxLen∧os=c.toList.take (len*sz))(hx:(yx=.slice none 0 0∧n=0∧xs=[])∨∃(a:Addr)(cx:Nat),yx=.slice (some a) n cx∧xs.length=n*sz∧(∀(j:Nat)v,xs[j]?=some v→w.cell? (a.add j)=some v)∧(∀v∈xs,v.oneCell'=true)∧n≤cx∧cx≤maxLen):∃w' y,(Builtin.append_ #[t,t] ty #[ys,yx]).run P w=.ok y w'∧((y=.slice none 0 0∧w'=w∧len=0∧n=0)∨∃(g cap:Nat)(c:Array Value)(T:TypeId),y=.slice (some ⟨g,0,none⟩) (len+n) cap∧w'.heap[g]?=some (.cells c T (0,0))∧cap*sz≤c.size∧len+n≤cap∧cap≤maxLen∧c.toList.take ((len+n)*sz)=os++xs∧((∃Xi,ys=.slice (some ⟨g,0,none⟩) len Xi∧jS g w w'∧∀k,k≠g→w'.heap[k]?=w.heap[k]?)∨(g=w.heap.size∧w'=w.drew.alloc (.cells c e)))):=by
 obtain⟨hib,Y3⟩:=F4 hi;have aac:len+n≤140737488355328:=by have:(len+n)*1≤(len+n)*E9 P e:=ajL _ hby;simp only[ar]at gn;omega
 have agp:len+n≤maxLen:=by simp only[maxLen];omega
 have Ty:∀n,(Builtin.zeroCells z.cells n).size=n*sz:=fun n=>by rw[size_zeroCells,MQ]
 rcases hs with⟨rfl,rfl,rfl⟩|⟨g,cap,c,T,rfl,g4,g5,g6,g7,rfl⟩
 ·rcases hx with⟨rfl,rfl,rfl⟩|⟨a,cx,rfl,F2,Jn,hx1,Y4,Ul⟩
  ·exact⟨w,_,oh hu (by omega) (aiJ _),.inl ⟨rfl,rfl,rfl,rfl⟩⟩
  ·by_cases h0:n=0
   ·subst h0;exact⟨w,_,oh hu (by omega) (aiJ _),.inl ⟨rfl,rfl,rfl,rfl⟩⟩
   ·have hr:=run_append_nil (P:=P) w t ty e i z hu hi hzv a n cx xs (by rw[F2,mI,Y3]) Jn (by omega) (by simp only[ajk]at aac;omega) (by simp only[ar,ajk]at gn;rw[hib];omega);have Fi:=grownCap_ge w n 0 e;refine⟨_,_,hr,.inr ⟨w.heap.size,grownCap w n 0 e,xs.toArray++Builtin.zeroCells z.cells (grownCap w n 0 e-n),e,by simp,fj w.drew _,?_,by simpa using Fi,grownCap_le_maxLen w _ 0 e (by simpa using agp),?_,.inr ⟨rfl,rfl⟩⟩⟩
    ·rw[ak0,Ty];simp only[ajj,F2,←ajc];exact ZG _ (by omega)
    ·simp only[als,ajN,ajk];exact akK F2
 ·have h1:(c.toList.take (len*sz)).length=len*sz:=by have:len*sz≤cap*sz:=ZG _ g6;simp;omega
  rcases hx with⟨rfl,rfl,rfl⟩|⟨a,cx,rfl,F2,Jn,hx1,Y4,Ul⟩
  ·exact⟨w,_,oh hu (by omega) g6,.inr ⟨g,cap,c,T,rfl,g4,g5,by simpa using g6,g7,by simp,.inl ⟨cap,rfl,jS.refl _ _,fun _ _=>rfl⟩⟩⟩
  ·by_cases hrm:len+n≤cap
   ·have pV:len*i.size+xs.length≤c.size:=by rw[Y3,←mI,F2,←ajc];exact ajq (ZG _ hrm) g5
    have hr:=AO (P:=P) (w:=w) t ty e T i hu hi g len cap c g4 a n cx xs (by rw[F2,mI,Y3]) Jn hx1 hrm pV;rw[Y3,←mI]at hr pV;refine⟨_,_,hr,.inr ⟨g,cap,_,T,rfl,setRow_heap w g c _ T (0,0) g4,?_,hrm,g7,?_,.inl ⟨cap,rfl,jS.setRow (aiJ _),fun k hk=>bW hk⟩⟩⟩
    ·simp only[ajj,ai1,ajo,aj4,ajD];omega
    ·simp only[];exact akK (by rw[ai1,h1,F2,ajc])
   ·have hr:=run_append_grow (P:=P) w t ty e i z hu hi hzv ⟨g,0,none⟩ len cap (c.toList.take (len*sz)) (by rw[h1,mI,Y3]) (fun j v hj=>by
      rw[Addr.add_mid,dp g4];simpa using(eA hj).2) a n cx xs (by rw[F2,mI,Y3]) Jn (by omega) (by omega)
     (growslice_fits (by omega) (by rw[hib];simpa[ar]using gn))
    have Fi:=grownCap_ge w (len+n) cap e;refine⟨_,_,hr,.inr ⟨w.heap.size,_,_,e,rfl,fj w.drew _,?_,Fi,grownCap_le_maxLen w _ cap e (by omega),?_,.inr ⟨rfl,rfl⟩⟩⟩
    ·rw[ak0,ak0,Ty];simp only[ajj,F2,h1,←ajc];exact ZG _ (by omega)
    ·simp only[als];exact akK (by rw[ai1,h1,F2,ajc])
theorem Dw{e ty:TypeId}{sz:Nat}{es new:List PV}{z:List V}(hu:E.P.underlying t=some (.slice e))(hz:db E e=some z)(mI:sz=aQ E.P e)(eB:0<aQ E.P e)(hby:0<E9 E.P e)(gn:(es++new).length*E9 E.P e≤ar){G:Nat→Option (List PV)}{w0:bw}{μ:Ro}{φ:Nat→aA}{m:Mem}{w:World}{ρ:Nat→Value}{f:Fr}{draw:Bool}{site:Nat}(hM:av E.P G w0 μ φ m w)(hF:bU E.P μ φ m f ρ){ys yx:Value}(hx:xy E.P μ w sz new yx)(hs:(ys=.slice none 0 0∧es=[])∨∃(g cap:Nat)(c:Array Value)(T:TypeId),ys=.slice (some ⟨g,0,none⟩) es.length cap∧w0.heap.size≤g∧μ g=none∧(∀id b',m id=some b'→¬b'.owns (φ id) g)∧w.heap[g]?=some (.cells c T (0,0))∧cap*sz≤c.size∧es.length≤cap∧cap≤maxLen∧es.length*sz≤c.size∧Cells E.P μ sz es (c.toList.take (es.length*sz))){f':Fr}{m':Mem}(uS:∀(P:Program)(G:Nat→Option (List PV))(w0:bw)(μ:Ro)(φ:Nat→aA)(w w':World)(ρ:Nat→Value)(ph:aA),av P G w0 μ φ m w→bU P μ φ m f ρ→jM P w0 μ φ m w w' site (.arr sz e (es++new)) ph→∃φ',φ' site=ph∧av P G w0 μ φ' m' w'∧bU P μ φ' m' f' ρ):∃w' y φ',(Builtin.append_ #[t,t] ty #[ys,yx]).run E.P w=.ok y w'∧av E.P G w0 μ φ' m' w'∧bU E.P μ φ' m' f' ρ∧ag E.P μ φ' (.os site) y:=by
 obtain⟨i,zv,hi,hzv,Y3,_,MQ,_,_,_⟩:=ei hz;have QC:(es++new).length=es.length+new.length:=by simp
 obtain⟨os,hos,hC⟩:∃os,((ys=.slice none 0 0∧es.length=0∧os=[])∨∃(g cap:Nat)(c:Array Value)(T:TypeId),ys=.slice (some ⟨g,0,none⟩) es.length cap∧w.heap[g]?=some (.cells c T (0,0))∧cap*sz≤c.size∧es.length≤cap∧cap≤maxLen∧os=c.toList.take (es.length*sz))∧Cells E.P μ sz es os:=by
  rcases hs with⟨h1,rfl⟩|⟨g,cap,c,T,h1,h2,h3,h4,h5,h6,h7,h8,h9,Dq⟩
  ·exact⟨[],.inl ⟨h1,rfl,rfl⟩,.nil⟩
  ·exact⟨_,.inr ⟨g,cap,c,T,h1,h5,h6,h7,h8,rfl⟩,Dq⟩
 obtain⟨xs,Jn,hCx⟩:∃xs,((yx=.slice none 0 0∧new.length=0∧xs=[])∨∃(a:Addr)(cx:Nat),yx=.slice (some a) new.length cx∧xs.length=new.length*sz∧(∀(j:Nat)v,xs[j]?=some v→w.cell? (a.add j)=some v)∧(∀v∈xs,v.oneCell'=true)∧new.length≤cx∧cx≤maxLen)∧Cells E.P μ sz new xs:=by
  cases hx with
  |none hn=>subst hn;exact⟨[],.inl ⟨rfl,rfl,rfl⟩,.nil⟩
  | @some a cx xs hC Jn Y4 Ul=>exact⟨xs,.inr ⟨a,cx,rfl,hC.len,Jn,fun u hu=>by obtain⟨j,hj⟩:=aiU hu;exact hC.one j u hj,Y4,Ul⟩,hC⟩
 obtain⟨w',y,hr,Um⟩:=Dv (ty:=ty) hu hi hzv (by rw[MQ,mI]) mI eB hby (by rw[←QC];exact gn) hos Jn;rcases Um with⟨rfl,rfl,h1,h2⟩|⟨g',Co,c',T',rfl,b1,b2,b3,b4,b5,b6⟩
 ·have h1:es=[]:=ahk h1;have h2:new=[]:=ahk h2;obtain⟨φ',a1,a2,a3⟩:=uS E.P G w0 μ φ w' w' ρ (Cn none 0 0 sz) hM hF ⟨jS.refl _ _,hM.ro,fun _ _ _ _ _=>rfl,by simp,fun φ' hp _=>by refine⟨by rw[hp,h1,h2];rfl,by rw[hp],mI,by omega,by rw[h1,h2];simp,by rw[hp];simp[maxLen],?_⟩;rw[hp];exact⟨by rw[h1,h2];rfl,rfl⟩,by simp[bF.names],fun st h=>by cases h⟩;exact⟨w',_,φ',hr,a2,a3,.qY (by rw[a1])⟩
 ·have hCC:Cells E.P μ sz (es++new) (c'.toList.take ((es++new).length*sz)):=by rw[QC,b5];exact hC.append hCx
  have fin:∀(φ':Nat→aA),φ' site=Cn (some g') Co (es++new).length sz→ag E.P μ φ' (.os site) (.slice (some ⟨g',0,none⟩) (es.length+new.length) Co):=fun φ' a1=>by have:=ag.os (P:=E.P) (μ:=μ) (φ:=φ') (id:=site) (g:=g') (by rw[a1]);rw[a1,QC]at this;exact this
  rcases b6 with⟨Xi,hys,b6,b7⟩|⟨rfl,rfl⟩
  ·rcases hs with⟨h1,_⟩|⟨g,cap,c,_,h1,h2,h3,h4,_⟩
   ·rw[hys]at h1;cases h1
   rw[hys]at h1;simp only[Value.slice.injEq,cN,Addr.mk.injEq]at h1;obtain⟨⟨rfl,_⟩,_⟩:=h1;obtain⟨φ',a1,a2,a3⟩:=uS E.P G w0 μ φ w w' ρ (Cn (some g') Co (es++new).length sz) hM hF ⟨b6.mono h2,fun k o hk=>by rw[b7 k (fun e=>by subst e;rw[h3]at hk;cases hk)];exact hM.ro k o hk,fun id b' g' hid cv=>b7 g' (fun e=>by subst e;exact h4 id b' hid cv),fun g' cv=>by simp only[cN]at cv;subst cv;exact⟨h2,h3,h4⟩,fun φ' hp _=>aH.nJ (by rw[hp]) mI (by omega) (by rw[hp];exact b4) b1 (by rw[hp];exact b2) (by rw[hp,QC];exact b3) hCC,by simp[bF.names],fun st h=>by cases h⟩;exact⟨w',_,φ',hr,a2,a3,fin φ' a1⟩
  ·obtain⟨φ',a1,a2,a3⟩:=uS E.P G w0 μ φ w.drew _ ρ (Cn (some w.heap.size) Co (es++new).length sz) hM.drew hF (jM.alloc (o:=.cells c' e) hM.drew rfl (fun φ' hp _=>aH.nJ (g:=w.heap.size) (by rw[hp]) mI (by omega) (by rw[hp];exact b4) (fj w.drew _) (by rw[hp];exact b2) (by rw[hp,QC];exact b3) hCC) (by simp[bF.names]));exact⟨_,_,φ',hr,a2,a3,fin φ' a1⟩
end
section
variable {R:Type} {E:Env}
theorem MR{draw:Bool}{site:Nat}{t t':TypeId}{s x:V}{f:Fr}{m:Mem}{k:V→Fr→Mem→Option R}{r:R}(h:zd E draw site t t' s x f m k=some r):draw=false∧t'=t∧∃place f' m',k (.os place) f' m'=some r∧(m' place).isSome=true∧∀(G:Nat→Option (List PV))(w0:bw)(μ:Ro)(φ:Nat→aA)(w:World)(ρ:Nat→Value)(ys yx:Value)(ty:TypeId),av E.P G w0 μ φ m w→bU E.P μ φ m f ρ→ag E.P μ φ s ys→ag E.P μ φ x yx→∃w' y φ',(Builtin.append_ #[t,t] ty #[ys,yx]).run E.P w=.ok y w'∧av E.P G w0 μ φ' m' w'∧bU E.P μ φ' m' f' ρ∧ag E.P μ φ' (.os place) y:=by
 unfold zd at h;split at h
 ·cases h
 ·rename_i hd;simp only[aiI,alD,ajz,ajS,IL,Bool.not_eq_eq_eq_not,aiK,ai4]at hd;refine⟨hd.1,by simpa using hd.2,?_⟩;split at h
  ·rename_i e hu;split at h
   ·cases h
   ·rename_i hz;obtain⟨z,hz⟩:∃z,db E e=some z:=by
     cases hq:db E e with
     |none=>simp[hq]at hz
     |some z=>exact⟨z,rfl⟩
    split at h
    ·rename_i new ft CK;obtain⟨_,_,yo⟩:=mU CK;split at h
     ·split at h
      ·rename_i hb;obtain⟨f',m',_,hk,vd,_,uS⟩:=dY h;refine⟨_,f',m',hk,by simp[vd],fun G w0 μ φ w ρ ys yx ty hM hF hs hx=>?_⟩;cases hs;exact Dw (es:=[]) (draw:=false) hu hz rfl hb.2.2 hb.2.1 (by simpa using hb.1) hM hF (yo _ _ _ _ _ _ _ hM hx) (.inl ⟨rfl,rfl⟩) uS
      ·cases h
     ·rename_i id;split at h
      ·rename_i sz et es hm;split at h
       ·rename_i hc;obtain⟨rfl,rfl,aim⟩:=hc;split at h
        ·rename_i hb;obtain⟨f',m',_,hk,vd,_,uS⟩:=dY h;refine⟨_,f',m',hk,by simp[vd],fun G w0 μ φ w ρ ys yx ty hM hF hs hx=>?_⟩;have tE:=hM.forget id;have Cp:=hF.forget id;have hA:aH E.P μ φ w id (aQ E.P et) et es:=hM.dw id _ hm;have eB:0<aQ E.P et:=hA.2.2.2.1;refine Dw (draw:=false) hu hz rfl eB hb.2 hb.1 tE Cp (yo _ _ _ _ _ _ _ hM hx) ?_ uS;cases hs with
         |qY hg=>have a7:=hA.2.2.2.2.2.2;rw[hg]at a7;exact .inl ⟨rfl,a7.1⟩
         | @os _ g hg=>obtain⟨c,T,c1,c2,c3,c4,c5⟩:=hA.cells hg;obtain⟨o1,o2⟩:=hM.own id _ g hm (.inl hg);refine .inr ⟨g,(φ id).cap,c,T,by rw[hA.1],o1,o2 rfl,fun j b' hj cv=>?_,c1,c2,c3,hA.nI.2,c4,c5⟩;obtain⟨dh,b2,uw,rfl⟩:=ff hj;exact dh (hM.inj j id b2 _ g uw hm (fN.1 cv) (.inl hg))
        ·cases h
       ·cases h
      ·cases h
     ·cases h
    ·cases h
  ·cases h
theorem Hd{P:Program}{w:World}{dT ty elem:TypeId}{ts:List TypeId}{g aco dCap:Nat}{c:Array Value}{T:TypeId}{sz:Nat}{es new:List PV}{μ:Ro}{yx:Value}(hu:P.underlying dT=some (.slice elem))(mI:sz=aQ P elem)(eB:0<sz)(hx:xy P μ w sz new yx)(hg:w.heap[g]?=some (.cells c T (0,0)))(hle:es.length*sz≤c.size)(hd:aco=es.length)(hC:Cells P μ sz es (c.toList.take (es.length*sz))):∃c':Array Value,(Builtin.copy_ (dT::ts).toArray ty #[.slice (some ⟨g,0,none⟩) aco dCap,yx]).run P w=.ok (goInt ((min new.length es.length:Nat):Int)) (w.setRow g c')∧c'.size=c.size∧Cells P μ sz (new.take es.length++es.drop new.length) (c'.toList.take ((new.take es.length++es.drop new.length).length*sz)):=by
 subst hd;obtain⟨i,hi,hs⟩:=wN (P:=P) (t:=elem) (by omega);have hnl:(new.take es.length++es.drop new.length).length=es.length:=by simp;omega
 rw[hnl];cases hx with
 |none hn=>subst hn;refine⟨c,?_,rfl,by simpa using hC⟩;have:=setRow_self w g c T (0,0) hg;rw[this];simp[Builtin.copy_,run_underlying hu,Builtin.lenOf,Builtin.firstCells,sizeOf,typeInfo,hi,storeCells]
 | @some a cx xs hX Jn Y4 Ul=>
  have Xj:Nat.min new.length es.length=min new.length es.length:=rfl;have hl:(xs.take (min new.length es.length*sz)).length=min new.length es.length*i.size:=by rw[hs,←mI,ajo,hX.len];exact ajY (ZG _ (Nat.min_le_left _ _))
  have agq:min new.length es.length*sz≤es.length*sz:=ZG _ (Nat.min_le_right _ _);have hf:=run_firstCells_some (P:=P) w i.size (min new.length es.length) a new.length cx (xs.take (min new.length es.length*sz)) hl (fun j v hj=>Jn j v (eA hj).2);have Mm:(xs.take (min new.length es.length*sz)).length=min new.length es.length*sz:=by rw[hl,hs,mI]
  have vw:=run_storeCells_at P g 0 T (xs.take (min new.length es.length*sz)) 0 c w hg (by rw[Mm];omega) (fun v hv=>by obtain⟨j,hj⟩:=aiU hv;exact hX.one j v (eA hj).2);simp only[ajk,ajU,ajN,Mm]at vw;refine⟨(xs.take (min new.length es.length*sz)++c.toList.drop (min new.length es.length*sz)).toArray,?_,?_,?_⟩
  ·have acp:Nat.min new.length es.length=min new.length es.length:=rfl;simp[Builtin.copy_,run_underlying hu,Builtin.lenOf,sizeOf,typeInfo,hi,acp,hf,vw]
  ·simp only[ajj,ai1,Mm,aj4,ajD];omega
  ·have e1:(xs.take (min new.length es.length*sz)++c.toList.drop (min new.length es.length*sz)).take (es.length*sz)=xs.take (min new.length es.length*sz)++(c.toList.take (es.length*sz)).drop (min new.length es.length*sz):=by rw[List.take_append,Mm,List.drop_take,ajs (by rw[Mm];exact agq)]
   simp only[];rw[e1];have h1:=(hX.take (min new.length es.length)).append (hC.drop (min new.length es.length));have e2:new.take (min new.length es.length)=new.take es.length:=by
    rcases aly new.length es.length with hh|hh
    ·rw[ajY hh,ajy,ajs hh]
    ·rw[akB hh]
   have e3:es.drop (min new.length es.length)=es.drop new.length:=by
    rcases aly new.length es.length with hh|hh
    ·rw[ajY hh]
    ·rw[akB hh,List.drop_length,ak8 hh]
   rw[e2,e3]at h1;exact h1
theorem F5{R:Type}(m:Mem)(sz:Nat)(x:V)(k:List PV→bq→Option R):G0 m sz x k=(ey m sz x).bind fun p=>k p.1 p.2:=by
 cases x with
 |vg id i off=>
  simp only[G0,ey];cases hm:m id with
  |none=>rfl
  |some b=>
   cases b with
   |nest s e es=>
    simp only;cases es[i]? with
    |none=>rfl
    |some e=>simp only[aiH];cases eL sz (cell e off)<;>rfl
   |_=>rfl
 |_=>
  simp only[G0];generalize ey m sz _=o;cases o with
  |none=>rfl
  |some p=>rfl
theorem Un{t:TypeId}{d x:V}{m:Mem}{k:V→Mem→bq→Option R}{r:R}(h:Jy E t d x m k=some r):∃n id b ft,(∀m2:Mem,(∀x∈((true,id)::ft:bq),m2 x.2=m x.2)→∀(R':Type)(k':V→Mem→bq→Option R'),Jy E t d x m2 k'=k' (.pv (.int .i64 n)) (al m2 id b) ((true,id)::ft))∧k (.pv (.int .i64 n)) (al m id b) ((true,id)::ft)=some r∧∀(G:Nat→Option (List PV))(w0:bw)(μ:Ro)(φ:Nat→aA)(w:World)(ρ:Nat→Value)(f:Fr)(yd yx:Value)(ts:List TypeId)(ty:TypeId),av E.P G w0 μ φ m w→bU E.P μ φ m f ρ→ag E.P μ φ d yd→ag E.P μ φ x yx→∃w' φ',(Builtin.copy_ (t::ts).toArray ty #[yd,yx]).run E.P w=.ok (.int .i64 n) w'∧av E.P G w0 μ φ' (al m id b) w'∧bU E.P μ φ' (al m id b) f ρ∧(Lit.int .i64 n).wf=true:=by
 unfold Jy at h;split at h
 ·rename_i e hu;split at h
  ·rename_i id;split at h
   ·rename_i sz et es hm;split at h
    ·rename_i hc;rw[F5]at h;obtain⟨⟨new,ft⟩,CK,h⟩:=cQ.1 h
     ·obtain⟨JQ,_,yo⟩:=mU CK;refine⟨_,id,_,ft,fun m2 cL R' k'=>?_,h,fun G w0 μ φ w ρ f yd yx ts ty hM hF hd hx=>?_⟩
      ·have h1:=cL (true,id) (by simp);simp only at h1;simp only[Jy,hu,h1,hm];rw[AI hc,F5];simp only[JQ m2 (fun y hy=>cL y (by simp[hy])),aiH]
      ·have hA:aH E.P μ φ w id sz et es:=hM.dw id _ hm;have hS:=yo _ _ _ _ _ _ _ hM hx;have hle:=hA.nI;have hlen:(new.take es.length++es.drop new.length).length=es.length:=by simp;omega
       have zi:(Lit.int .i64 ((min new.length es.length:Nat):Int)).wf=true:=Di (by omega);cases hd with
       |qY hg=>
        have a7:=hA.2.2.2.2.2.2;rw[hg]at a7;have h0:=a7.1;subst h0;refine⟨w,φ,?_,?_,?_,zi⟩
        ·obtain⟨i,hi,hs⟩:=wN (P:=E.P) (t:=e) (by have:=hA.2.2.2.1;omega);have Mp:∀x:Addr,(loadCells x 0).run E.P w=.ok #[] w:=fun x=>by simpa using run_loadCells_list (P:=E.P) w x [] (by simp)
         cases hS with
         |none hn=>subst hn;simp[Builtin.copy_,run_underlying hu,Builtin.lenOf,Builtin.firstCells,sizeOf,typeInfo,hi,hA.1,goInt]
         |some xs hX Jn Y4 Ul=>simp[Builtin.copy_,run_underlying hu,Builtin.lenOf,Builtin.firstCells,sizeOf,typeInfo,hi,hA.1,Mp,goInt]
        ·have:al m id (.arr sz et (new.take ([]:List PV).length++([]:List PV).drop new.length))=m:=by
          funext j;by_cases e:j=id
          ·subst e;simp[hm]
          ·rw[ao e]
         rw[this];exact hM
        ·exact hF.lS (fun _ _ h=>h) .set
       | @os _ g hg=>
        obtain⟨c,T,c1,c2,c3,c4,c5⟩:=hA.cells hg;obtain⟨c',r1,r2,r3⟩:=Hd (ts:=ts) (ty:=ty) (dCap:=(φ id).cap) hu hc.1 hA.2.2.2.1 hS c1 c4 hA.1 c5;refine⟨_,φ,r1,hM.write hm rfl hg (jS.setRow (aiJ _)) setRow_size (fun k hk=>bW hk) ?_ rfl (by simp[bF.names]),hF.lS (fun _ _ h=>h) .set,zi⟩;refine aH.nJ (g:=g) ?_ hA.2.2.1 hA.2.2.2.1 hle.2 (setRow_heap w g c c' T (0,0) c1) (by rw[r2];exact c2) (by rw[hlen];exact c3) r3;rw[hlen,←hA.1,←hA.2.1];cases hq:(φ id).toBI with
        |mk a b c d=>rw[hq]at hg;simp only at hg;simp[hg]
    ·cases h
   ·cases h
  ·cases h
 ·cases h
end
end Go.Ab
