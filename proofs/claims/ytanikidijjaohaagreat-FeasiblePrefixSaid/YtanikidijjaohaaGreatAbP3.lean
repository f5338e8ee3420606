import Derived.Test.YtanikidijjaohaaGreatAbP2
import Derived.Great.BuildSlice
import Derived.Laws.AppendOwn
import Derived.Laws.MakeOwn
set_option linter.unusedVariables false
namespace Go.Ab
open Go.RowKit (Below)
structure bZ(P:Program)(μ:Ro)(φ:Nat→aA)(m:Mem)(f:Fr)(ρ:Nat→Value):Prop where
 fr:∀t,ae P μ φ (f t) (ρ t)
 live:∀t id,(f t).has id=true→(m id).isSome=true
section
variable {P:Program} {G:Nat→Option (List PV)} {w0:br} {μ μ':Ro} {φ φ':Nat→aA} {m m':Mem} {w w':World} {f:Fr} {ρ:Nat→Value}
theorem bZ.mono(h:bZ P μ φ m f ρ)(hμ:∀b o,μ b=some o→μ' b=some o)(hφ:∀id,(m id).isSome=true→φ' id=φ id∧(m' id).isSome=true):bZ P μ' φ' m' f ρ:=⟨fun t=>(h.fr t).mono hμ fun id hid=>(hφ id (h.live t id hid)).1,fun t id hid=>(hφ id (h.live t id hid)).2⟩
theorem eP{id j:Nat}{b:bE}(h:bh (bx id m) id j=some b):j≠id∧∃b',m j=some b'∧b=gq id b':=by
 by_cases e:j=id
 ·subst e;simp at h
 ·rw[eV e]at h;exact⟨e,Dq h⟩
theorem sm{id j:Nat}(h:j≠id)(hm:(m j).isSome=true):(bh (bx id m) id j).isSome=true:=by obtain⟨b,hb⟩:=Option.isSome_iff_exists.1 hm;rw[eV h];simp[bx,hb]
theorem bZ.forget(h:bZ P μ φ m f ρ)(id:Nat):bZ P μ φ (bh (bx id m) id) (eU id f) ρ:=by refine⟨fun t=>(h.fr t).kill id,fun t j hj=>?_⟩;obtain⟨h1,h2⟩:=vB hj;exact sm h2 (h.live t j h1)
theorem av.put(hM:av P G w0 μ φ m w){site:Nat}{b:bE}{ph:aA}(hs:m site=none)(L9:kG w0.heap.size w w')(sO:∀k o,μ k=some o→w'.heap[k]?=some o)(hold:∀id b' g,m id=some b'→b'.owns (φ id) g→w'.heap[g]?=w.heap[g]?)(tW:∀g,b.owns ph g→w0.heap.size≤g∧μ g=none∧∀id b',m id=some b'→¬b'.owns (φ id) g)(Dt:b.apart ph)(hB:gC P μ (fun i=>if i=site then ph else φ i) w' site b)(hn:∀id,b.names id=true→(m id).isSome=true)(Y0:∀st,b=.loop st→∃g rc,ph.g=some g∧w0.rc site=some (g,rc)∧w'.heap[g]?=some (.loop (st.obj rc))):av P G w0 μ (fun i=>if i=site then ph else φ i) (ak m site b) w':=by
 refine⟨hM.below.trans L9,sO,hM.aD,fun id b' hid=>?_,fun id b' g hid hg=>?_,fun Tj id2 b1 b2 g h1 h2 g1 g2=>?_,fun id b' hid=>?_,fun j cs id hj hh=>?_,hM.base,hM.dA,fun id st hid=>?_⟩
 rotate_right
 ·by_cases h:id=site
  ·subst h;rw[aK]at hid;simp only[Option.some.injEq]at hid;obtain⟨g,rc,h1,h2,h3⟩:=Y0 st hid;exact⟨g,rc,by simp[h1],h2,h3⟩
  ·rw[al h]at hid;obtain⟨g,rc,h1,h2,h3⟩:=hM.BD id st hid;exact⟨g,rc,by simp only[h,if_false];exact h1,h2,by rw[hold id _ g hid (.inl h1)];exact h3⟩
 ·by_cases h:id=site
  ·subst h;rw[aK]at hid;simp only[Option.some.injEq]at hid;subst hid;exact hB
  ·rw[al h]at hid;have hR:=hM.dy id b' hid;refine hR.cD (fun j hj=>?_) (by simp[h]) (fun _ _ h=>h) (fun g hg=>hold id b' g hid hg);have:=hM.L7 hid hj;have:j≠site:=fun e=>by subst e;rw[hs]at this;cases this
   simp[this]
 ·by_cases h:id=site
  ·subst h;rw[aK]at hid;simp only[Option.some.injEq]at hid;subst hid;simp only[if_true]at hg;exact⟨(tW g hg).1,fun _=>(tW g hg).2.1⟩
  ·rw[al h]at hid;simp only[h,if_false]at hg;exact hM.own id b' g hid hg
 ·by_cases e1:Tj=site
  ·by_cases e2:id2=site
   ·rw[e1,e2]
   ·exfalso;subst e1;rw[aK]at h1;simp only[Option.some.injEq]at h1;subst h1;simp only[if_true]at g1;rw[al e2]at h2;simp only[e2,if_false]at g2;exact(tW g g1).2.2 id2 b2 h2 g2
  ·by_cases e2:id2=site
   ·exfalso;subst e2;rw[aK]at h2;simp only[Option.some.injEq]at h2;subst h2;simp only[if_true]at g2;rw[al e1]at h1;simp only[e1,if_false]at g1;exact(tW g g2).2.2 Tj b1 h1 g1
   ·rw[al e1]at h1;rw[al e2]at h2;simp only[e1,if_false]at g1;simp only[e2,if_false]at g2;exact hM.inj Tj id2 b1 b2 g h1 h2 g1 g2
 ·by_cases h:id=site
  ·subst h;rw[aK]at hid;simp only[Option.some.injEq]at hid;subst hid;simp only[if_true];exact Dt
  ·rw[al h]at hid;simp only[h,if_false];exact hM.apart id b' hid
 ·by_cases e:id=site
  ·subst e;simp
  ·rw[al e];by_cases h:j=site
   ·subst h;rw[aK]at hj;simp only[Option.some.injEq]at hj;subst hj;exact hn id hh
   ·rw[al h]at hj;exact hM.fJ j cs id hj hh
end
section
variable {R:Type} {E:Env}
structure kF(P:Program)(w0:br)(μ:Ro)(φ:Nat→aA)(m:Mem)(w w':World)(site:Nat)(b:bE)(ph:aA):Prop where
 below:kG w0.heap.size w w'
 ro:∀k o,μ k=some o→w'.heap[k]?=some o
 l5:∀id b' g,m id=some b'→b'.owns (φ id) g→w'.heap[g]?=w.heap[g]?
 own:∀g,ph.g=some g→w0.heap.size≤g∧μ g=none∧∀id b',m id=some b'→¬b'.owns (φ id) g
 rep:∀φ',φ' site=ph→(∀id,b.names id=true→φ' id=φ id)→gC P μ φ' w' site b
 names:∀id,b.names id=true→(m id).isSome=true
 lp:∀st,b=.loop st→∃g rc,ph.g=some g∧w0.rc site=some (g,rc)∧w'.heap[g]?=some (.loop (st.obj rc)):=by intro st h;cases h
theorem ei{draw:Bool}{site:Nat}{b:bE}{f:Fr}{m:Mem}{k:Fr→Mem→bk→Option R}{r:R}(h:fresh draw site b f m k=some r)(Jq:∀i off,b.rowAt i off=true→False:=by intro i off h;simp[bE.rowAt]at h):∃f' m',(∀(R':Type)(k':Fr→Mem→bk→Option R'),fresh draw site b f m k'=k' f' m' [(true,site)])∧k f' m' [(true,site)]=some r∧m' site=some b∧(draw=true→m site=none∧f'=f∧m'=ak m site b)∧(∀(P:Program)(G:Nat→Option (List PV))(w0:br)(μ:Ro)(φ:Nat→aA)(w w':World)(ρ:Nat→Value)(ph:aA),av P G w0 μ φ m w→bZ P μ φ m f ρ→kF P w0 μ φ m w w' site b ph→∃φ',φ' site=ph∧av P G w0 μ φ' m' w'∧bZ P μ φ' m' f' ρ):=by
 unfold fresh at h;cases hs:m site with
 |none=>
  simp only[hs]at h;refine⟨f,ak m site b,fun R' k'=>by simp only[fresh,hs],h,by simp,fun _=>⟨rfl,rfl,rfl⟩,fun P G w0 μ φ w w' ρ ph hM hF hp=>?_⟩;have F7:∀id,(m id).isSome=true→id≠site:=fun id hid e=>by subst e;rw[hs]at hid;cases hid
  refine⟨fun i=>if i=site then ph else φ i,by simp,hM.put hs hp.below hp.ro hp.l5 (fun g hg=>hp.own g (nY Jq hg)) (qv Jq) (hp.rep _ (by simp) fun id hid=>by simp[F7 id (hp.names id hid)]) hp.names hp.lp,?_⟩;exact hF.mono (fun _ _ h=>h) fun id hid=>⟨by simp[F7 id hid],by rw[al (F7 id hid)];exact hid⟩
 |some b0=>
  simp only[hs]at h;split at h
  ·cases h
  ·rename_i hc;simp only[Bool.or_eq_true,not_or,Bool.not_eq_true]at hc;refine⟨eU site f,ak (bx site m) site b,fun R' k'=>by simp only[fresh,hs];simp[hc],h,by simp,fun hd=>(by rw[hc.1]at hd;cases hd),fun P G w0 μ φ w w' ρ ph hM hF hp=>?_⟩;have ta:=hM.forget site;have Cm:=hF.forget site;have TS:bh (bx site m) site site=none:=by simp
   have F7:∀id,(bh (bx site m) site id).isSome=true→id≠site:=fun id hid e=>by subst e;simp at hid
   have hnm:∀id,b.names id=true→id≠site:=fun id hid e=>by subst e;rw[hc.2]at hid;cases hid
   refine⟨fun i=>if i=site then ph else φ i,by simp,?_,?_⟩
   ·rw[←xy];refine ta.put TS hp.below hp.ro (fun id b' g hid hg=>?_) (fun g hg=>?_) (qv Jq) (hp.rep _ (by simp) fun id hid=>by simp[hnm id hid]) (fun id hid=>sm (hnm id hid) (hp.names id hid)) hp.lp
    ·obtain⟨_,b2,rV,rfl⟩:=eP hid;exact hp.l5 id b2 g rV (gj.1 hg)
    ·obtain⟨h1,h2,h3⟩:=hp.own g (nY Jq hg);refine⟨h1,h2,fun id b' hid ho=>?_⟩;obtain⟨_,b2,rV,rfl⟩:=eP hid;exact h3 id b2 rV (gj.1 ho)
   ·rw[←xy];exact Cm.mono (fun _ _ h=>h) fun id hid=>⟨by simp[F7 id hid],by rw[al (F7 id hid)];exact hid⟩
theorem kF.alloc{P:Program}{G:Nat→Option (List PV)}{w0:br}{μ:Ro}{φ:Nat→aA}{m:Mem}{w:World}{site:Nat}{b:bE}{ph:aA}{o:Obj}(hM:av P G w0 μ φ m w)(Xc:ph.g=some w.heap.size)(rep:∀φ',φ' site=ph→(∀id,b.names id=true→φ' id=φ id)→gC P μ φ' (w.alloc o) site b)(names:∀id,b.names id=true→(m id).isSome=true)(lp:∀st,b=.loop st→∃g rc,ph.g=some g∧w0.rc site=some (g,rc)∧(w.alloc o).heap[g]?=some (.loop (st.obj rc)):=by intro st h;cases h):kF P w0 μ φ m w (w.alloc o) site b ph:=by
 have l0:w0.heap.size≤w.heap.size:=hM.below.size;refine⟨(kG.refl _ w).alloc l0 o,fun k o' hk=>?_,fun id b' g hid hg=>kG.heap_alloc w o g ((hM.dy id b' hid).Dp hg),fun g hg=>?_,rep,names,lp⟩
 ·have:=hM.ro k o' hk;rw[kG.heap_alloc w o k (Array.getElem?_eq_some_iff.1 this).1];exact this
 ·rw[Xc]at hg;simp only[Option.some.injEq]at hg;subst hg;refine⟨l0,?_,fun id b' hid hg=>?_⟩
  ·cases hq:μ w.heap.size with
   |none=>rfl
   |some o'=>have:=hM.ro _ _ hq;simp at this
  ·have:=(hM.dy id b' hid).Dp hg;omega
theorem fA(w:World)(o:Obj):(w.alloc o).heap[w.heap.size]?=some o:=heap_alloc_new w o
variable{t:TypeId}
theorem eE{cs:List V}(h:c9 E t=some cs):∃i z,E.P.info? t=some i∧i.zero=some z∧i.size=aP E.P t∧cs.length=aP E.P t∧z.cells.size=aP E.P t∧(∀id,cm id cs=false)∧(∀(μ:Ro)(φ:Nat→aA)(i:Nat)u y,cs[i]?=some u→z.cells[i]?=some y→ae E.P μ φ u y)∧(∀(i:Nat)(y:Value),z.cells[i]?=some y→y.oneCell'=true):=by
 unfold c9 zeroV at h;cases hi:E.P.info? t with
 |none=>simp[hi]at h
 |some i=>
  cases hz:i.zero with
  |none=>simp[hi,hz]at h
  |some z=>
   simp only[hi,hz,Option.bind_some,Option.map_some]at h;obtain⟨h1,h2,h3⟩:=toCells_ok h;obtain⟨h4,_,h6⟩:=h3 E.P (fun _=>none) (fun _=>default) z (sW z);refine⟨i,z,rfl,hz,by simp[aP,hi],h1,h4,fun id=>?_,fun μ φ i u y hu hy=>(h3 E.P μ φ z (sW z)).2.1 i u y hu hy,h6⟩;cases hh:cm id cs with
   |false=>rfl
   |true=>have:=h2 id hh;rw[FV]at this;cases this
variable{P:Program}{w:World}
theorem nZ{i:TypeInfo}{z:Value}(hi:P.info? t=some i)(hz:i.zero=some z):(zeroValue t).run P w=.ok z w:=by simp[zeroValue,typeInfo,hi,hz]
theorem AF{i:TypeInfo}{z:Value}(hi:P.info? t=some i)(hz:i.zero=some z):(Instr.alloc t true (.tuple #[])).run P w=.ok (.pointer (some ⟨w.heap.size,0,none⟩)) (w.alloc (.cells z.cells t)):=by simp[Instr.alloc,nZ hi hz,newVar,newRow]
theorem P4{v:Value}:(Instr.box t v).run P w=.ok (.pointer (some ⟨w.heap.size,0,none⟩)) (w.alloc (.cells v.cells t)):=by simp[Instr.box,newVar,newRow]
variable{c:Array Value}
theorem kF.box{G:Nat→Option (List PV)}{w0:br}{μ:Ro}{φ:Nat→aA}{m:Mem}{site:Nat}{cs:List V}{T:TypeId}(hM:av P G w0 μ φ m w)(hl:c.size=cs.length)(hv:∀(i:Nat)u y,cs[i]?=some u→c[i]?=some y→ae P μ φ u y)(h1:∀(i:Nat)(y:Value),c[i]?=some y→y.oneCell'=true)(hn:∀id,cm id cs=true→(m id).isSome=true):kF P w0 μ φ m w (w.alloc (.cells c T)) site (.box cs) (Ci (some w.heap.size) 0 cs.length 0):=by refine kF.alloc hM (by rfl) (fun φ' hφ RB=>⟨w.heap.size,c,T,by rw[hφ],fA w _,hl,fun i u y hu hy=>?_,h1,by rw[hφ]⟩) hn;exact(hv i u y hu hy).mono (fun _ _ h=>h) fun id hid=>RB id (bI (List.mem_of_getElem? hu) hid)
theorem kx(h:aP P t≠0):(P.info? t).map (·.size)=some (aP P t):=by obtain⟨i,hi,hs⟩:=wO h;simp[hi,hs]
theorem da{T:Type}{cs new:List T}{off i:Nat}{x:T}(hb:off+new.length≤cs.length)(h:(bH cs off new)[i]?=some x):(off≤i∧i<off+new.length∧new[i-off]?=some x)∨((i<off∨off+new.length≤i)∧cs[i]?=some x):=by
 rw[dz]at h;rw[List.append_assoc,List.getElem?_append]at h;have ht:(cs.take off).length=off:=by simp;omega
 rw[ht]at h;split at h
 ·rename_i hi;exact .inr ⟨.inl hi,(dB h).2⟩
 ·rw[List.getElem?_append]at h;split at h
  ·exact .inl ⟨by omega,by omega,h⟩
  ·rw[List.getElem?_drop]at h;refine .inr ⟨.inr (by omega),?_⟩;rw[←h];congr 1;omega
theorem ck{T:Type}{cs new:List T}{off:Nat}(hb:off+new.length≤cs.length):(bH cs off new).length=cs.length:=by simp[dz];omega
variable{g:Nat}
theorem gk{v:Value}{o:Nat}{T:TypeId}(hz:v.cells.size=aP P t)(hi:(P.info? t).map (·.size)=some (aP P t))(hg:w.heap[g]?=some (.cells c T (0,0)))(hb:o+v.cells.size≤c.size)(h1:∀(i:Nat)(y:Value),v.cells[i]?=some y→y.oneCell'=true):(Instr.storeAt t (.pointer (some ⟨g,o,none⟩)) v).run P w=.ok () (w.setRow g (bH c.toList o v.cells.toList).toArray):=by
 have oQ:=run_storeCells_at P g o T v.cells.toList 0 c w hg (by simpa using hb) (fun x hx=>by obtain⟨i,hi⟩:=List.getElem?_of_mem hx;exact h1 i x (by simpa using hi));have l0:(sizeOf t).run P w=.ok (aP P t) w:=by
  cases hq:P.info? t with
  |none=>simp[hq]at hi
  |some i=>simp[sizeOf,typeInfo,hq,aP]
 simp only[Instr.storeAt,Instr.sureAddr,storeVar,Sem.run_bind,Sem.run_pure,Result.andThen_ok,l0,hz,ne_eq,not_true_eq_false,if_false,oQ,Nat.add_zero];rw[dz];try rfl
variable{xs:Array Value}
theorem ca{k:Nat}(h:k≠g):(w.setRow g xs).heap[k]?=w.heap[k]?:=by unfold World.setRow;simp[Array.getElem?_modify,Ne.symm h]
theorem setRow_size:(w.setRow g xs).heap.size=w.heap.size:=by simp[World.setRow]
theorem kG.setRow{B:Nat}(h:B≤g):kG B w (w.setRow g xs):=⟨⟨rfl,rfl,rfl,Nat.le_of_eq setRow_size.symm,fun k hk=>ca (by omega)⟩,fun _=>Nat.le_refl _⟩
end
end Go.Ab
set_option linter.unusedVariables false
namespace Go.Ab
open Go.RowKit (Below)
section
variable {P:Program} {G:Nat→Option (List PV)} {w0:br} {μ:Ro} {φ:Nat→aA} {m m':Mem} {w:World}
def jW(m m':Mem):Prop:=∀id,(m id).isSome=true→(m' id).isSome=true
theorem jW.refl(m:Mem):jW m m:=fun _ h=>h
theorem jW.trans{a b c:Mem}(h:jW a b)(k:jW b c):jW a c:=fun id hid=>k id (h id hid)
variable{id:Nat}
theorem jW.set{b:bE}:jW m (ak m id b):=fun j hj=>by
 by_cases e:j=id
 ·subst e;simp
 ·rw[al e];exact hj
theorem bZ.ml{f:Fr}{ρ:Nat→Value}{μ':Ro}(h:bZ P μ φ m f ρ)(hμ:∀b o,μ b=some o→μ' b=some o)(hl:jW m m'):bZ P μ' φ m' f ρ:=h.mono hμ fun id hid=>⟨rfl,hl id hid⟩
variable{v:V}{p:PV}
theorem P5(h:CY m v=some (p,m')):jW m m'∧∀(P:Program)(G:Nat→Option (List PV))(w0:br)(μ:Ro)(φ:Nat→aA)(w:World)(x:Value),av P G w0 μ φ m w→ae P μ φ v x→∃μ',(∀b o,μ b=some o→μ' b=some o)∧av P G w0 μ' φ m' w∧af P μ' p x:=by
 unfold CY at h;split at h
 ·simp only[Option.some.injEq,Prod.mk.injEq]at h;obtain⟨rfl,rfl⟩:=h;exact⟨.refl _,fun P G w0 μ φ w x hM hx=>⟨μ,fun _ _ h=>h,hM,by cases hx with|pv hx=>exact hx⟩⟩
 ·simp only[Option.some.injEq,Prod.mk.injEq]at h;obtain⟨rfl,rfl⟩:=h;exact⟨.refl _,fun P G w0 μ φ w x hM hx=>⟨μ,fun _ _ h=>h,hM,by cases hx;exact .kE⟩⟩
 ·rename_i id;split at h
  ·rename_i s et es hm;simp only[Option.some.injEq,Prod.mk.injEq]at h;obtain⟨rfl,rfl⟩:=h;refine⟨.set,fun P G w0 μ φ w x hM hx=>⟨_,lF hM (φ id).g,hM.freeze hm,?_⟩⟩;refine(hM.arr (.inl hm)).full hM hx (lF hM _) fun g hg=>?_;simp[pB,hg]
  ·rename_i s et es hm;simp only[Option.some.injEq,Prod.mk.injEq]at h;obtain⟨rfl,rfl⟩:=h;refine⟨.refl _,fun P G w0 μ φ w x hM hx=>⟨μ,fun _ _ h=>h,hM,?_⟩⟩;refine(hM.arr (.inr hm)).full hM hx (fun _ _ h=>h) fun g hg=>?_;obtain⟨o,ho⟩:=Option.isSome_iff_exists.1 ((hM.dy id _ hm).2 g hg);rw[ho,hM.ro _ _ ho]
  ·rename_i s et es hm;simp only[Option.some.injEq,Prod.mk.injEq]at h;obtain⟨rfl,rfl⟩:=h;refine⟨.set,fun P G w0 μ φ w x hM hx=>⟨_,qw hM _,hM.P3 hm,?_⟩⟩;have TT:=hM.P3 hm;have hF:aF P _ φ w id s et (es.map PV.strip):=(TT.dy id _ (aK _ _ _)).1;refine hF.F2 (hx.xr (qw hM _)) (fun _ _ h=>h) fun g hg=>?_;unfold sZ;rw[if_pos (show(bE.nest s et es).owns (φ id) g from .inl hg)]
  ·cases h
 ·cases h
theorem F8(h:CY cW v=some (p,m')):∀(P:Program)(μ:Ro)(φ:Nat→aA)(x:Value),ae P μ φ v x→af P μ p x:=by
 unfold CY at h;split at h
 ·simp only[Option.some.injEq,Prod.mk.injEq]at h;obtain⟨rfl,rfl⟩:=h;exact fun P μ φ x hx=>by cases hx with|pv hx=>exact hx
 ·simp only[Option.some.injEq,Prod.mk.injEq]at h;obtain⟨rfl,rfl⟩:=h;exact fun P μ φ x hx=>by cases hx;exact .kE
 ·simp[cW]at h
 ·cases h
theorem qx(h:CY cW v=some (p,m')):m'=cW:=by
 unfold CY at h;split at h
 ·simp only[Option.some.injEq,Prod.mk.injEq]at h;exact h.2.symm
 ·simp only[Option.some.injEq,Prod.mk.injEq]at h;exact h.2.symm
 ·simp[cW]at h
 ·cases h
theorem Du:∀{cs:List V}{m m':Mem}{ps:List PV},lS m cs=some (ps,m')→jW m m'∧ps.length=cs.length∧∀(P:Program)(G:Nat→Option (List PV))(w0:br)(μ:Ro)(φ:Nat→aA)(w:World)(X:Nat→Value),av P G w0 μ φ m w→(∀(i:Nat)u,cs[i]?=some u→ae P μ φ u (X i))→∃μ',(∀b o,μ b=some o→μ' b=some o)∧av P G w0 μ' φ m' w∧∀(i:Nat)p,ps[i]?=some p→af P μ' p (X i)
 |[],m,m',ps,h=>by simp only[lS,Option.some.injEq,Prod.mk.injEq]at h;obtain⟨rfl,rfl⟩:=h;exact⟨.refl _,rfl,fun P G w0 μ φ w X hM _=>⟨μ,fun _ _ h=>h,hM,by simp⟩⟩
 |c::r,m,m',ps,h=>by
  simp only[lS]at h;split at h
  ·rename_i p m1 h1;split at h
   ·rename_i RC m2 h2;simp only[Option.some.injEq,Prod.mk.injEq]at h;obtain⟨rfl,rfl⟩:=h;obtain⟨a1,a2⟩:=P5 h1;obtain⟨b1,b2,b3⟩:=Du h2;refine⟨a1.trans b1,by simp[b2],fun P G w0 μ φ w X hM hx=>?_⟩;obtain⟨μ1,c1,c2,c3⟩:=a2 P G w0 μ φ w (X 0) hM (hx 0 c (by simp));obtain⟨μ2,d1,d2,d3⟩:=b3 P G w0 μ1 φ w (fun i=>X (i+1)) c2 (fun i u hu=>(hx (i+1) u (by simpa using hu)).xr c1);refine⟨μ2,fun b o h=>d1 b o (c1 b o h),d2,fun i q hq=>?_⟩;cases i with
    |zero=>simp at hq;subst hq;exact c3.mono d1
    |succ i=>exact d3 i q (by simpa using hq)
   ·cases h
  ·cases h
theorem yf:∀{cs:List V}{m':Mem}{ps:List PV},lS cW cs=some (ps,m')→ps.length=cs.length∧∀(P:Program)(μ:Ro)(φ:Nat→aA)(X:Nat→Value),(∀(i:Nat)u,cs[i]?=some u→ae P μ φ u (X i))→∀(i:Nat)p,ps[i]?=some p→af P μ p (X i)
 |[],m',ps,h=>by simp only[lS,Option.some.injEq,Prod.mk.injEq]at h;obtain⟨rfl,rfl⟩:=h;exact⟨rfl,by simp⟩
 |c::r,m',ps,h=>by
  simp only[lS]at h;split at h
  ·rename_i p m1 h1;split at h
   ·rename_i RC m2 h2;simp only[Option.some.injEq,Prod.mk.injEq]at h;obtain⟨rfl,rfl⟩:=h;have:=qx h1;subst this;obtain⟨b2,b3⟩:=yf h2;refine⟨by simp[b2],fun P μ φ X hx i q hq=>?_⟩;cases i with
    |zero=>simp at hq;subst hq;exact F8 h1 P μ φ _ (hx 0 c (by simp))
    |succ i=>exact b3 P μ φ (fun i=>X (i+1)) (fun i u hu=>hx (i+1) u (by simpa using hu)) i q (by simpa using hq)
   ·cases h
  ·cases h
structure sn(P:Program)(μ:Ro)(n:Nat)(p:PV)(x:Value):Prop where
 len:p.cells.length=n
 size:x.cells.size=n
 rep:∀(j:Nat)q y,p.cells[j]?=some q→x.cells[j]?=some y→af P μ q y
 one:∀(j:Nat)y,x.cells[j]?=some y→y.oneCell'=true
variable{n:Nat}{agg:Bool}
theorem xz{P:Program}{μ:Ro}{ps:List PV}{x:Value}(hp:(if agg then some (.agg ps)else match ps with|[p]=>some p|_=>none)=some p)(hl:ps.length=n)(hs:x.cells.size=n)(hr:∀(j:Nat)q y,ps[j]?=some q→x.cells[j]?=some y→af P μ q y)(h1:∀(j:Nat)y,x.cells[j]?=some y→y.oneCell'=true):sn P μ n p x:=by
 have hc:p.cells=ps:=by
  cases agg with
  |true=>simp at hp;subst hp;rfl
  |false=>
   simp only[Bool.false_eq_true,if_false]at hp;split at hp
   ·rename_i q;simp only[Option.some.injEq]at hp;subst hp;have bm:0<x.cells.size:=by simp at hl;omega
    have Fe:=hr 0 q _ (by simp) (Array.getElem?_eq_getElem bm);have WG:=h1 0 _ (Array.getElem?_eq_getElem bm);generalize x.cells[0]=y at Fe WG;cases q<;>first|rfl|(cases Fe;simp[Value.oneCell']at WG)
   ·cases hp
 exact⟨by rw[hc];exact hl,hs,by rw[hc];exact hr,h1⟩
theorem Dv{m m':Mem}(h:kq m n agg v=some (p,m')):jW m m'∧∀(P:Program)(G:Nat→Option (List PV))(w0:br)(μ:Ro)(φ:Nat→aA)(w:World)(x:Value),av P G w0 μ φ m w→ae P μ φ v x→∃μ',(∀b o,μ b=some o→μ' b=some o)∧av P G w0 μ' φ m' w∧sn P μ' n p x:=by
 unfold kq at h;split at h
 ·rename_i cs hc;obtain⟨c1,c2,c3⟩:=toCells_ok hc;split at h
  ·rename_i ps m1 hf;obtain⟨f1,f2,f3⟩:=Du hf;have hp:(if agg then some (.agg ps)else match ps with|[p]=>some p|_=>none)=some p∧m1=m':=by
    cases agg with
    |true=>simp at h;exact⟨by simp[h.1],h.2⟩
    |false=>
     simp only[Bool.false_eq_true,if_false]at h⊢;split at h
     ·simp only[Option.some.injEq,Prod.mk.injEq]at h;exact⟨by simp[h.1],h.2⟩
     ·cases h
   obtain⟨hp,rfl⟩:=hp;refine⟨f1,fun P G w0 μ φ w x hM hx=>?_⟩;obtain⟨d1,d2,d3⟩:=c3 P μ φ x hx;have hX:∀(i:Nat),i<cs.length→x.cells[i]?=some (x.cells.getD i undef):=fun i hi=>by
    have bm:i<x.cells.size:=by omega
    rw[Array.getElem?_eq_getElem bm];simp[Array.getD,bm]
   obtain⟨μ',e1,e2,e3⟩:=f3 P G w0 μ φ w (fun i=>x.cells.getD i undef) hM fun i u hu=>d2 i u _ hu (hX i (List.getElem?_eq_some_iff.1 hu).1);refine⟨μ',e1,e2,xz hp (by omega) d1 (fun j q y hq hy=>?_) d3⟩;have:=e3 j q hq;rw[hX j (by have:=(List.getElem?_eq_some_iff.1 hq).1;omega)]at hy;simp only[Option.some.injEq]at hy;subst hy;exact this
  ·cases h
 ·cases h
theorem zn{m':Mem}(h:kq cW n agg v=some (p,m')):∀(P:Program)(μ:Ro)(φ:Nat→aA)(x:Value),ae P μ φ v x→sn P μ n p x:=by
 unfold kq at h;split at h
 ·rename_i cs hc;obtain⟨c1,c2,c3⟩:=toCells_ok hc;split at h
  ·rename_i ps m1 hf;obtain⟨f2,f3⟩:=yf hf;have hp:(if agg then some (.agg ps)else match ps with|[p]=>some p|_=>none)=some p:=by
    cases agg with
    |true=>simp at h;simp[h.1]
    |false=>
     simp only[Bool.false_eq_true,if_false]at h⊢;split at h
     ·simp only[Option.some.injEq,Prod.mk.injEq]at h;simp[h.1]
     ·cases h
   refine fun P μ φ x hx=>?_;obtain⟨d1,d2,d3⟩:=c3 P μ φ x hx;have hX:∀(i:Nat),i<cs.length→x.cells[i]?=some (x.cells.getD i undef):=fun i hi=>by
    have bm:i<x.cells.size:=by omega
    rw[Array.getElem?_eq_getElem bm];simp[Array.getD,bm]
   have e3:=f3 P μ φ (fun i=>x.cells.getD i undef) fun i u hu=>d2 i u _ hu (hX i (List.getElem?_eq_some_iff.1 hu).1);refine xz hp (by omega) d1 (fun j q y hq hy=>?_) d3;have:=e3 j q hq;rw[hX j (by have:=(List.getElem?_eq_some_iff.1 hq).1;omega)]at hy;simp only[Option.some.injEq]at hy;subst hy;exact this
  ·cases h
 ·cases h
theorem Jr{draw:Bool}{m m':Mem}(h:vq draw m n agg v=some (p,m')):jW m m'∧(draw=true→m'=m∧∀m2:Mem,vq true m2 n agg v=some (p,m2))∧∀(P:Program)(G:Nat→Option (List PV))(w0:br)(μ:Ro)(φ:Nat→aA)(w:World)(x:Value),av P G w0 μ φ m w→ae P μ φ v x→∃μ',(∀b o,μ b=some o→μ' b=some o)∧av P G w0 μ' φ m' w∧sn P μ' n p x:=by
 unfold vq at h;split at h
 ·rename_i hd;split at h
  ·rename_i q m1 hf;simp only[Option.some.injEq,Prod.mk.injEq]at h;obtain⟨rfl,rfl⟩:=h;exact⟨.refl _,fun _=>⟨rfl,fun m2=>by simp[vq,hf]⟩,fun P G w0 μ φ w x hM hx=>⟨μ,fun _ _ h=>h,hM,zn hf P μ φ x hx⟩⟩
  ·cases h
 ·rename_i hd;obtain⟨h1,h2⟩:=Dv h;exact⟨h1,fun TU=>absurd TU hd,h2⟩
theorem aF.set{P:Program}{μ:Ro}{φ:Nat→aA}{w:World}{id sz:Nat}{et:TypeId}{es:List PV}(hA:aF P μ φ w id sz et es){g:Nat}(hg:(φ id).g=some g){i off n:Nat}{e p q:PV}{x:Value}(he:es[i]?=some e)(hE:sn P μ n p x)(hb:off+n≤sz)(hq:q.cells=bH (aC sz e) off p.cells):∃c T,w.heap[g]?=some (.cells c T (0,0))∧i*sz+off+x.cells.size≤c.size∧aF P μ φ (w.setRow g (bH c.toList (i*sz+off) x.cells.toList).toArray) id sz et (es.set i q):=by
 obtain⟨a1,a2,a3,a4,a5,a6,a7⟩:=hA;rw[hg]at a7;obtain⟨c,T,c1,c2,c3,c4,c5⟩:=a7;have hi:i<es.length:=(List.getElem?_eq_some_iff.1 he).1;have Ht:i*sz+off+n≤c.size:=by have:(i+1)*sz≤(φ id).cap*sz:=Nat.mul_le_mul_right _ (by omega);rw[Nat.add_mul]at this;omega
 have F9:x.cells.toList.length=n:=by simpa using hE.size
 have BK:(aC sz e).length=sz:=aT _ _;have WX:q.cells.length=sz:=by rw[hq,ck (by rw[BK,hE.len];exact hb),BK]
 have pT:(bH c.toList (i*sz+off) x.cells.toList).length=c.size:=by rw[ck (by simp[hE.size];omega)];simp
 have rM:∀(i':Nat)e',(es.set i q)[i']?=some e'→(i'=i∧e'=q)∨(i'≠i∧es[i']?=some e'):=by
  intro i' e' h';rw[List.getElem?_set]at h';split at h'
  ·rename_i Ga;subst Ga;simp[hi]at h';exact .inl ⟨rfl,h'.symm⟩
  ·rename_i Ga;exact .inr ⟨fun e=>Ga e.symm,h'⟩
 refine⟨c,T,c1,by rw[hE.size];exact Ht,?_⟩;refine⟨by simp[a1],a2,a3,a4,fun i' e' h'=>?_,a6,?_⟩
 ·rcases rM i' e' h' with⟨_,rfl⟩|⟨_,h'⟩
  ·exact WX
  ·exact a5 i' e' h'
 ·rw[hg];refine⟨_,T,setRow_heap w g c _ T (0,0) c1,by simp[pT,c2],by simpa using c3,fun i' e' j p' x' h' hj hx=>?_,fun j x' hj hx=>?_⟩
  ·rw[List.getElem?_toArray]at hx;rcases da (by simp[hE.size];omega) hx with⟨b1,b2,b3⟩|⟨b1,b2⟩
   ·rw[F9]at b2;have Ga:i'=i∧e'=q:=by
     rcases rM i' e' h' with h|⟨cB,h'⟩
     ·exact h
     ·exfalso;have Al:=(List.getElem?_eq_some_iff.1 hj).1;rw[a5 i' e' h']at Al;rcases Nat.lt_or_gt_of_ne cB with bm|hgt
      ·have:(i'+1)*sz≤i*sz:=Nat.mul_le_mul_right _ bm;rw[Nat.add_mul]at this;omega
      ·have:(i+1)*sz≤i'*sz:=Nat.mul_le_mul_right _ hgt;rw[Nat.add_mul]at this;omega
    obtain⟨rfl,rfl⟩:=Ga;rw[hq]at hj;rcases da (by rw[BK,hE.len];exact hb) hj with⟨d1,d2,d3⟩|⟨d1,d2⟩
    ·exact hE.rep _ _ _ d3 (by rw[←Array.getElem?_toList,←b3];congr 1;omega)
    ·exfalso;rw[hE.len]at d1;omega
   ·rw[F9]at b1;have b2:c[i'*sz+j]?=some x':=by simpa using b2
    rcases rM i' e' h' with⟨rfl,rfl⟩|⟨cB,h'⟩
    ·rw[hq]at hj;rcases da (by rw[BK,hE.len];exact hb) hj with⟨d1,d2,d3⟩|⟨d1,d2⟩
     ·exfalso;rw[hE.len]at d2;omega
     ·rw[dQ (a5 i' e he)]at d2;exact c4 i' e j p' x' he d2 b2
    ·exact c4 i' e' j p' x' h' hj b2
  ·rw[List.getElem?_toArray]at hx;rw[List.length_set]at hj;rcases da (by simp[hE.size];omega) hx with⟨b1,b2,b3⟩|⟨b1,b2⟩
   ·exact hE.one _ x' (by simpa using b3)
   ·exact c5 j x' hj (by simpa using b2)
variable{off:Nat}
theorem Hu{s0:Nat}{e:PV}(he:e.cells.length=s0)(ho:off<s0)(hp:∀cs,p≠.agg cs):(setRow s0 e off p).cells=e.cells.set off p:=by
 have h1:p.cells=[p]:=by cases p<;>first|rfl|exact absurd rfl (hp _)
 unfold setRow;split
 ·rename_i hs;subst hs;have:off=0:=by omega
  subst this;match hc:e.cells,he with
  |[c],_=>simp[h1]
 ·simp only[PV.cells,dQ he]
theorem Dw{s:Nat}{e:PV}(h1:p.cells.length=n)(h2:e.cells.length=s):(setCells s e off n p).cells=bH (aC s e) off p.cells:=by
 unfold setCells;split
 ·rename_i h;obtain⟨rfl,rfl⟩:=h;rw[dz,h1];simp[aT]
 ·rfl
theorem aV.change{P:Program}{μ μ':Ro}{φ φ':Nat→aA}{w w':World}{sz:Nat}{et:TypeId}{es es':List PV}(h:aV P μ φ w id sz et es)(hlen:es'.length=es.length)(sP:∀(i:Nat)e,es'[i]?=some e→e.cells.length=sz)(hφ:(φ' id).toBE=(φ id).toBE)(hw:∀g,(φ id).g=some g→w'.heap[g]?=w.heap[g]?)(hc:∀(i:Nat)e'(j:Nat)p' g c T x,es'[i]?=some e'→e'.cells[j]?=some p'→(φ id).g=some g→w.heap[g]?=some (.cells c T (0,0))→c[i*sz+j]?=some x→(∀e p,es[i]?=some e→e.cells[j]?=some p→eh P μ ((φ id).row i j) w p x)→eh P μ' ((φ' id).row i j) w' p' x):aV P μ' φ' w' id sz et es':=by
 obtain⟨a1,a2,a3,a4,a5,a6,a7⟩:=h;unfold aV;rw[hφ];refine⟨by rw[hlen];exact a1,a2,a3,a4,sP,a6,?_⟩;cases hg:(φ id).g with
 |none=>rw[hg]at a7;refine⟨?_,a7.2⟩;have:=a7.1;subst this;exact List.eq_nil_of_length_eq_zero hlen
 |some g=>rw[hg]at a7;obtain⟨c,T,c1,c2,c3,c4,c5⟩:=a7;exact⟨c,T,by rw[hw g hg];exact c1,c2,by rw[hlen];exact c3,fun i e' j p' x h1 h2 h3=>hc i e' j p' g c T x h1 h2 hg c1 h3 fun e p he hp=>c4 i e j p x he hp h3,fun i x hi hx=>c5 i x (by rw[←hlen];exact hi) hx⟩
theorem eF{T:Type}{l:List T}{i i':Nat}{q e':T}(h:(l.set i q)[i']?=some e'):(i'=i∧e'=q)∨(i'≠i∧l[i']?=some e'):=by
 rw[List.getElem?_set]at h;split at h
 ·rename_i Ga;subst Ga;split at h
  ·simp only[Option.some.injEq]at h;exact .inl ⟨rfl,h.symm⟩
  ·cases h
 ·rename_i Ga;exact .inr ⟨fun e=>Ga e.symm,h⟩
theorem aV.set{P:Program}{μ:Ro}{φ:Nat→aA}{w:World}{sz:Nat}{et:TypeId}{es:List PV}(hA:aV P μ φ w id sz et es)(Dt:(bE.nest sz et es).apart (φ id)){g:Nat}(hg:(φ id).g=some g){i:Nat}{e q:PV}{x:Value}(he:es[i]?=some e)(hE:sn P μ n p x)(hb:off+n≤sz)(hq:q.cells=bH (aC sz e) off p.cells):∃c T,w.heap[g]?=some (.cells c T (0,0))∧i*sz+off+x.cells.size≤c.size∧aV P μ φ (w.setRow g (bH c.toList (i*sz+off) x.cells.toList).toArray) id sz et (es.set i q)∧∀i' si,(bE.nest sz et (es.set i q)).rowAt i' si=true→(bE.nest sz et es).rowAt i' si=true:=by
 have xw:=hA;obtain⟨a1,a2,a3,a4,a5,a6,a7⟩:=hA;rw[hg]at a7;obtain⟨c,T,c1,c2,c3,c4,c5⟩:=a7;have hi:i<es.length:=(List.getElem?_eq_some_iff.1 he).1;have Ht:i*sz+off+n≤c.size:=by have:(i+1)*sz≤(φ id).cap*sz:=Nat.mul_le_mul_right _ (by omega);rw[Nat.add_mul]at this;omega
 have F9:x.cells.toList.length=n:=by simpa using hE.size
 have BK:(aC sz e).length=sz:=aT _ _;have WX:q.cells.length=sz:=by rw[hq,ck (by rw[BK,hE.len];exact hb),BK]
 have pT:(bH c.toList (i*sz+off) x.cells.toList).length=c.size:=by rw[ck (by simp[hE.size];omega)];simp
 have cB:∀i' j' g',(bE.nest sz et es).rowAt i' j'=true→((φ id).row i' j').g=some g'→g'≠g:=fun i' j' g' hr bP e=>(Dt i' j' g' hr bP).1 (by rw[e];exact hg);have oQ:∀{i' j':Nat}{e' p':PV}{x':Value}{l:List Value},es[i']?=some e'→e'.cells[j']?=some p'→eh P μ ((φ id).row i' j') w p' x'→eh P μ ((φ id).row i' j') (w.setRow g l.toArray) p' x':=fun h1 h2 h3=>h3.cD (fun _ _ h=>h) fun hr g' bP=>ca (cB _ _ g' (by rw[dv h1 h2];exact hr) bP);refine⟨c,T,c1,by rw[hE.size];exact Ht,⟨by simp[a1],a2,a3,a4,fun i' e' h'=>?_,a6,?_⟩,?_⟩
 ·rcases eF h' with⟨_,rfl⟩|⟨_,h'⟩
  ·exact WX
  ·exact a5 i' e' h'
 ·rw[hg];refine⟨_,T,setRow_heap w g c _ T (0,0) c1,by simp[pT,c2],by simpa using c3,fun i' e' j p' x' h' hj hx=>?_,fun j x' hj hx=>?_⟩
  ·rw[List.getElem?_toArray]at hx;rcases da (by simp[hE.size];omega) hx with⟨b1,b2,b3⟩|⟨b1,b2⟩
   ·rw[F9]at b2;have Ga:i'=i∧e'=q:=by
     rcases eF h' with h|⟨cB,h'⟩
     ·exact h
     ·exfalso;have Al:=(List.getElem?_eq_some_iff.1 hj).1;rw[a5 i' e' h']at Al;rcases Nat.lt_or_gt_of_ne cB with bm|hgt
      ·have:(i'+1)*sz≤i*sz:=Nat.mul_le_mul_right _ bm;rw[Nat.add_mul]at this;omega
      ·have:(i+1)*sz≤i'*sz:=Nat.mul_le_mul_right _ hgt;rw[Nat.add_mul]at this;omega
    obtain⟨rfl,rfl⟩:=Ga;rw[hq]at hj;rcases da (by rw[BK,hE.len];exact hb) hj with⟨d1,d2,d3⟩|⟨d1,d2⟩
    ·exact .pure (hE.rep _ _ _ d3 (by rw[←Array.getElem?_toList,←b3];congr 1;omega))
    ·exfalso;rw[hE.len]at d1;omega
   ·rw[F9]at b1;have b2:c[i'*sz+j]?=some x':=by simpa using b2
    rcases eF h' with⟨rfl,rfl⟩|⟨cB,h'⟩
    ·rw[hq]at hj;rcases da (by rw[BK,hE.len];exact hb) hj with⟨d1,d2,d3⟩|⟨d1,d2⟩
     ·exfalso;rw[hE.len]at d2;omega
     ·rw[dQ (a5 i' e he)]at d2;exact oQ he d2 (c4 i' e j p' x' he d2 b2)
    ·exact oQ h' hj (c4 i' e' j p' x' h' hj b2)
  ·rw[List.getElem?_toArray]at hx;rw[List.length_set]at hj;rcases da (by simp[hE.size];omega) hx with⟨b1,b2,b3⟩|⟨b1,b2⟩
   ·exact hE.one _ x' (by simpa using b3)
   ·exact c5 j x' hj (by simpa using b2)
 ·intro i' si hr;rcases jV hr with⟨_,_,_,e',s,rs,gB,h',rW⟩|⟨_,_,_,_,_,_,gB,_⟩
  ·simp only[bE.nest.injEq]at gB;obtain⟨rfl,rfl,rfl⟩:=gB;rcases eF h' with⟨rfl,rfl⟩|⟨cB,h'⟩
   ·rw[hq]at rW;rcases da (by rw[BK,hE.len];exact hb) rW with⟨d1,d2,d3⟩|⟨d1,d2⟩
    ·exfalso;have bm:si-off<x.cells.size:=by rw[hE.size,←hE.len];exact(List.getElem?_eq_some_iff.1 d3).1
     exact absurd (hE.rep _ _ _ d3 (Array.getElem?_eq_getElem bm)).CG (by simp[PV.isRow])
    ·rw[dQ (a5 i' e he)]at d2;rw[dv he d2];rfl
   ·rw[dv h' rW];rfl
  ·cases gB
end
section
variable {R:Type} {E:Env}
theorem xA{p:PV}:∀{n o j:Nat}{q:PV},(dX p o n)[j]?=some q→j<n∧q=cell p (o+j)
 |0,o,j,q,h=>by simp[dX]at h
 |n+1,o,0,q,h=>⟨by omega,by simpa[dX]using h.symm⟩
 |n+1,o,j+1,q,h=>by simp only[dX,List.getElem?_cons_succ]at h;obtain⟨h1,h2⟩:=xA h;exact⟨by omega,by rw[h2];congr 1;omega⟩
theorem so{p:PV}:∀{n o:Nat},(dX p o n).length=n
 |0,_=>rfl
 |n+1,o=>by simp[dX,so (n:=n)]
variable{n:Nat}
theorem yg{s i:Nat}{p e:PV}(h:(fl s n p)[i]?=some e):i<n∧e=.agg (dX p (i*s) s):=by unfold fl at h;rw[List.getElem?_map,Option.map_eq_some_iff]at h;obtain⟨k,hk,rfl⟩:=h;obtain⟨h1,h2⟩:=List.getElem?_eq_some_iff.1 hk;simp at h1 h2;subst h2;exact⟨h1,rfl⟩
theorem TV{p:PV}{u:Unit}(h:asAgg n p=some u):∃cs,p=.agg cs∧cs.length=n:=by
 unfold asAgg at h;split at h
 ·split at h
  ·exact⟨_,rfl,‹_›⟩
  ·cases h
 ·cases h
theorem RD{t:TypeId}{i off s:Nat}{et:TypeId}{b:Option bE}{x:V}{p:PV}(h:LX E t i off b x=some (s,et,n,p)):∃es,b=some (.arr s et es)∧x=.pv p∧xU E t s i off=true∧n=es.length:=by
 unfold LX at h;split at h
 ·rename_i s' C4 es q;cases hw:xU E t s' i off with
  |true=>rw[hw]at h;simp only[cond_true,Option.some.injEq,Prod.mk.injEq]at h;obtain⟨rfl,rfl,rfl,rfl⟩:=h;exact⟨es,rfl,rfl,hw,rfl⟩
  |false=>rw[hw]at h;cases h
 ·cases h
theorem Gb{P:Program}{μ:Ro}{s k:Nat}{cs:List PV}{xs:Array Value}(hp:af P μ (.agg cs) (.agg xs))(hl:cs.length=n*s){i j:Nat}{e q:PV}(he:(fl s n (.agg cs))[i]?=some e)(hq:e.cells[j]?=some q)(hk:k=i*s+j):∃x,xs[k]?=some x∧af P μ q x∧x.oneCell'=true:=by
 obtain⟨h1,rfl⟩:=yg he;obtain⟨h2,rfl⟩:=xA hq;have bm:i*s+j<n*s:=by have:(i+1)*s≤n*s:=Nat.mul_le_mul_right _ (by omega);rw[Nat.add_mul]at this;omega
 subst hk;cases hp with
 |agg g1 g2 g3=>
  have hc:cs[i*s+j]?=some cs[i*s+j]:=List.getElem?_eq_getElem (by omega);have hx:xs[i*s+j]?=some xs[i*s+j]:=Array.getElem?_eq_getElem (by omega);refine⟨_,hx,?_,g3 _ _ hx⟩;have:cell (.agg cs) (i*s+j)=cs[i*s+j]:=by simp[cell,PV.cells,List.getD_eq_getElem?_getD,hc]
  rw[this];exact g2 _ _ _ hc hx
theorem RE{draw:Bool}{t:TypeId}{a x:V}{m:Mem}{k:Mem→bk→Option R}{r:R}(h:sg E draw t a x m k=some r):∃m' ft,k m' ft=some r∧(draw=true→∃id b,m'=ak m id b∧ft=[(true,id)]∧∀m2:Mem,m2 id=m id→∀(R':Type)(k':Mem→bk→Option R'),sg E true t a x m2 k'=k' (ak m2 id b) [(true,id)])∧jW m m'∧∀(G:Nat→Option (List PV))(w0:br)(μ:Ro)(φ:Nat→aA)(w:World)(ya yx:Value),av E.P G w0 μ φ m w→ae E.P μ φ a ya→ae E.P μ φ x yx→(∀id,x.has id=true→(m id).isSome=true)→∃w' μ',(Instr.storeAt t ya yx).run E.P w=.ok () w'∧(∀b o,μ b=some o→μ' b=some o)∧av E.P G w0 μ' φ m' w':=by
 unfold sg at h;split at h
 ·rename_i id off;split at h
  ·rename_i cs hm;split at h
   ·rename_i new hn;split at h
    ·rename_i hb;refine⟨_,_,h,fun hd=>⟨id,_,rfl,rfl,fun m2 cq R' k'=>by simp only[sg,cq,hm,hn];rw[if_pos hb]⟩,.set,fun G w0 μ φ w ya yx hM ha hx hlx=>?_⟩;obtain⟨n1,n2,n3⟩:=toCells_ok hn;obtain⟨x1,x2,x3⟩:=n3 _ _ _ _ hx;cases ha with
     | @op _ _ g hg=>
      obtain⟨g',c,T,bP,hh,hs,hv,h1,xZ⟩:=hM.dy id _ hm;rw[hg]at bP;simp only[Option.some.injEq]at bP;subst bP;have hi:=kx (P:=E.P) (t:=t) (by omega);have ou:off+yx.cells.toList.length≤c.toList.length:=by simp;omega
      refine⟨_,μ,gk x1 hi hh (by omega) x3,fun _ _ h=>h,?_⟩;refine hM.write hm rfl hg (kG.setRow (Nat.le_refl _)) setRow_size (fun k hk=>ca hk) ⟨g,_,T,hg,setRow_heap w g c _ T (0,0) hh,?_,fun i u y hu hy=>?_,fun i y hy=>?_,by rw[ck (by omega)];exact xZ⟩ rfl fun j hj=>?_
      ·simp only[List.size_toArray];rw[ck ou,ck (by omega)];simp[hs]
      ·rw[List.getElem?_toArray]at hy;have e1:yx.cells.toList.length=new.length:=by simp;omega
       rcases da ou hy with⟨b1,b2,b3⟩|⟨b1,b2⟩<;>rcases da (by omega) hu with⟨d1,d2,d3⟩|⟨d1,d2⟩
       ·exact x2 _ u y d3 (by simpa using b3)
       ·exfalso;omega
       ·exfalso;omega
       ·exact hv i u y d2 (by simpa using b2)
      ·rw[List.getElem?_toArray]at hy;rcases da ou hy with⟨b1,b2,b3⟩|⟨b1,b2⟩
       ·exact x3 _ y (by simpa using b3)
       ·exact h1 i y (by simpa using b2)
      ·simp only[bE.names]at hj;obtain⟨v,P6,hh'⟩:=cL.1 hj;simp only[dz,List.mem_append]at P6;rcases P6 with(P6|P6)|P6
       ·exact hM.fJ id cs j hm (bI (List.mem_of_mem_take P6) hh')
       ·exact hlx j (n2 j (bI P6 hh'))
       ·exact hM.fJ id cs j hm (bI (List.mem_of_mem_drop P6) hh')
    ·cases h
   ·cases h
  ·cases h
 ·rename_i id i off;split at h
  ·rename_i s et n p hwv;obtain⟨es,hm,rfl,hw,hn⟩:=RD hwv;subst hn;obtain⟨u,hu,h⟩:=Option.bind_eq_some_iff.1 h;split at h
   ·rename_i hl;obtain⟨ha,rfl,rfl,_⟩:=F0 hw;obtain⟨cs,rfl,sP⟩:=TV hu;refine⟨_,_,h,fun _=>⟨id,_,rfl,rfl,fun m2 cq R' k'=>?_⟩,.set,fun G w0 μ φ w ya yx hM ha hx _=>?_⟩
    ·simp only[sg,cq,hwv,hu,Option.bind_some];rw[if_pos hl]
    ·have hA:aF E.P μ φ w id s et es:=hM.dy id _ hm;cases ha with
     | @oe _ _ _ g hg=>
      cases hx with
      |pv hx=>
       have Js:=hx;cases hx with
       | @agg _ xs g1 g2 g3=>
        obtain⟨a1,a2,a3,a4,a5,a6,a7⟩:=hA;rw[hg]at a7;obtain⟨c,T,c1,c2,c3,c4,c5⟩:=a7;have hle:es.length*s≤c.size:=Nat.le_trans (Nat.mul_le_mul_right _ c3) c2;have Hv:xs.size=es.length*s:=by omega
        have ec:aP E.P t≠0:=by omega
        have hl1:=hl.1;have hi:=kx (P:=E.P) (t:=t) ec;have hcz:(Value.agg xs).cells.size=aP E.P t:=by simp[Value.cells];omega
        refine⟨w.setRow g (bH c.toList 0 xs.toList).toArray,μ,?_,fun _ _ h=>h,hM.write hm rfl hg (kG.setRow (Nat.le_refl _)) setRow_size (fun k hk=>ca hk) ?_ rfl (fun j hj=>by simp[bE.names]at hj)⟩
        ·rw[show 0*(φ id).sz+0=0 by omega];exact gk hcz hi c1 (by rw[hcz];omega) (fun i y hy=>g3 i y hy)
        ·have BK:∀(i:Nat)(x:Value),i<es.length*s→(bH c.toList 0 xs.toList).toArray[i]?=some x→xs[i]?=some x:=fun i x hi hx=>by
          rw[List.getElem?_toArray]at hx;rcases da (by simp;omega) hx with⟨b1,b2,b3⟩|⟨b1,b2⟩
          ·simpa using b3
          ·exfalso;simp at b1;omega
         refine⟨by rw[a1];simp[fl],a2,a3,a4,fun i e he=>?_,a6,?_⟩
         ·obtain⟨_,rfl⟩:=yg he;exact so
         ·rw[hg];refine⟨_,T,setRow_heap w g c _ T (0,0) c1,?_,?_,fun i e j q x he hq hx=>?_,fun i x hi hx=>?_⟩
          ·simp only[List.size_toArray];rw[ck (by simp[Value.cells];omega)];simpa using c2
          ·simpa[fl]using c3
          ·obtain⟨x',x1,x2,_⟩:=Gb (k:=i*s+j) Js (by omega) he hq rfl;have bm:i*s+j<es.length*s:=by rw[←Hv];exact(Array.getElem?_eq_some_iff.1 x1).1
           have:=BK _ _ bm hx;rw[x1]at this;cases this;exact x2
          ·have hi:i<es.length*s:=by simpa[fl]using hi
           exact g3 _ _ (BK _ _ hi hx)
   ·cases h
  rename_i Xd;split at h
  ·rename_i p m1 hf;obtain⟨f1,f2,f3⟩:=Jr hf;split at h
   ·rename_i s et es hm;obtain⟨e,he,h⟩:=Option.bind_eq_some_iff.1 h;have key:∀q,0<aP E.P t→off+aP E.P t≤s→(p.cells.length=aP E.P t→e.cells.length=s→q.cells=bH (aC s e) off p.cells)→∀(G:Nat→Option (List PV))(w0:br)(μ:Ro)(φ:Nat→aA)(w:World)(ya yx:Value),av E.P G w0 μ φ m w→ae E.P μ φ (.oe id i off) ya→ae E.P μ φ x yx→(∀id,x.has id=true→(m id).isSome=true)→∃w' μ',(Instr.storeAt t ya yx).run E.P w=.ok () w'∧(∀b o,μ b=some o→μ' b=some o)∧av E.P G w0 μ' φ (ak m1 id (.arr s et (es.set i q))) w':=by
     intro q hz hb hq G w0 μ φ w ya yx hM ha hx _;obtain⟨μ',g1,g2,g3⟩:=f3 _ _ _ _ _ _ _ hM hx;cases ha with
     | @oe _ _ _ g hg=>have hA:aF E.P μ' φ w id s et es:=g2.dy id _ hm;have Y1:=hq g3.len (hA.2.2.2.2.1 i e he);obtain⟨c,T,hh,ou,xw⟩:=hA.set hg he g3 hb Y1;have l0:(φ id).sz=s:=hA.2.1;have hi:=kx (P:=E.P) (t:=t) (by omega);refine⟨_,μ',?_,g1,g2.write hm rfl hg (kG.setRow (Nat.le_refl _)) setRow_size (fun k hk=>ca hk) xw rfl fun j hj=>by simp[bE.names]at hj⟩;rw[l0];exact gk g3.size hi hh ou g3.one
    split at h
    ·rename_i hb;refine⟨_,_,h,fun hd=>?_,f1.trans .set,key p (by omega) (by omega) fun h1 h2=>?_⟩
     ·obtain⟨rfl,f4⟩:=f2 hd;refine⟨id,_,rfl,rfl,fun m2 cq R' k'=>?_⟩;simp only[sg,f4 m2,cq,hm,(hm▸Xd),he,Option.bind_some];rw[if_pos hb]
     ·rw[hb.1,dz,h1,hb.2.1];simp[aT]
    ·rename_i hnb;split at h
     ·rename_i hb;refine⟨_,_,h,fun hd=>?_,f1.trans .set,key _ (by omega) (by omega) fun _ _=>rfl⟩;obtain⟨rfl,f4⟩:=f2 hd;refine⟨id,_,rfl,rfl,fun m2 cq R' k'=>?_⟩;simp only[sg,f4 m2,cq,hm,(hm▸Xd),he,Option.bind_some];rw[if_neg hnb,if_pos hb]
     ·cases h
   ·rename_i s et es hm;obtain⟨e,he,h⟩:=Option.bind_eq_some_iff.1 h;split at h
    ·rename_i hb;refine⟨_,_,h,fun hd=>?_,f1.trans .set,fun G w0 μ φ w ya yx hM ha hx _=>?_⟩
     ·obtain⟨rfl,f4⟩:=f2 hd;refine⟨id,_,rfl,rfl,fun m2 cq R' k'=>?_⟩;simp only[sg,f4 m2,cq,hm,(hm▸Xd),he,Option.bind_some];rw[if_pos hb]
     ·obtain⟨μ',g1,g2,g3⟩:=f3 _ _ _ _ _ _ _ hM hx;cases ha with
      | @oe _ _ _ g hg=>have hA:aV E.P μ' φ w id s et es:=g2.dy id _ hm;obtain⟨c,T,hh,ou,xw,hrw⟩:=aV.set (q:=.agg (bH (aC s e) off p.cells)) hA (g2.apart id _ hm) hg he g3 hb.1 rfl;have l0:(φ id).sz=s:=hA.2.1;have hi:=kx (P:=E.P) (t:=t) (by omega);refine⟨_,μ',?_,g1,g2.write hm rfl hg (kG.setRow (Nat.le_refl _)) setRow_size (fun k hk=>ca hk) xw rfl (fun j hj=>by simp[bE.names]at hj) (fun st h=>by cases h) hrw⟩;rw[l0];exact gk g3.size hi hh ou g3.one
    ·cases h
   ·cases h
  ·cases h
 ·rename_i id i off s j off2;split at h
  ·rename_i p m1 hf;split at h
   ·rename_i s0 et es hm;obtain⟨e,he,h⟩:=Option.bind_eq_some_iff.1 h;obtain⟨rs,hr,h⟩:=Option.bind_eq_some_iff.1 h;obtain⟨q,hq,h⟩:=Option.bind_eq_some_iff.1 h;split at h
    ·rename_i hb;refine⟨_,_,h,fun _=>⟨id,_,rfl,rfl,fun m2 cq R' k'=>?_⟩,.set,fun G w0 μ φ w ya yx hM ha hx _=>?_⟩
     ·simp only[sg,hf,cq,hm,he,hr,hq,Option.bind_some];rw[if_pos hb]
     ·have hE:=zn hf E.P μ φ yx hx;have hN:aV E.P μ φ w id s0 et es:=hM.dy id _ hm;obtain⟨g,y,hg,xB,⟨⟨C4,hA⟩,hV⟩,hce⟩:=hN.row he hr;have Dt:=hM.apart id _ hm;have jT:(bE.nest s0 et es).rowAt i off=true:=by rw[dv he hce];rfl
      have AG:=hN.2.2.2.2.1 i e he;have Hw:(setRow s0 e off (.pG s (rs.set j (setCells s q off2 (aP E.P t) p)))).cells=e.cells.set off (.pG s (rs.set j (setCells s q off2 (aP E.P t) p))):=Hu AG hb.2.2 (by simp);cases ha with
      | @y7 _ _ _ _ _ _ g' bP hs=>
       obtain⟨cB,abC⟩:=Dt i off g' jT bP;obtain⟨c,T,hh,ou,xw⟩:=hA.set (g:=g') bP hq hE hb.1 (Dw hE.len (hA.2.2.2.2.1 j q hq));have hi:=kx (P:=E.P) (t:=t) (by omega);refine⟨_,μ,gk hE.size hi hh ou hE.one,fun _ _ h=>h,hM.TR hm rfl (.inr ⟨i,off,jT,bP⟩) (kG.setRow (Nat.le_refl _)) setRow_size (fun k hk=>ca hk) ?_ rfl (fun j hj=>by simp[bE.names]at hj) ?_⟩
       ·refine aV.change hN (by simp) (fun i' e' h'=>?_) rfl (fun g0 LJ=>ca fun e=>cB (by rw[←e];exact LJ)) (fun i' e' j' p' g0 c0 _ x' h' rW LJ Y2 Js hold=>?_)
        ·rcases eF h' with⟨_,rfl⟩|⟨_,h'⟩
         ·rw[Hw,List.length_set];exact AG
         ·exact hN.2.2.2.2.1 i' e' h'
        ·have other:∀e'' p'',es[i']?=some e''→e''.cells[j']?=some p''→(i',j')≠(i,off)→eh E.P μ ((φ id).row i' j') (w.setRow g' (bH c.toList (j*s+off2) yx.cells.toList).toArray) p'' x':=fun e'' p'' h1 h2 h3=>(hold e'' p'' h1 h2).cD (fun _ _ h=>h) fun yb g'' afb=>ca fun e=>by subst e;obtain⟨e1,e2⟩:=abC i' j' (by rw[dv h1 h2];exact yb) afb;exact h3 (by rw[e1,e2])
         rcases eF h' with⟨rfl,rfl⟩|⟨TW,h'⟩
         ·rw[Hw]at rW;rcases eF rW with⟨rfl,rfl⟩|⟨hnj,rW⟩
          ·have Ma:eN E.P μ ((φ id).row i' j') w s rs x':=hold e _ he hce;refine⟨⟨C4,xw⟩,?_⟩;exact Ma.2
          ·exact other e p' he rW fun e=>hnj (by simpa using e)
         ·exact other e' p' h' rW fun e=>TW (by have:=congrArg Prod.fst e;exact this)
       ·intro i' si yb;rcases jV yb with⟨_,_,_,e',s',rs',gB,h',rW⟩|⟨_,_,_,_,_,_,gB,_⟩
        ·simp only[bE.nest.injEq]at gB;obtain⟨rfl,rfl,rfl⟩:=gB;rcases eF h' with⟨rfl,rfl⟩|⟨TW,h'⟩
         ·rw[Hw]at rW;rcases eF rW with⟨rfl,_⟩|⟨hnj,rW⟩
          ·exact jT
          ·rw[dv he rW];rfl
         ·rw[dv h' rW];rfl
        ·cases gB
    ·cases h
   ·cases h
  ·cases h
 ·cases h
end
end Go.Ab
set_option linter.unusedVariables false
namespace Go.Ab
open Go.RowKit (Below)
structure Cells(P:Program)(μ:Ro)(sz:Nat)(es:List PV)(xs:List Value):Prop where
 len:xs.length=es.length*sz
 each:∀(i:Nat)e,es[i]?=some e→e.cells.length=sz
 rep:∀(i:Nat)e(j:Nat)p y,es[i]?=some e→e.cells[j]?=some p→xs[i*sz+j]?=some y→af P μ p y
 one:∀(i:Nat)y,xs[i]?=some y→y.oneCell'=true
section
variable {P:Program} {μ μ':Ro} {φ:Nat→aA} {w:World} {sz:Nat} {es es':List PV} {xs xs':List Value}
theorem Cells.nil:Cells P μ sz [] []:=⟨by simp,by simp,by simp,by simp⟩
theorem Cells.mono(h:Cells P μ sz es xs)(hμ:∀b o,μ b=some o→μ' b=some o):Cells P μ' sz es xs:=⟨h.len,h.each,fun i e j p y h1 h2 h3=>(h.rep i e j p y h1 h2 h3).mono hμ,h.one⟩
theorem Dx{i j n:Nat}(hi:i<n)(hj:j<sz):i*sz+j<n*sz:=by have:(i+1)*sz≤n*sz:=Nat.mul_le_mul_right _ hi;rw[Nat.add_mul]at this;omega
theorem Cells.append(h:Cells P μ sz es xs)(h':Cells P μ sz es' xs'):Cells P μ sz (es++es') (xs++xs'):=by
 refine⟨by simp[h.len,h'.len,Nat.add_mul],fun i e hi=>?_,fun i e j p y hi hj hy=>?_,fun i y hy=>?_⟩
 ·rw[List.getElem?_append]at hi;split at hi
  ·exact h.each i e hi
  ·exact h'.each _ e hi
 ·rw[List.getElem?_append]at hi hy;split at hi
  ·rename_i hl;have Al:j<sz:=by rw[←h.each i e hi];exact(List.getElem?_eq_some_iff.1 hj).1
   rw[if_pos (by rw[h.len];exact Dx hl Al)]at hy;exact h.rep i e j p y hi hj hy
  ·rename_i hl;have hle:es.length*sz≤i*sz:=Nat.mul_le_mul_right _ (by omega);rw[if_neg (by rw[h.len];omega)]at hy;refine h'.rep _ e j p y hi hj ?_;rw[←hy,h.len,Nat.sub_mul];congr 1;omega
 ·rw[List.getElem?_append]at hy;split at hy
  ·exact h.one i y hy
  ·exact h'.one _ y hy
theorem Cells.take(h:Cells P μ sz es xs)(n:Nat):Cells P μ sz (es.take n) (xs.take (n*sz)):=by
 refine⟨?_,fun i e hi=>h.each i e (dB hi).2,fun i e j p y hi hj hy=>h.rep i e j p y (dB hi).2 hj (dB hy).2,fun i y hy=>h.one i y (dB hy).2⟩;rw[List.length_take,List.length_take,h.len];rcases Nat.le_total n es.length with hn|hn
 ·rw[Nat.min_eq_left hn,Nat.min_eq_left (Nat.mul_le_mul_right _ hn)]
 ·rw[Nat.min_eq_right hn,Nat.min_eq_right (Nat.mul_le_mul_right _ hn)]
theorem Cells.drop(h:Cells P μ sz es xs)(n:Nat):Cells P μ sz (es.drop n) (xs.drop (n*sz)):=by refine⟨by simp[h.len,Nat.sub_mul],fun i e hi=>h.each _ e (mi hi),fun i e j p y hi hj hy=>h.rep _ e j p y (mi hi) hj ?_,fun i y hy=>h.one _ y (mi hy)⟩;rw[←mi hy,Nat.add_mul];congr 1;omega
variable{id:Nat}{et:TypeId}
theorem aF.cells(hA:aF P μ φ w id sz et es){g:Nat}(hg:(φ id).g=some g):∃(c:Array Value)(T:TypeId),w.heap[g]?=some (.cells c T (0,0))∧(φ id).cap*sz≤c.size∧es.length≤(φ id).cap∧es.length*sz≤c.size∧Cells P μ sz es (c.toList.take (es.length*sz)):=by
 obtain⟨a1,a2,a3,a4,a5,a6,a7⟩:=hA;rw[hg]at a7;obtain⟨c,T,c1,c2,c3,c4,c5⟩:=a7;have hle:es.length*sz≤c.size:=Nat.le_trans (Nat.mul_le_mul_right _ c3) c2;refine⟨c,T,c1,c2,c3,hle,by simp;omega,a5,fun i e j p y hi hj hy=>?_,fun i y hy=>?_⟩
 ·exact c4 i e j p y hi hj (by simpa using(dB hy).2)
 ·have:=dB hy;exact c5 i y this.1 (by simpa using this.2)
theorem aF.ov{g:Nat}{T:TypeId}{c:Array Value}(Xc:(φ id).toBE=⟨some g,(φ id).cap,es.length,sz⟩)(l0:sz=aP P et)(ec:0<sz)(oR:(φ id).cap≤maxLen)(hh:w.heap[g]?=some (.cells c T (0,0)))(hc:(φ id).cap*sz≤c.size)(hle:es.length≤(φ id).cap)(hC:Cells P μ sz es (c.toList.take (es.length*sz))):aF P μ φ w id sz et es:=by
 have e1:(φ id).g=some g:=by rw[Xc]
 refine⟨by rw[Xc],by rw[Xc],l0,ec,hC.each,oR,?_⟩;rw[e1];have Al:∀(i:Nat)e(j:Nat)p,es[i]?=some e→e.cells[j]?=some p→i*sz+j<es.length*sz:=fun i e j p hi hj=>Dx (List.getElem?_eq_some_iff.1 hi).1 (by rw[←hC.each i e hi];exact(List.getElem?_eq_some_iff.1 hj).1);refine⟨c,T,hh,hc,hle,fun i e j p x hi hj hx=>?_,fun i x hi hx=>?_⟩
 ·exact hC.rep i e j p x hi hj (by rw[List.getElem?_take_of_lt (Al i e j p hi hj)];simpa using hx)
 ·exact hC.one i x (by rw[List.getElem?_take_of_lt hi];simpa using hx)
inductive xC(P:Program)(μ:Ro)(w:World)(sz:Nat)(es:List PV):Value→Prop
 |none:es=[]→xC P μ w sz es (.slice none 0 0)
 |some {a:Addr} {c:Nat} (xs:List Value):Cells P μ sz es xs→(∀(j:Nat)v,xs[j]?=some v→w.cell? (a.add j)=some v)→es.length≤c→c≤maxLen→xC P μ w sz es (.slice (some a) es.length c)
theorem aF.src(hA:aF P μ φ w id sz et es){g:Nat}(hg:(φ id).g=some g){lo len cap:Nat}(hl:lo+len≤es.length)(hcc:len≤cap)(agD:lo+cap≤(φ id).cap):xC P μ w sz ((es.drop lo).take len) (.slice (some ⟨g,lo*sz,none⟩) len cap):=by
 obtain⟨c,T,c1,c2,c3,c4,c5⟩:=hA.cells hg;have oR:=hA.ot;have hlen:((es.drop lo).take len).length=len:=by simp;omega
 have:=xC.some (P:=P) (μ:=μ) (w:=w) (sz:=sz) (es:=(es.drop lo).take len) (a:=⟨g,lo*sz,none⟩) (c:=cap) _ ((c5.drop lo).take len) (fun j v hv=>?_) (by omega) (by omega)
 ·rw[hlen]at this;exact this
 ·have h1:=(dB hv).2;have h2:=(dB (mi h1)).2;rw[Addr.add_mid,dm c1];simpa using h2
end
section
variable {R:Type} {E:Env}
theorem af.src{P:Program}{G:Nat→Option (List PV)}{w0:br}{μ:Ro}{φ:Nat→aA}{m:Mem}{w:World}{sz:Nat}{es:List PV}{y:Value}(hM:av P G w0 μ φ m w)(h:af P μ (.rs sz es) y):xC P μ w sz es y:=by
 cases h with
 |kE=>exact .none rfl
 |Fk hc=>exact .some (es:=[]) [] .nil (by simp) (by simp) hc
 | @rs _ _ b o cap X h1 h2 h3 h4 h5 h6=>
  by_cases hz:sz=0
  ·subst hz;refine .some [] ⟨by simp,h3,fun i e j p y hi hj=>?_,by simp⟩ (by simp) h1 h2;have:=h3 i e hi;have:=(List.getElem?_eq_some_iff.1 hj).1;omega
  ·have er:∀k v,((List.range (es.length*sz)).map fun k=>X (k/sz) (k%sz))[k]?=some v→∃(e:PV)(p:PV),es[k/sz]?=some e∧e.cells[k%sz]?=some p∧v=X (k/sz) (k%sz):=by
    intro k v hk;have bm:k<es.length*sz:=by have:=(List.getElem?_eq_some_iff.1 hk).1;simpa using this
    rw[List.getElem?_map,List.getElem?_range bm]at hk;simp at hk;have hi:k/sz<es.length:=(Nat.div_lt_iff_lt_mul (by omega)).2 bm;have hj:k%sz<(es[k/sz]).cells.length:=by rw[h3 _ _ (List.getElem?_eq_getElem hi)];exact Nat.mod_lt _ (by omega)
    exact⟨_,_,List.getElem?_eq_getElem hi,List.getElem?_eq_getElem hj,hk.symm⟩
   refine .some ((List.range (es.length*sz)).map fun k=>X (k/sz) (k%sz)) ⟨by simp,h3,fun i e j p y hi hj hy=>?_,fun k v hk=>?_⟩ (fun k v hk=>?_) h1 h2
   ·obtain⟨e',p',he,hp,rfl⟩:=er _ _ hy;have Al:j<sz:=by rw[←h3 i e hi];exact(List.getElem?_eq_some_iff.1 hj).1
    have e1:(i*sz+j)/sz=i:=by rw[Nat.mul_comm,Nat.mul_add_div (by omega),Nat.div_eq_of_lt Al];rfl
    have e2:(i*sz+j)%sz=j:=by rw[Nat.mul_comm,Nat.mul_add_mod,Nat.mod_eq_of_lt Al]
    rw[e1,e2];exact h5 i e j p hi hj
   ·obtain⟨e',p',he,hp,rfl⟩:=er _ _ hk;exact h6 _ e' _ p' he hp
   ·obtain⟨e',p',he,hp,rfl⟩:=er _ _ hk;rw[Addr.add_mid];have:=hM.cellAt (h4 _ e' _ p' he hp);rw[←this];congr 2;rw[Nat.add_assoc,Nat.div_add_mod' k sz]
theorem nA{m:Mem}{sz:Nat}{x:V}{es:List PV}{ft:bk}(h:eM m sz x=some (es,ft)):(∀m2:Mem,(∀x∈ft,m2 x.2=m x.2)→eM m2 sz x=some (es,ft))∧(∀x∈ft,x.1=false)∧∀(P:Program)(G:Nat→Option (List PV))(w0:br)(μ:Ro)(φ:Nat→aA)(w:World)(y:Value),av P G w0 μ φ m w→ae P μ φ x y→xC P μ w sz es y:=by
 unfold eM at h;split at h
 ·rename_i s es';split at h
  ·rename_i hs;simp only[Option.some.injEq,Prod.mk.injEq]at h;obtain⟨rfl,rfl⟩:=h;subst hs;exact⟨fun m2 _=>by simp[eM],by simp,fun P G w0 μ φ w y hM hy=>by cases hy with|pv hy=>exact hy.src hM⟩
  ·split at h
   ·simp only[Option.some.injEq,Prod.mk.injEq]at h;obtain⟨rfl,rfl⟩:=h;refine⟨fun m2 _=>by simp[eM],by simp,fun P G w0 μ φ w y hM hy=>?_⟩;cases hy with
    |pv hy=>cases hy with
     |kE=>exact .none rfl
     |Fk hc=>exact .some (es:=[]) [] .nil (by simp) (by simp) hc
     |rs X h1 h2=>exact .some (es:=[]) [] .nil (by simp) h1 h2
   ·cases h
 ·simp only[Option.some.injEq,Prod.mk.injEq]at h;obtain⟨rfl,rfl⟩:=h;exact⟨fun m2 _=>by simp[eM],by simp,fun P G w0 μ φ w y hM hy=>by cases hy;exact .none rfl⟩
 ·rename_i id;have key:∀(s:Nat)(et:TypeId)(es:List PV),(m id=some (.arr s et es)∨m id=some (.pR s et es))→∀(P:Program)(G:Nat→Option (List PV))(w0:br)(μ:Ro)(φ:Nat→aA)(w:World)(y:Value),av P G w0 μ φ m w→ae P μ φ (.os id) y→xC P μ w s es y:=by
   intro s et es hm P G w0 μ φ w y hM hy;have hA:=hM.arr hm;cases hy with
   |rL hg=>obtain⟨a1,a2,a3,a4,a5,a6,a7⟩:=hA;rw[hg]at a7;exact .none a7.1
   |os hg=>have:=hA.src hg (lo:=0) (len:=es.length) (cap:=(φ id).cap) (by omega) (hA.ot).1 (by omega);rw[hA.1];simpa using this
  split at h
  ·rename_i s' et es' hm;split at h
   ·rename_i hs;simp only[Option.some.injEq,Prod.mk.injEq]at h;obtain⟨rfl,rfl⟩:=h;subst hs;exact⟨fun m2 cq=>by have:=cq (false,id) (by simp);simp only at this;simp[eM,this,hm],by simp,key _ _ _ (.inl hm)⟩
   ·cases h
  ·rename_i s' et es' hm;split at h
   ·rename_i hs;simp only[Option.some.injEq,Prod.mk.injEq]at h;obtain⟨rfl,rfl⟩:=h;subst hs;exact⟨fun m2 cq=>by have:=cq (false,id) (by simp);simp only at this;simp[eM,this,hm],by simp,key _ _ _ (.inr hm)⟩
   ·cases h
  ·cases h
 ·rename_i id lo len;have key:∀(s:Nat)(et:TypeId)(es:List PV),(m id=some (.arr s et es)∨m id=some (.pR s et es))→∀(P:Program)(G:Nat→Option (List PV))(w0:br)(μ:Ro)(φ:Nat→aA)(w:World)(y:Value),av P G w0 μ φ m w→ae P μ φ (.fH id lo len) y→xC P μ w s ((es.drop lo).take len) y:=by
   intro s et es hm P G w0 μ φ w y hM hy;have hA:=hM.arr hm;have hle:=hA.ot;have Hx:=hA.1;have l0:=hA.2.1;cases hy with
   |qn hg=>simp;exact .none rfl
   |fH hg hl ha YV Rv=>
    rcases ha with rfl|⟨ha,_⟩
    ·rw[l0];exact hA.src hg (by omega) YV Rv
    ·have h0:len=0:=by omega
     subst h0;simp only[List.take_zero];exact .some (es:=[]) [] .nil (by simp) (by simp) (by omega)
  split at h
  ·rename_i s' et es' hm;split at h
   ·rename_i hs;simp only[Option.some.injEq,Prod.mk.injEq]at h;obtain⟨rfl,rfl⟩:=h;subst hs;exact⟨fun m2 cq=>by have:=cq (false,id) (by simp);simp only at this;simp[eM,this,hm],by simp,key _ _ _ (.inl hm)⟩
   ·cases h
  ·rename_i s' et es' hm;split at h
   ·rename_i hs;simp only[Option.some.injEq,Prod.mk.injEq]at h;obtain⟨rfl,rfl⟩:=h;subst hs;exact⟨fun m2 cq=>by have:=cq (false,id) (by simp);simp only at this;simp[eM,this,hm],by simp,key _ _ _ (.inr hm)⟩
   ·cases h
  ·cases h
 ·rename_i id i off;split at h
  ·rename_i s0 et0 jP hm;obtain⟨e,he,h⟩:=Option.bind_eq_some_iff.1 h;obtain⟨rs,hr,h⟩:=Option.bind_eq_some_iff.1 h;simp only[Option.some.injEq,Prod.mk.injEq]at h;obtain⟨rfl,rfl⟩:=h;refine⟨fun m2 cq=>by have:=cq (false,id) (by simp);simp only at this;simp[eM,this,hm,he,hr],by simp,fun P G w0 μ φ w y hM hy=>?_⟩;have hN:aV P μ φ w id s0 et0 jP:=hM.dy id _ hm;obtain⟨_,_,_,_,⟨⟨C4,hA⟩,_⟩,_⟩:=hN.row he hr;have hy:=hy.L6 (ν:=μ);cases hy with
   |rL hg=>obtain⟨a1,a2,a3,a4,a5,a6,a7⟩:=hA;rw[hg]at a7;exact .none a7.1
   |os hg=>have:=hA.src hg (lo:=0) (len:=rs.length) (cap:=(((φ id).row i off).up).cap) (by omega) (hA.ot).1 (by omega);rw[hA.1];simpa using this
  ·cases h
 ·cases h
end
end Go.Ab
set_option linter.unusedVariables false
namespace Go.Ab
open Go.RowKit (Below)
section
variable {P:Program} {w:World}
theorem oT{t ty e:TypeId}(hu:P.underlying t=some (.slice e))(hz:aP P e≠0){base a:Option Addr}{n cap c:Nat}(hn:n≤cap):(Builtin.append_ #[t,t] ty #[.slice base n cap,.slice a 0 c]).run P w=.ok (.slice base n cap) w:=by
 obtain⟨i,hi,hs⟩:=wO hz;have hl:∀x:Addr,(loadCells x 0).run P w=.ok #[] w:=fun x=>by simpa using run_loadCells_list (P:=P) w x [] (by simp)
 cases base<;>cases a<;>simp[Builtin.append_,run_underlying hu,sizeOf,typeInfo,hi,Builtin.lenOf,Builtin.firstCells,hn,hl,storeCells]
end
theorem AH{P:Program}{w:World}(t ty e T:TypeId)(i:TypeInfo)(ht:P.underlying t=some (.slice e))(hi:P.info? e=some i)(g Mb aac:Nat)(cur:Array Value)(hg:w.heap[g]?=some (.cells cur T (0,0)))(a:Addr)(m c:Nat)(news:List Value)(hl:news.length=m*i.size)(abD:∀j u,news[j]?=some u→w.cell? (a.add j)=some u)(h1:∀u∈news,u.oneCell'=true)(gu:Mb+m≤aac)(ou:Mb*i.size+news.length≤cur.size):(Builtin.append_ #[t,t] ty #[.slice (some ⟨g,0,none⟩) Mb aac,.slice (some a) m c]).run P w=.ok (.slice (some ⟨g,0,none⟩) (Mb+m) aac) (w.setRow g (cur.toList.take (Mb*i.size)++news++cur.toList.drop (Mb*i.size+news.length)).toArray):=by have hf:=run_firstCells_some (P:=P) w i.size m a m c news hl abD;have oQ:=run_storeCells_at P g (Mb*i.size) T news 0 cur w hg (by simpa using ou) h1;simp only[Nat.add_zero]at oQ;simp[Builtin.append_,run_underlying ht,sizeOf,typeInfo,hi,Builtin.lenOf,gu,hf,Addr.add_mid,oQ]
section
variable {R:Type} {E:Env}
variable{t:TypeId}
theorem Gc{P:Program}{i:TypeInfo}(hi:P.info? t=some i):i.bytes=Fi P t∧i.size=aP P t:=by simp[Fi,aP,hi]
theorem Dy{P:Program}{e ty:TypeId}{sz len n:Nat}{z:Value}{i:TypeInfo}(hu:P.underlying t=some (.slice e))(hi:P.info? e=some i)(hzv:i.zero=some z)(Jt:z.cells.size=sz)(l0:sz=aP P e)(ec:0<aP P e)(hby:0<Fi P e)(gu:(len+n)*Fi P e≤an){w:World}{ys yx:Value}{os xs:List Value}(hs:(ys=.slice none 0 0∧len=0∧os=[])∨∃(g cap:Nat)(c:Array Value)(T:TypeId),ys=.slice (some ⟨g,0,none⟩) len cap∧w.heap[g]?=some (.cells c T (0,0))∧cap*sz≤c.size∧len≤cap∧cap≤maxLen∧os=c.toList.take (len*sz))(hx:(yx=.slice none 0 0∧n=0∧xs=[])∨∃(a:Addr)(cx:Nat),yx=.slice (some a) n cx∧xs.length=n*sz∧(∀(j:Nat)v,xs[j]?=some v→w.cell? (a.add j)=some v)∧(∀v∈xs,v.oneCell'=true)∧n≤cx∧cx≤maxLen):∃w' y,(Builtin.append_ #[t,t] ty #[ys,yx]).run P w=.ok y w'∧((y=.slice none 0 0∧w'=w∧len=0∧n=0)∨∃(g cap:Nat)(c:Array Value)(T:TypeId),y=.slice (some ⟨g,0,none⟩) (len+n) cap∧w'.heap[g]?=some (.cells c T (0,0))∧cap*sz≤c.size∧len+n≤cap∧cap≤maxLen∧c.toList.take ((len+n)*sz)=os++xs∧((∃Xe,ys=.slice (some ⟨g,0,none⟩) len Xe∧kG g w w'∧∀k,k≠g→w'.heap[k]?=w.heap[k]?)∨(g=w.heap.size∧w'=w.drew.alloc (.cells c e)))):=by
 obtain⟨Y3,Y4⟩:=Gc hi;have aad:len+n≤140737488355328:=by have:(len+n)*1≤(len+n)*Fi P e:=Nat.mul_le_mul_left _ hby;simp only[an]at gu;omega
 have afc:len+n≤maxLen:=by simp only[maxLen];omega
 have Tl:∀n,(Builtin.zeroCells z.cells n).size=n*sz:=fun n=>by rw[size_zeroCells,Jt]
 rcases hs with⟨rfl,rfl,rfl⟩|⟨g,cap,c,T,rfl,g4,g5,g6,g7,rfl⟩
 ·rcases hx with⟨rfl,rfl,rfl⟩|⟨a,cx,rfl,F9,Hv,hx1,Y5,TX⟩
  ·exact⟨w,_,oT hu (by omega) (Nat.le_refl _),.inl ⟨rfl,rfl,rfl,rfl⟩⟩
  ·by_cases h0:n=0
   ·subst h0;exact⟨w,_,oT hu (by omega) (Nat.le_refl _),.inl ⟨rfl,rfl,rfl,rfl⟩⟩
   ·have hr:=run_append_nil (P:=P) w t ty e i z hu hi hzv a n cx xs (by rw[F9,l0,Y4]) Hv (by omega) (by simp only[Nat.zero_add]at aad;omega) (by simp only[an,Nat.zero_add]at gu;rw[Y3];omega);have Fo:=grownCap_ge w n 0 e;refine⟨_,_,hr,.inr ⟨w.heap.size,grownCap w n 0 e,xs.toArray++Builtin.zeroCells z.cells (grownCap w n 0 e-n),e,by simp,fA w.drew _,?_,by simpa using Fo,grownCap_le_maxLen w _ 0 e (by simpa using afc),?_,.inr ⟨rfl,rfl⟩⟩⟩
    ·rw[Array.size_append,Tl];simp only[List.size_toArray,F9,←Nat.add_mul];exact Nat.mul_le_mul_right _ (by omega)
    ·simp only[Array.toList_append,List.nil_append,Nat.zero_add];exact List.take_left' F9
 ·have h1:(c.toList.take (len*sz)).length=len*sz:=by have:len*sz≤cap*sz:=Nat.mul_le_mul_right _ g6;simp;omega
  rcases hx with⟨rfl,rfl,rfl⟩|⟨a,cx,rfl,F9,Hv,hx1,Y5,TX⟩
  ·exact⟨w,_,oT hu (by omega) g6,.inr ⟨g,cap,c,T,rfl,g4,g5,by simpa using g6,g7,by simp,.inl ⟨cap,rfl,kG.refl _ _,fun _ _=>rfl⟩⟩⟩
  ·by_cases hrm:len+n≤cap
   ·have ou:len*i.size+xs.length≤c.size:=by rw[Y4,←l0,F9,←Nat.add_mul];exact Nat.le_trans (Nat.mul_le_mul_right _ hrm) g5
    have hr:=AH (P:=P) (w:=w) t ty e T i hu hi g len cap c g4 a n cx xs (by rw[F9,l0,Y4]) Hv hx1 hrm ou;rw[Y4,←l0]at hr ou;refine⟨_,_,hr,.inr ⟨g,cap,_,T,rfl,setRow_heap w g c _ T (0,0) g4,?_,hrm,g7,?_,.inl ⟨cap,rfl,kG.setRow (Nat.le_refl _),fun k hk=>ca hk⟩⟩⟩
    ·simp only[List.size_toArray,List.length_append,List.length_take,List.length_drop,Array.length_toList];omega
    ·simp only[];exact List.take_left' (by rw[List.length_append,h1,F9,Nat.add_mul])
   ·have hr:=run_append_grow (P:=P) w t ty e i z hu hi hzv ⟨g,0,none⟩ len cap (c.toList.take (len*sz)) (by rw[h1,l0,Y4]) (fun j v hj=>by
      rw[Addr.add_mid,dm g4];simpa using(dB hj).2) a n cx xs (by rw[F9,l0,Y4]) Hv (by omega) (by omega)
     (growslice_fits (by omega) (by rw[Y3];simpa[an]using gu))
    have Fo:=grownCap_ge w (len+n) cap e;refine⟨_,_,hr,.inr ⟨w.heap.size,_,_,e,rfl,fA w.drew _,?_,Fo,grownCap_le_maxLen w _ cap e (by omega),?_,.inr ⟨rfl,rfl⟩⟩⟩
    ·rw[Array.size_append,Array.size_append,Tl];simp only[List.size_toArray,F9,h1,←Nat.add_mul];exact Nat.mul_le_mul_right _ (by omega)
    ·simp only[Array.toList_append];exact List.take_left' (by rw[List.length_append,h1,F9,Nat.add_mul])
theorem Dz{e ty:TypeId}{sz:Nat}{es new:List PV}{z:List V}(hu:E.P.underlying t=some (.slice e))(hz:c9 E e=some z)(l0:sz=aP E.P e)(ec:0<aP E.P e)(hby:0<Fi E.P e)(gu:(es++new).length*Fi E.P e≤an){G:Nat→Option (List PV)}{w0:br}{μ:Ro}{φ:Nat→aA}{m:Mem}{w:World}{ρ:Nat→Value}{f:Fr}{draw:Bool}{site:Nat}(hM:av E.P G w0 μ φ m w)(hF:bZ E.P μ φ m f ρ){ys yx:Value}(hx:xC E.P μ w sz new yx)(hs:(ys=.slice none 0 0∧es=[])∨∃(g cap:Nat)(c:Array Value)(T:TypeId),ys=.slice (some ⟨g,0,none⟩) es.length cap∧w0.heap.size≤g∧μ g=none∧(∀id b',m id=some b'→¬b'.owns (φ id) g)∧w.heap[g]?=some (.cells c T (0,0))∧cap*sz≤c.size∧es.length≤cap∧cap≤maxLen∧es.length*sz≤c.size∧Cells E.P μ sz es (c.toList.take (es.length*sz))){f':Fr}{m':Mem}(vi:∀(P:Program)(G:Nat→Option (List PV))(w0:br)(μ:Ro)(φ:Nat→aA)(w w':World)(ρ:Nat→Value)(ph:aA),av P G w0 μ φ m w→bZ P μ φ m f ρ→kF P w0 μ φ m w w' site (.arr sz e (es++new)) ph→∃φ',φ' site=ph∧av P G w0 μ φ' m' w'∧bZ P μ φ' m' f' ρ):∃w' y φ',(Builtin.append_ #[t,t] ty #[ys,yx]).run E.P w=.ok y w'∧av E.P G w0 μ φ' m' w'∧bZ E.P μ φ' m' f' ρ∧ae E.P μ φ' (.os site) y:=by
 obtain⟨i,zv,hi,hzv,Y4,_,Jt,_,_,_⟩:=eE hz;have CH:(es++new).length=es.length+new.length:=by simp
 obtain⟨os,hos,hC⟩:∃os,((ys=.slice none 0 0∧es.length=0∧os=[])∨∃(g cap:Nat)(c:Array Value)(T:TypeId),ys=.slice (some ⟨g,0,none⟩) es.length cap∧w.heap[g]?=some (.cells c T (0,0))∧cap*sz≤c.size∧es.length≤cap∧cap≤maxLen∧os=c.toList.take (es.length*sz))∧Cells E.P μ sz es os:=by
  rcases hs with⟨h1,rfl⟩|⟨g,cap,c,T,h1,h2,h3,h4,h5,h6,h7,h8,h9,WG⟩
  ·exact⟨[],.inl ⟨h1,rfl,rfl⟩,.nil⟩
  ·exact⟨_,.inr ⟨g,cap,c,T,h1,h5,h6,h7,h8,rfl⟩,WG⟩
 obtain⟨xs,Hv,hCx⟩:∃xs,((yx=.slice none 0 0∧new.length=0∧xs=[])∨∃(a:Addr)(cx:Nat),yx=.slice (some a) new.length cx∧xs.length=new.length*sz∧(∀(j:Nat)v,xs[j]?=some v→w.cell? (a.add j)=some v)∧(∀v∈xs,v.oneCell'=true)∧new.length≤cx∧cx≤maxLen)∧Cells E.P μ sz new xs:=by
  cases hx with
  |none hn=>subst hn;exact⟨[],.inl ⟨rfl,rfl,rfl⟩,.nil⟩
  | @some a cx xs hC Hv Y5 TX=>exact⟨xs,.inr ⟨a,cx,rfl,hC.len,Hv,fun u hu=>by obtain⟨j,hj⟩:=List.getElem?_of_mem hu;exact hC.one j u hj,Y5,TX⟩,hC⟩
 obtain⟨w',y,hr,TY⟩:=Dy (ty:=ty) hu hi hzv (by rw[Jt,l0]) l0 ec hby (by rw[←CH];exact gu) hos Hv;rcases TY with⟨rfl,rfl,h1,h2⟩|⟨g',Ck,c',T',rfl,b1,b2,b3,b4,b5,b6⟩
 ·have h1:es=[]:=List.eq_nil_of_length_eq_zero h1;have h2:new=[]:=List.eq_nil_of_length_eq_zero h2;obtain⟨φ',a1,a2,a3⟩:=vi E.P G w0 μ φ w' w' ρ (Ci none 0 0 sz) hM hF ⟨kG.refl _ _,hM.ro,fun _ _ _ _ _=>rfl,by simp,fun φ' hp _=>by refine⟨by rw[hp,h1,h2];rfl,by rw[hp],l0,by omega,by rw[h1,h2];simp,by rw[hp];simp[maxLen],?_⟩;rw[hp];exact⟨by rw[h1,h2];rfl,rfl⟩,by simp[bE.names],fun st h=>by cases h⟩;exact⟨w',_,φ',hr,a2,a3,.rL (by rw[a1])⟩
 ·have hCC:Cells E.P μ sz (es++new) (c'.toList.take ((es++new).length*sz)):=by rw[CH,b5];exact hC.append hCx
  have fin:∀(φ':Nat→aA),φ' site=Ci (some g') Ck (es++new).length sz→ae E.P μ φ' (.os site) (.slice (some ⟨g',0,none⟩) (es.length+new.length) Ck):=fun φ' a1=>by have:=ae.os (P:=E.P) (μ:=μ) (φ:=φ') (id:=site) (g:=g') (by rw[a1]);rw[a1,CH]at this;exact this
  rcases b6 with⟨Xe,hys,b6,b7⟩|⟨rfl,rfl⟩
  ·rcases hs with⟨h1,_⟩|⟨g,cap,c,_,h1,h2,h3,h4,_⟩
   ·rw[hys]at h1;cases h1
   rw[hys]at h1;simp only[Value.slice.injEq,Option.some.injEq,Addr.mk.injEq]at h1;obtain⟨⟨rfl,_⟩,_⟩:=h1;obtain⟨φ',a1,a2,a3⟩:=vi E.P G w0 μ φ w w' ρ (Ci (some g') Ck (es++new).length sz) hM hF ⟨b6.mono h2,fun k o hk=>by rw[b7 k (fun e=>by subst e;rw[h3]at hk;cases hk)];exact hM.ro k o hk,fun id b' g' hid bP=>b7 g' (fun e=>by subst e;exact h4 id b' hid bP),fun g' bP=>by simp only[Option.some.injEq]at bP;subst bP;exact⟨h2,h3,h4⟩,fun φ' hp _=>aF.ov (by rw[hp]) l0 (by omega) (by rw[hp];exact b4) b1 (by rw[hp];exact b2) (by rw[hp,CH];exact b3) hCC,by simp[bE.names],fun st h=>by cases h⟩;exact⟨w',_,φ',hr,a2,a3,fin φ' a1⟩
  ·obtain⟨φ',a1,a2,a3⟩:=vi E.P G w0 μ φ w.drew _ ρ (Ci (some w.heap.size) Ck (es++new).length sz) hM.drew hF (kF.alloc (o:=.cells c' e) hM.drew rfl (fun φ' hp _=>aF.ov (g:=w.heap.size) (by rw[hp]) l0 (by omega) (by rw[hp];exact b4) (fA w.drew _) (by rw[hp];exact b2) (by rw[hp,CH];exact b3) hCC) (by simp[bE.names]));exact⟨_,_,φ',hr,a2,a3,fin φ' a1⟩
end
end Go.Ab
set_option linter.unusedVariables false
namespace Go.Ab
open Go.RowKit (Below)
section
variable {R:Type} {E:Env}
theorem Mc{draw:Bool}{site:Nat}{t t':TypeId}{s x:V}{f:Fr}{m:Mem}{k:V→Fr→Mem→Option R}{r:R}(h:zd E draw site t t' s x f m k=some r):draw=false∧t'=t∧∃place f' m',k (.os place) f' m'=some r∧(m' place).isSome=true∧∀(G:Nat→Option (List PV))(w0:br)(μ:Ro)(φ:Nat→aA)(w:World)(ρ:Nat→Value)(ys yx:Value)(ty:TypeId),av E.P G w0 μ φ m w→bZ E.P μ φ m f ρ→ae E.P μ φ s ys→ae E.P μ φ x yx→∃w' y φ',(Builtin.append_ #[t,t] ty #[ys,yx]).run E.P w=.ok y w'∧av E.P G w0 μ φ' m' w'∧bZ E.P μ φ' m' f' ρ∧ae E.P μ φ' (.os place) y:=by
 unfold zd at h;split at h
 ·cases h
 ·rename_i hd;simp only[Bool.or_eq_true,not_or,Bool.not_eq_true,Bool.not_eq_false',decide_eq_true_eq,Bool.not_eq_eq_eq_not,Bool.not_true,Bool.not_false]at hd;refine⟨hd.1,by simpa using hd.2,?_⟩;split at h
  ·rename_i e hu;split at h
   ·cases h
   ·rename_i hz;obtain⟨z,hz⟩:∃z,c9 E e=some z:=by
     cases hq:c9 E e with
     |none=>simp[hq]at hz
     |some z=>exact⟨z,rfl⟩
    split at h
    ·rename_i new ft AG;obtain⟨_,_,yj⟩:=nA AG;split at h
     ·split at h
      ·rename_i hb;obtain⟨f',m',_,hk,vl,_,vi⟩:=ei h;refine⟨_,f',m',hk,by simp[vl],fun G w0 μ φ w ρ ys yx ty hM hF hs hx=>?_⟩;cases hs;exact Dz (es:=[]) (draw:=false) hu hz rfl hb.2.2 hb.2.1 (by simpa using hb.1) hM hF (yj _ _ _ _ _ _ _ hM hx) (.inl ⟨rfl,rfl⟩) vi
      ·cases h
     ·rename_i id;split at h
      ·rename_i sz et es hm;split at h
       ·rename_i hc;obtain⟨rfl,rfl,agE⟩:=hc;split at h
        ·rename_i hb;obtain⟨f',m',_,hk,vl,_,vi⟩:=ei h;refine⟨_,f',m',hk,by simp[vl],fun G w0 μ φ w ρ ys yx ty hM hF hs hx=>?_⟩;have ta:=hM.forget id;have Cm:=hF.forget id;have hA:aF E.P μ φ w id (aP E.P et) et es:=hM.dy id _ hm;have ec:0<aP E.P et:=hA.2.2.2.1;refine Dz (draw:=false) hu hz rfl ec hb.2 hb.1 ta Cm (yj _ _ _ _ _ _ _ hM hx) ?_ vi;cases hs with
         |rL hg=>have a7:=hA.2.2.2.2.2.2;rw[hg]at a7;exact .inl ⟨rfl,a7.1⟩
         | @os _ g hg=>obtain⟨c,T,c1,c2,c3,c4,c5⟩:=hA.cells hg;obtain⟨o1,o2⟩:=hM.own id _ g hm (.inl hg);refine .inr ⟨g,(φ id).cap,c,T,by rw[hA.1],o1,o2 rfl,fun j b' hj bP=>?_,c1,c2,c3,hA.ot.2,c4,c5⟩;obtain⟨cB,b2,rV,rfl⟩:=eP hj;exact cB (hM.inj j id b2 _ g rV hm (gj.1 bP) (.inl hg))
        ·cases h
       ·cases h
      ·cases h
     ·cases h
    ·cases h
  ·cases h
theorem Hy{P:Program}{w:World}{dT ty elem:TypeId}{ts:List TypeId}{g abE dCap:Nat}{c:Array Value}{T:TypeId}{sz:Nat}{es new:List PV}{μ:Ro}{yx:Value}(hu:P.underlying dT=some (.slice elem))(l0:sz=aP P elem)(ec:0<sz)(hx:xC P μ w sz new yx)(hg:w.heap[g]?=some (.cells c T (0,0)))(hle:es.length*sz≤c.size)(hd:abE=es.length)(hC:Cells P μ sz es (c.toList.take (es.length*sz))):∃c':Array Value,(Builtin.copy_ (dT::ts).toArray ty #[.slice (some ⟨g,0,none⟩) abE dCap,yx]).run P w=.ok (goInt ((min new.length es.length:Nat):Int)) (w.setRow g c')∧c'.size=c.size∧Cells P μ sz (new.take es.length++es.drop new.length) (c'.toList.take ((new.take es.length++es.drop new.length).length*sz)):=by
 subst hd;obtain⟨i,hi,hs⟩:=wO (P:=P) (t:=elem) (by omega);have hnl:(new.take es.length++es.drop new.length).length=es.length:=by simp;omega
 rw[hnl];cases hx with
 |none hn=>subst hn;refine⟨c,?_,rfl,by simpa using hC⟩;have:=setRow_self w g c T (0,0) hg;rw[this];simp[Builtin.copy_,run_underlying hu,Builtin.lenOf,Builtin.firstCells,sizeOf,typeInfo,hi,storeCells]
 | @some a cx xs hX Hv Y5 TX=>
  have RF:Nat.min new.length es.length=min new.length es.length:=rfl;have hl:(xs.take (min new.length es.length*sz)).length=min new.length es.length*i.size:=by rw[hs,←l0,List.length_take,hX.len];exact Nat.min_eq_left (Nat.mul_le_mul_right _ (Nat.min_le_left _ _))
  have afd:min new.length es.length*sz≤es.length*sz:=Nat.mul_le_mul_right _ (Nat.min_le_right _ _);have hf:=run_firstCells_some (P:=P) w i.size (min new.length es.length) a new.length cx (xs.take (min new.length es.length*sz)) hl (fun j v hj=>Hv j v (dB hj).2);have LH:(xs.take (min new.length es.length*sz)).length=min new.length es.length*sz:=by rw[hl,hs,l0]
  have oQ:=run_storeCells_at P g 0 T (xs.take (min new.length es.length*sz)) 0 c w hg (by rw[LH];omega) (fun v hv=>by obtain⟨j,hj⟩:=List.getElem?_of_mem hv;exact hX.one j v (dB hj).2);simp only[Nat.zero_add,List.take_zero,List.nil_append,LH]at oQ;refine⟨(xs.take (min new.length es.length*sz)++c.toList.drop (min new.length es.length*sz)).toArray,?_,?_,?_⟩
  ·have abF:Nat.min new.length es.length=min new.length es.length:=rfl;simp[Builtin.copy_,run_underlying hu,Builtin.lenOf,sizeOf,typeInfo,hi,abF,hf,oQ]
  ·simp only[List.size_toArray,List.length_append,LH,List.length_drop,Array.length_toList];omega
  ·have e1:(xs.take (min new.length es.length*sz)++c.toList.drop (min new.length es.length*sz)).take (es.length*sz)=xs.take (min new.length es.length*sz)++(c.toList.take (es.length*sz)).drop (min new.length es.length*sz):=by rw[List.take_append,LH,List.drop_take,List.take_of_length_le (by rw[LH];exact afd)]
   simp only[];rw[e1];have h1:=(hX.take (min new.length es.length)).append (hC.drop (min new.length es.length));have e2:new.take (min new.length es.length)=new.take es.length:=by
    rcases Nat.le_total new.length es.length with hh|hh
    ·rw[Nat.min_eq_left hh,List.take_length,List.take_of_length_le hh]
    ·rw[Nat.min_eq_right hh]
   have e3:es.drop (min new.length es.length)=es.drop new.length:=by
    rcases Nat.le_total new.length es.length with hh|hh
    ·rw[Nat.min_eq_left hh]
    ·rw[Nat.min_eq_right hh,List.drop_length,List.drop_eq_nil_of_le hh]
   rw[e2,e3]at h1;exact h1
theorem Gd{R:Type}(m:Mem)(sz:Nat)(x:V)(k:List PV→bk→Option R):Hh m sz x k=(eM m sz x).bind fun p=>k p.1 p.2:=by
 cases x with
 |vp id i off=>
  simp only[Hh,eM];cases hm:m id with
  |none=>rfl
  |some b=>
   cases b with
   |nest s e es=>
    simp only;cases es[i]? with
    |none=>rfl
    |some e=>simp only[Option.bind_some];cases eT sz (cell e off)<;>rfl
   |_=>rfl
 |_=>
  simp only[Hh];generalize eM m sz _=o;cases o with
  |none=>rfl
  |some p=>rfl
theorem TZ{t:TypeId}{d x:V}{m:Mem}{k:V→Mem→bk→Option R}{r:R}(h:Ja E t d x m k=some r):∃n id b ft,(∀m2:Mem,(∀x∈((true,id)::ft:bk),m2 x.2=m x.2)→∀(R':Type)(k':V→Mem→bk→Option R'),Ja E t d x m2 k'=k' (.pv (.int .i64 n)) (ak m2 id b) ((true,id)::ft))∧k (.pv (.int .i64 n)) (ak m id b) ((true,id)::ft)=some r∧∀(G:Nat→Option (List PV))(w0:br)(μ:Ro)(φ:Nat→aA)(w:World)(ρ:Nat→Value)(f:Fr)(yd yx:Value)(ts:List TypeId)(ty:TypeId),av E.P G w0 μ φ m w→bZ E.P μ φ m f ρ→ae E.P μ φ d yd→ae E.P μ φ x yx→∃w' φ',(Builtin.copy_ (t::ts).toArray ty #[yd,yx]).run E.P w=.ok (.int .i64 n) w'∧av E.P G w0 μ φ' (ak m id b) w'∧bZ E.P μ φ' (ak m id b) f ρ∧(Lit.int .i64 n).wf=true:=by
 unfold Ja at h;split at h
 ·rename_i e hu;split at h
  ·rename_i id;split at h
   ·rename_i sz et es hm;split at h
    ·rename_i hc;rw[Gd]at h;obtain⟨⟨new,ft⟩,AG,h⟩:=Option.bind_eq_some_iff.1 h
     ·obtain⟨Ju,_,yj⟩:=nA AG;refine⟨_,id,_,ft,fun m2 cq R' k'=>?_,h,fun G w0 μ φ w ρ f yd yx ts ty hM hF hd hx=>?_⟩
      ·have h1:=cq (true,id) (by simp);simp only at h1;simp only[Ja,hu,h1,hm];rw[if_pos hc,Gd];simp only[Ju m2 (fun y hy=>cq y (by simp[hy])),Option.bind_some]
      ·have hA:aF E.P μ φ w id sz et es:=hM.dy id _ hm;have hS:=yj _ _ _ _ _ _ _ hM hx;have hle:=hA.ot;have hlen:(new.take es.length++es.drop new.length).length=es.length:=by simp;omega
       have zi:(Lit.int .i64 ((min new.length es.length:Nat):Int)).wf=true:=Dj (by omega);cases hd with
       |rL hg=>
        have a7:=hA.2.2.2.2.2.2;rw[hg]at a7;have h0:=a7.1;subst h0;refine⟨w,φ,?_,?_,?_,zi⟩
        ·obtain⟨i,hi,hs⟩:=wO (P:=E.P) (t:=e) (by have:=hA.2.2.2.1;omega);have LK:∀x:Addr,(loadCells x 0).run E.P w=.ok #[] w:=fun x=>by simpa using run_loadCells_list (P:=E.P) w x [] (by simp)
         cases hS with
         |none hn=>subst hn;simp[Builtin.copy_,run_underlying hu,Builtin.lenOf,Builtin.firstCells,sizeOf,typeInfo,hi,hA.1,goInt]
         |some xs hX Hv Y5 TX=>simp[Builtin.copy_,run_underlying hu,Builtin.lenOf,Builtin.firstCells,sizeOf,typeInfo,hi,hA.1,LK,goInt]
        ·have:ak m id (.arr sz et (new.take ([]:List PV).length++([]:List PV).drop new.length))=m:=by
          funext j;by_cases e:j=id
          ·subst e;simp[hm]
          ·rw[al e]
         rw[this];exact hM
        ·exact hF.ml (fun _ _ h=>h) .set
       | @os _ g hg=>
        obtain⟨c,T,c1,c2,c3,c4,c5⟩:=hA.cells hg;obtain⟨c',r1,r2,r3⟩:=Hy (ts:=ts) (ty:=ty) (dCap:=(φ id).cap) hu hc.1 hA.2.2.2.1 hS c1 c4 hA.1 c5;refine⟨_,φ,r1,hM.write hm rfl hg (kG.setRow (Nat.le_refl _)) setRow_size (fun k hk=>ca hk) ?_ rfl (by simp[bE.names]),hF.ml (fun _ _ h=>h) .set,zi⟩;refine aF.ov (g:=g) ?_ hA.2.2.1 hA.2.2.2.1 hle.2 (setRow_heap w g c c' T (0,0) c1) (by rw[r2];exact c2) (by rw[hlen];exact c3) r3;rw[hlen,←hA.1,←hA.2.1];cases hq:(φ id).toBE with
        |mk a b c d=>rw[hq]at hg;simp only at hg;simp[hg]
    ·cases h
   ·cases h
  ·cases h
 ·cases h
end
end Go.Ab
