import Derived.Test.YtanikidijjaohaaGreatAbP2
import Derived.Great.BuildSlice
import Derived.Laws.AppendOwn
import Derived.Laws.MakeOwn
set_option linter.unusedVariables false
set_option linter.unusedSimpArgs false
namespace Go.Ab
open Go.RowKit (Below)
structure cu(P:Program)(μ:Ro)(φ:Nat→aH)(m:Mem)(f:Fr)(ρ:Nat→Value):Prop where
 fr:∀t,ah P μ φ (f t) (ρ t)
 live:∀t id,(f t).has id=true→(m id).isSome=true
section
variable {P:Program} {G:Nat→Option (List PV)} {w0:bI} {μ μ':Ro} {φ φ':Nat→aH} {m m':Mem} {w w':World} {f:Fr} {ρ:Nat→Value}
theorem cu.mono(h:cu P μ φ m f ρ)(hμ:∀b o,μ b=some o→μ' b=some o)(hφ:∀id,(m id).isSome=true→φ' id=φ id∧(m' id).isSome=true):cu P μ' φ' m' f ρ:=⟨fun t=>(h.fr t).mono hμ fun id av=>(hφ id (h.live t id av)).1,fun t id av=>(hφ id (h.live t id av)).2⟩
theorem fN{id j:Nat}{b:bR}(h:bq (bM id m) id j=some b):j≠id∧∃b',m j=some b'∧b=gP id b':=by
 by_cases e:j=id
 ·subst e;simp at h
 ·rw[fR e]at h;exact⟨e,E2 h⟩
theorem tG{id j:Nat}(h:j≠id)(hm:(m j).isSome=true):(bq (bM id m) id j).isSome=true:=by obtain⟨b,hb⟩:=ajR.1 hm;rw[fR h];simp[bM,hb]
theorem cu.forget(h:cu P μ φ m f ρ)(id:Nat):cu P μ φ (bq (bM id m) id) (fi id f) ρ:=by refine⟨fun t=>(h.fr t).kill id,fun t j hj=>?_⟩;obtain⟨h1,h2⟩:=w8 hj;exact tG h2 (h.live t j h1)
theorem az.put(hM:az P G w0 μ φ m w){site:Nat}{b:bR}{ph:aH}(hs:m site=none)(Ox:lA w0.heap.size w w')(vo:∀k o,μ k=some o→w'.heap[k]?=some o)(hold:∀id b' g,m id=some b'→b'.ev (φ id) g→w'.heap[g]?=w.heap[g]?)(wZ:∀g,b.ev ph g→w0.heap.size≤g∧μ g=none∧∀id b',m id=some b'→¬b'.ev (φ id) g)(G0:b.apart ph)(hB:hU P μ (fun i=>if i=site then ph else φ i) w' site b)(hn:∀id,b.names id=true→(m id).isSome=true)(hlp:∀st,b=.loop st→∃g rc,ph.g=some g∧w0.rc site=some (g,rc)∧w'.heap[g]?=some (.loop (st.obj rc))):az P G w0 μ (fun i=>if i=site then ph else φ i) (aq m site b) w':=by
 refine⟨hM.below.trans Ox,vo,hM.aM,fun id b' av=>?_,fun id b' g av hg=>?_,fun VH id2 b1 b2 g h1 h2 g1 g2=>?_,fun id b' av=>?_,fun j cs id hj hh=>?_,hM.base,hM.dJ,fun id st av=>?_⟩
 rotate_right
 ·by_cases h:id=site
  ·subst h;rw[bw]at av;simp only[AT]at av;obtain⟨g,rc,h1,h2,h3⟩:=hlp st av;exact⟨g,rc,by simp[h1],h2,h3⟩
  ·rw[aw h]at av;obtain⟨g,rc,h1,h2,h3⟩:=hM.Dc id st av;exact⟨g,rc,by simp only[h,abG];exact h1,h2,by rw[hold id _ g av (.inl h1)];exact h3⟩
 ·by_cases h:id=site
  ·subst h;rw[bw]at av;simp only[AT]at av;subst av;exact hB
  ·rw[aw h]at av;have hR:=hM.dH id b' av;refine hR.cL (fun j hj=>?_) (by simp[h]) (fun _ _ h=>h) (fun g hg=>hold id b' g av hg);have:=hM.Ou av hj;have:j≠site:=fun e=>by subst e;rw[hs]at this;cases this
   simp[this]
 ·by_cases h:id=site
  ·subst h;rw[bw]at av;simp only[AT]at av;subst av;simp only[aaV]at hg;exact⟨(wZ g hg).1,fun _=>(wZ g hg).2.1⟩
  ·rw[aw h]at av;simp only[h,abG]at hg;exact hM.own id b' g av hg
 ·by_cases e1:VH=site
  ·by_cases e2:id2=site
   ·rw[e1,e2]
   ·exfalso;subst e1;rw[bw]at h1;simp only[AT]at h1;subst h1;simp only[aaV]at g1;rw[aw e2]at h2;simp only[e2,abG]at g2;exact(wZ g g1).2.2 id2 b2 h2 g2
  ·by_cases e2:id2=site
   ·exfalso;subst e2;rw[bw]at h2;simp only[AT]at h2;subst h2;simp only[aaV]at g2;rw[aw e1]at h1;simp only[e1,abG]at g1;exact(wZ g g2).2.2 VH b1 h1 g1
   ·rw[aw e1]at h1;rw[aw e2]at h2;simp only[e1,abG]at g1;simp only[e2,abG]at g2;exact hM.inj VH id2 b1 b2 g h1 h2 g1 g2
 ·by_cases h:id=site
  ·subst h;rw[bw]at av;simp only[AT]at av;subst av;simp only[aaV];exact G0
  ·rw[aw h]at av;simp only[h,abG];exact hM.apart id b' av
 ·by_cases e:id=site
  ·subst e;simp
  ·rw[aw e];by_cases h:j=site
   ·subst h;rw[bw]at hj;simp only[AT]at hj;subst hj;exact hn id hh
   ·rw[aw h]at hj;exact hM.fY j cs id hj hh
end
section
variable {R:Type} {E:Env}
structure ll(P:Program)(w0:bI)(μ:Ro)(φ:Nat→aH)(m:Mem)(w w':World)(site:Nat)(b:bR)(ph:aH):Prop where
 below:lA w0.heap.size w w'
 ro:∀k o,μ k=some o→w'.heap[k]?=some o
 mY:∀id b' g,m id=some b'→b'.ev (φ id) g→w'.heap[g]?=w.heap[g]?
 own:∀g,ph.g=some g→w0.heap.size≤g∧μ g=none∧∀id b',m id=some b'→¬b'.ev (φ id) g
 rep:∀φ',φ' site=ph→(∀id,b.names id=true→φ' id=φ id)→hU P μ φ' w' site b
 names:∀id,b.names id=true→(m id).isSome=true
 lp:∀st,b=.loop st→∃g rc,ph.g=some g∧w0.rc site=some (g,rc)∧w'.heap[g]?=some (.loop (st.obj rc)):=by intro st h;cases h
theorem eC{draw:Bool}{site:Nat}{b:bR}{f:Fr}{m:Mem}{k:Fr→Mem→bG→Option R}{r:R}(h:fresh draw site b f m k=some r)(N6:∀i off,b.rowAt i off=true→False:=by intro i off h;simp[bR.rowAt]at h):∃f' m',(∀(R':Type)(k':Fr→Mem→bG→Option R'),fresh draw site b f m k'=k' f' m' [(true,site)])∧k f' m' [(true,site)]=some r∧m' site=some b∧(draw=true→m site=none∧f'=f∧m'=aq m site b)∧(∀(P:Program)(G:Nat→Option (List PV))(w0:bI)(μ:Ro)(φ:Nat→aH)(w w':World)(ρ:Nat→Value)(ph:aH),az P G w0 μ φ m w→cu P μ φ m f ρ→ll P w0 μ φ m w w' site b ph→∃φ',φ' site=ph∧az P G w0 μ φ' m' w'∧cu P μ φ' m' f' ρ):=by
 unfold fresh at h;cases hs:m site with
 |none=>
  simp only[hs]at h;refine⟨f,aq m site b,fun R' k'=>by simp only[fresh,hs],h,by simp,fun _=>⟨rfl,rfl,rfl⟩,fun P G w0 μ φ w w' ρ ph hM hF hp=>?_⟩;have HR:∀id,(m id).isSome=true→id≠site:=fun id av e=>by subst e;rw[hs]at av;cases av
  refine⟨fun i=>if i=site then ph else φ i,by simp,hM.put hs hp.below hp.ro hp.mY (fun g hg=>hp.own g (pg N6 hg)) (rQ N6) (hp.rep _ (by simp) fun id av=>by simp[HR id (hp.names id av)]) hp.names hp.lp,?_⟩;exact hF.mono (fun _ _ h=>h) fun id av=>⟨by simp[HR id av],by rw[aw (HR id av)];exact av⟩
 |some b0=>
  simp only[hs]at h;split at h
  ·cases h
  ·rename_i hc;simp only[ajA,amD,akQ]at hc;refine⟨fi site f,aq (bM site m) site b,fun R' k'=>by simp only[fresh,hs];simp[hc],h,by simp,fun hd=>(by rw[hc.1]at hd;cases hd),fun P G w0 μ φ w w' ρ ph hM hF hp=>?_⟩;have vw:=hM.forget site;have DW:=hF.forget site;have hs1:bq (bM site m) site site=none:=by simp
   have HR:∀id,(bq (bM site m) site id).isSome=true→id≠site:=fun id av e=>by subst e;simp at av
   have hnm:∀id,b.names id=true→id≠site:=fun id av e=>by subst e;rw[hc.2]at av;cases av
   refine⟨fun i=>if i=site then ph else φ i,by simp,?_,?_⟩
   ·rw[←zk];refine vw.put hs1 hp.below hp.ro (fun id b' g av hg=>?_) (fun g hg=>?_) (rQ N6) (hp.rep _ (by simp) fun id av=>by simp[hnm id av]) (fun id av=>tG (hnm id av) (hp.names id av)) hp.lp
    ·obtain⟨_,b2,vg,rfl⟩:=fN av;exact hp.mY id b2 g vg (gJ.1 hg)
    ·obtain⟨h1,h2,h3⟩:=hp.own g (pg N6 hg);refine⟨h1,h2,fun id b' av ho=>?_⟩;obtain⟨_,b2,vg,rfl⟩:=fN av;exact h3 id b2 vg (gJ.1 ho)
   ·rw[←zk];exact DW.mono (fun _ _ h=>h) fun id av=>⟨by simp[HR id av],by rw[aw (HR id av)];exact av⟩
theorem ll.alloc{P:Program}{G:Nat→Option (List PV)}{w0:bI}{μ:Ro}{φ:Nat→aH}{m:Mem}{w:World}{site:Nat}{b:bR}{ph:aH}{o:Obj}(hM:az P G w0 μ φ m w)(ZI:ph.g=some w.heap.size)(rep:∀φ',φ' site=ph→(∀id,b.names id=true→φ' id=φ id)→hU P μ φ' (w.alloc o) site b)(names:∀id,b.names id=true→(m id).isSome=true)(lp:∀st,b=.loop st→∃g rc,ph.g=some g∧w0.rc site=some (g,rc)∧(w.alloc o).heap[g]?=some (.loop (st.obj rc)):=by intro st h;cases h):ll P w0 μ φ m w (w.alloc o) site b ph:=by
 have oh:w0.heap.size≤w.heap.size:=hM.below.size;refine⟨(lA.refl _ w).alloc oh o,fun k o' hk=>?_,fun id b' g av hg=>lA.heap_alloc w o g ((hM.dH id b' av).E1 hg),fun g hg=>?_,rep,names,lp⟩
 ·have:=hM.ro k o' hk;rw[lA.heap_alloc w o k (adp.1 this).1];exact this
 ·rw[ZI]at hg;simp only[AT]at hg;subst hg;refine⟨oh,?_,fun id b' av hg=>?_⟩
  ·cases hq:μ w.heap.size with
   |none=>rfl
   |some o'=>have:=hM.ro _ _ hq;simp at this
  ·have:=(hM.dH id b' av).E1 hg;omega
theorem fS(w:World)(o:Obj):(w.alloc o).heap[w.heap.size]?=some o:=heap_alloc_new w o
variable{t:TypeId}
theorem eS{cs:List V}(h:dq E t=some cs):∃i z,E.P.info? t=some i∧i.zero=some z∧i.size=aV E.P t∧cs.length=aV E.P t∧z.cells.size=aV E.P t∧(∀id,cD id cs=false)∧(∀(μ:Ro)(φ:Nat→aH)(i:Nat)u y,cs[i]?=some u→z.cells[i]?=some y→ah E.P μ φ u y)∧(∀(i:Nat)(y:Value),z.cells[i]?=some y→y.oneCell'=true):=by
 unfold dq zeroV at h;cases hi:E.P.info? t with
 |none=>simp[hi]at h
 |some i=>
  cases hz:i.zero with
  |none=>simp[hi,hz]at h
  |some z=>
   simp only[hi,hz,ajH,ah5]at h;obtain⟨h1,h2,h3⟩:=toCells_ok h;obtain⟨h4,_,h6⟩:=h3 E.P (fun _=>none) (fun _=>default) z (uu z);refine⟨i,z,rfl,hz,by simp[aV,hi],h1,h4,fun id=>?_,fun μ φ i u y hu hy=>(h3 E.P μ φ z (uu z)).2.1 i u y hu hy,h6⟩;cases hh:cD id cs with
   |false=>rfl
   |true=>have:=h2 id hh;rw[HF]at this;cases this
variable{P:Program}{w:World}
theorem pj{i:TypeInfo}{z:Value}(hi:P.info? t=some i)(hz:i.zero=some z):(zeroValue t).run P w=.ok z w:=by simp[zeroValue,typeInfo,hi,hz]
theorem B9{i:TypeInfo}{z:Value}(hi:P.info? t=some i)(hz:i.zero=some z):(Instr.alloc t true (.tuple #[])).run P w=.ok (.pointer (some ⟨w.heap.size,0,none⟩)) (w.alloc (.cells z.cells t)):=by simp[Instr.alloc,pj hi hz,newVar,newRow]
theorem Sw{v:Value}:(Instr.box t v).run P w=.ok (.pointer (some ⟨w.heap.size,0,none⟩)) (w.alloc (.cells v.cells t)):=by simp[Instr.box,newVar,newRow]
variable{c:Array Value}
theorem ll.box{G:Nat→Option (List PV)}{w0:bI}{μ:Ro}{φ:Nat→aH}{m:Mem}{site:Nat}{cs:List V}{T:TypeId}(hM:az P G w0 μ φ m w)(hl:c.size=cs.length)(hv:∀(i:Nat)u y,cs[i]?=some u→c[i]?=some y→ah P μ φ u y)(h1:∀(i:Nat)(y:Value),c[i]?=some y→y.oneCell'=true)(hn:∀id,cD id cs=true→(m id).isSome=true):ll P w0 μ φ m w (w.alloc (.cells c T)) site (.box cs) (DU (some w.heap.size) 0 cs.length 0):=by refine ll.alloc hM (by rfl) (fun φ' hφ TY=>⟨w.heap.size,c,T,by rw[hφ],fS w _,hl,fun i u y hu hy=>?_,h1,by rw[hφ]⟩) hn;exact(hv i u y hu hy).mono (fun _ _ h=>h) fun id av=>TY id (bU (ah3 hu) av)
theorem kX(h:aV P t≠0):(P.info? t).map (·.size)=some (aV P t):=by obtain⟨i,hi,hs⟩:=yH h;simp[hi,hs]
theorem dr{T:Type}{cs new:List T}{off i:Nat}{x:T}(hb:off+new.length≤cs.length)(h:(bT cs off new)[i]?=some x):(off≤i∧i<off+new.length∧new[i-off]?=some x)∨((i<off∨off+new.length≤i)∧cs[i]?=some x):=by
 rw[dI]at h;rw[ajN,ajZ]at h;have ht:(cs.take off).length=off:=by simp;omega
 rw[ht]at h;split at h
 ·rename_i hi;exact .inr ⟨.inl hi,(eZ h).2⟩
 ·rw[ajZ]at h;split at h
  ·exact .inl ⟨by omega,by omega,h⟩
  ·rw[amf]at h;refine .inr ⟨.inr (by omega),?_⟩;rw[←h];congr 1;omega
theorem cP{T:Type}{cs new:List T}{off:Nat}(hb:off+new.length≤cs.length):(bT cs off new).length=cs.length:=by simp[dI];omega
variable{g:Nat}
theorem gK{v:Value}{o:Nat}{T:TypeId}(hz:v.cells.size=aV P t)(hi:(P.info? t).map (·.size)=some (aV P t))(hg:w.heap[g]?=some (.cells c T (0,0)))(hb:o+v.cells.size≤c.size)(h1:∀(i:Nat)(y:Value),v.cells[i]?=some y→y.oneCell'=true):(Instr.storeAt t (.pointer (some ⟨g,o,none⟩)) v).run P w=.ok () (w.setRow g (bT c.toList o v.cells.toList).toArray):=by
 have ov:=run_storeCells_at P g o T v.cells.toList 0 c w hg (by simpa using hb) (fun x hx=>by obtain⟨i,hi⟩:=ajX hx;exact h1 i x (by simpa using hi));have oh:(sizeOf t).run P w=.ok (aV P t) w:=by
  cases hq:P.info? t with
  |none=>simp[hq]at hi
  |some i=>simp[sizeOf,typeInfo,hq,aV]
 simp only[Instr.storeAt,Instr.sureAddr,storeVar,Sem.run_bind,Sem.run_pure,Result.andThen_ok,oh,hz,am9,not_true_eq_false,abG,ov,akB];rw[dI];try rfl
variable{xs:Array Value}
theorem cv{k:Nat}(h:k≠g):(w.setRow g xs).heap[k]?=w.heap[k]?:=by unfold World.setRow;simp[ale,Ne.symm h]
theorem setRow_size:(w.setRow g xs).heap.size=w.heap.size:=by simp[World.setRow]
theorem lA.setRow{B:Nat}(h:B≤g):lA B w (w.setRow g xs):=⟨⟨rfl,rfl,rfl,ami setRow_size.symm,fun k hk=>cv (by omega)⟩,fun _=>ajC _⟩
end
section
variable {P:Program} {G:Nat→Option (List PV)} {w0:bI} {μ:Ro} {φ:Nat→aH} {m m':Mem} {w:World}
def kB(m m':Mem):Prop:=∀id,(m id).isSome=true→(m' id).isSome=true
theorem kB.refl(m:Mem):kB m m:=fun _ h=>h
theorem kB.trans{a b c:Mem}(h:kB a b)(k:kB b c):kB a c:=fun id av=>k id (h id av)
variable{id:Nat}
theorem kB.set{b:bR}:kB m (aq m id b):=fun j hj=>by
 by_cases e:j=id
 ·subst e;simp
 ·rw[aw e];omega
theorem cu.ni{f:Fr}{ρ:Nat→Value}{μ':Ro}(h:cu P μ φ m f ρ)(hμ:∀b o,μ b=some o→μ' b=some o)(hl:kB m m'):cu P μ' φ m' f ρ:=h.mono hμ fun id av=>⟨rfl,hl id av⟩
variable{v:V}{p:PV}
theorem Sx(h:ED m v=some (p,m')):kB m m'∧∀(P:Program)(G:Nat→Option (List PV))(w0:bI)(μ:Ro)(φ:Nat→aH)(w:World)(x:Value),az P G w0 μ φ m w→ah P μ φ v x→∃μ',(∀b o,μ b=some o→μ' b=some o)∧az P G w0 μ' φ m' w∧ai P μ' p x:=by
 unfold ED at h;split at h
 ·simp only[AT,ado]at h;obtain⟨rfl,rfl⟩:=h;exact⟨.refl _,fun P G w0 μ φ w x hM hx=>⟨μ,fun _ _ h=>h,hM,by cases hx with|pv hx=>omega⟩⟩
 ·simp only[AT,ado]at h;obtain⟨rfl,rfl⟩:=h;exact⟨.refl _,fun P G w0 μ φ w x hM hx=>⟨μ,fun _ _ h=>h,hM,by cases hx;exact .lk⟩⟩
 ·rename_i id;split at h
  ·rename_i s et es hm;simp only[AT,ado]at h;obtain⟨rfl,rfl⟩:=h;refine⟨.set,fun P G w0 μ φ w x hM hx=>⟨_,mC hM (φ id).g,hM.freeze hm,?_⟩⟩;refine(hM.arr (.inl hm)).full hM hx (mC hM _) fun g hg=>?_;simp[qP,hg]
  ·rename_i s et es hm;simp only[AT,ado]at h;obtain⟨rfl,rfl⟩:=h;refine⟨.refl _,fun P G w0 μ φ w x hM hx=>⟨μ,fun _ _ h=>h,hM,?_⟩⟩;refine(hM.arr (.inr hm)).full hM hx (fun _ _ h=>h) fun g hg=>?_;obtain⟨o,ho⟩:=ajR.1 ((hM.dH id _ hm).2 g hg);rw[ho,hM.ro _ _ ho]
  ·rename_i s et es hm;simp only[AT,ado]at h;obtain⟨rfl,rfl⟩:=h;refine⟨.set,fun P G w0 μ φ w x hM hx=>⟨_,rR hM _,hM.Sv hm,?_⟩⟩;have Wo:=hM.Sv hm;have hF:aN P _ φ w id s et (es.map PV.strip):=(Wo.dH id _ (bw _ _ _)).1;refine hF.HM (hx.zf (rR hM _)) (fun _ _ h=>h) fun g hg=>?_;unfold uw;rw[BK (show(bR.nest s et es).ev (φ id) g from .inl hg)]
  ·cases h
 ·cases h
theorem HS(h:ED dh v=some (p,m')):∀(P:Program)(μ:Ro)(φ:Nat→aH)(x:Value),ah P μ φ v x→ai P μ p x:=by
 unfold ED at h;split at h
 ·simp only[AT,ado]at h;obtain⟨rfl,rfl⟩:=h;exact fun P μ φ x hx=>by cases hx with|pv hx=>omega
 ·simp only[AT,ado]at h;obtain⟨rfl,rfl⟩:=h;exact fun P μ φ x hx=>by cases hx;exact .lk
 ·simp[dh]at h
 ·cases h
theorem rS(h:ED dh v=some (p,m')):m'=dh:=by unfold ED at h;grind [Option.some.injEq,Prod.mk.injEq,dh]
theorem E4:∀{cs:List V}{m m':Mem}{ps:List PV},mQ m cs=some (ps,m')→kB m m'∧ps.length=cs.length∧∀(P:Program)(G:Nat→Option (List PV))(w0:bI)(μ:Ro)(φ:Nat→aH)(w:World)(X:Nat→Value),az P G w0 μ φ m w→(∀(i:Nat)u,cs[i]?=some u→ah P μ φ u (X i))→∃μ',(∀b o,μ b=some o→μ' b=some o)∧az P G w0 μ' φ m' w∧∀(i:Nat)p,ps[i]?=some p→ai P μ' p (X i)
 |[],m,m',ps,h=>by simp only[mQ,AT,ado]at h;obtain⟨rfl,rfl⟩:=h;exact⟨.refl _,rfl,fun P G w0 μ φ w X hM _=>⟨μ,fun _ _ h=>h,hM,by simp⟩⟩
 |c::r,m,m',ps,h=>by
  simp only[mQ]at h;split at h
  ·rename_i p m1 h1;split at h
   ·rename_i ps1 m2 h2;simp only[AT,ado]at h;obtain⟨rfl,rfl⟩:=h;obtain⟨a1,a2⟩:=Sx h1;obtain⟨b1,b2,b3⟩:=E4 h2;refine⟨a1.trans b1,by simp[b2],fun P G w0 μ φ w X hM hx=>?_⟩;obtain⟨μ1,c1,c2,c3⟩:=a2 P G w0 μ φ w (X 0) hM (hx 0 c (by simp));obtain⟨μ2,d1,d2,d3⟩:=b3 P G w0 μ1 φ w (fun i=>X (i+1)) c2 (fun i u hu=>(hx (i+1) u (by simpa using hu)).zf c1);refine⟨μ2,fun b o h=>d1 b o (c1 b o h),d2,fun i q hq=>?_⟩;cases i with
    |zero=>simp at hq;subst hq;exact c3.mono d1
    |succ i=>simp_all
   ·cases h
  ·cases h
theorem zP:∀{cs:List V}{m':Mem}{ps:List PV},mQ dh cs=some (ps,m')→ps.length=cs.length∧∀(P:Program)(μ:Ro)(φ:Nat→aH)(X:Nat→Value),(∀(i:Nat)u,cs[i]?=some u→ah P μ φ u (X i))→∀(i:Nat)p,ps[i]?=some p→ai P μ p (X i)
 |[],m',ps,h=>by simp only[mQ,AT,ado]at h;simp_all
 |c::r,m',ps,h=>by
  simp only[mQ]at h;split at h
  ·rename_i p m1 h1;split at h
   ·rename_i ps1 m2 h2;simp only[AT,ado]at h;obtain⟨rfl,rfl⟩:=h;have:=rS h1;subst this;obtain⟨b2,b3⟩:=zP h2;refine⟨by simp[b2],fun P μ φ X hx i q hq=>?_⟩;cases i with
    |zero=>simp at hq;subst hq;exact HS h1 P μ φ _ (hx 0 c (by simp))
    |succ i=>exact b3 P μ φ (fun i=>X (i+1)) (fun i u hu=>hx (i+1) u (by simpa using hu)) i q (by simpa using hq)
   ·cases h
  ·cases h
structure tH(P:Program)(μ:Ro)(n:Nat)(p:PV)(x:Value):Prop where
 len:p.cells.length=n
 size:x.cells.size=n
 rep:∀(j:Nat)q y,p.cells[j]?=some q→x.cells[j]?=some y→ai P μ q y
 one:∀(j:Nat)y,x.cells[j]?=some y→y.oneCell'=true
variable{n:Nat}{agg:Bool}
theorem zl{P:Program}{μ:Ro}{ps:List PV}{x:Value}(hp:(if agg then some (.agg ps)else match ps with|[p]=>some p|_=>none)=some p)(hl:ps.length=n)(hs:x.cells.size=n)(hr:∀(j:Nat)q y,ps[j]?=some q→x.cells[j]?=some y→ai P μ q y)(h1:∀(j:Nat)y,x.cells[j]?=some y→y.oneCell'=true):tH P μ n p x:=by
 have hc:p.cells=ps:=by
  cases agg with
  |true=>simp at hp;subst hp;rfl
  |false=>
   simp only[By,abG]at hp;split at hp
   ·rename_i q;simp only[AT]at hp;subst hp;have cd:0<x.cells.size:=by simp at hl;omega
    have hr0:=hr 0 q _ (by simp) (T0 cd);have Zb:=h1 0 _ (T0 cd);generalize x.cells[0]=y at hr0 Zb;cases q<;>first|rfl|(cases hr0;simp[Value.oneCell']at Zb)
   ·cases hp
 exact⟨by rw[hc];omega,hs,by rw[hc];omega,h1⟩
theorem E5{m m':Mem}(h:kT m n agg v=some (p,m')):kB m m'∧∀(P:Program)(G:Nat→Option (List PV))(w0:bI)(μ:Ro)(φ:Nat→aH)(w:World)(x:Value),az P G w0 μ φ m w→ah P μ φ v x→∃μ',(∀b o,μ b=some o→μ' b=some o)∧az P G w0 μ' φ m' w∧tH P μ' n p x:=by
 unfold kT at h;split at h
 ·rename_i cs hc;obtain⟨c1,c2,c3⟩:=toCells_ok hc;split at h
  ·rename_i ps m1 hf;obtain⟨f1,f2,f3⟩:=E4 hf;have hp:(if agg then some (.agg ps)else match ps with|[p]=>some p|_=>none)=some p∧m1=m':=by grind
   obtain⟨hp,rfl⟩:=hp;refine⟨f1,fun P G w0 μ φ w x hM hx=>?_⟩;obtain⟨d1,d2,d3⟩:=c3 P μ φ x hx;have hX:∀(i:Nat),i<cs.length→x.cells[i]?=some (x.cells.getD i undef):=fun i hi=>by simp_all
   obtain⟨μ',e1,e2,e3⟩:=f3 P G w0 μ φ w (fun i=>x.cells.getD i undef) hM fun i u hu=>d2 i u _ hu (hX i (IS.1 hu).1);refine⟨μ',e1,e2,zl hp (by omega) d1 (fun j q y hq hy=>?_) d3⟩;grind
  ·cases h
 ·cases h
theorem A1{m':Mem}(h:kT dh n agg v=some (p,m')):∀(P:Program)(μ:Ro)(φ:Nat→aH)(x:Value),ah P μ φ v x→tH P μ n p x:=by
 unfold kT at h;split at h
 ·rename_i cs hc;obtain⟨c1,c2,c3⟩:=toCells_ok hc;split at h
  ·rename_i ps m1 hf;obtain⟨f2,f3⟩:=zP hf;have hp:(if agg then some (.agg ps)else match ps with|[p]=>some p|_=>none)=some p:=by grind
   refine fun P μ φ x hx=>?_;obtain⟨d1,d2,d3⟩:=c3 P μ φ x hx;have hX:∀(i:Nat),i<cs.length→x.cells[i]?=some (x.cells.getD i undef):=fun i hi=>by simp_all
   have e3:=f3 P μ φ (fun i=>x.cells.getD i undef) fun i u hu=>d2 i u _ hu (hX i (IS.1 hu).1);refine zl hp (by omega) d1 (fun j q y hq hy=>?_) d3;grind
  ·cases h
 ·cases h
theorem Ln{draw:Bool}{m m':Mem}(h:wT draw m n agg v=some (p,m')):kB m m'∧(draw=true→m'=m∧∀m2:Mem,wT true m2 n agg v=some (p,m2))∧∀(P:Program)(G:Nat→Option (List PV))(w0:bI)(μ:Ro)(φ:Nat→aH)(w:World)(x:Value),az P G w0 μ φ m w→ah P μ φ v x→∃μ',(∀b o,μ b=some o→μ' b=some o)∧az P G w0 μ' φ m' w∧tH P μ' n p x:=by
 unfold wT at h;split at h
 ·rename_i hd;split at h
  ·rename_i q m1 hf;simp only[AT,ado]at h;obtain⟨rfl,rfl⟩:=h;exact⟨.refl _,fun _=>⟨rfl,fun m2=>by simp[wT,hf]⟩,fun P G w0 μ φ w x hM hx=>⟨μ,fun _ _ h=>h,hM,A1 hf P μ φ x hx⟩⟩
  ·cases h
 grind [E5,absurd]
theorem aN.set{P:Program}{μ:Ro}{φ:Nat→aH}{w:World}{id sz:Nat}{et:TypeId}{es:List PV}(hA:aN P μ φ w id sz et es){g:Nat}(hg:(φ id).g=some g){i off n:Nat}{e p q:PV}{x:Value}(he:es[i]?=some e)(hE:tH P μ n p x)(hb:off+n≤sz)(hq:q.cells=bT (aJ sz e) off p.cells):∃c T,w.heap[g]?=some (.cells c T (0,0))∧i*sz+off+x.cells.size≤c.size∧aN P μ φ (w.setRow g (bT c.toList (i*sz+off) x.cells.toList).toArray) id sz et (es.set i q):=by
 obtain⟨a1,a2,a3,a4,a5,a6,a7⟩:=hA;rw[hg]at a7;obtain⟨c,T,c1,c2,c3,c4,c5⟩:=a7;have hi:i<es.length:=(IS.1 he).1;have N7:i*sz+off+n≤c.size:=by have:(i+1)*sz≤(φ id).cap*sz:=adq _ (by omega);grind
 have HT:x.cells.toList.length=n:=by simpa using hE.size
 have Ej:(aJ sz e).length=sz:=aZ _ _;have hql:q.cells.length=sz:=by rw[hq,cP (by rw[Ej,hE.len];omega),Ej]
 have ug:(bT c.toList (i*sz+off) x.cells.toList).length=c.size:=by simp_all[cP]
 have tb:∀(i':Nat)e',(es.set i q)[i']?=some e'→(i'=i∧e'=q)∨(i'≠i∧es[i']?=some e'):=by grind
 refine⟨c,T,c1,by rw[hE.size];omega,?_⟩;refine⟨by simp[a1],a2,a3,a4,fun i' e' h'=>?_,a6,?_⟩
 ·grind
 ·rw[hg];refine⟨_,T,setRow_heap w g c _ T (0,0) c1,by simp[ug,c2],by simpa using c3,fun i' e' j p' x' h' hj hx=>?_,fun j x' hj hx=>?_⟩
  ·rw[aj0]at hx;rcases dr (by simp[hE.size];omega) hx with⟨b1,b2,b3⟩|⟨b1,b2⟩
   ·rw[HT]at b2;have VJ:i'=i∧e'=q:=by
     rcases tb i' e' h' with h|⟨cY,h'⟩
     ·omega
     ·exfalso;have Ca:=(IS.1 hj).1;rw[a5 i' e' h']at Ca;rcases Nat.lt_or_gt_of_ne cY with cd|hgt
      ·have:(i'+1)*sz≤i*sz:=adq _ cd;grind
      ·have:(i+1)*sz≤i'*sz:=adq _ hgt;grind
    obtain⟨rfl,rfl⟩:=VJ;rw[hq]at hj;rcases dr (by rw[Ej,hE.len];omega) hj with⟨d1,d2,d3⟩|⟨d1,d2⟩
    ·exact hE.rep _ _ _ d3 (by rw[←ajL,←b3];congr 1;omega)
    ·exfalso;rw[hE.len]at d1;omega
   ·rw[HT]at b1;have b2:c[i'*sz+j]?=some x':=by simpa using b2
    rcases tb i' e' h' with⟨rfl,rfl⟩|⟨cY,h'⟩
    ·rw[hq]at hj;rcases dr (by rw[Ej,hE.len];omega) hj with⟨d1,d2,d3⟩|⟨d1,d2⟩
     ·exfalso;rw[hE.len]at d2;omega
     grind [ee]
    grind
  ·rw[aj0]at hx;rw[alA]at hj;rcases dr (by simp[hE.size];omega) hx with⟨b1,b2,b3⟩|⟨b1,b2⟩
   ·exact hE.one _ x' (by simpa using b3)
   grind
variable{off:Nat}
theorem Jn{s0:Nat}{e:PV}(he:e.cells.length=s0)(ho:off<s0)(hp:∀cs,p≠.agg cs):(setRow s0 e off p).cells=e.cells.set off p:=by
 have h1:p.cells=[p]:=by cases p<;>first|rfl|exact absurd rfl (hp _)
 unfold setRow;split
 ·rename_i hs;subst hs;have:off=0:=by omega
  subst this;match hc:e.cells,he with
  |[c],_=>simp[h1]
 simp_all[PV.cells,ee]
theorem E6{s:Nat}{e:PV}(h1:p.cells.length=n)(h2:e.cells.length=s):(setCells s e off n p).cells=bT (aJ s e) off p.cells:=by
 unfold setCells;split
 ·rename_i h;obtain⟨rfl,rfl⟩:=h;simp_all[dI,aZ]
 rfl
theorem bd.change{P:Program}{μ μ':Ro}{φ φ':Nat→aH}{w w':World}{sz:Nat}{et:TypeId}{es es':List PV}(h:bd P μ φ w id sz et es)(hlen:es'.length=es.length)(ux:∀(i:Nat)e,es'[i]?=some e→e.cells.length=sz)(hφ:(φ' id).toDd=(φ id).toDd)(hw:∀g,(φ id).g=some g→w'.heap[g]?=w.heap[g]?)(hc:∀(i:Nat)e'(j:Nat)p' g c T x,es'[i]?=some e'→e'.cells[j]?=some p'→(φ id).g=some g→w.heap[g]?=some (.cells c T (0,0))→c[i*sz+j]?=some x→(∀e p,es[i]?=some e→e.cells[j]?=some p→eB P μ ((φ id).row i j) w p x)→eB P μ' ((φ' id).row i j) w' p' x):bd P μ' φ' w' id sz et es':=by
 obtain⟨a1,a2,a3,a4,a5,a6,a7⟩:=h;unfold bd;rw[hφ];refine⟨by omega,a2,a3,a4,ux,a6,?_⟩;cases hg:(φ id).g with
 |none=>simp_all
 |some g=>grind
theorem fj{T:Type}{l:List T}{i i':Nat}{q e':T}(h:(l.set i q)[i']?=some e'):(i'=i∧e'=q)∨(i'≠i∧l[i']?=some e'):=by grind
theorem bd.set{P:Program}{μ:Ro}{φ:Nat→aH}{w:World}{sz:Nat}{et:TypeId}{es:List PV}(hA:bd P μ φ w id sz et es)(G0:(bR.nest sz et es).apart (φ id)){g:Nat}(hg:(φ id).g=some g){i:Nat}{e q:PV}{x:Value}(he:es[i]?=some e)(hE:tH P μ n p x)(hb:off+n≤sz)(hq:q.cells=bT (aJ sz e) off p.cells):∃c T,w.heap[g]?=some (.cells c T (0,0))∧i*sz+off+x.cells.size≤c.size∧bd P μ φ (w.setRow g (bT c.toList (i*sz+off) x.cells.toList).toArray) id sz et (es.set i q)∧∀i' tC,(bR.nest sz et (es.set i q)).rowAt i' tC=true→(bR.nest sz et es).rowAt i' tC=true:=by
 have zi:=hA;obtain⟨a1,a2,a3,a4,a5,a6,a7⟩:=hA;rw[hg]at a7;obtain⟨c,T,c1,c2,c3,c4,c5⟩:=a7;have hi:i<es.length:=(IS.1 he).1;have N7:i*sz+off+n≤c.size:=by have:(i+1)*sz≤(φ id).cap*sz:=adq _ (by omega);grind
 have HT:x.cells.toList.length=n:=by simpa using hE.size
 have Ej:(aJ sz e).length=sz:=aZ _ _;have hql:q.cells.length=sz:=by rw[hq,cP (by rw[Ej,hE.len];omega),Ej]
 have ug:(bT c.toList (i*sz+off) x.cells.toList).length=c.size:=by simp_all[cP]
 have cY:∀i' j' g',(bR.nest sz et es).rowAt i' j'=true→((φ id).row i' j').g=some g'→g'≠g:=fun i' j' g' hr cO e=>(G0 i' j' g' hr cO).1 (by rw[e];omega);have ov:∀{i' j':Nat}{e' p':PV}{x':Value}{l:List Value},es[i']?=some e'→e'.cells[j']?=some p'→eB P μ ((φ id).row i' j') w p' x'→eB P μ ((φ id).row i' j') (w.setRow g l.toArray) p' x':=fun h1 h2 h3=>h3.cL (fun _ _ h=>h) fun hr g' cO=>cv (cY _ _ g' (by rw[dE h1 h2];omega) cO);refine⟨c,T,c1,by rw[hE.size];omega,⟨by simp[a1],a2,a3,a4,fun i' e' h'=>?_,a6,?_⟩,?_⟩
 ·grind
 ·rw[hg];refine⟨_,T,setRow_heap w g c _ T (0,0) c1,by simp[ug,c2],by simpa using c3,fun i' e' j p' x' h' hj hx=>?_,fun j x' hj hx=>?_⟩
  ·rw[aj0]at hx;rcases dr (by simp[hE.size];omega) hx with⟨b1,b2,b3⟩|⟨b1,b2⟩
   ·rw[HT]at b2;have VJ:i'=i∧e'=q:=by
     rcases fj h' with h|⟨cY,h'⟩
     ·omega
     ·exfalso;have Ca:=(IS.1 hj).1;rw[a5 i' e' h']at Ca;rcases Nat.lt_or_gt_of_ne cY with cd|hgt
      ·have:(i'+1)*sz≤i*sz:=adq _ cd;grind
      ·have:(i+1)*sz≤i'*sz:=adq _ hgt;grind
    obtain⟨rfl,rfl⟩:=VJ;rw[hq]at hj;rcases dr (by rw[Ej,hE.len];omega) hj with⟨d1,d2,d3⟩|⟨d1,d2⟩
    ·exact .pure (hE.rep _ _ _ d3 (by rw[←ajL,←b3];congr 1;omega))
    ·exfalso;rw[hE.len]at d1;omega
   ·rw[HT]at b1;have b2:c[i'*sz+j]?=some x':=by simpa using b2
    rcases fj h' with⟨rfl,rfl⟩|⟨cY,h'⟩
    ·rw[hq]at hj;rcases dr (by rw[Ej,hE.len];omega) hj with⟨d1,d2,d3⟩|⟨d1,d2⟩
     ·exfalso;rw[hE.len]at d2;omega
     grind [ee]
    simp_all
  ·rw[aj0]at hx;rw[alA]at hj;rcases dr (by simp[hE.size];omega) hx with⟨b1,b2,b3⟩|⟨b1,b2⟩
   ·exact hE.one _ x' (by simpa using b3)
   grind
 ·intro i' tC hr;rcases kA hr with⟨_,_,_,e',s,rs,iv,h',uy⟩|⟨_,_,_,_,_,_,iv,_⟩
  ·simp only[bR.nest.injEq]at iv;obtain⟨rfl,rfl,rfl⟩:=iv;rcases fj h' with⟨rfl,rfl⟩|⟨cY,h'⟩
   ·rw[hq]at uy;rcases dr (by rw[Ej,hE.len];omega) uy with⟨d1,d2,d3⟩|⟨d1,d2⟩
    ·exfalso;have cd:tC-off<x.cells.size:=by rw[hE.size,←hE.len];omega
     exact absurd (hE.rep _ _ _ d3 (T0 cd)).Ei (by simp[PV.isRow])
    ·rw[ee (a5 i' e he)]at d2;rw[dE he d2];rfl
   ·rw[dE h' uy];rfl
  ·cases iv
end
section
variable {R:Type} {E:Env}
theorem zn{p:PV}:∀{n o j:Nat}{q:PV},(ek p o n)[j]?=some q→j<n∧q=cell p (o+j)
 |0,o,j,q,h=>by simp[ek]at h
 |n+1,o,0,q,h=>⟨by omega,by simpa[ek]using h.symm⟩
 |n+1,o,j+1,q,h=>by simp only[ek,alo]at h;obtain⟨h1,h2⟩:=zn h;grind
theorem tI{p:PV}:∀{n o:Nat},(ek p o n).length=n
 |0,_=>rfl
 |n+1,o=>by simp[ek,tI]
variable{n:Nat}
theorem zQ{s i:Nat}{p e:PV}(h:(fF s n p)[i]?=some e):i<n∧e=.agg (ek p (i*s) s):=by unfold fF at h;grind
theorem Wp{p:PV}{u:Unit}(h:asAgg n p=some u):∃cs,p=.agg cs∧cs.length=n:=by unfold asAgg at h;grind
theorem TZ{t:TypeId}{i off s:Nat}{et:TypeId}{b:Option bR}{x:V}{p:PV}(h:Oh E t i off b x=some (s,et,n,p)):∃es,b=some (.arr s et es)∧x=.pv p∧BW E t s i off=true∧n=es.length:=by unfold Oh at h;grind
theorem HU{P:Program}{μ:Ro}{s k:Nat}{cs:List PV}{xs:Array Value}(hp:ai P μ (.agg cs) (.agg xs))(hl:cs.length=n*s){i j:Nat}{e q:PV}(he:(fF s n (.agg cs))[i]?=some e)(hq:e.cells[j]?=some q)(hk:k=i*s+j):∃x,xs[k]?=some x∧ai P μ q x∧x.oneCell'=true:=by
 obtain⟨h1,rfl⟩:=zQ he;obtain⟨h2,rfl⟩:=zn hq;have cd:i*s+j<n*s:=by have:(i+1)*s≤n*s:=adq _ (by omega);grind
 subst hk;cases hp with
 |agg g1 g2 g3=>have hc:cs[i*s+j]?=some cs[i*s+j]:=AI (by omega);have hx:xs[i*s+j]?=some xs[i*s+j]:=T0 (by omega);grind [cell,PV.cells]
theorem T2{draw:Bool}{t:TypeId}{a x:V}{m:Mem}{k:Mem→bG→Option R}{r:R}(h:tB E draw t a x m k=some r):∃m' ft,k m' ft=some r∧(draw=true→∃id b,m'=aq m id b∧ft=[(true,id)]∧∀m2:Mem,m2 id=m id→∀(R':Type)(k':Mem→bG→Option R'),tB E true t a x m2 k'=k' (aq m2 id b) [(true,id)])∧kB m m'∧∀(G:Nat→Option (List PV))(w0:bI)(μ:Ro)(φ:Nat→aH)(w:World)(ya yx:Value),az E.P G w0 μ φ m w→ah E.P μ φ a ya→ah E.P μ φ x yx→(∀id,x.has id=true→(m id).isSome=true)→∃w' μ',(Instr.storeAt t ya yx).run E.P w=.ok () w'∧(∀b o,μ b=some o→μ' b=some o)∧az E.P G w0 μ' φ m' w':=by
 unfold tB at h;split at h
 ·rename_i id off;split at h
  ·rename_i cs hm;split at h
   ·rename_i new hn;split at h
    ·rename_i hb;refine⟨_,_,h,fun hd=>⟨id,_,rfl,rfl,fun m2 c9 R' k'=>by simp_all[tB,BK]⟩,.set,fun G w0 μ φ w ya yx hM ha hx hlx=>?_⟩;obtain⟨n1,n2,n3⟩:=toCells_ok hn;obtain⟨x1,x2,x3⟩:=n3 _ _ _ _ hx;cases ha with
     | @op _ _ g hg=>
      obtain⟨g',c,T,cO,hh,hs,hv,h1,BN⟩:=hM.dH id _ hm;rw[hg]at cO;simp only[AT]at cO;subst cO;have hi:=kX (P:=E.P) (t:=t) (by omega);have rT:off+yx.cells.toList.length≤c.toList.length:=by simp;omega
      refine⟨_,μ,gK x1 hi hh (by omega) x3,fun _ _ h=>h,?_⟩;refine hM.write hm rfl hg (lA.setRow (ajC _)) setRow_size (fun k hk=>cv hk) ⟨g,_,T,hg,setRow_heap w g c _ T (0,0) hh,?_,fun i u y hu hy=>?_,fun i y hy=>?_,by simp_all[cP]⟩ rfl fun j hj=>?_
      ·simp_all[akr,cP]
      ·rw[aj0]at hy;have e1:yx.cells.toList.length=new.length:=by simp;omega
       rcases dr rT hy with⟨b1,b2,b3⟩|⟨b1,b2⟩<;>rcases dr (by omega) hu with⟨d1,d2,d3⟩|⟨d1,d2⟩
       ·grind
       ·omega
       ·omega
       grind
      ·rw[aj0]at hy;rcases dr rT hy with⟨b1,b2,b3⟩|⟨b1,b2⟩
       ·grind
       grind
      ·simp only[bR.names]at hj;obtain⟨v,T3,hh'⟩:=cW.1 hj;simp only[dI,ajI]at T3;rcases T3 with(T3|T3)|T3
       ·exact hM.fY id cs j hm (bU (akN T3) hh')
       ·grind [bU]
       ·exact hM.fY id cs j hm (bU (ak8 T3) hh')
    ·cases h
   ·cases h
  ·cases h
 ·rename_i id i off;split at h
  ·rename_i s et n p hwv;obtain⟨es,hm,rfl,hw,hn⟩:=TZ hwv;subst hn;obtain⟨u,hu,h⟩:=BY.1 h;split at h
   ·rename_i hl;obtain⟨ha,rfl,rfl,_⟩:=HK hw;obtain⟨cs,rfl,ux⟩:=Wp hu;refine⟨_,_,h,fun _=>⟨id,_,rfl,rfl,fun m2 c9 R' k'=>?_⟩,.set,fun G w0 μ φ w ya yx hM ha hx _=>?_⟩
    ·simp_all[tB,ajH,BK]
    ·have hA:aN E.P μ φ w id s et es:=hM.dH id _ hm;cases ha with
     | @oe _ _ _ g hg=>
      cases hx with
      |pv hx=>
       have Sy:=hx;cases hx with
       | @agg _ xs g1 g2 g3=>
        obtain⟨a1,a2,a3,a4,a5,a6,a7⟩:=hA;rw[hg]at a7;obtain⟨c,T,c1,c2,c3,c4,c5⟩:=a7;have hle:es.length*s≤c.size:=ajP (adq _ c3) c2;have HV:xs.size=es.length*s:=by omega
        have eF:aV E.P t≠0:=by omega
        have hl1:=hl.1;have hi:=kX (P:=E.P) (t:=t) eF;have hcz:(Value.agg xs).cells.size=aV E.P t:=by simp[Value.cells];omega
        refine⟨w.setRow g (bT c.toList 0 xs.toList).toArray,μ,?_,fun _ _ h=>h,hM.write hm rfl hg (lA.setRow (ajC _)) setRow_size (fun k hk=>cv hk) ?_ rfl (fun j hj=>by simp[bR.names]at hj)⟩
        ·rw[show 0*(φ id).sz+0=0 by omega];exact gK hcz hi c1 (by omega) (fun i y hy=>g3 i y hy)
        ·have Ej:∀(i:Nat)(x:Value),i<es.length*s→(bT c.toList 0 xs.toList).toArray[i]?=some x→xs[i]?=some x:=fun i x hi hx=>by
          rw[aj0]at hx;rcases dr (by simp;omega) hx with⟨b1,b2,b3⟩|⟨b1,b2⟩
          ·simpa using b3
          grind
         refine⟨by rw[a1];simp[fF],a2,a3,a4,fun i e he=>?_,a6,?_⟩
         ·obtain⟨_,rfl⟩:=zQ he;exact tI
         ·rw[hg];refine⟨_,T,setRow_heap w g c _ T (0,0) c1,?_,?_,fun i e j q x he hq hx=>?_,fun i x hi hx=>?_⟩
          ·simp_all[akr,cP,Value.cells]
          ·simpa[fF]using c3
          ·obtain⟨x',x1,x2,_⟩:=HU (k:=i*s+j) Sy (by omega) he hq rfl;grind
          grind [fF]
   ·cases h
  rename_i hwn;split at h
  ·rename_i p m1 hf;obtain⟨f1,f2,f3⟩:=Ln hf;split at h
   ·rename_i s et es hm;obtain⟨e,he,h⟩:=BY.1 h;have key:∀q,0<aV E.P t→off+aV E.P t≤s→(p.cells.length=aV E.P t→e.cells.length=s→q.cells=bT (aJ s e) off p.cells)→∀(G:Nat→Option (List PV))(w0:bI)(μ:Ro)(φ:Nat→aH)(w:World)(ya yx:Value),az E.P G w0 μ φ m w→ah E.P μ φ (.oe id i off) ya→ah E.P μ φ x yx→(∀id,x.has id=true→(m id).isSome=true)→∃w' μ',(Instr.storeAt t ya yx).run E.P w=.ok () w'∧(∀b o,μ b=some o→μ' b=some o)∧az E.P G w0 μ' φ (aq m1 id (.arr s et (es.set i q))) w':=by
     intro q hz hb hq G w0 μ φ w ya yx hM ha hx _;obtain⟨μ',g1,g2,g3⟩:=f3 _ _ _ _ _ _ _ hM hx;cases ha with
     | @oe _ _ _ g hg=>have hA:aN E.P μ' φ w id s et es:=g2.dH id _ hm;have hq':=hq g3.len (hA.2.2.2.2.1 i e he);obtain⟨c,T,hh,rT,zi⟩:=hA.set hg he g3 hb hq';have oh:(φ id).sz=s:=hA.2.1;have hi:=kX (P:=E.P) (t:=t) (by omega);refine⟨_,μ',?_,g1,g2.write hm rfl hg (lA.setRow (ajC _)) setRow_size (fun k hk=>cv hk) zi rfl fun j hj=>by simp[bR.names]at hj⟩;rw[oh];exact gK g3.size hi hh rT g3.one
    split at h
    ·rename_i hb;refine⟨_,_,h,fun hd=>?_,f1.trans .set,key p (by omega) (by omega) fun h1 h2=>?_⟩
     ·obtain⟨rfl,f4⟩:=f2 hd;refine⟨id,_,rfl,rfl,fun m2 c9 R' k'=>?_⟩;simp_all[tB,ajH,BK]
     simp_all[dI,aZ]
    ·rename_i hnb;split at h
     ·rename_i hb;refine⟨_,_,h,fun hd=>?_,f1.trans .set,key _ (by omega) (by omega) fun _ _=>rfl⟩;obtain⟨rfl,f4⟩:=f2 hd;refine⟨id,_,rfl,rfl,fun m2 c9 R' k'=>?_⟩;simp_all[tB,ajH,IN,BK]
     ·cases h
   ·rename_i s et es hm;obtain⟨e,he,h⟩:=BY.1 h;split at h
    ·rename_i hb;refine⟨_,_,h,fun hd=>?_,f1.trans .set,fun G w0 μ φ w ya yx hM ha hx _=>?_⟩
     ·obtain⟨rfl,f4⟩:=f2 hd;refine⟨id,_,rfl,rfl,fun m2 c9 R' k'=>?_⟩;simp_all[tB,ajH,BK]
     ·obtain⟨μ',g1,g2,g3⟩:=f3 _ _ _ _ _ _ _ hM hx;cases ha with
      | @oe _ _ _ g hg=>have hA:bd E.P μ' φ w id s et es:=g2.dH id _ hm;obtain⟨c,T,hh,rT,zi,hrw⟩:=bd.set (q:=.agg (bT (aJ s e) off p.cells)) hA (g2.apart id _ hm) hg he g3 hb.1 rfl;have oh:(φ id).sz=s:=hA.2.1;have hi:=kX (P:=E.P) (t:=t) (by omega);refine⟨_,μ',?_,g1,g2.write hm rfl hg (lA.setRow (ajC _)) setRow_size (fun k hk=>cv hk) zi rfl (fun j hj=>by simp[bR.names]at hj) (fun st h=>by cases h) hrw⟩;rw[oh];exact gK g3.size hi hh rT g3.one
    ·cases h
   ·cases h
  ·cases h
 ·rename_i id i off s j off2;split at h
  ·rename_i p m1 hf;split at h
   ·rename_i s0 et es hm;obtain⟨e,he,h⟩:=BY.1 h;obtain⟨rs,hr,h⟩:=BY.1 h;obtain⟨q,hq,h⟩:=BY.1 h;split at h
    ·rename_i hb;refine⟨_,_,h,fun _=>⟨id,_,rfl,rfl,fun m2 c9 R' k'=>?_⟩,.set,fun G w0 μ φ w ya yx hM ha hx _=>?_⟩
     ·simp_all[tB,ajH,BK]
     ·have hE:=A1 hf E.P μ φ yx hx;have hN:bd E.P μ φ w id s0 et es:=hM.dH id _ hm;obtain⟨g,y,hg,zo,⟨⟨GZ,hA⟩,hV⟩,hce⟩:=hN.row he hr;have G0:=hM.apart id _ hm;have lB:(bR.nest s0 et es).rowAt i off=true:=by rw[dE he hce];rfl
      have Ek:=hN.2.2.2.2.1 i e he;have T5:(setRow s0 e off (.qV s (rs.set j (setCells s q off2 (aV E.P t) p)))).cells=e.cells.set off (.qV s (rs.set j (setCells s q off2 (aV E.P t) p))):=Jn Ek hb.2.2 (by simp);cases ha with
      | @AM _ _ _ _ _ _ g' cO hs=>
       obtain⟨cY,ai4⟩:=G0 i off g' lB cO;obtain⟨c,T,hh,rT,zi⟩:=hA.set (g:=g') cO hq hE hb.1 (E6 hE.len (hA.2.2.2.2.1 j q hq));have hi:=kX (P:=E.P) (t:=t) (by omega);refine⟨_,μ,gK hE.size hi hh rT hE.one,fun _ _ h=>h,hM.Wm hm rfl (.inr ⟨i,off,lB,cO⟩) (lA.setRow (ajC _)) setRow_size (fun k hk=>cv hk) ?_ rfl (fun j hj=>by simp[bR.names]at hj) ?_⟩
       ·refine bd.change hN (by simp) (fun i' e' h'=>?_) rfl (fun g0 Ot=>cv fun e=>cY (by rw[←e];omega)) (fun i' e' j' p' g0 c0 _ x' h' uy Ot hc0 Sy hold=>?_)
        ·rcases fj h' with⟨_,rfl⟩|⟨_,h'⟩
         ·grind
         ·exact hN.2.2.2.2.1 i' e' h'
        ·have other:∀e'' p'',es[i']?=some e''→e''.cells[j']?=some p''→(i',j')≠(i,off)→eB E.P μ ((φ id).row i' j') (w.setRow g' (bT c.toList (j*s+off2) yx.cells.toList).toArray) p'' x':=fun e'' p'' h1 h2 h3=>(hold e'' p'' h1 h2).cL (fun _ _ h=>h) fun AL g'' ajb=>cv fun e=>by grind [dE]
         rcases fj h' with⟨rfl,rfl⟩|⟨Zc,h'⟩
         ·rw[T5]at uy;rcases fj uy with⟨rfl,rfl⟩|⟨hnj,uy⟩
          ·have Oy:eY E.P μ ((φ id).row i' j') w s rs x':=hold e _ he hce;refine⟨⟨GZ,zi⟩,?_⟩;exact Oy.2
          grind
         grind
       ·intro i' tC AL;rcases kA AL with⟨_,_,_,e',s',rs',iv,h',uy⟩|⟨_,_,_,_,_,_,iv,_⟩
        ·simp only[bR.nest.injEq]at iv;obtain⟨rfl,rfl,rfl⟩:=iv;rcases fj h' with⟨rfl,rfl⟩|⟨Zc,h'⟩
         ·rw[T5]at uy;rcases fj uy with⟨rfl,_⟩|⟨hnj,uy⟩
          ·omega
          ·rw[dE he uy];rfl
         ·rw[dE h' uy];rfl
        ·cases iv
    ·cases h
   ·cases h
  ·cases h
 ·cases h
end
structure Cells(P:Program)(μ:Ro)(sz:Nat)(es:List PV)(xs:List Value):Prop where
 len:xs.length=es.length*sz
 each:∀(i:Nat)e,es[i]?=some e→e.cells.length=sz
 rep:∀(i:Nat)e(j:Nat)p y,es[i]?=some e→e.cells[j]?=some p→xs[i*sz+j]?=some y→ai P μ p y
 one:∀(i:Nat)y,xs[i]?=some y→y.oneCell'=true
section
variable {P:Program} {μ μ':Ro} {φ:Nat→aH} {w:World} {sz:Nat} {es es':List PV} {xs xs':List Value}
theorem Cells.nil:Cells P μ sz [] []:=⟨by simp,by simp,by simp,by simp⟩
theorem Cells.mono(h:Cells P μ sz es xs)(hμ:∀b o,μ b=some o→μ' b=some o):Cells P μ' sz es xs:=⟨h.len,h.each,fun i e j p y h1 h2 h3=>(h.rep i e j p y h1 h2 h3).mono hμ,h.one⟩
theorem E7{i j n:Nat}(hi:i<n)(hj:j<sz):i*sz+j<n*sz:=by have:(i+1)*sz≤n*sz:=adq _ hi;rw[ake]at this;omega
theorem Cells.append(h:Cells P μ sz es xs)(h':Cells P μ sz es' xs'):Cells P μ sz (es++es') (xs++xs'):=by
 refine⟨by simp[h.len,h'.len,ake],fun i e hi=>?_,fun i e j p y hi hj hy=>?_,fun i y hy=>?_⟩
 ·rw[ajZ]at hi;split at hi
  ·exact h.each i e hi
  ·exact h'.each _ e hi
 ·rw[ajZ]at hi hy;split at hi
  ·rename_i hl;have Ca:j<sz:=by rw[←h.each i e hi];exact(IS.1 hj).1
   rw[BK (by rw[h.len];exact E7 hl Ca)]at hy;exact h.rep i e j p y hi hj hy
  ·rename_i hl;have hle:es.length*sz≤i*sz:=adq _ (by omega);rw[IN (by rw[h.len];omega)]at hy;refine h'.rep _ e j p y hi hj ?_;rw[←hy,h.len,Nat.sub_mul];congr 1;omega
 ·rw[ajZ]at hy;split at hy
  ·exact h.one i y hy
  ·exact h'.one _ y hy
theorem Cells.take(h:Cells P μ sz es xs)(n:Nat):Cells P μ sz (es.take n) (xs.take (n*sz)):=by
 refine⟨?_,fun i e hi=>h.each i e (eZ hi).2,fun i e j p y hi hj hy=>h.rep i e j p y (eZ hi).2 hj (eZ hy).2,fun i y hy=>h.one i y (eZ hy).2⟩;rw[akt,akt,h.len];rcases am5 n es.length with hn|hn
 ·rw[akK hn,akK (adq _ hn)]
 ·rw[alW hn,alW (adq _ hn)]
theorem Cells.drop(h:Cells P μ sz es xs)(n:Nat):Cells P μ sz (es.drop n) (xs.drop (n*sz)):=by refine⟨by simp[h.len,Nat.sub_mul],fun i e hi=>h.each _ e (rM hi),fun i e j p y hi hj hy=>h.rep _ e j p y (rM hi) hj ?_,fun i y hy=>h.one _ y (rM hy)⟩;rw[←rM hy,ake];congr 1;omega
variable{id:Nat}{et:TypeId}
theorem aN.cells(hA:aN P μ φ w id sz et es){g:Nat}(hg:(φ id).g=some g):∃(c:Array Value)(T:TypeId),w.heap[g]?=some (.cells c T (0,0))∧(φ id).cap*sz≤c.size∧es.length≤(φ id).cap∧es.length*sz≤c.size∧Cells P μ sz es (c.toList.take (es.length*sz)):=by
 obtain⟨a1,a2,a3,a4,a5,a6,a7⟩:=hA;rw[hg]at a7;obtain⟨c,T,c1,c2,c3,c4,c5⟩:=a7;have hle:es.length*sz≤c.size:=ajP (adq _ c3) c2;refine⟨c,T,c1,c2,c3,hle,by simp;omega,a5,fun i e j p y hi hj hy=>?_,fun i y hy=>?_⟩
 ·exact c4 i e j p y hi hj (by simpa using(eZ hy).2)
 ·have:=eZ hy;exact c5 i y this.1 (by simpa using this.2)
theorem aN.pB{g:Nat}{T:TypeId}{c:Array Value}(ZI:(φ id).toDd=⟨some g,(φ id).cap,es.length,sz⟩)(oh:sz=aV P et)(eF:0<sz)(qd:(φ id).cap≤maxLen)(hh:w.heap[g]?=some (.cells c T (0,0)))(hc:(φ id).cap*sz≤c.size)(hle:es.length≤(φ id).cap)(hC:Cells P μ sz es (c.toList.take (es.length*sz))):aN P μ φ w id sz et es:=by
 have e1:(φ id).g=some g:=by rw[ZI]
 refine⟨by rw[ZI],by rw[ZI],oh,eF,hC.each,qd,?_⟩;rw[e1];have Ca:∀(i:Nat)e(j:Nat)p,es[i]?=some e→e.cells[j]?=some p→i*sz+j<es.length*sz:=fun i e j p hi hj=>E7 (IS.1 hi).1 (by rw[←hC.each i e hi];exact(IS.1 hj).1);refine⟨c,T,hh,hc,hle,fun i e j p x hi hj hx=>?_,fun i x hi hx=>?_⟩
 ·exact hC.rep i e j p x hi hj (by rw[akf (Ca i e j p hi hj)];simpa using hx)
 ·exact hC.one i x (by rw[akf hi];simpa using hx)
inductive zp(P:Program)(μ:Ro)(w:World)(sz:Nat)(es:List PV):Value→Prop
 |none:es=[]→zp P μ w sz es (.slice none 0 0)
 |some {a:Addr} {c:Nat} (xs:List Value):Cells P μ sz es xs→(∀(j:Nat)v,xs[j]?=some v→w.cell? (a.add j)=some v)→es.length≤c→c≤maxLen→zp P μ w sz es (.slice (some a) es.length c)
theorem aN.src(hA:aN P μ φ w id sz et es){g:Nat}(hg:(φ id).g=some g){lo len cap:Nat}(hl:lo+len≤es.length)(hcc:len≤cap)(ajc:lo+cap≤(φ id).cap):zp P μ w sz ((es.drop lo).take len) (.slice (some ⟨g,lo*sz,none⟩) len cap):=by
 obtain⟨c,T,c1,c2,c3,c4,c5⟩:=hA.cells hg;have qd:=hA.pz;have hlen:((es.drop lo).take len).length=len:=by simp;omega
 have:=zp.some (P:=P) (μ:=μ) (w:=w) (sz:=sz) (es:=(es.drop lo).take len) (a:=⟨g,lo*sz,none⟩) (c:=cap) _ ((c5.drop lo).take len) (fun j v hv=>?_) (by omega) (by omega)
 ·rw[hlen]at this;exact this
 ·have h1:=(eZ hv).2;have h2:=(eZ (rM h1)).2;rw[Addr.add_mid,dy c1];simpa using h2
end
section
variable {R:Type} {E:Env}
theorem ai.src{P:Program}{G:Nat→Option (List PV)}{w0:bI}{μ:Ro}{φ:Nat→aH}{m:Mem}{w:World}{sz:Nat}{es:List PV}{y:Value}(hM:az P G w0 μ φ m w)(h:ai P μ (.rs sz es) y):zp P μ w sz es y:=by
 cases h with
 |lk=>exact .none rfl
 |G9 hc=>exact .some (es:=[]) [] .nil (by simp) (by simp) hc
 | @rs _ _ b o cap X h1 h2 h3 h4 h5 h6=>
  by_cases hz:sz=0
  ·subst hz;refine .some [] ⟨by simp,h3,fun i e j p y hi hj=>?_,by simp⟩ (by simp) h1 h2;have:=h3 i e hi;have:=(IS.1 hj).1;omega
  ·have ec:∀k v,((List.range (es.length*sz)).map fun k=>X (k/sz) (k%sz))[k]?=some v→∃(e:PV)(p:PV),es[k/sz]?=some e∧e.cells[k%sz]?=some p∧v=X (k/sz) (k%sz):=by
    intro k v hk;have cd:k<es.length*sz:=by have:=(IS.1 hk).1;simpa using this
    rw[IT,akW cd]at hk;simp at hk;have hi:k/sz<es.length:=(Nat.div_lt_iff_lt_mul (by omega)).2 cd;have hj:k%sz<(es[k/sz]).cells.length:=by rw[h3 _ _ (AI hi)];exact amR _ (by omega)
    exact⟨_,_,AI hi,AI hj,hk.symm⟩
   refine .some ((List.range (es.length*sz)).map fun k=>X (k/sz) (k%sz)) ⟨by simp,h3,fun i e j p y hi hj hy=>?_,fun k v hk=>?_⟩ (fun k v hk=>?_) h1 h2
   ·obtain⟨e',p',he,hp,rfl⟩:=ec _ _ hy;have Ca:j<sz:=by rw[←h3 i e hi];exact(IS.1 hj).1
    have e1:(i*sz+j)/sz=i:=by rw[alJ,Nat.mul_add_div (by omega),amG Ca];rfl
    have e2:(i*sz+j)%sz=j:=by rw[alJ,amL,alq Ca]
    rw[e1,e2];exact h5 i e j p hi hj
   ·obtain⟨e',p',he,hp,rfl⟩:=ec _ _ hk;exact h6 _ e' _ p' he hp
   ·obtain⟨e',p',he,hp,rfl⟩:=ec _ _ hk;rw[Addr.add_mid];have:=hM.cellAt (h4 _ e' _ p' he hp);rw[←this];congr 2;rw[akl,Nat.div_add_mod' k sz]
theorem oH{m:Mem}{sz:Nat}{x:V}{es:List PV}{ft:bG}(h:eX m sz x=some (es,ft)):(∀m2:Mem,(∀x∈ft,m2 x.2=m x.2)→eX m2 sz x=some (es,ft))∧(∀x∈ft,x.1=false)∧∀(P:Program)(G:Nat→Option (List PV))(w0:bI)(μ:Ro)(φ:Nat→aH)(w:World)(y:Value),az P G w0 μ φ m w→ah P μ φ x y→zp P μ w sz es y:=by
 unfold eX at h;split at h
 ·rename_i s es';split at h
  ·rename_i hs;simp only[AT,ado]at h;obtain⟨rfl,rfl⟩:=h;subst hs;exact⟨fun m2 _=>by simp[eX],by simp,fun P G w0 μ φ w y hM hy=>by cases hy with|pv hy=>exact hy.src hM⟩
  ·split at h
   ·simp only[AT,ado]at h;obtain⟨rfl,rfl⟩:=h;refine⟨fun m2 _=>by simp[eX],by simp,fun P G w0 μ φ w y hM hy=>?_⟩;cases hy with
    |pv hy=>cases hy with
     |lk=>exact .none rfl
     |G9 hc=>exact .some (es:=[]) [] .nil (by simp) (by simp) hc
     |rs X h1 h2=>exact .some (es:=[]) [] .nil (by simp) h1 h2
   ·cases h
 ·simp only[AT,ado]at h;obtain⟨rfl,rfl⟩:=h;exact⟨fun m2 _=>by simp[eX],by simp,fun P G w0 μ φ w y hM hy=>by cases hy;exact .none rfl⟩
 ·rename_i id;have key:∀(s:Nat)(et:TypeId)(es:List PV),(m id=some (.arr s et es)∨m id=some (.ri s et es))→∀(P:Program)(G:Nat→Option (List PV))(w0:bI)(μ:Ro)(φ:Nat→aH)(w:World)(y:Value),az P G w0 μ φ m w→ah P μ φ (.os id) y→zp P μ w s es y:=by
   intro s et es hm P G w0 μ φ w y hM hy;have hA:=hM.arr hm;cases hy with
   |s9 hg=>obtain⟨a1,a2,a3,a4,a5,a6,a7⟩:=hA;rw[hg]at a7;exact .none a7.1
   |os hg=>have:=hA.src hg (lo:=0) (len:=es.length) (cap:=(φ id).cap) (by omega) (hA.pz).1 (by omega);rw[hA.1];simpa using this
  split at h
  ·rename_i s' et es' hm;split at h
   ·rename_i hs;simp only[AT,ado]at h;obtain⟨rfl,rfl⟩:=h;subst hs;exact⟨fun m2 c9=>by have:=c9 (false,id) (by simp);simp only at this;simp[eX,this,hm],by simp,key _ _ _ (.inl hm)⟩
   ·cases h
  ·rename_i s' et es' hm;split at h
   ·rename_i hs;simp only[AT,ado]at h;obtain⟨rfl,rfl⟩:=h;subst hs;exact⟨fun m2 c9=>by have:=c9 (false,id) (by simp);simp only at this;simp[eX,this,hm],by simp,key _ _ _ (.inr hm)⟩
   ·cases h
  ·cases h
 ·rename_i id lo len;have key:∀(s:Nat)(et:TypeId)(es:List PV),(m id=some (.arr s et es)∨m id=some (.ri s et es))→∀(P:Program)(G:Nat→Option (List PV))(w0:bI)(μ:Ro)(φ:Nat→aH)(w:World)(y:Value),az P G w0 μ φ m w→ah P μ φ (.fX id lo len) y→zp P μ w s ((es.drop lo).take len) y:=by
   intro s et es hm P G w0 μ φ w y hM hy;have hA:=hM.arr hm;have hle:=hA.pz;have Jo:=hA.1;have oh:=hA.2.1;cases hy with
   |rJ hg=>simp;exact .none rfl
   |fX hg hl ha hc1 Wf=>
    rcases ha with rfl|⟨ha,_⟩
    ·rw[oh];exact hA.src hg (by omega) hc1 Wf
    ·have h0:len=0:=by omega
     subst h0;simp only[alh];exact .some (es:=[]) [] .nil (by simp) (by simp) (by omega)
  split at h
  ·rename_i s' et es' hm;split at h
   ·rename_i hs;simp only[AT,ado]at h;obtain⟨rfl,rfl⟩:=h;subst hs;exact⟨fun m2 c9=>by have:=c9 (false,id) (by simp);simp only at this;simp[eX,this,hm],by simp,key _ _ _ (.inl hm)⟩
   ·cases h
  ·rename_i s' et es' hm;split at h
   ·rename_i hs;simp only[AT,ado]at h;obtain⟨rfl,rfl⟩:=h;subst hs;exact⟨fun m2 c9=>by have:=c9 (false,id) (by simp);simp only at this;simp[eX,this,hm],by simp,key _ _ _ (.inr hm)⟩
   ·cases h
  ·cases h
 ·rename_i id i off;split at h
  ·rename_i s0 et0 kq hm;obtain⟨e,he,h⟩:=BY.1 h;obtain⟨rs,hr,h⟩:=BY.1 h;simp only[AT,ado]at h;obtain⟨rfl,rfl⟩:=h;refine⟨fun m2 c9=>by have:=c9 (false,id) (by simp);simp only at this;simp[eX,this,hm,he,hr],by simp,fun P G w0 μ φ w y hM hy=>?_⟩;have hN:bd P μ φ w id s0 et0 kq:=hM.dH id _ hm;obtain⟨_,_,_,_,⟨⟨GZ,hA⟩,_⟩,_⟩:=hN.row he hr;have hy:=hy.Oq (ν:=μ);cases hy with
   |s9 hg=>obtain⟨a1,a2,a3,a4,a5,a6,a7⟩:=hA;rw[hg]at a7;exact .none a7.1
   |os hg=>have:=hA.src hg (lo:=0) (len:=rs.length) (cap:=(((φ id).row i off).up).cap) (by omega) (hA.pz).1 (by omega);rw[hA.1];simpa using this
  ·cases h
 ·cases h
end
section
variable {P:Program} {w:World}
theorem qf{t ty e:TypeId}(hu:P.underlying t=some (.slice e))(hz:aV P e≠0){base a:Option Addr}{n cap c:Nat}(hn:n≤cap):(Builtin.append_ #[t,t] ty #[.slice base n cap,.slice a 0 c]).run P w=.ok (.slice base n cap) w:=by
 obtain⟨i,hi,hs⟩:=yH hz;have hl:∀x:Addr,(loadCells x 0).run P w=.ok #[] w:=fun x=>by simpa using run_loadCells_list (P:=P) w x [] (by simp)
 cases base<;>cases a<;>simp[Builtin.append_,run_underlying hu,sizeOf,typeInfo,hi,Builtin.lenOf,Builtin.firstCells,hn,hl,storeCells]
end
theorem Cb{P:Program}{w:World}(t ty e T:TypeId)(i:TypeInfo)(ht:P.underlying t=some (.slice e))(hi:P.info? e=some i)(g Oz abT:Nat)(cur:Array Value)(hg:w.heap[g]?=some (.cells cur T (0,0)))(a:Addr)(m c:Nat)(news:List Value)(hl:news.length=m*i.size)(adN:∀j u,news[j]?=some u→w.cell? (a.add j)=some u)(h1:∀u∈news,u.oneCell'=true)(e9:Oz+m≤abT)(rT:Oz*i.size+news.length≤cur.size):(Builtin.append_ #[t,t] ty #[.slice (some ⟨g,0,none⟩) Oz abT,.slice (some a) m c]).run P w=.ok (.slice (some ⟨g,0,none⟩) (Oz+m) abT) (w.setRow g (cur.toList.take (Oz*i.size)++news++cur.toList.drop (Oz*i.size+news.length)).toArray):=by have hf:=run_firstCells_some (P:=P) w i.size m a m c news hl adN;have ov:=run_storeCells_at P g (Oz*i.size) T news 0 cur w hg (by simpa using rT) h1;simp only[akB]at ov;simp[Builtin.append_,run_underlying ht,sizeOf,typeInfo,hi,Builtin.lenOf,e9,hf,Addr.add_mid,ov]
section
variable {R:Type} {E:Env}
variable{t:TypeId}
theorem HW{P:Program}{i:TypeInfo}(hi:P.info? t=some i):i.bytes=G6 P t∧i.size=aV P t:=by simp[G6,aV,hi]
theorem E8{P:Program}{e ty:TypeId}{sz len n:Nat}{z:Value}{i:TypeInfo}(hu:P.underlying t=some (.slice e))(hi:P.info? e=some i)(hzv:i.zero=some z)(OA:z.cells.size=sz)(oh:sz=aV P e)(eF:0<aV P e)(hby:0<G6 P e)(e9:(len+n)*G6 P e≤af){w:World}{ys yx:Value}{os xs:List Value}(hs:(ys=.slice none 0 0∧len=0∧os=[])∨∃(g cap:Nat)(c:Array Value)(T:TypeId),ys=.slice (some ⟨g,0,none⟩) len cap∧w.heap[g]?=some (.cells c T (0,0))∧cap*sz≤c.size∧len≤cap∧cap≤maxLen∧os=c.toList.take (len*sz))(hx:(yx=.slice none 0 0∧n=0∧xs=[])∨∃(a:Addr)(cx:Nat),yx=.slice (some a) n cx∧xs.length=n*sz∧(∀(j:Nat)v,xs[j]?=some v→w.cell? (a.add j)=some v)∧(∀v∈xs,v.oneCell'=true)∧n≤cx∧cx≤maxLen):∃w' y,(Builtin.append_ #[t,t] ty #[ys,yx]).run P w=.ok y w'∧((y=.slice none 0 0∧w'=w∧len=0∧n=0)∨∃(g cap:Nat)(c:Array Value)(T:TypeId),y=.slice (some ⟨g,0,none⟩) (len+n) cap∧w'.heap[g]?=some (.cells c T (0,0))∧cap*sz≤c.size∧len+n≤cap∧cap≤maxLen∧c.toList.take ((len+n)*sz)=os++xs∧((∃ZJ,ys=.slice (some ⟨g,0,none⟩) len ZJ∧lA g w w'∧∀k,k≠g→w'.heap[k]?=w.heap[k]?)∨(g=w.heap.size∧w'=w.drew.alloc (.cells c e)))):=by
 obtain⟨hib,his⟩:=HW hi;have abU:len+n≤140737488355328:=by have:(len+n)*1≤(len+n)*G6 P e:=akx _ hby;simp only[af]at e9;omega
 have ag9:len+n≤maxLen:=by simp only[maxLen];omega
 have VK:∀n,(Builtin.zeroCells z.cells n).size=n*sz:=fun n=>by rw[size_zeroCells,OA]
 rcases hs with⟨rfl,rfl,rfl⟩|⟨g,cap,c,T,rfl,g4,g5,g6,g7,rfl⟩
 ·rcases hx with⟨rfl,rfl,rfl⟩|⟨a,cx,rfl,HT,HV,hx1,hcx,Wq⟩
  ·exact⟨w,_,qf hu (by omega) (ajC _),.inl ⟨rfl,rfl,rfl,rfl⟩⟩
  ·by_cases h0:n=0
   ·subst h0;exact⟨w,_,qf hu (by omega) (ajC _),.inl ⟨rfl,rfl,rfl,rfl⟩⟩
   ·have hr:=run_append_nil (P:=P) w t ty e i z hu hi hzv a n cx xs (by rw[HT,oh,his]) HV (by omega) (by simp only[ako]at abU;omega) (by simp only[af,ako]at e9;rw[hib];omega);have Hf:=grownCap_ge w n 0 e;refine⟨_,_,hr,.inr ⟨w.heap.size,grownCap w n 0 e,xs.toArray++Builtin.zeroCells z.cells (grownCap w n 0 e-n),e,by simp,fS w.drew _,?_,by simpa using Hf,grownCap_le_maxLen w _ 0 e (by simpa using ag9),?_,.inr ⟨rfl,rfl⟩⟩⟩
    ·rw[amr,VK];simp only[akr,HT,←ake];exact adq _ (by omega)
    ·simp only[am1,aj1,ako];exact al9 HT
 ·have h1:(c.toList.take (len*sz)).length=len*sz:=by have:len*sz≤cap*sz:=adq _ g6;simp;omega
  rcases hx with⟨rfl,rfl,rfl⟩|⟨a,cx,rfl,HT,HV,hx1,hcx,Wq⟩
  ·exact⟨w,_,qf hu (by omega) g6,.inr ⟨g,cap,c,T,rfl,g4,g5,by simpa using g6,g7,by simp,.inl ⟨cap,rfl,lA.refl _ _,fun _ _=>rfl⟩⟩⟩
  ·by_cases hrm:len+n≤cap
   ·have rT:len*i.size+xs.length≤c.size:=by rw[his,←oh,HT,←ake];exact ajP (adq _ hrm) g5
    have hr:=Cb (P:=P) (w:=w) t ty e T i hu hi g len cap c g4 a n cx xs (by rw[HT,oh,his]) HV hx1 hrm rT;rw[his,←oh]at hr rT;refine⟨_,_,hr,.inr ⟨g,cap,_,T,rfl,setRow_heap w g c _ T (0,0) g4,?_,hrm,g7,?_,.inl ⟨cap,rfl,lA.setRow (ajC _),fun k hk=>cv hk⟩⟩⟩
    ·simp only[akr,ags,akt,akP,akX];omega
    ·simp only[];exact al9 (by rw[ags,h1,HT,ake])
   ·have hr:=run_append_grow (P:=P) w t ty e i z hu hi hzv ⟨g,0,none⟩ len cap (c.toList.take (len*sz)) (by rw[h1,oh,his]) (fun j v hj=>by
      rw[Addr.add_mid,dy g4];simpa using(eZ hj).2) a n cx xs (by rw[HT,oh,his]) HV (by omega) (by omega)
     (growslice_fits (by omega) (by rw[hib];simpa[af]using e9))
    have Hf:=grownCap_ge w (len+n) cap e;refine⟨_,_,hr,.inr ⟨w.heap.size,_,_,e,rfl,fS w.drew _,?_,Hf,grownCap_le_maxLen w _ cap e (by omega),?_,.inr ⟨rfl,rfl⟩⟩⟩
    ·rw[amr,amr,VK];simp only[akr,HT,h1,←ake];exact adq _ (by omega)
    ·simp only[am1];exact al9 (by rw[ags,h1,HT,ake])
theorem E9{e ty:TypeId}{sz:Nat}{es new:List PV}{z:List V}(hu:E.P.underlying t=some (.slice e))(hz:dq E e=some z)(oh:sz=aV E.P e)(eF:0<aV E.P e)(hby:0<G6 E.P e)(e9:(es++new).length*G6 E.P e≤af){G:Nat→Option (List PV)}{w0:bI}{μ:Ro}{φ:Nat→aH}{m:Mem}{w:World}{ρ:Nat→Value}{f:Fr}{draw:Bool}{site:Nat}(hM:az E.P G w0 μ φ m w)(hF:cu E.P μ φ m f ρ){ys yx:Value}(hx:zp E.P μ w sz new yx)(hs:(ys=.slice none 0 0∧es=[])∨∃(g cap:Nat)(c:Array Value)(T:TypeId),ys=.slice (some ⟨g,0,none⟩) es.length cap∧w0.heap.size≤g∧μ g=none∧(∀id b',m id=some b'→¬b'.ev (φ id) g)∧w.heap[g]?=some (.cells c T (0,0))∧cap*sz≤c.size∧es.length≤cap∧cap≤maxLen∧es.length*sz≤c.size∧Cells E.P μ sz es (c.toList.take (es.length*sz))){f':Fr}{m':Mem}(wM:∀(P:Program)(G:Nat→Option (List PV))(w0:bI)(μ:Ro)(φ:Nat→aH)(w w':World)(ρ:Nat→Value)(ph:aH),az P G w0 μ φ m w→cu P μ φ m f ρ→ll P w0 μ φ m w w' site (.arr sz e (es++new)) ph→∃φ',φ' site=ph∧az P G w0 μ φ' m' w'∧cu P μ φ' m' f' ρ):∃w' y φ',(Builtin.append_ #[t,t] ty #[ys,yx]).run E.P w=.ok y w'∧az E.P G w0 μ φ' m' w'∧cu E.P μ φ' m' f' ρ∧ah E.P μ φ' (.os site) y:=by
 obtain⟨i,zv,hi,hzv,his,_,OA,_,_,_⟩:=eS hz;have HX:(es++new).length=es.length+new.length:=by simp
 obtain⟨os,hos,hC⟩:∃os,((ys=.slice none 0 0∧es.length=0∧os=[])∨∃(g cap:Nat)(c:Array Value)(T:TypeId),ys=.slice (some ⟨g,0,none⟩) es.length cap∧w.heap[g]?=some (.cells c T (0,0))∧cap*sz≤c.size∧es.length≤cap∧cap≤maxLen∧os=c.toList.take (es.length*sz))∧Cells E.P μ sz es os:=by
  rcases hs with⟨h1,rfl⟩|⟨g,cap,c,T,h1,h2,h3,h4,h5,h6,h7,h8,h9,Zb⟩
  ·exact⟨[],.inl ⟨h1,rfl,rfl⟩,.nil⟩
  ·exact⟨_,.inr ⟨g,cap,c,T,h1,h5,h6,h7,h8,rfl⟩,Zb⟩
 obtain⟨xs,HV,hCx⟩:∃xs,((yx=.slice none 0 0∧new.length=0∧xs=[])∨∃(a:Addr)(cx:Nat),yx=.slice (some a) new.length cx∧xs.length=new.length*sz∧(∀(j:Nat)v,xs[j]?=some v→w.cell? (a.add j)=some v)∧(∀v∈xs,v.oneCell'=true)∧new.length≤cx∧cx≤maxLen)∧Cells E.P μ sz new xs:=by
  cases hx with
  |none hn=>subst hn;exact⟨[],.inl ⟨rfl,rfl,rfl⟩,.nil⟩
  | @some a cx xs hC HV hcx Wq=>exact⟨xs,.inr ⟨a,cx,rfl,hC.len,HV,fun u hu=>by obtain⟨j,hj⟩:=ajX hu;exact hC.one j u hj,hcx,Wq⟩,hC⟩
 obtain⟨w',y,hr,Wr⟩:=E8 (ty:=ty) hu hi hzv (by rw[OA,oh]) oh eF hby (by rw[←HX];exact e9) hos HV;rcases Wr with⟨rfl,rfl,h1,h2⟩|⟨g',DV,c',T',rfl,b1,b2,b3,b4,b5,b6⟩
 ·have h1:es=[]:=ajB h1;have h2:new=[]:=ajB h2;obtain⟨φ',a1,a2,a3⟩:=wM E.P G w0 μ φ w' w' ρ (DU none 0 0 sz) hM hF ⟨lA.refl _ _,hM.ro,fun _ _ _ _ _=>rfl,by simp,fun φ' hp _=>by refine⟨by rw[hp,h1,h2];rfl,by rw[hp],oh,by omega,by rw[h1,h2];simp,by rw[hp];simp[maxLen],?_⟩;rw[hp];exact⟨by rw[h1,h2];rfl,rfl⟩,by simp[bR.names],fun st h=>by cases h⟩;exact⟨w',_,φ',hr,a2,a3,.s9 (by rw[a1])⟩
 ·have hCC:Cells E.P μ sz (es++new) (c'.toList.take ((es++new).length*sz)):=by rw[HX,b5];exact hC.append hCx
  have fin:∀(φ':Nat→aH),φ' site=DU (some g') DV (es++new).length sz→ah E.P μ φ' (.os site) (.slice (some ⟨g',0,none⟩) (es.length+new.length) DV):=fun φ' a1=>by have:=ah.os (P:=E.P) (μ:=μ) (φ:=φ') (id:=site) (g:=g') (by rw[a1]);rw[a1,HX]at this;exact this
  rcases b6 with⟨ZJ,hys,b6,b7⟩|⟨rfl,rfl⟩
  ·rcases hs with⟨h1,_⟩|⟨g,cap,c,_,h1,h2,h3,h4,_⟩
   ·rw[hys]at h1;cases h1
   rw[hys]at h1;simp only[Value.slice.injEq,AT,Addr.mk.injEq]at h1;obtain⟨⟨rfl,_⟩,_⟩:=h1;obtain⟨φ',a1,a2,a3⟩:=wM E.P G w0 μ φ w w' ρ (DU (some g') DV (es++new).length sz) hM hF ⟨b6.mono h2,fun k o hk=>by rw[b7 k (fun e=>by subst e;rw[h3]at hk;cases hk)];exact hM.ro k o hk,fun id b' g' av cO=>b7 g' (fun e=>by subst e;exact h4 id b' av cO),fun g' cO=>by simp only[AT]at cO;subst cO;exact⟨h2,h3,h4⟩,fun φ' hp _=>aN.pB (by rw[hp]) oh (by omega) (by rw[hp];exact b4) b1 (by rw[hp];exact b2) (by rw[hp,HX];exact b3) hCC,by simp[bR.names],fun st h=>by cases h⟩;exact⟨w',_,φ',hr,a2,a3,fin φ' a1⟩
  ·obtain⟨φ',a1,a2,a3⟩:=wM E.P G w0 μ φ w.drew _ ρ (DU (some w.heap.size) DV (es++new).length sz) hM.drew hF (ll.alloc (o:=.cells c' e) hM.drew rfl (fun φ' hp _=>aN.pB (g:=w.heap.size) (by rw[hp]) oh (by omega) (by rw[hp];exact b4) (fS w.drew _) (by rw[hp];exact b2) (by rw[hp,HX];exact b3) hCC) (by simp[bR.names]));exact⟨_,_,φ',hr,a2,a3,fin φ' a1⟩
end
section
variable {R:Type} {E:Env}
theorem OB{draw:Bool}{site:Nat}{t t':TypeId}{s x:V}{f:Fr}{m:Mem}{k:V→Fr→Mem→Option R}{r:R}(h:AR E draw site t t' s x f m k=some r):draw=false∧t'=t∧∃place f' m',k (.os place) f' m'=some r∧(m' place).isSome=true∧∀(G:Nat→Option (List PV))(w0:bI)(μ:Ro)(φ:Nat→aH)(w:World)(ρ:Nat→Value)(ys yx:Value)(ty:TypeId),az E.P G w0 μ φ m w→cu E.P μ φ m f ρ→ah E.P μ φ s ys→ah E.P μ φ x yx→∃w' y φ',(Builtin.append_ #[t,t] ty #[ys,yx]).run E.P w=.ok y w'∧az E.P G w0 μ φ' m' w'∧cu E.P μ φ' m' f' ρ∧ah E.P μ φ' (.os place) y:=by
 unfold AR at h;split at h
 ·cases h
 ·rename_i hd;simp only[ajA,amD,akQ,akL,I5,Bool.not_eq_eq_eq_not,ajx,ajT]at hd;refine⟨hd.1,by simpa using hd.2,?_⟩;split at h
  ·rename_i e hu;split at h
   ·cases h
   ·rename_i hz;obtain⟨z,hz⟩:∃z,dq E e=some z:=by
     cases hq:dq E e with
     |none=>simp[hq]at hz
     |some z=>exact⟨z,rfl⟩
    split at h
    ·rename_i new ft Ek;obtain⟨_,_,zR⟩:=oH Ek;split at h
     ·split at h
      ·rename_i hb;obtain⟨f',m',_,hk,wP,_,wM⟩:=eC h;refine⟨_,f',m',hk,by simp[wP],fun G w0 μ φ w ρ ys yx ty hM hF hs hx=>?_⟩;cases hs;exact E9 (es:=[]) (draw:=false) hu hz rfl hb.2.2 hb.2.1 (by simpa using hb.1) hM hF (zR _ _ _ _ _ _ _ hM hx) (.inl ⟨rfl,rfl⟩) wM
      ·cases h
     ·rename_i id;split at h
      ·rename_i sz et es hm;split at h
       ·rename_i hc;obtain⟨rfl,rfl,ajd⟩:=hc;split at h
        ·rename_i hb;obtain⟨f',m',_,hk,wP,_,wM⟩:=eC h;refine⟨_,f',m',hk,by simp[wP],fun G w0 μ φ w ρ ys yx ty hM hF hs hx=>?_⟩;have vw:=hM.forget id;have DW:=hF.forget id;have hA:aN E.P μ φ w id (aV E.P et) et es:=hM.dH id _ hm;have eF:0<aV E.P et:=hA.2.2.2.1;refine E9 (draw:=false) hu hz rfl eF hb.2 hb.1 vw DW (zR _ _ _ _ _ _ _ hM hx) ?_ wM;cases hs with
         |s9 hg=>have a7:=hA.2.2.2.2.2.2;rw[hg]at a7;exact .inl ⟨rfl,a7.1⟩
         | @os _ g hg=>obtain⟨c,T,c1,c2,c3,c4,c5⟩:=hA.cells hg;obtain⟨o1,o2⟩:=hM.own id _ g hm (.inl hg);refine .inr ⟨g,(φ id).cap,c,T,by rw[hA.1],o1,o2 rfl,fun j b' hj cO=>?_,c1,c2,c3,hA.pz.2,c4,c5⟩;obtain⟨cY,b2,vg,rfl⟩:=fN hj;exact cY (hM.inj j id b2 _ g vg hm (gJ.1 cO) (.inl hg))
        ·cases h
       ·cases h
      ·cases h
     ·cases h
    ·cases h
  ·cases h
theorem Jp{P:Program}{w:World}{dT ty elem:TypeId}{ts:List TypeId}{g adO dCap:Nat}{c:Array Value}{T:TypeId}{sz:Nat}{es new:List PV}{μ:Ro}{yx:Value}(hu:P.underlying dT=some (.slice elem))(oh:sz=aV P elem)(eF:0<sz)(hx:zp P μ w sz new yx)(hg:w.heap[g]?=some (.cells c T (0,0)))(hle:es.length*sz≤c.size)(hd:adO=es.length)(hC:Cells P μ sz es (c.toList.take (es.length*sz))):∃c':Array Value,(Builtin.copy_ (dT::ts).toArray ty #[.slice (some ⟨g,0,none⟩) adO dCap,yx]).run P w=.ok (goInt ((min new.length es.length:Nat):Int)) (w.setRow g c')∧c'.size=c.size∧Cells P μ sz (new.take es.length++es.drop new.length) (c'.toList.take ((new.take es.length++es.drop new.length).length*sz)):=by
 subst hd;obtain⟨i,hi,hs⟩:=yH (P:=P) (t:=elem) (by omega);have hnl:(new.take es.length++es.drop new.length).length=es.length:=by simp;omega
 rw[hnl];cases hx with
 |none hn=>subst hn;refine⟨c,?_,rfl,by simpa using hC⟩;have:=setRow_self w g c T (0,0) hg;rw[this];simp[Builtin.copy_,run_underlying hu,Builtin.lenOf,Builtin.firstCells,sizeOf,typeInfo,hi,storeCells]
 | @some a cx xs hX HV hcx Wq=>
  have T6:Nat.min new.length es.length=min new.length es.length:=rfl;have hl:(xs.take (min new.length es.length*sz)).length=min new.length es.length*i.size:=by rw[hs,←oh,akt,hX.len];exact akK (adq _ (Nat.min_le_left _ _))
  have aha:min new.length es.length*sz≤es.length*sz:=adq _ (Nat.min_le_right _ _);have hf:=run_firstCells_some (P:=P) w i.size (min new.length es.length) a new.length cx (xs.take (min new.length es.length*sz)) hl (fun j v hj=>HV j v (eZ hj).2);have N4:(xs.take (min new.length es.length*sz)).length=min new.length es.length*sz:=by rw[hl,hs,oh]
  have ov:=run_storeCells_at P g 0 T (xs.take (min new.length es.length*sz)) 0 c w hg (by rw[N4];omega) (fun v hv=>by obtain⟨j,hj⟩:=ajX hv;exact hX.one j v (eZ hj).2);simp only[ako,alh,aj1,N4]at ov;refine⟨(xs.take (min new.length es.length*sz)++c.toList.drop (min new.length es.length*sz)).toArray,?_,?_,?_⟩
  ·have adP:Nat.min new.length es.length=min new.length es.length:=rfl;simp[Builtin.copy_,run_underlying hu,Builtin.lenOf,sizeOf,typeInfo,hi,adP,hf,ov]
  ·simp only[akr,ags,N4,akP,akX];omega
  ·have e1:(xs.take (min new.length es.length*sz)++c.toList.drop (min new.length es.length*sz)).take (es.length*sz)=xs.take (min new.length es.length*sz)++(c.toList.take (es.length*sz)).drop (min new.length es.length*sz):=by rw[List.take_append,N4,List.drop_take,aj8 (by rw[N4];exact aha)]
   simp only[];rw[e1];have h1:=(hX.take (min new.length es.length)).append (hC.drop (min new.length es.length));have e2:new.take (min new.length es.length)=new.take es.length:=by
    rcases am5 new.length es.length with hh|hh
    ·rw[akK hh,akh,aj8 hh]
    ·rw[alW hh]
   have e3:es.drop (min new.length es.length)=es.drop new.length:=by
    rcases am5 new.length es.length with hh|hh
    ·rw[akK hh]
    ·rw[alW hh,ajS,ald hh]
   rw[e2,e3]at h1;exact h1
theorem HY{R:Type}(m:Mem)(sz:Nat)(x:V)(k:List PV→bG→Option R):Jd m sz x k=(eX m sz x).bind fun p=>k p.1 p.2:=by
 cases x with
 |wR id i off=>
  simp only[Jd,eX];cases hm:m id with
  |none=>rfl
  |some b=>
   cases b with
   |nest s e es=>
    simp only;cases es[i]? with
    |none=>rfl
    |some e=>simp only[ajH];cases fh sz (cell e off)<;>rfl
   |_=>rfl
 |_=>
  simp only[Jd];generalize eX m sz _=o;cases o with
  |none=>rfl
  |some p=>rfl
theorem Ws{t:TypeId}{d x:V}{m:Mem}{k:V→Mem→bG→Option R}{r:R}(h:K7 E t d x m k=some r):∃n id b ft,(∀m2:Mem,(∀x∈((true,id)::ft:bG),m2 x.2=m x.2)→∀(R':Type)(k':V→Mem→bG→Option R'),K7 E t d x m2 k'=k' (.pv (.int .i64 n)) (aq m2 id b) ((true,id)::ft))∧k (.pv (.int .i64 n)) (aq m id b) ((true,id)::ft)=some r∧∀(G:Nat→Option (List PV))(w0:bI)(μ:Ro)(φ:Nat→aH)(w:World)(ρ:Nat→Value)(f:Fr)(yd yx:Value)(ts:List TypeId)(ty:TypeId),az E.P G w0 μ φ m w→cu E.P μ φ m f ρ→ah E.P μ φ d yd→ah E.P μ φ x yx→∃w' φ',(Builtin.copy_ (t::ts).toArray ty #[yd,yx]).run E.P w=.ok (.int .i64 n) w'∧az E.P G w0 μ φ' (aq m id b) w'∧cu E.P μ φ' (aq m id b) f ρ∧(Lit.int .i64 n).wf=true:=by
 unfold K7 at h;split at h
 ·rename_i e hu;split at h
  ·rename_i id;split at h
   ·rename_i sz et es hm;split at h
    ·rename_i hc;rw[HY]at h;obtain⟨⟨new,ft⟩,Ek,h⟩:=BY.1 h
     ·obtain⟨Lo,_,zR⟩:=oH Ek;refine⟨_,id,_,ft,fun m2 c9 R' k'=>?_,h,fun G w0 μ φ w ρ f yd yx ts ty hM hF hd hx=>?_⟩
      ·have h1:=c9 (true,id) (by simp);simp only at h1;simp only[K7,hu,h1,hm];rw[BK hc,HY];simp only[Lo m2 (fun y hy=>c9 y (by simp[hy])),ajH]
      ·have hA:aN E.P μ φ w id sz et es:=hM.dH id _ hm;have hS:=zR _ _ _ _ _ _ _ hM hx;have hle:=hA.pz;have hlen:(new.take es.length++es.drop new.length).length=es.length:=by simp;omega
       have AX:(Lit.int .i64 ((min new.length es.length:Nat):Int)).wf=true:=EY (by omega);cases hd with
       |s9 hg=>
        have a7:=hA.2.2.2.2.2.2;rw[hg]at a7;have h0:=a7.1;subst h0;refine⟨w,φ,?_,?_,?_,AX⟩
        ·obtain⟨i,hi,hs⟩:=yH (P:=E.P) (t:=e) (by have:=hA.2.2.2.1;omega);have N8:∀x:Addr,(loadCells x 0).run E.P w=.ok #[] w:=fun x=>by simpa using run_loadCells_list (P:=E.P) w x [] (by simp)
         cases hS with
         |none hn=>subst hn;simp[Builtin.copy_,run_underlying hu,Builtin.lenOf,Builtin.firstCells,sizeOf,typeInfo,hi,hA.1,goInt]
         |some xs hX HV hcx Wq=>simp[Builtin.copy_,run_underlying hu,Builtin.lenOf,Builtin.firstCells,sizeOf,typeInfo,hi,hA.1,N8,goInt]
        ·have:aq m id (.arr sz et (new.take ([]:List PV).length++([]:List PV).drop new.length))=m:=by
          funext j;by_cases e:j=id
          ·subst e;simp[hm]
          ·rw[aw e]
         rw[this];exact hM
        ·exact hF.ni (fun _ _ h=>h) .set
       | @os _ g hg=>
        obtain⟨c,T,c1,c2,c3,c4,c5⟩:=hA.cells hg;obtain⟨c',r1,r2,r3⟩:=Jp (ts:=ts) (ty:=ty) (dCap:=(φ id).cap) hu hc.1 hA.2.2.2.1 hS c1 c4 hA.1 c5;refine⟨_,φ,r1,hM.write hm rfl hg (lA.setRow (ajC _)) setRow_size (fun k hk=>cv hk) ?_ rfl (by simp[bR.names]),hF.ni (fun _ _ h=>h) .set,AX⟩;refine aN.pB (g:=g) ?_ hA.2.2.1 hA.2.2.2.1 hle.2 (setRow_heap w g c c' T (0,0) c1) (by rw[r2];exact c2) (by rw[hlen];exact c3) r3;rw[hlen,←hA.1,←hA.2.1];cases hq:(φ id).toDd with
        |mk a b c d=>rw[hq]at hg;simp only at hg;simp[hg]
    ·cases h
   ·cases h
  ·cases h
 ·cases h
end
end Go.Ab
