import Derived.Test.YtmbihgjlollbeaaGreatAbP2
import Derived.Great.BuildSlice
import Derived.Laws.AppendOwn
import Derived.Laws.MakeOwn
set_option linter.all false
namespace Go.Ab
open Go.RowKit (Below)
structure bR(P:Program)(μ:Ro)(φ:Nat→aA)(m:Mem)(f:Fr)(ρ:Nat→Value):Prop where
 fr:∀t,af P μ φ (f t) (ρ t)
 live:∀t id,(f t).has id=true→(m id).isSome=true
section
variable {P:Program} {G:Nat→Option (List PV)} {w0:bA} {μ μ':Ro} {φ φ':Nat→aA} {m m':Mem} {w w':World} {f:Fr} {ρ:Nat→Value}
theorem bR.mono(h:bR P μ φ m f ρ)(hμ:∀b o,μ b=some o→μ' b=some o)(hφ:∀id,(m id).isSome=true→φ' id=φ id∧(m' id).isSome=true):bR P μ' φ' m' f ρ:=⟨fun t=>(h.fr t).mono hμ fun id hid=>(hφ id (h.live t id hid)).1,fun t id hid=>(hφ id (h.live t id hid)).2⟩
theorem fJ{id j:Nat}{b:bH}(h:bh (bE id m) id j=some b):j≠id∧∃b',m j=some b'∧b=gv id b':=by
 by_cases e:j=id
 ·subst e;simp at h
 simp_all[gn,EW]
theorem tS{id j:Nat}(h:j≠id)(hm:(m j).isSome=true):(bh (bE id m) id j).isSome=true:=by grind [gn,bE]
theorem bR.forget(h:bR P μ φ m f ρ)(id:Nat):bR P μ φ (bh (bE id m) id) (eS id f) ρ:=by refine⟨fun t=>(h.fr t).kill id,fun t j hj=>?_⟩;obtain⟨h1,h2⟩:=xy hj;exact tS h2 (h.live t j h1)
theorem av.put(hM:av P G w0 μ φ m w){site:Nat}{b:bH}{ph:aA}(hs:m site=none)(NA:lM w0.heap.size w w')(wA:∀k o,μ k=some o→w'.heap[k]?=some o)(hold:∀id b' g,m id=some b'→b'.owns (φ id) g→w'.heap[g]?=w.heap[g]?)(Ci:∀g,b.owns ph g→w0.heap.size≤g∧μ g=none∧∀id b',m id=some b'→¬b'.owns (φ id) g)(G7:b.apart ph)(hB:gM P μ (fun i=>if i=site then ph else φ i) w' site b)(hn:∀id,b.names id=true→(m id).isSome=true)(hlp:∀st,b=.loop st→∃g rc,ph.g=some g∧w0.rc site=some (g,rc)∧w'.heap[g]?=some (.loop (st.obj rc))):av P G w0 μ (fun i=>if i=site then ph else φ i) (ao m site b) w':=by
 refine⟨hM.below.trans NA,wA,hM.aG,fun id b' hid=>?_,fun id b' g hid hg=>?_,fun UY id2 b1 b2 g h1 h2 g1 g2=>?_,fun id b' hid=>?_,fun j cs id hj hh=>?_,hM.base,hM.dC,fun id st hid=>?_⟩
 rotate_right
 ·by_cases h:id=site
  ·simp_all
  ·rw[aq h]at hid;obtain⟨g,rc,h1,h2,h3⟩:=hM.C5 id st hid;exact⟨g,rc,by simp_all,h2,by rw[hold id _ g hid (.inl h1)];omega⟩
 ·by_cases h:id=site
  ·simp_all
  ·rw[aq h]at hid;have hR:=hM.dy id b' hid;refine hR.cj (fun j hj=>?_) (by simp[h]) (fun _ _ h=>h) (fun g hg=>hold id b' g hid hg);have:=hM.Ny hid hj;grind
 ·by_cases h:id=site
  ·simp_all
  ·rw[aq h]at hid;simp only[h,abp]at hg;exact hM.own id b' g hid hg
 ·by_cases e1:UY=site
  ·by_cases e2:id2=site
   ·omega
   simp_all[bL,cO,Ko,aq,abp]
  ·by_cases e2:id2=site
   ·simp_all[bL,cO,Ko,aq,abp]
   ·rw[aq e1]at h1;rw[aq e2]at h2;simp only[e1,abp]at g1;simp only[e2,abp]at g2;exact hM.inj UY id2 b1 b2 g h1 h2 g1 g2
 ·by_cases h:id=site
  ·simp_all
  ·rw[aq h]at hid;simp only[h,abp];exact hM.apart id b' hid
 ·by_cases e:id=site
  ·subst e;simp
  ·rw[aq e];by_cases h:j=site
   ·subst h;rw[bL]at hj;simp only[cO]at hj;subst hj;exact hn id hh
   ·rw[aq h]at hj;exact hM.fT j cs id hj hh
end
section
variable {R:Type} {E:Env}
structure lH(P:Program)(w0:bA)(μ:Ro)(φ:Nat→aA)(m:Mem)(w w':World)(site:Nat)(b:bH)(ph:aA):Prop where
 below:lM w0.heap.size w w'
 ro:∀k o,μ k=some o→w'.heap[k]?=some o
 nf:∀id b' g,m id=some b'→b'.owns (φ id) g→w'.heap[g]?=w.heap[g]?
 own:∀g,ph.g=some g→w0.heap.size≤g∧μ g=none∧∀id b',m id=some b'→¬b'.owns (φ id) g
 rep:∀φ',φ' site=ph→(∀id,b.names id=true→φ' id=φ id)→gM P μ φ' w' site b
 names:∀id,b.names id=true→(m id).isSome=true
 lp:∀st,b=.loop st→∃g rc,ph.g=some g∧w0.rc site=some (g,rc)∧w'.heap[g]?=some (.loop (st.obj rc)):=by intro st h;cases h
theorem ef{draw:Bool}{site:Nat}{b:bH}{f:Fr}{m:Mem}{k:Fr→Mem→bq→Option R}{r:R}(h:fresh draw site b f m k=some r)(Na:∀i off,b.rowAt i off=true→False:=by intro i off h;simp[bH.rowAt]at h):∃f' m',(∀(R':Type)(k':Fr→Mem→bq→Option R'),fresh draw site b f m k'=k' f' m' [(true,site)])∧k f' m' [(true,site)]=some r∧m' site=some b∧(draw=true→m site=none∧f'=f∧m'=ao m site b)∧(∀(P:Program)(G:Nat→Option (List PV))(w0:bA)(μ:Ro)(φ:Nat→aA)(w w':World)(ρ:Nat→Value)(ph:aA),av P G w0 μ φ m w→bR P μ φ m f ρ→lH P w0 μ φ m w w' site b ph→∃φ',φ' site=ph∧av P G w0 μ φ' m' w'∧bR P μ φ' m' f' ρ):=by
 unfold fresh at h;cases hs:m site with
 |none=>
  simp only[hs]at h;refine⟨f,ao m site b,fun R' k'=>by simp only[fresh,hs],h,by simp,fun _=>⟨rfl,rfl,rfl⟩,fun P G w0 μ φ w w' ρ ph hM hF hp=>?_⟩;have K4:∀id,(m id).isSome=true→id≠site:=fun id hid e=>by simp_all
  refine⟨fun i=>if i=site then ph else φ i,by simp,hM.put hs hp.below hp.ro hp.nf (fun g hg=>hp.own g (pA Na hg)) (sf Na) (hp.rep _ (by simp) fun id hid=>by simp[K4 id (hp.names id hid)]) hp.names hp.lp,?_⟩;exact hF.mono (fun _ _ h=>h) fun id hid=>⟨by simp[K4 id hid],by grind [aq,id]⟩
 |some b0=>
  simp only[hs]at h;split at h
  ·cases h
  ·rename_i hc;simp only[akp,ana,ak3]at hc;refine⟨eS site f,ao (bE site m) site b,fun R' k'=>by simp only[fresh,hs];simp[hc],h,by simp,fun hd=>(by simp_all),fun P G w0 μ φ w w' ρ ph hM hF hp=>?_⟩;have vF:=hM.forget site;have DS:=hF.forget site;have hs1:bh (bE site m) site site=none:=by simp
   have K4:∀id,(bh (bE site m) site id).isSome=true→id≠site:=fun id hid e=>by subst e;simp at hid
   have hnm:∀id,b.names id=true→id≠site:=fun id hid e=>by simp_all
   refine⟨fun i=>if i=site then ph else φ i,by simp,?_,?_⟩
   ·rw[←zI];refine vF.put hs1 hp.below hp.ro (fun id b' g hid hg=>?_) (fun g hg=>?_) (sf Na) (hp.rep _ (by simp) fun id hid=>by simp[hnm id hid]) (fun id hid=>tS (hnm id hid) (hp.names id hid)) hp.lp
    ·obtain⟨_,b2,uQ,rfl⟩:=fJ hid;exact hp.nf id b2 g uQ (gp.1 hg)
    ·obtain⟨h1,h2,h3⟩:=hp.own g (pA Na hg);refine⟨h1,h2,fun id b' hid ho=>?_⟩;obtain⟨_,b2,uQ,rfl⟩:=fJ hid;exact h3 id b2 uQ (gp.1 ho)
   ·rw[←zI];exact DS.mono (fun _ _ h=>h) fun id hid=>⟨by simp[K4 id hid],by grind [aq,id]⟩
theorem lH.alloc{P:Program}{G:Nat→Option (List PV)}{w0:bA}{μ:Ro}{φ:Nat→aA}{m:Mem}{w:World}{site:Nat}{b:bH}{ph:aA}{o:Obj}(hM:av P G w0 μ φ m w)(ZR:ph.g=some w.heap.size)(rep:∀φ',φ' site=ph→(∀id,b.names id=true→φ' id=φ id)→gM P μ φ' (w.alloc o) site b)(names:∀id,b.names id=true→(m id).isSome=true)(lp:∀st,b=.loop st→∃g rc,ph.g=some g∧w0.rc site=some (g,rc)∧(w.alloc o).heap[g]?=some (.loop (st.obj rc)):=by intro st h;cases h):lH P w0 μ φ m w (w.alloc o) site b ph:=by
 have oP:w0.heap.size≤w.heap.size:=hM.below.size;refine⟨(lM.refl _ w).alloc oP o,fun k o' hk=>?_,fun id b' g hid hg=>lM.heap_alloc w o g ((hM.dy id b' hid).EV hg),fun g hg=>?_,rep,names,lp⟩
 ·have:=hM.ro k o' hk;grind [lM.heap_alloc]
 ·rw[ZR]at hg;simp only[cO]at hg;subst hg;refine⟨oP,?_,fun id b' hid hg=>?_⟩
  ·cases hq:μ w.heap.size with
   |none=>rfl
   |some o'=>have:=hM.ro _ _ hq;simp at this
  ·have:=(hM.dy id b' hid).EV hg;omega
theorem fM(w:World)(o:Obj):(w.alloc o).heap[w.heap.size]?=some o:=heap_alloc_new w o
variable{t:TypeId}
theorem eu{cs:List V}(h:cZ E t=some cs):∃i z,E.P.info? t=some i∧i.zero=some z∧i.size=aN E.P t∧cs.length=aN E.P t∧z.cells.size=aN E.P t∧(∀id,b8 id cs=false)∧(∀(μ:Ro)(φ:Nat→aA)(i:Nat)u y,cs[i]?=some u→z.cells[i]?=some y→af E.P μ φ u y)∧(∀(i:Nat)(y:Value),z.cells[i]?=some y→y.oneCell'=true):=by
 unfold cZ zeroV at h;cases hi:E.P.info? t with
 |none=>simp[hi]at h
 |some i=>
  cases hz:i.zero with
  |none=>simp[hi,hz]at h
  |some z=>
   simp only[hi,hz,akj,akb]at h;obtain⟨h1,h2,h3⟩:=toCells_ok h;obtain⟨h4,_,h6⟩:=h3 E.P (fun _=>none) (fun _=>default) z (uM z);refine⟨i,z,rfl,hz,by simp[aN,hi],h1,h4,fun id=>?_,fun μ φ i u y hu hy=>(h3 E.P μ φ z (uM z)).2.1 i u y hu hy,h6⟩;cases hh:b8 id cs with
   |false=>rfl
   |true=>grind [id,HC]
variable{P:Program}{w:World}
theorem pB{i:TypeInfo}{z:Value}(hi:P.info? t=some i)(hz:i.zero=some z):(zeroValue t).run P w=.ok z w:=by simp[zeroValue,typeInfo,hi,hz]
theorem Cn{i:TypeInfo}{z:Value}(hi:P.info? t=some i)(hz:i.zero=some z):(Instr.alloc t true (.tuple #[])).run P w=.ok (.pointer (some ⟨w.heap.size,0,none⟩)) (w.alloc (.cells z.cells t)):=by simp[Instr.alloc,pB hi hz,newVar,newRow]
theorem P5{v:Value}:(Instr.box t v).run P w=.ok (.pointer (some ⟨w.heap.size,0,none⟩)) (w.alloc (.cells v.cells t)):=by rfl
variable{c:Array Value}
theorem lH.box{G:Nat→Option (List PV)}{w0:bA}{μ:Ro}{φ:Nat→aA}{m:Mem}{site:Nat}{cs:List V}{T:TypeId}(hM:av P G w0 μ φ m w)(hl:c.size=cs.length)(hv:∀(i:Nat)u y,cs[i]?=some u→c[i]?=some y→af P μ φ u y)(h1:∀(i:Nat)(y:Value),c[i]?=some y→y.oneCell'=true)(hn:∀id,b8 id cs=true→(m id).isSome=true):lH P w0 μ φ m w (w.alloc (.cells c T)) site (.box cs) (DQ (some w.heap.size) 0 cs.length 0):=by refine lH.alloc hM (by rfl) (fun φ' hφ Zm=>⟨w.heap.size,c,T,by rw[hφ],fM w _,hl,fun i u y hu hy=>?_,h1,by rw[hφ]⟩) hn;exact(hv i u y hu hy).mono (fun _ _ h=>h) fun id hid=>Zm id (bJ (aeB hu) hid)
theorem kV(h:aN P t≠0):(P.info? t).map (·.size)=some (aN P t):=by simp_all[yV]
theorem da{T:Type}{cs new:List T}{off i:Nat}{x:T}(hb:off+new.length≤cs.length)(h:(bI cs off new)[i]?=some x):(off≤i∧i<off+new.length∧new[i-off]?=some x)∨((i<off∨off+new.length≤i)∧cs[i]?=some x):=by rw[dU]at h;rw[akh,akA]at h;grind
theorem cn{T:Type}{cs new:List T}{off:Nat}(hb:off+new.length≤cs.length):(bI cs off new).length=cs.length:=by simp[dU];omega
variable{g:Nat}
theorem gq{v:Value}{o:Nat}{T:TypeId}(hz:v.cells.size=aN P t)(hi:(P.info? t).map (·.size)=some (aN P t))(hg:w.heap[g]?=some (.cells c T (0,0)))(hb:o+v.cells.size≤c.size)(h1:∀(i:Nat)(y:Value),v.cells[i]?=some y→y.oneCell'=true):(Instr.storeAt t (.pointer (some ⟨g,o,none⟩)) v).run P w=.ok () (w.setRow g (bI c.toList o v.cells.toList).toArray):=by
 have vp:=run_storeCells_at P g o T v.cells.toList 0 c w hg (by omega) (fun x hx=>by grind [List.getElem?_of_mem]);have oP:(sizeOf t).run P w=.ok (aN P t) w:=by
  cases hq:P.info? t with
  |none=>simp[hq]at hi
  |some i=>simp[sizeOf,typeInfo,hq,aN]
 simp only[Instr.storeAt,Instr.sureAddr,storeVar,Sem.run_bind,Sem.run_pure,Result.andThen_ok,oP,hz,ne_eq,not_true_eq_false,abp,vp,alp];rw[dU];try rfl
variable{xs:Array Value}
theorem bT{k:Nat}(h:k≠g):(w.setRow g xs).heap[k]?=w.heap[k]?:=by simp_all[World.setRow,alu,Ne.symm]
theorem setRow_size:(w.setRow g xs).heap.size=w.heap.size:=by simp[World.setRow]
theorem lM.setRow{B:Nat}(h:B≤g):lM B w (w.setRow g xs):=⟨⟨rfl,rfl,rfl,anc setRow_size.symm,fun k hk=>bT (by omega)⟩,fun _=>akk _⟩
end
section
variable {P:Program} {G:Nat→Option (List PV)} {w0:bA} {μ:Ro} {φ:Nat→aA} {m m':Mem} {w:World}
def ky(m m':Mem):Prop:=∀id,(m id).isSome=true→(m' id).isSome=true
theorem ky.refl(m:Mem):ky m m:=fun _ h=>h
theorem ky.trans{a b c:Mem}(h:ky a b)(k:ky b c):ky a c:=fun id hid=>k id (h id hid)
variable{id:Nat}
theorem ky.set{b:bH}:ky m (ao m id b):=fun j hj=>by
 by_cases e:j=id
 ·subst e;simp
 ·rw[aq e];omega
theorem bR.nA{f:Fr}{ρ:Nat→Value}{μ':Ro}(h:bR P μ φ m f ρ)(hμ:∀b o,μ b=some o→μ' b=some o)(hl:ky m m'):bR P μ' φ m' f ρ:=h.mono hμ fun id hid=>⟨rfl,hl id hid⟩
variable{v:V}{p:PV}
theorem P6(h:Ev m v=some (p,m')):ky m m'∧∀(P:Program)(G:Nat→Option (List PV))(w0:bA)(μ:Ro)(φ:Nat→aA)(w:World)(x:Value),av P G w0 μ φ m w→af P μ φ v x→∃μ',(∀b o,μ b=some o→μ' b=some o)∧av P G w0 μ' φ m' w∧ah P μ' p x:=by
 unfold Ev at h;split at h
 ·simp only[cO,Ua]at h;obtain⟨rfl,rfl⟩:=h;exact⟨.refl _,fun P G w0 μ φ w x hM hx=>⟨μ,fun _ _ h=>h,hM,by cases hx with|pv hx=>omega⟩⟩
 ·simp only[cO,Ua]at h;obtain⟨rfl,rfl⟩:=h;exact⟨.refl _,fun P G w0 μ φ w x hM hx=>⟨μ,fun _ _ h=>h,hM,by cases hx;exact .lG⟩⟩
 ·rename_i id;split at h
  ·rename_i s et es hm;simp only[cO,Ua]at h;obtain⟨rfl,rfl⟩:=h;refine⟨.set,fun P G w0 μ φ w x hM hx=>⟨_,mG hM (φ id).g,hM.freeze hm,?_⟩⟩;refine(hM.arr (.inl hm)).full hM hx (mG hM _) fun g hg=>?_;simp[qM,hg]
  ·rename_i s et es hm;simp only[cO,Ua]at h;obtain⟨rfl,rfl⟩:=h;refine⟨.refl _,fun P G w0 μ φ w x hM hx=>⟨μ,fun _ _ h=>h,hM,?_⟩⟩;refine(hM.arr (.inr hm)).full hM hx (fun _ _ h=>h) fun g hg=>?_;obtain⟨o,ho⟩:=akq.1 ((hM.dy id _ hm).2 g hg);rw[ho,hM.ro _ _ ho]
  ·rename_i s et es hm;simp only[cO,Ua]at h;obtain⟨rfl,rfl⟩:=h;refine⟨.set,fun P G w0 μ φ w x hM hx=>⟨_,sg hM _,hM.P4 hm,?_⟩⟩;have U8:=hM.P4 hm;have hF:aH P _ φ w id s et (es.map PV.strip):=(U8.dy id _ (bL _ _ _)).1;refine hF.HI (hx.zD (sg hM _)) (fun _ _ h=>h) fun g hg=>?_;unfold uR;rw[AI (show(bH.nest s et es).owns (φ id) g from .inl hg)]
  ·cases h
 ·cases h
theorem HO(h:Ev cP v=some (p,m')):∀(P:Program)(μ:Ro)(φ:Nat→aA)(x:Value),af P μ φ v x→ah P μ p x:=by
 unfold Ev at h;split at h
 ·simp only[cO,Ua]at h;obtain⟨rfl,rfl⟩:=h;exact fun P μ φ x hx=>by cases hx with|pv hx=>omega
 ·simp only[cO,Ua]at h;obtain⟨rfl,rfl⟩:=h;exact fun P μ φ x hx=>by cases hx;exact .lG
 ·simp[cP]at h
 ·cases h
theorem si(h:Ev cP v=some (p,m')):m'=cP:=by unfold Ev at h;grind [Option.some.injEq,Prod.mk.injEq,cP]
theorem EY:∀{cs:List V}{m m':Mem}{ps:List PV},mY m cs=some (ps,m')→ky m m'∧ps.length=cs.length∧∀(P:Program)(G:Nat→Option (List PV))(w0:bA)(μ:Ro)(φ:Nat→aA)(w:World)(X:Nat→Value),av P G w0 μ φ m w→(∀(i:Nat)u,cs[i]?=some u→af P μ φ u (X i))→∃μ',(∀b o,μ b=some o→μ' b=some o)∧av P G w0 μ' φ m' w∧∀(i:Nat)p,ps[i]?=some p→ah P μ' p (X i)
 |[],m,m',ps,h=>by simp only[mY,cO,Ua]at h;obtain⟨rfl,rfl⟩:=h;exact⟨.refl _,rfl,fun P G w0 μ φ w X hM _=>⟨μ,fun _ _ h=>h,hM,by simp⟩⟩
 |c::r,m,m',ps,h=>by
  simp only[mY]at h;split at h
  ·rename_i p m1 h1;split at h
   ·rename_i ps1 m2 h2;simp only[cO,Ua]at h;obtain⟨rfl,rfl⟩:=h;obtain⟨a1,a2⟩:=P6 h1;obtain⟨b1,b2,b3⟩:=EY h2;refine⟨a1.trans b1,by simp[b2],fun P G w0 μ φ w X hM hx=>?_⟩;obtain⟨μ1,c1,c2,c3⟩:=a2 P G w0 μ φ w (X 0) hM (hx 0 c (by simp));obtain⟨μ2,d1,d2,d3⟩:=b3 P G w0 μ1 φ w (fun i=>X (i+1)) c2 (fun i u hu=>(hx (i+1) u (by simpa using hu)).zD c1);refine⟨μ2,fun b o h=>d1 b o (c1 b o h),d2,fun i q hq=>?_⟩;cases i with
    |zero=>simp at hq;subst hq;exact c3.mono d1
    |succ i=>simp_all
   ·cases h
  ·cases h
theorem Al:∀{cs:List V}{m':Mem}{ps:List PV},mY cP cs=some (ps,m')→ps.length=cs.length∧∀(P:Program)(μ:Ro)(φ:Nat→aA)(X:Nat→Value),(∀(i:Nat)u,cs[i]?=some u→af P μ φ u (X i))→∀(i:Nat)p,ps[i]?=some p→ah P μ p (X i)
 |[],m',ps,h=>by simp only[mY,cO,Ua]at h;simp_all
 |c::r,m',ps,h=>by
  simp only[mY]at h;split at h
  ·rename_i p m1 h1;split at h
   ·rename_i ps1 m2 h2;simp only[cO,Ua]at h;obtain⟨rfl,rfl⟩:=h;have:=si h1;subst this;obtain⟨b2,b3⟩:=Al h2;refine⟨by simp[b2],fun P μ φ X hx i q hq=>?_⟩;cases i with
    |zero=>simp at hq;subst hq;exact HO h1 P μ φ _ (hx 0 c (by simp))
    |succ i=>exact b3 P μ φ (fun i=>X (i+1)) (fun i u hu=>hx (i+1) u (by simpa using hu)) i q (by simpa using hq)
   ·cases h
  ·cases h
structure tT(P:Program)(μ:Ro)(n:Nat)(p:PV)(x:Value):Prop where
 len:p.cells.length=n
 size:x.cells.size=n
 rep:∀(j:Nat)q y,p.cells[j]?=some q→x.cells[j]?=some y→ah P μ q y
 one:∀(j:Nat)y,x.cells[j]?=some y→y.oneCell'=true
variable{n:Nat}{agg:Bool}
theorem zK{P:Program}{μ:Ro}{ps:List PV}{x:Value}(hp:(if agg then some (.agg ps)else match ps with|[p]=>some p|_=>none)=some p)(hl:ps.length=n)(hs:x.cells.size=n)(hr:∀(j:Nat)q y,ps[j]?=some q→x.cells[j]?=some y→ah P μ q y)(h1:∀(j:Nat)y,x.cells[j]?=some y→y.oneCell'=true):tT P μ n p x:=by
 have hc:p.cells=ps:=by
  cases agg with
  |true=>simp at hp;subst hp;rfl
  |false=>
   simp only[cQ,abp]at hp;split at hp
   ·rename_i q;simp only[cO]at hp;subst hp;have bZ:0<x.cells.size:=by simp at hl;omega
    have hr0:=hr 0 q _ (by simp) (OF bZ);have Zn:=h1 0 _ (OF bZ);generalize x.cells[0]=y at hr0 Zn;cases q<;>first|rfl|(cases hr0;simp[Value.oneCell']at Zn)
   ·cases hp
 exact⟨by rw[hc];omega,hs,by rw[hc];omega,h1⟩
theorem EZ{m m':Mem}(h:kR m n agg v=some (p,m')):ky m m'∧∀(P:Program)(G:Nat→Option (List PV))(w0:bA)(μ:Ro)(φ:Nat→aA)(w:World)(x:Value),av P G w0 μ φ m w→af P μ φ v x→∃μ',(∀b o,μ b=some o→μ' b=some o)∧av P G w0 μ' φ m' w∧tT P μ' n p x:=by
 unfold kR at h;split at h
 ·rename_i cs hc;obtain⟨c1,c2,c3⟩:=toCells_ok hc;split at h
  ·rename_i ps m1 hf;obtain⟨f1,f2,f3⟩:=EY hf;have hp:(if agg then some (.agg ps)else match ps with|[p]=>some p|_=>none)=some p∧m1=m':=by grind
   obtain⟨hp,rfl⟩:=hp;refine⟨f1,fun P G w0 μ φ w x hM hx=>?_⟩;obtain⟨d1,d2,d3⟩:=c3 P μ φ x hx;have hX:∀(i:Nat),i<cs.length→x.cells[i]?=some (x.cells.getD i undef):=fun i hi=>by simp_all
   obtain⟨μ',e1,e2,e3⟩:=f3 P G w0 μ φ w (fun i=>x.cells.getD i undef) hM fun i u hu=>d2 i u _ hu (hX i (By.1 hu).1);refine⟨μ',e1,e2,zK hp (by omega) d1 (fun j q y hq hy=>?_) d3⟩;grind
  ·cases h
 ·cases h
theorem Bb{m':Mem}(h:kR cP n agg v=some (p,m')):∀(P:Program)(μ:Ro)(φ:Nat→aA)(x:Value),af P μ φ v x→tT P μ n p x:=by
 unfold kR at h;split at h
 ·rename_i cs hc;obtain⟨c1,c2,c3⟩:=toCells_ok hc;split at h
  ·rename_i ps m1 hf;obtain⟨f2,f3⟩:=Al hf;have hp:(if agg then some (.agg ps)else match ps with|[p]=>some p|_=>none)=some p:=by grind
   refine fun P μ φ x hx=>?_;obtain⟨d1,d2,d3⟩:=c3 P μ φ x hx;have hX:∀(i:Nat),i<cs.length→x.cells[i]?=some (x.cells.getD i undef):=fun i hi=>by simp_all
   have e3:=f3 P μ φ (fun i=>x.cells.getD i undef) fun i u hu=>d2 i u _ hu (hX i (By.1 hu).1);refine zK hp (by omega) d1 (fun j q y hq hy=>?_) d3;grind
  ·cases h
 ·cases h
theorem K5{draw:Bool}{m m':Mem}(h:xp draw m n agg v=some (p,m')):ky m m'∧(draw=true→m'=m∧∀m2:Mem,xp true m2 n agg v=some (p,m2))∧∀(P:Program)(G:Nat→Option (List PV))(w0:bA)(μ:Ro)(φ:Nat→aA)(w:World)(x:Value),av P G w0 μ φ m w→af P μ φ v x→∃μ',(∀b o,μ b=some o→μ' b=some o)∧av P G w0 μ' φ m' w∧tT P μ' n p x:=by
 unfold xp at h;split at h
 ·rename_i hd;split at h
  ·rename_i q m1 hf;simp only[cO,Ua]at h;obtain⟨rfl,rfl⟩:=h;exact⟨.refl _,fun _=>⟨rfl,fun m2=>by simp[xp,hf]⟩,fun P G w0 μ φ w x hM hx=>⟨μ,fun _ _ h=>h,hM,Bb hf P μ φ x hx⟩⟩
  ·cases h
 grind [EZ,absurd]
theorem aH.set{P:Program}{μ:Ro}{φ:Nat→aA}{w:World}{id sz:Nat}{et:TypeId}{es:List PV}(hA:aH P μ φ w id sz et es){g:Nat}(hg:(φ id).g=some g){i off n:Nat}{e p q:PV}{x:Value}(he:es[i]?=some e)(hE:tT P μ n p x)(hb:off+n≤sz)(hq:q.cells=bI (aC sz e) off p.cells):∃c T,w.heap[g]?=some (.cells c T (0,0))∧i*sz+off+x.cells.size≤c.size∧aH P μ φ (w.setRow g (bI c.toList (i*sz+off) x.cells.toList).toArray) id sz et (es.set i q):=by
 obtain⟨a1,a2,a3,a4,a5,a6,a7⟩:=hA;rw[hg]at a7;obtain⟨c,T,c1,c2,c3,c4,c5⟩:=a7;have hi:i<es.length:=(By.1 he).1;have Nb:i*sz+off+n≤c.size:=by have:(i+1)*sz≤(φ id).cap*sz:=ahw _ (by omega);grind
 have K6:x.cells.toList.length=n:=by simpa using hE.size
 have HJ:(aC sz e).length=sz:=aW _ _;have hql:q.cells.length=sz:=by rw[hq,cn (by rw[HJ,hE.len];omega),HJ]
 have y7:(bI c.toList (i*sz+off) x.cells.toList).length=c.size:=by simp_all[cn]
 have qY:∀(i':Nat)e',(es.set i q)[i']?=some e'→(i'=i∧e'=q)∨(i'≠i∧es[i']?=some e'):=by grind
 refine⟨c,T,c1,by rw[hE.size];omega,?_⟩;refine⟨by simp[a1],a2,a3,a4,fun i' e' h'=>?_,a6,?_⟩
 ·grind
 ·rw[hg];refine⟨_,T,setRow_heap w g c _ T (0,0) c1,by simp[y7,c2],by simpa using c3,fun i' e' j p' x' h' hj hx=>?_,fun j x' hj hx=>?_⟩
  ·rw[akH]at hx;rcases da (by simp[hE.size];omega) hx with⟨b1,b2,b3⟩|⟨b1,b2⟩
   ·rw[K6]at b2;have hii:i'=i∧e'=q:=by
     rcases qY i' e' h' with h|⟨cK,h'⟩
     ·omega
     ·exfalso;have Am:=(By.1 hj).1;rw[a5 i' e' h']at Am;rcases Nat.lt_or_gt_of_ne cK with bZ|hgt
      ·have:(i'+1)*sz≤i*sz:=ahw _ bZ;grind
      ·have:(i+1)*sz≤i'*sz:=ahw _ hgt;grind
    obtain⟨rfl,rfl⟩:=hii;rw[hq]at hj;rcases da (by rw[HJ,hE.len];omega) hj with⟨d1,d2,d3⟩|⟨d1,d2⟩
    ·exact hE.rep _ _ _ d3 (by rw[←akL,←b3];congr 1;omega)
    ·exfalso;rw[hE.len]at d1;omega
   ·rw[K6]at b1;have b2:c[i'*sz+j]?=some x':=by simpa using b2
    rcases qY i' e' h' with⟨rfl,rfl⟩|⟨cK,h'⟩
    ·rw[hq]at hj;rcases da (by rw[HJ,hE.len];omega) hj with⟨d1,d2,d3⟩|⟨d1,d2⟩
     ·exfalso;rw[hE.len]at d2;omega
     grind [er]
    grind
  ·rw[akH]at hx;rw[alS]at hj;rcases da (by simp[hE.size];omega) hx with⟨b1,b2,b3⟩|⟨b1,b2⟩
   ·exact hE.one _ x' (by simpa using b3)
   grind
variable{off:Nat}
theorem Je{s0:Nat}{e:PV}(he:e.cells.length=s0)(ho:off<s0)(hp:∀cs,p≠.agg cs):(setRow s0 e off p).cells=e.cells.set off p:=by
 have h1:p.cells=[p]:=by cases p<;>first|rfl|exact absurd rfl (hp _)
 unfold setRow;split
 ·rename_i hs;subst hs;have:off=0:=by omega
  subst this;match hc:e.cells,he with
  |[c],_=>simp[h1]
 simp_all[PV.cells,er]
theorem E0{s:Nat}{e:PV}(h1:p.cells.length=n)(h2:e.cells.length=s):(setCells s e off n p).cells=bI (aC s e) off p.cells:=by
 unfold setCells;split
 ·rename_i h;obtain⟨rfl,rfl⟩:=h;simp_all[dU,aW]
 rfl
theorem aX.change{P:Program}{μ μ':Ro}{φ φ':Nat→aA}{w w':World}{sz:Nat}{et:TypeId}{es es':List PV}(h:aX P μ φ w id sz et es)(hlen:es'.length=es.length)(xl:∀(i:Nat)e,es'[i]?=some e→e.cells.length=sz)(hφ:(φ' id).toC6=(φ id).toC6)(hw:∀g,(φ id).g=some g→w'.heap[g]?=w.heap[g]?)(hc:∀(i:Nat)e'(j:Nat)p' g c T x,es'[i]?=some e'→e'.cells[j]?=some p'→(φ id).g=some g→w.heap[g]?=some (.cells c T (0,0))→c[i*sz+j]?=some x→(∀e p,es[i]?=some e→e.cells[j]?=some p→ec P μ ((φ id).row i j) w p x)→ec P μ' ((φ' id).row i j) w' p' x):aX P μ' φ' w' id sz et es':=by
 obtain⟨a1,a2,a3,a4,a5,a6,a7⟩:=h;unfold aX;rw[hφ];refine⟨by omega,a2,a3,a4,xl,a6,?_⟩;cases hg:(φ id).g with
 |none=>simp_all
 |some g=>grind
theorem eT{T:Type}{l:List T}{i i':Nat}{q e':T}(h:(l.set i q)[i']?=some e'):(i'=i∧e'=q)∨(i'≠i∧l[i']?=some e'):=by grind
theorem aX.set{P:Program}{μ:Ro}{φ:Nat→aA}{w:World}{sz:Nat}{et:TypeId}{es:List PV}(hA:aX P μ φ w id sz et es)(G7:(bH.nest sz et es).apart (φ id)){g:Nat}(hg:(φ id).g=some g){i:Nat}{e q:PV}{x:Value}(he:es[i]?=some e)(hE:tT P μ n p x)(hb:off+n≤sz)(hq:q.cells=bI (aC sz e) off p.cells):∃c T,w.heap[g]?=some (.cells c T (0,0))∧i*sz+off+x.cells.size≤c.size∧aX P μ φ (w.setRow g (bI c.toList (i*sz+off) x.cells.toList).toArray) id sz et (es.set i q)∧∀i' vz,(bH.nest sz et (es.set i q)).rowAt i' vz=true→(bH.nest sz et es).rowAt i' vz=true:=by
 have Ai:=hA;obtain⟨a1,a2,a3,a4,a5,a6,a7⟩:=hA;rw[hg]at a7;obtain⟨c,T,c1,c2,c3,c4,c5⟩:=a7;have hi:i<es.length:=(By.1 he).1;have Nb:i*sz+off+n≤c.size:=by have:(i+1)*sz≤(φ id).cap*sz:=ahw _ (by omega);grind
 have K6:x.cells.toList.length=n:=by simpa using hE.size
 have HJ:(aC sz e).length=sz:=aW _ _;have hql:q.cells.length=sz:=by rw[hq,cn (by rw[HJ,hE.len];omega),HJ]
 have y7:(bI c.toList (i*sz+off) x.cells.toList).length=c.size:=by simp_all[cn]
 have cK:∀i' j' g',(bH.nest sz et es).rowAt i' j'=true→((φ id).row i' j').g=some g'→g'≠g:=fun i' j' g' hr cS e=>(G7 i' j' g' hr cS).1 (by rw[e];omega);have vp:∀{i' j':Nat}{e' p':PV}{x':Value}{l:List Value},es[i']?=some e'→e'.cells[j']?=some p'→ec P μ ((φ id).row i' j') w p' x'→ec P μ ((φ id).row i' j') (w.setRow g l.toArray) p' x':=fun h1 h2 h3=>h3.cj (fun _ _ h=>h) fun hr g' cS=>bT (cK _ _ g' (by rw[du h1 h2];omega) cS);refine⟨c,T,c1,by rw[hE.size];omega,⟨by simp[a1],a2,a3,a4,fun i' e' h'=>?_,a6,?_⟩,?_⟩
 ·grind
 ·rw[hg];refine⟨_,T,setRow_heap w g c _ T (0,0) c1,by simp[y7,c2],by simpa using c3,fun i' e' j p' x' h' hj hx=>?_,fun j x' hj hx=>?_⟩
  ·rw[akH]at hx;rcases da (by simp[hE.size];omega) hx with⟨b1,b2,b3⟩|⟨b1,b2⟩
   ·rw[K6]at b2;have hii:i'=i∧e'=q:=by
     rcases eT h' with h|⟨cK,h'⟩
     ·omega
     ·exfalso;have Am:=(By.1 hj).1;rw[a5 i' e' h']at Am;rcases Nat.lt_or_gt_of_ne cK with bZ|hgt
      ·have:(i'+1)*sz≤i*sz:=ahw _ bZ;grind
      ·have:(i+1)*sz≤i'*sz:=ahw _ hgt;grind
    obtain⟨rfl,rfl⟩:=hii;rw[hq]at hj;rcases da (by rw[HJ,hE.len];omega) hj with⟨d1,d2,d3⟩|⟨d1,d2⟩
    ·exact .pure (hE.rep _ _ _ d3 (by rw[←akL,←b3];congr 1;omega))
    ·exfalso;rw[hE.len]at d1;omega
   ·rw[K6]at b1;have b2:c[i'*sz+j]?=some x':=by simpa using b2
    rcases eT h' with⟨rfl,rfl⟩|⟨cK,h'⟩
    ·rw[hq]at hj;rcases da (by rw[HJ,hE.len];omega) hj with⟨d1,d2,d3⟩|⟨d1,d2⟩
     ·exfalso;rw[hE.len]at d2;omega
     grind [er]
    simp_all
  ·rw[akH]at hx;rw[alS]at hj;rcases da (by simp[hE.size];omega) hx with⟨b1,b2,b3⟩|⟨b1,b2⟩
   ·exact hE.one _ x' (by simpa using b3)
   grind
 ·intro i' vz hr;rcases kx hr with⟨_,_,_,e',s,rs,jc,h',uS⟩|⟨_,_,_,_,_,_,jc,_⟩
  ·simp only[bH.nest.injEq]at jc;obtain⟨rfl,rfl,rfl⟩:=jc;rcases eT h' with⟨rfl,rfl⟩|⟨cK,h'⟩
   ·rw[hq]at uS;rcases da (by rw[HJ,hE.len];omega) uS with⟨d1,d2,d3⟩|⟨d1,d2⟩
    ·exfalso;have bZ:vz-off<x.cells.size:=by rw[hE.size,←hE.len];omega
     exact absurd (hE.rep _ _ _ d3 (OF bZ)).Ea (by simp[PV.isRow])
    ·rw[er (a5 i' e he)]at d2;rw[du he d2];rfl
   ·rw[du h' uS];rfl
  ·cases jc
end
section
variable {R:Type} {E:Env}
theorem zL{p:PV}:∀{n o j:Nat}{q:PV},(dS p o n)[j]?=some q→j<n∧q=cell p (o+j)
 |0,o,j,q,h=>by simp[dS]at h
 |n+1,o,0,q,h=>⟨by omega,by simpa[dS]using h.symm⟩
 |n+1,o,j+1,q,h=>by simp only[dS,alI]at h;obtain⟨h1,h2⟩:=zL h;grind
theorem tU{p:PV}:∀{n o:Nat},(dS p o n).length=n
 |0,_=>rfl
 |n+1,o=>by simp[dS,tU]
variable{n:Nat}
theorem An{s i:Nat}{p e:PV}(h:(fu s n p)[i]?=some e):i<n∧e=.agg (dS p (i*s) s):=by unfold fu at h;grind
theorem U9{p:PV}{u:Unit}(h:asAgg n p=some u):∃cs,p=.agg cs∧cs.length=n:=by unfold asAgg at h;grind
theorem Sq{t:TypeId}{i off s:Nat}{et:TypeId}{b:Option bH}{x:V}{p:PV}(h:Np E t i off b x=some (s,et,n,p)):∃es,b=some (.arr s et es)∧x=.pv p∧Cb E t s i off=true∧n=es.length:=by unfold Np at h;grind
theorem HP{P:Program}{μ:Ro}{s k:Nat}{cs:List PV}{xs:Array Value}(hp:ah P μ (.agg cs) (.agg xs))(hl:cs.length=n*s){i j:Nat}{e q:PV}(he:(fu s n (.agg cs))[i]?=some e)(hq:e.cells[j]?=some q)(hk:k=i*s+j):∃x,xs[k]?=some x∧ah P μ q x∧x.oneCell'=true:=by
 obtain⟨h1,rfl⟩:=An he;obtain⟨h2,rfl⟩:=zL hq;have bZ:i*s+j<n*s:=by have:(i+1)*s≤n*s:=ahw _ (by omega);grind
 subst hk;cases hp with
 |agg g1 g2 g3=>have hc:cs[i*s+j]?=some cs[i*s+j]:=cN (by omega);have hx:xs[i*s+j]?=some xs[i*s+j]:=OF (by omega);grind [cell,PV.cells]
theorem Sr{draw:Bool}{t:TypeId}{a x:V}{m:Mem}{k:Mem→bq→Option R}{r:R}(h:tO E draw t a x m k=some r):∃m' ft,k m' ft=some r∧(draw=true→∃id b,m'=ao m id b∧ft=[(true,id)]∧∀m2:Mem,m2 id=m id→∀(R':Type)(k':Mem→bq→Option R'),tO E true t a x m2 k'=k' (ao m2 id b) [(true,id)])∧ky m m'∧∀(G:Nat→Option (List PV))(w0:bA)(μ:Ro)(φ:Nat→aA)(w:World)(ya yx:Value),av E.P G w0 μ φ m w→af E.P μ φ a ya→af E.P μ φ x yx→(∀id,x.has id=true→(m id).isSome=true)→∃w' μ',(Instr.storeAt t ya yx).run E.P w=.ok () w'∧(∀b o,μ b=some o→μ' b=some o)∧av E.P G w0 μ' φ m' w':=by
 unfold tO at h;split at h
 ·rename_i id off;split at h
  ·rename_i cs hm;split at h
   ·rename_i new hn;split at h
    ·rename_i hb;refine⟨_,_,h,fun hd=>⟨id,_,rfl,rfl,fun m2 cL R' k'=>by simp_all[tO,AI]⟩,.set,fun G w0 μ φ w ya yx hM ha hx hlx=>?_⟩;obtain⟨n1,n2,n3⟩:=toCells_ok hn;obtain⟨x1,x2,x3⟩:=n3 _ _ _ _ hx;cases ha with
     | @op _ _ g hg=>
      obtain⟨g',c,T,cS,hh,hs,hv,h1,EP⟩:=hM.dy id _ hm;rw[hg]at cS;simp only[cO]at cS;subst cS;have hi:=kV (P:=E.P) (t:=t) (by omega);have mH:off+yx.cells.toList.length≤c.toList.length:=by simp;omega
      refine⟨_,μ,gq x1 hi hh (by omega) x3,fun _ _ h=>h,?_⟩;refine hM.write hm rfl hg (lM.setRow (akk _)) setRow_size (fun k hk=>bT hk) ⟨g,_,T,hg,setRow_heap w g c _ T (0,0) hh,?_,fun i u y hu hy=>?_,fun i y hy=>?_,by simp_all[cn]⟩ rfl fun j hj=>?_
      ·simp_all[ak7,cn]
      ·rw[akH]at hy;have e1:yx.cells.toList.length=new.length:=by simp;omega
       rcases da mH hy with⟨b1,b2,b3⟩|⟨b1,b2⟩<;>rcases da (by omega) hu with⟨d1,d2,d3⟩|⟨d1,d2⟩
       ·grind
       ·omega
       ·omega
       grind
      ·rw[akH]at hy;rcases da mH hy with⟨b1,b2,b3⟩|⟨b1,b2⟩
       ·grind
       grind
      ·simp only[bH.names]at hj;obtain⟨v,Va,hh'⟩:=cz.1 hj;simp only[dU,aku]at Va;rcases Va with(Va|Va)|Va
       ·exact hM.fT id cs j hm (bJ (ale Va) hh')
       ·grind [bJ]
       ·exact hM.fT id cs j hm (bJ (alm Va) hh')
    ·cases h
   ·cases h
  ·cases h
 ·rename_i id i off;split at h
  ·rename_i s et n p hwv;obtain⟨es,hm,rfl,hw,hn⟩:=Sq hwv;subst hn;obtain⟨u,hu,h⟩:=cT.1 h;split at h
   ·rename_i hl;obtain⟨ha,rfl,rfl,_⟩:=HH hw;obtain⟨cs,rfl,xl⟩:=U9 hu;refine⟨_,_,h,fun _=>⟨id,_,rfl,rfl,fun m2 cL R' k'=>?_⟩,.set,fun G w0 μ φ w ya yx hM ha hx _=>?_⟩
    ·simp_all[tO,akj,AI]
    ·have hA:aH E.P μ φ w id s et es:=hM.dy id _ hm;cases ha with
     | @oe _ _ _ g hg=>
      cases hx with
      |pv hx=>
       have Jf:=hx;cases hx with
       | @agg _ xs g1 g2 g3=>
        obtain⟨a1,a2,a3,a4,a5,a6,a7⟩:=hA;rw[hg]at a7;obtain⟨c,T,c1,c2,c3,c4,c5⟩:=a7;have hle:es.length*s≤c.size:=akT (ahw _ c3) c2;have Kw:xs.size=es.length*s:=by omega
        have fl:aN E.P t≠0:=by omega
        have hl1:=hl.1;have hi:=kV (P:=E.P) (t:=t) fl;have hcz:(Value.agg xs).cells.size=aN E.P t:=by simp[Value.cells];omega
        refine⟨w.setRow g (bI c.toList 0 xs.toList).toArray,μ,?_,fun _ _ h=>h,hM.write hm rfl hg (lM.setRow (akk _)) setRow_size (fun k hk=>bT hk) ?_ rfl (fun j hj=>by simp[bH.names]at hj)⟩
        ·rw[show 0*(φ id).sz+0=0 by omega];exact gq hcz hi c1 (by omega) (fun i y hy=>g3 i y hy)
        ·have HJ:∀(i:Nat)(x:Value),i<es.length*s→(bI c.toList 0 xs.toList).toArray[i]?=some x→xs[i]?=some x:=fun i x hi hx=>by
          rw[akH]at hx;rcases da (by simp;omega) hx with⟨b1,b2,b3⟩|⟨b1,b2⟩
          ·simpa using b3
          grind
         refine⟨by rw[a1];simp[fu],a2,a3,a4,fun i e he=>?_,a6,?_⟩
         ·obtain⟨_,rfl⟩:=An he;exact tU
         ·rw[hg];refine⟨_,T,setRow_heap w g c _ T (0,0) c1,?_,?_,fun i e j q x he hq hx=>?_,fun i x hi hx=>?_⟩
          ·simp_all[ak7,cn,Value.cells]
          ·simpa[fu]using c3
          ·obtain⟨x',x1,x2,_⟩:=HP (k:=i*s+j) Jf (by omega) he hq rfl;grind
          grind [fu]
   ·cases h
  rename_i hwn;split at h
  ·rename_i p m1 hf;obtain⟨f1,f2,f3⟩:=K5 hf;split at h
   ·rename_i s et es hm;obtain⟨e,he,h⟩:=cT.1 h;have key:∀q,0<aN E.P t→off+aN E.P t≤s→(p.cells.length=aN E.P t→e.cells.length=s→q.cells=bI (aC s e) off p.cells)→∀(G:Nat→Option (List PV))(w0:bA)(μ:Ro)(φ:Nat→aA)(w:World)(ya yx:Value),av E.P G w0 μ φ m w→af E.P μ φ (.oe id i off) ya→af E.P μ φ x yx→(∀id,x.has id=true→(m id).isSome=true)→∃w' μ',(Instr.storeAt t ya yx).run E.P w=.ok () w'∧(∀b o,μ b=some o→μ' b=some o)∧av E.P G w0 μ' φ (ao m1 id (.arr s et (es.set i q))) w':=by
     intro q hz hb hq G w0 μ φ w ya yx hM ha hx _;obtain⟨μ',g1,g2,g3⟩:=f3 _ _ _ _ _ _ _ hM hx;cases ha with
     | @oe _ _ _ g hg=>have hA:aH E.P μ' φ w id s et es:=g2.dy id _ hm;have hq':=hq g3.len (hA.2.2.2.2.1 i e he);obtain⟨c,T,hh,mH,Ai⟩:=hA.set hg he g3 hb hq';have oP:(φ id).sz=s:=hA.2.1;have hi:=kV (P:=E.P) (t:=t) (by omega);refine⟨_,μ',?_,g1,g2.write hm rfl hg (lM.setRow (akk _)) setRow_size (fun k hk=>bT hk) Ai rfl fun j hj=>by simp[bH.names]at hj⟩;rw[oP];exact gq g3.size hi hh mH g3.one
    split at h
    ·rename_i hb;refine⟨_,_,h,fun hd=>?_,f1.trans .set,key p (by omega) (by omega) fun h1 h2=>?_⟩
     ·obtain⟨rfl,f4⟩:=f2 hd;refine⟨id,_,rfl,rfl,fun m2 cL R' k'=>?_⟩;simp_all[tO,akj,AI]
     simp_all[dU,aW]
    ·rename_i hnb;split at h
     ·rename_i hb;refine⟨_,_,h,fun hd=>?_,f1.trans .set,key _ (by omega) (by omega) fun _ _=>rfl⟩;obtain⟨rfl,f4⟩:=f2 hd;refine⟨id,_,rfl,rfl,fun m2 cL R' k'=>?_⟩;simp_all[tO,akj,IS,AI]
     ·cases h
   ·rename_i s et es hm;obtain⟨e,he,h⟩:=cT.1 h;split at h
    ·rename_i hb;refine⟨_,_,h,fun hd=>?_,f1.trans .set,fun G w0 μ φ w ya yx hM ha hx _=>?_⟩
     ·obtain⟨rfl,f4⟩:=f2 hd;refine⟨id,_,rfl,rfl,fun m2 cL R' k'=>?_⟩;simp_all[tO,akj,AI]
     ·obtain⟨μ',g1,g2,g3⟩:=f3 _ _ _ _ _ _ _ hM hx;cases ha with
      | @oe _ _ _ g hg=>have hA:aX E.P μ' φ w id s et es:=g2.dy id _ hm;obtain⟨c,T,hh,mH,Ai,hrw⟩:=aX.set (q:=.agg (bI (aC s e) off p.cells)) hA (g2.apart id _ hm) hg he g3 hb.1 rfl;have oP:(φ id).sz=s:=hA.2.1;have hi:=kV (P:=E.P) (t:=t) (by omega);refine⟨_,μ',?_,g1,g2.write hm rfl hg (lM.setRow (akk _)) setRow_size (fun k hk=>bT hk) Ai rfl (fun j hj=>by simp[bH.names]at hj) (fun st h=>by cases h) hrw⟩;rw[oP];exact gq g3.size hi hh mH g3.one
    ·cases h
   ·cases h
  ·cases h
 ·rename_i id i off s j off2;split at h
  ·rename_i p m1 hf;split at h
   ·rename_i s0 et es hm;obtain⟨e,he,h⟩:=cT.1 h;obtain⟨rs,hr,h⟩:=cT.1 h;obtain⟨q,hq,h⟩:=cT.1 h;split at h
    ·rename_i hb;refine⟨_,_,h,fun _=>⟨id,_,rfl,rfl,fun m2 cL R' k'=>?_⟩,.set,fun G w0 μ φ w ya yx hM ha hx _=>?_⟩
     ·simp_all[tO,akj,AI]
     ·have hE:=Bb hf E.P μ φ yx hx;have hN:aX E.P μ φ w id s0 et es:=hM.dy id _ hm;obtain⟨g,y,hg,Bc,⟨⟨GX,hA⟩,hV⟩,hce⟩:=hN.row he hr;have G7:=hM.apart id _ hm;have ng:(bH.nest s0 et es).rowAt i off=true:=by rw[du he hce];rfl
      have HQ:=hN.2.2.2.2.1 i e he;have Vb:(setRow s0 e off (.qS s (rs.set j (setCells s q off2 (aN E.P t) p)))).cells=e.cells.set off (.qS s (rs.set j (setCells s q off2 (aN E.P t) p))):=Je HQ hb.2.2 (by simp);cases ha with
      | @AX _ _ _ _ _ _ g' cS hs=>
       obtain⟨cK,ajH⟩:=G7 i off g' ng cS;obtain⟨c,T,hh,mH,Ai⟩:=hA.set (g:=g') cS hq hE hb.1 (E0 hE.len (hA.2.2.2.2.1 j q hq));have hi:=kV (P:=E.P) (t:=t) (by omega);refine⟨_,μ,gq hE.size hi hh mH hE.one,fun _ _ h=>h,hM.U5 hm rfl (.inr ⟨i,off,ng,cS⟩) (lM.setRow (akk _)) setRow_size (fun k hk=>bT hk) ?_ rfl (fun j hj=>by simp[bH.names]at hj) ?_⟩
       ·refine aX.change hN (by simp) (fun i' e' h'=>?_) rfl (fun g0 Nx=>bT fun e=>cK (by rw[←e];omega)) (fun i' e' j' p' g0 c0 _ x' h' uS Nx K7 Jf hold=>?_)
        ·rcases eT h' with⟨_,rfl⟩|⟨_,h'⟩
         ·grind
         ·exact hN.2.2.2.2.1 i' e' h'
        ·have other:∀e'' p'',es[i']?=some e''→e''.cells[j']?=some p''→(i',j')≠(i,off)→ec E.P μ ((φ id).row i' j') (w.setRow g' (bI c.toList (j*s+off2) yx.cells.toList).toArray) p'' x':=fun e'' p'' h1 h2 h3=>(hold e'' p'' h1 h2).cj (fun _ _ h=>h) fun zJ g'' ajQ=>bT fun e=>by grind [du]
         rcases eT h' with⟨rfl,rfl⟩|⟨Zo,h'⟩
         ·rw[Vb]at uS;rcases eT uS with⟨rfl,rfl⟩|⟨hnj,uS⟩
          ·have Ss:eF E.P μ ((φ id).row i' j') w s rs x':=hold e _ he hce;refine⟨⟨GX,Ai⟩,?_⟩;exact Ss.2
          grind
         grind
       ·intro i' vz zJ;rcases kx zJ with⟨_,_,_,e',s',rs',jc,h',uS⟩|⟨_,_,_,_,_,_,jc,_⟩
        ·simp only[bH.nest.injEq]at jc;obtain⟨rfl,rfl,rfl⟩:=jc;rcases eT h' with⟨rfl,rfl⟩|⟨Zo,h'⟩
         ·rw[Vb]at uS;rcases eT uS with⟨rfl,_⟩|⟨hnj,uS⟩
          ·omega
          ·rw[du he uS];rfl
         ·rw[du h' uS];rfl
        ·cases jc
    ·cases h
   ·cases h
  ·cases h
 ·cases h
end
structure Cells(P:Program)(μ:Ro)(sz:Nat)(es:List PV)(xs:List Value):Prop where
 len:xs.length=es.length*sz
 each:∀(i:Nat)e,es[i]?=some e→e.cells.length=sz
 rep:∀(i:Nat)e(j:Nat)p y,es[i]?=some e→e.cells[j]?=some p→xs[i*sz+j]?=some y→ah P μ p y
 one:∀(i:Nat)y,xs[i]?=some y→y.oneCell'=true
section
variable {P:Program} {μ μ':Ro} {φ:Nat→aA} {w:World} {sz:Nat} {es es':List PV} {xs xs':List Value}
theorem Cells.nil:Cells P μ sz [] []:=⟨by simp,by simp,by simp,by simp⟩
theorem Cells.mono(h:Cells P μ sz es xs)(hμ:∀b o,μ b=some o→μ' b=some o):Cells P μ' sz es xs:=⟨h.len,h.each,fun i e j p y h1 h2 h3=>(h.rep i e j p y h1 h2 h3).mono hμ,h.one⟩
theorem E1{i j n:Nat}(hi:i<n)(hj:j<sz):i*sz+j<n*sz:=by have:(i+1)*sz≤n*sz:=ahw _ hi;grind
theorem Cells.append(h:Cells P μ sz es xs)(h':Cells P μ sz es' xs'):Cells P μ sz (es++es') (xs++xs'):=by
 refine⟨by simp[h.len,h'.len,akR],fun i e hi=>?_,fun i e j p y hi hj hy=>?_,fun i y hy=>?_⟩
 ·rw[akA]at hi;split at hi
  ·exact h.each i e hi
  ·exact h'.each _ e hi
 ·rw[akA]at hi hy;split at hi
  ·rename_i hl;have Am:j<sz:=by rw[←h.each i e hi];grind
   rw[AI (by rw[h.len];exact E1 hl Am)]at hy;exact h.rep i e j p y hi hj hy
  ·rename_i hl;have hle:es.length*sz≤i*sz:=ahw _ (by omega);rw[IS (by rw[h.len];omega)]at hy;refine h'.rep _ e j p y hi hj ?_;rw[←hy,h.len,Nat.sub_mul];congr 1;omega
 ·rw[akA]at hy;split at hy
  ·exact h.one i y hy
  ·exact h'.one _ y hy
theorem Cells.take(h:Cells P μ sz es xs)(n:Nat):Cells P μ sz (es.take n) (xs.take (n*sz)):=by refine⟨?_,fun i e hi=>h.each i e (iD hi).2,fun i e j p y hi hj hy=>h.rep i e j p y (iD hi).2 hj (iD hy).2,fun i y hy=>h.one i y (iD hy).2⟩;rw[akI,akI,h.len];simp
theorem Cells.drop(h:Cells P μ sz es xs)(n:Nat):Cells P μ sz (es.drop n) (xs.drop (n*sz)):=by refine⟨by simp[h.len,Nat.sub_mul],fun i e hi=>h.each _ e (uN hi),fun i e j p y hi hj hy=>h.rep _ e j p y (uN hi) hj ?_,fun i y hy=>h.one _ y (uN hy)⟩;grind
variable{id:Nat}{et:TypeId}
theorem aH.cells(hA:aH P μ φ w id sz et es){g:Nat}(hg:(φ id).g=some g):∃(c:Array Value)(T:TypeId),w.heap[g]?=some (.cells c T (0,0))∧(φ id).cap*sz≤c.size∧es.length≤(φ id).cap∧es.length*sz≤c.size∧Cells P μ sz es (c.toList.take (es.length*sz)):=by
 obtain⟨a1,a2,a3,a4,a5,a6,a7⟩:=hA;rw[hg]at a7;obtain⟨c,T,c1,c2,c3,c4,c5⟩:=a7;have hle:es.length*sz≤c.size:=akT (ahw _ c3) c2;refine⟨c,T,c1,c2,c3,hle,by simp;omega,a5,fun i e j p y hi hj hy=>?_,fun i y hy=>?_⟩
 ·grind
 grind
theorem aH.pO{g:Nat}{T:TypeId}{c:Array Value}(ZR:(φ id).toC6=⟨some g,(φ id).cap,es.length,sz⟩)(oP:sz=aN P et)(fl:0<sz)(qW:(φ id).cap≤maxLen)(hh:w.heap[g]?=some (.cells c T (0,0)))(hc:(φ id).cap*sz≤c.size)(hle:es.length≤(φ id).cap)(hC:Cells P μ sz es (c.toList.take (es.length*sz))):aH P μ φ w id sz et es:=by
 have e1:(φ id).g=some g:=by rw[ZR]
 refine⟨by rw[ZR],by rw[ZR],oP,fl,hC.each,qW,?_⟩;rw[e1];have Am:∀(i:Nat)e(j:Nat)p,es[i]?=some e→e.cells[j]?=some p→i*sz+j<es.length*sz:=fun i e j p hi hj=>E1 (By.1 hi).1 (by rw[←hC.each i e hi];grind);refine⟨c,T,hh,hc,hle,fun i e j p x hi hj hx=>?_,fun i x hi hx=>?_⟩
 ·exact hC.rep i e j p x hi hj (by grind)
 ·exact hC.one i x (by grind)
inductive zM(P:Program)(μ:Ro)(w:World)(sz:Nat)(es:List PV):Value→Prop
 |none:es=[]→zM P μ w sz es (.slice none 0 0)
 |some {a:Addr} {c:Nat} (xs:List Value):Cells P μ sz es xs→(∀(j:Nat)v,xs[j]?=some v→w.cell? (a.add j)=some v)→es.length≤c→c≤maxLen→zM P μ w sz es (.slice (some a) es.length c)
theorem aH.src(hA:aH P μ φ w id sz et es){g:Nat}(hg:(φ id).g=some g){lo len cap:Nat}(hl:lo+len≤es.length)(hcc:len≤cap)(ajR:lo+cap≤(φ id).cap):zM P μ w sz ((es.drop lo).take len) (.slice (some ⟨g,lo*sz,none⟩) len cap):=by
 obtain⟨c,T,c1,c2,c3,c4,c5⟩:=hA.cells hg;have qW:=hA.pN;have hlen:((es.drop lo).take len).length=len:=by simp;omega
 have:=zM.some (P:=P) (μ:=μ) (w:=w) (sz:=sz) (es:=(es.drop lo).take len) (a:=⟨g,lo*sz,none⟩) (c:=cap) _ ((c5.drop lo).take len) (fun j v hv=>?_) (by omega) (by omega)
 ·simp_all
 grind [iD,uN,Addr.add_mid,dp]
end
section
variable {R:Type} {E:Env}
theorem ah.src{P:Program}{G:Nat→Option (List PV)}{w0:bA}{μ:Ro}{φ:Nat→aA}{m:Mem}{w:World}{sz:Nat}{es:List PV}{y:Value}(hM:av P G w0 μ φ m w)(h:ah P μ (.rs sz es) y):zM P μ w sz es y:=by
 cases h with
 |lG=>exact .none rfl
 |G2 hc=>exact .some (es:=[]) [] .nil (by simp) (by simp) hc
 | @rs _ _ b o cap X h1 h2 h3 h4 h5 h6=>
  by_cases hz:sz=0
  ·subst hz;refine .some [] ⟨by simp,h3,fun i e j p y hi hj=>?_,by simp⟩ (by simp) h1 h2;simp
  ·have fe:∀k v,((List.range (es.length*sz)).map fun k=>X (k/sz) (k%sz))[k]?=some v→∃(e:PV)(p:PV),es[k/sz]?=some e∧e.cells[k%sz]?=some p∧v=X (k/sz) (k%sz):=by
    intro k v hk;have bZ:k<es.length*sz:=by grind
    rw[IT,alq bZ]at hk;simp at hk;have hi:k/sz<es.length:=(Nat.div_lt_iff_lt_mul (by omega)).2 bZ;have hj:k%sz<(es[k/sz]).cells.length:=by rw[h3 _ _ (cN hi)];exact amZ _ (by omega)
    simp_all
   refine .some ((List.range (es.length*sz)).map fun k=>X (k/sz) (k%sz)) ⟨by simp,h3,fun i e j p y hi hj hy=>?_,fun k v hk=>?_⟩ (fun k v hk=>?_) h1 h2
   ·obtain⟨e',p',he,hp,rfl⟩:=fe _ _ hy;have Am:j<sz:=by grind
    have e1:(i*sz+j)/sz=i:=by rw[amf,Nat.mul_add_div (by omega),Nat.div_eq_of_lt Am];rfl
    simp_all[amf,Nat.mul_add_mod,alL]
   ·grind
   ·obtain⟨e',p',he,hp,rfl⟩:=fe _ _ hk;rw[Addr.add_mid];have:=hM.cellAt (h4 _ e' _ p' he hp);rw[←this];simp[congr,akO,Nat.div_add_mod']
theorem oQ{m:Mem}{sz:Nat}{x:V}{es:List PV}{ft:bq}(h:fv m sz x=some (es,ft)):(∀m2:Mem,(∀x∈ft,m2 x.2=m x.2)→fv m2 sz x=some (es,ft))∧(∀x∈ft,x.1=false)∧∀(P:Program)(G:Nat→Option (List PV))(w0:bA)(μ:Ro)(φ:Nat→aA)(w:World)(y:Value),av P G w0 μ φ m w→af P μ φ x y→zM P μ w sz es y:=by
 unfold fv at h;split at h
 ·rename_i s es';split at h
  ·rename_i hs;simp only[cO,Ua]at h;obtain⟨rfl,rfl⟩:=h;subst hs;exact⟨fun m2 _=>by simp[fv],by simp,fun P G w0 μ φ w y hM hy=>by cases hy with|pv hy=>exact hy.src hM⟩
  ·split at h
   ·simp only[cO,Ua]at h;obtain⟨rfl,rfl⟩:=h;refine⟨fun m2 _=>by simp[fv],by simp,fun P G w0 μ φ w y hM hy=>?_⟩;cases hy with
    |pv hy=>cases hy with
     |lG=>exact .none rfl
     |G2 hc=>exact .some (es:=[]) [] .nil (by simp) (by simp) hc
     |rs X h1 h2=>exact .some (es:=[]) [] .nil (by simp) h1 h2
   ·cases h
 ·simp only[cO,Ua]at h;obtain⟨rfl,rfl⟩:=h;exact⟨fun m2 _=>by rfl,by simp,fun P G w0 μ φ w y hM hy=>by cases hy;exact .none rfl⟩
 ·rename_i id;have key:∀(s:Nat)(et:TypeId)(es:List PV),(m id=some (.arr s et es)∨m id=some (.rD s et es))→∀(P:Program)(G:Nat→Option (List PV))(w0:bA)(μ:Ro)(φ:Nat→aA)(w:World)(y:Value),av P G w0 μ φ m w→af P μ φ (.os id) y→zM P μ w s es y:=by
   intro s et es hm P G w0 μ φ w y hM hy;have hA:=hM.arr hm;cases hy with
   |tp hg=>obtain⟨a1,a2,a3,a4,a5,a6,a7⟩:=hA;rw[hg]at a7;exact .none a7.1
   |os hg=>have:=hA.src hg (lo:=0) (len:=es.length) (cap:=(φ id).cap) (by omega) (hA.pN).1 (by omega);rw[hA.1];simpa using this
  split at h
  ·rename_i s' et es' hm;split at h
   ·rename_i hs;simp only[cO,Ua]at h;obtain⟨rfl,rfl⟩:=h;subst hs;exact⟨fun m2 cL=>by have:=cL (false,id) (by simp);simp_all[fv],by simp,key _ _ _ (.inl hm)⟩
   ·cases h
  ·rename_i s' et es' hm;split at h
   ·rename_i hs;simp only[cO,Ua]at h;obtain⟨rfl,rfl⟩:=h;subst hs;exact⟨fun m2 cL=>by have:=cL (false,id) (by simp);simp_all[fv],by simp,key _ _ _ (.inr hm)⟩
   ·cases h
  ·cases h
 ·rename_i id lo len;have key:∀(s:Nat)(et:TypeId)(es:List PV),(m id=some (.arr s et es)∨m id=some (.rD s et es))→∀(P:Program)(G:Nat→Option (List PV))(w0:bA)(μ:Ro)(φ:Nat→aA)(w:World)(y:Value),av P G w0 μ φ m w→af P μ φ (.fR id lo len) y→zM P μ w s ((es.drop lo).take len) y:=by
   intro s et es hm P G w0 μ φ w y hM hy;have hA:=hM.arr hm;have hle:=hA.pN;have Nc:=hA.1;have oP:=hA.2.1;cases hy with
   |rY hg=>simp;exact .none rfl
   |fR hg hl ha hc1 Us=>
    rcases ha with rfl|⟨ha,_⟩
    ·rw[oP];exact hA.src hg (by omega) hc1 Us
    ·have h0:len=0:=by omega
     subst h0;simp only[alZ];exact .some (es:=[]) [] .nil (by simp) (by simp) (by omega)
  split at h
  ·rename_i s' et es' hm;split at h
   ·rename_i hs;simp only[cO,Ua]at h;obtain⟨rfl,rfl⟩:=h;subst hs;exact⟨fun m2 cL=>by have:=cL (false,id) (by simp);simp_all[fv],by simp,key _ _ _ (.inl hm)⟩
   ·cases h
  ·rename_i s' et es' hm;split at h
   ·rename_i hs;simp only[cO,Ua]at h;obtain⟨rfl,rfl⟩:=h;subst hs;exact⟨fun m2 cL=>by have:=cL (false,id) (by simp);simp_all[fv],by simp,key _ _ _ (.inr hm)⟩
   ·cases h
  ·cases h
 ·rename_i id i off;split at h
  ·rename_i s0 et0 es0 hm;obtain⟨e,he,h⟩:=cT.1 h;obtain⟨rs,hr,h⟩:=cT.1 h;simp only[cO,Ua]at h;obtain⟨rfl,rfl⟩:=h;refine⟨fun m2 cL=>by have:=cL (false,id) (by simp);simp_all[fv],by simp,fun P G w0 μ φ w y hM hy=>?_⟩;have hN:aX P μ φ w id s0 et0 es0:=hM.dy id _ hm;obtain⟨_,_,_,_,⟨⟨GX,hA⟩,_⟩,_⟩:=hN.row he hr;have hy:=hy.Nv (ν:=μ);cases hy with
   |tp hg=>obtain⟨a1,a2,a3,a4,a5,a6,a7⟩:=hA;rw[hg]at a7;exact .none a7.1
   |os hg=>have:=hA.src hg (lo:=0) (len:=rs.length) (cap:=(((φ id).row i off).up).cap) (by omega) (hA.pN).1 (by omega);rw[hA.1];simpa using this
  ·cases h
 ·cases h
end
section
variable {P:Program} {w:World}
theorem qg{t ty e:TypeId}(hu:P.underlying t=some (.slice e))(hz:aN P e≠0){base a:Option Addr}{n cap c:Nat}(hn:n≤cap):(Builtin.append_ #[t,t] ty #[.slice base n cap,.slice a 0 c]).run P w=.ok (.slice base n cap) w:=by
 obtain⟨i,hi,hs⟩:=yV hz;have hl:∀x:Addr,(loadCells x 0).run P w=.ok #[] w:=fun x=>by rfl
 cases base<;>cases a<;>simp[Builtin.append_,run_underlying hu,sizeOf,typeInfo,hi,Builtin.lenOf,Builtin.firstCells,hn,hl,storeCells]
end
theorem Co{P:Program}{w:World}(t ty e T:TypeId)(i:TypeInfo)(ht:P.underlying t=some (.slice e))(hi:P.info? e=some i)(g NB acR:Nat)(cur:Array Value)(hg:w.heap[g]?=some (.cells cur T (0,0)))(a:Addr)(m c:Nat)(news:List Value)(hl:news.length=m*i.size)(aeR:∀j u,news[j]?=some u→w.cell? (a.add j)=some u)(h1:∀u∈news,u.oneCell'=true)(fm:NB+m≤acR)(mH:NB*i.size+news.length≤cur.size):(Builtin.append_ #[t,t] ty #[.slice (some ⟨g,0,none⟩) NB acR,.slice (some a) m c]).run P w=.ok (.slice (some ⟨g,0,none⟩) (NB+m) acR) (w.setRow g (cur.toList.take (NB*i.size)++news++cur.toList.drop (NB*i.size+news.length)).toArray):=by have hf:=run_firstCells_some (P:=P) w i.size m a m c news hl aeR;have vp:=run_storeCells_at P g (NB*i.size) T news 0 cur w hg (by omega) h1;simp only[alp]at vp;simp[Builtin.append_,run_underlying ht,sizeOf,typeInfo,hi,Builtin.lenOf,fm,hf,Addr.add_mid,vp]
section
variable {R:Type} {E:Env}
variable{t:TypeId}
theorem HR{P:Program}{i:TypeInfo}(hi:P.info? t=some i):i.bytes=GZ P t∧i.size=aN P t:=by simp[GZ,aN,hi]
theorem E2{P:Program}{e ty:TypeId}{sz len n:Nat}{z:Value}{i:TypeInfo}(hu:P.underlying t=some (.slice e))(hi:P.info? e=some i)(hzv:i.zero=some z)(P7:z.cells.size=sz)(oP:sz=aN P e)(fl:0<aN P e)(hby:0<GZ P e)(fm:(len+n)*GZ P e≤ae){w:World}{ys yx:Value}{os xs:List Value}(hs:(ys=.slice none 0 0∧len=0∧os=[])∨∃(g cap:Nat)(c:Array Value)(T:TypeId),ys=.slice (some ⟨g,0,none⟩) len cap∧w.heap[g]?=some (.cells c T (0,0))∧cap*sz≤c.size∧len≤cap∧cap≤maxLen∧os=c.toList.take (len*sz))(hx:(yx=.slice none 0 0∧n=0∧xs=[])∨∃(a:Addr)(cx:Nat),yx=.slice (some a) n cx∧xs.length=n*sz∧(∀(j:Nat)v,xs[j]?=some v→w.cell? (a.add j)=some v)∧(∀v∈xs,v.oneCell'=true)∧n≤cx∧cx≤maxLen):∃w' y,(Builtin.append_ #[t,t] ty #[ys,yx]).run P w=.ok y w'∧((y=.slice none 0 0∧w'=w∧len=0∧n=0)∨∃(g cap:Nat)(c:Array Value)(T:TypeId),y=.slice (some ⟨g,0,none⟩) (len+n) cap∧w'.heap[g]?=some (.cells c T (0,0))∧cap*sz≤c.size∧len+n≤cap∧cap≤maxLen∧c.toList.take ((len+n)*sz)=os++xs∧((∃ZS,ys=.slice (some ⟨g,0,none⟩) len ZS∧lM g w w'∧∀k,k≠g→w'.heap[k]?=w.heap[k]?)∨(g=w.heap.size∧w'=w.drew.alloc (.cells c e)))):=by
 obtain⟨hib,his⟩:=HR hi;have ah1:len+n≤140737488355328:=by have:(len+n)*1≤(len+n)*GZ P e:=alr _ hby;grind [ae]
 have ajS:len+n≤maxLen:=by simp only[maxLen];omega
 have Ut:∀n,(Builtin.zeroCells z.cells n).size=n*sz:=fun n=>by rw[size_zeroCells,P7]
 rcases hs with⟨rfl,rfl,rfl⟩|⟨g,cap,c,T,rfl,g4,g5,g6,g7,rfl⟩
 ·rcases hx with⟨rfl,rfl,rfl⟩|⟨a,cx,rfl,K6,Kw,ZT,hcx,Vc⟩
  ·exact⟨w,_,qg hu (by omega) (akk _),.inl ⟨rfl,rfl,rfl,rfl⟩⟩
  ·by_cases h0:n=0
   ·subst h0;exact⟨w,_,qg hu (by omega) (akk _),.inl ⟨rfl,rfl,rfl,rfl⟩⟩
   ·have hr:=run_append_nil (P:=P) w t ty e i z hu hi hzv a n cx xs (by rw[K6,oP,his]) Kw (by omega) (by omega) (by simp only[ae,akV]at fm;rw[hib];omega);have G8:=grownCap_ge w n 0 e;refine⟨_,_,hr,.inr ⟨w.heap.size,grownCap w n 0 e,xs.toArray++Builtin.zeroCells z.cells (grownCap w n 0 e-n),e,by simp,fM w.drew _,?_,by omega,grownCap_le_maxLen w _ 0 e (by omega),?_,.inr ⟨rfl,rfl⟩⟩⟩
    ·rw[amH,Ut];simp only[ak7,K6,←akR];simp_all
    simp_all
 ·have h1:(c.toList.take (len*sz)).length=len*sz:=by have:len*sz≤cap*sz:=ahw _ g6;simp;omega
  rcases hx with⟨rfl,rfl,rfl⟩|⟨a,cx,rfl,K6,Kw,ZT,hcx,Vc⟩
  ·exact⟨w,_,qg hu (by omega) g6,.inr ⟨g,cap,c,T,rfl,g4,g5,by omega,g7,by simp,.inl ⟨cap,rfl,lM.refl _ _,fun _ _=>rfl⟩⟩⟩
  ·by_cases hrm:len+n≤cap
   ·have mH:len*i.size+xs.length≤c.size:=by rw[his,←oP,K6,←akR];exact akT (ahw _ hrm) g5
    have hr:=Co (P:=P) (w:=w) t ty e T i hu hi g len cap c g4 a n cx xs (by rw[K6,oP,his]) Kw ZT hrm mH;rw[his,←oP]at hr mH;refine⟨_,_,hr,.inr ⟨g,cap,_,T,rfl,setRow_heap w g c _ T (0,0) g4,?_,hrm,g7,?_,.inl ⟨cap,rfl,lM.setRow (akk _),fun k hk=>bT hk⟩⟩⟩
    ·grind
    grind [List.take_left',List.length_append,Nat.add_mul]
   ·have hr:=run_append_grow (P:=P) w t ty e i z hu hi hzv ⟨g,0,none⟩ len cap (c.toList.take (len*sz)) (by rw[h1,oP,his]) (fun j v hj=>by
      grind [Addr.add_mid,dp,iD]) a n cx xs (by rw[K6,oP,his]) Kw (by omega) (by omega)
     (growslice_fits (by omega) (by simp_all[ae]))
    have G8:=grownCap_ge w (len+n) cap e;refine⟨_,_,hr,.inr ⟨w.heap.size,_,_,e,rfl,fM w.drew _,?_,G8,grownCap_le_maxLen w _ cap e (by omega),?_,.inr ⟨rfl,rfl⟩⟩⟩
    ·rw[amH,amH,Ut];simp only[ak7,K6,h1,←akR];simp_all
    grind [Array.toList_append,List.take_left',List.length_append,Nat.add_mul]
theorem E3{e ty:TypeId}{sz:Nat}{es new:List PV}{z:List V}(hu:E.P.underlying t=some (.slice e))(hz:cZ E e=some z)(oP:sz=aN E.P e)(fl:0<aN E.P e)(hby:0<GZ E.P e)(fm:(es++new).length*GZ E.P e≤ae){G:Nat→Option (List PV)}{w0:bA}{μ:Ro}{φ:Nat→aA}{m:Mem}{w:World}{ρ:Nat→Value}{f:Fr}{draw:Bool}{site:Nat}(hM:av E.P G w0 μ φ m w)(hF:bR E.P μ φ m f ρ){ys yx:Value}(hx:zM E.P μ w sz new yx)(hs:(ys=.slice none 0 0∧es=[])∨∃(g cap:Nat)(c:Array Value)(T:TypeId),ys=.slice (some ⟨g,0,none⟩) es.length cap∧w0.heap.size≤g∧μ g=none∧(∀id b',m id=some b'→¬b'.owns (φ id) g)∧w.heap[g]?=some (.cells c T (0,0))∧cap*sz≤c.size∧es.length≤cap∧cap≤maxLen∧es.length*sz≤c.size∧Cells E.P μ sz es (c.toList.take (es.length*sz))){f':Fr}{m':Mem}(wF:∀(P:Program)(G:Nat→Option (List PV))(w0:bA)(μ:Ro)(φ:Nat→aA)(w w':World)(ρ:Nat→Value)(ph:aA),av P G w0 μ φ m w→bR P μ φ m f ρ→lH P w0 μ φ m w w' site (.arr sz e (es++new)) ph→∃φ',φ' site=ph∧av P G w0 μ φ' m' w'∧bR P μ φ' m' f' ρ):∃w' y φ',(Builtin.append_ #[t,t] ty #[ys,yx]).run E.P w=.ok y w'∧av E.P G w0 μ φ' m' w'∧bR E.P μ φ' m' f' ρ∧af E.P μ φ' (.os site) y:=by
 obtain⟨i,zv,hi,hzv,his,_,P7,_,_,_⟩:=eu hz;have St:(es++new).length=es.length+new.length:=by simp
 obtain⟨os,hos,hC⟩:∃os,((ys=.slice none 0 0∧es.length=0∧os=[])∨∃(g cap:Nat)(c:Array Value)(T:TypeId),ys=.slice (some ⟨g,0,none⟩) es.length cap∧w.heap[g]?=some (.cells c T (0,0))∧cap*sz≤c.size∧es.length≤cap∧cap≤maxLen∧os=c.toList.take (es.length*sz))∧Cells E.P μ sz es os:=by
  rcases hs with⟨h1,rfl⟩|⟨g,cap,c,T,h1,h2,h3,h4,h5,h6,h7,h8,h9,Zn⟩
  ·exact⟨[],.inl ⟨h1,rfl,rfl⟩,.nil⟩
  grind
 obtain⟨xs,Kw,hCx⟩:∃xs,((yx=.slice none 0 0∧new.length=0∧xs=[])∨∃(a:Addr)(cx:Nat),yx=.slice (some a) new.length cx∧xs.length=new.length*sz∧(∀(j:Nat)v,xs[j]?=some v→w.cell? (a.add j)=some v)∧(∀v∈xs,v.oneCell'=true)∧new.length≤cx∧cx≤maxLen)∧Cells E.P μ sz new xs:=by
  cases hx with
  |none hn=>subst hn;exact⟨[],.inl ⟨rfl,rfl,rfl⟩,.nil⟩
  | @some a cx xs hC Kw hcx Vc=>exact⟨xs,.inr ⟨a,cx,rfl,hC.len,Kw,fun u hu=>by obtain⟨j,hj⟩:=aky hu;exact hC.one j u hj,hcx,Vc⟩,hC⟩
 obtain⟨w',y,hr,Vd⟩:=E2 (ty:=ty) hu hi hzv (by omega) oP fl hby (by simp_all) hos Kw;rcases Vd with⟨rfl,rfl,h1,h2⟩|⟨g',DR,c',T',rfl,b1,b2,b3,b4,b5,b6⟩
 ·have h1:es=[]:=akg h1;have h2:new=[]:=akg h2;obtain⟨φ',a1,a2,a3⟩:=wF E.P G w0 μ φ w' w' ρ (DQ none 0 0 sz) hM hF ⟨lM.refl _ _,hM.ro,fun _ _ _ _ _=>rfl,by simp,fun φ' hp _=>by refine⟨by rw[hp,h1,h2];rfl,by rw[hp],oP,by omega,by rw[h1,h2];simp,by rw[hp];simp[maxLen],?_⟩;simp_all,by simp[bH.names],fun st h=>by cases h⟩;exact⟨w',_,φ',hr,a2,a3,.tp (by rw[a1])⟩
 ·have hCC:Cells E.P μ sz (es++new) (c'.toList.take ((es++new).length*sz)):=by rw[St,b5];exact hC.append hCx
  have fin:∀(φ':Nat→aA),φ' site=DQ (some g') DR (es++new).length sz→af E.P μ φ' (.os site) (.slice (some ⟨g',0,none⟩) (es.length+new.length) DR):=fun φ' a1=>by have:=af.os (P:=E.P) (μ:=μ) (φ:=φ') (id:=site) (g:=g') (by rw[a1]);simp_all
  rcases b6 with⟨ZS,hys,b6,b7⟩|⟨rfl,rfl⟩
  ·rcases hs with⟨h1,_⟩|⟨g,cap,c,_,h1,h2,h3,h4,_⟩
   ·rw[hys]at h1;cases h1
   rw[hys]at h1;simp only[Value.slice.injEq,cO,Addr.mk.injEq]at h1;obtain⟨⟨rfl,_⟩,_⟩:=h1;obtain⟨φ',a1,a2,a3⟩:=wF E.P G w0 μ φ w w' ρ (DQ (some g') DR (es++new).length sz) hM hF ⟨b6.mono h2,fun k o hk=>by rw[b7 k (fun e=>by simp_all)];exact hM.ro k o hk,fun id b' g' hid cS=>b7 g' (fun e=>by simp_all),fun g' cS=>by simp_all,fun φ' hp _=>aH.pO (by rw[hp]) oP (by omega) (by rw[hp];omega) b1 (by rw[hp];omega) (by rw[hp,St];omega) hCC,by simp[bH.names],fun st h=>by cases h⟩;grind
  ·obtain⟨φ',a1,a2,a3⟩:=wF E.P G w0 μ φ w.drew _ ρ (DQ (some w.heap.size) DR (es++new).length sz) hM.drew hF (lH.alloc (o:=.cells c' e) hM.drew rfl (fun φ' hp _=>aH.pO (g:=w.heap.size) (by rw[hp]) oP (by omega) (by rw[hp];omega) (fM w.drew _) (by rw[hp];omega) (by rw[hp,St];omega) hCC) (by simp[bH.names]));grind
end
section
variable {R:Type} {E:Env}
theorem NC{draw:Bool}{site:Nat}{t t':TypeId}{s x:V}{f:Fr}{m:Mem}{k:V→Fr→Mem→Option R}{r:R}(h:A2 E draw site t t' s x f m k=some r):draw=false∧t'=t∧∃place f' m',k (.os place) f' m'=some r∧(m' place).isSome=true∧∀(G:Nat→Option (List PV))(w0:bA)(μ:Ro)(φ:Nat→aA)(w:World)(ρ:Nat→Value)(ys yx:Value)(ty:TypeId),av E.P G w0 μ φ m w→bR E.P μ φ m f ρ→af E.P μ φ s ys→af E.P μ φ x yx→∃w' y φ',(Builtin.append_ #[t,t] ty #[ys,yx]).run E.P w=.ok y w'∧av E.P G w0 μ φ' m' w'∧bR E.P μ φ' m' f' ρ∧af E.P μ φ' (.os place) y:=by
 unfold A2 at h;split at h
 ·cases h
 ·rename_i hd;simp only[akp,ana,ak3,ala,AT,Bool.not_eq_eq_eq_not,akf,akz]at hd;refine⟨hd.1,by simpa using hd.2,?_⟩;split at h
  ·rename_i e hu;split at h
   ·cases h
   ·rename_i hz;obtain⟨z,hz⟩:∃z,cZ E e=some z:=by
     cases hq:cZ E e with
     |none=>simp[hq]at hz
     |some z=>simp
    split at h
    ·rename_i new ft HQ;obtain⟨_,_,Ao⟩:=oQ HQ;split at h
     ·split at h
      ·rename_i hb;obtain⟨f',m',_,hk,xm,_,wF⟩:=ef h;refine⟨_,f',m',hk,by simp[xm],fun G w0 μ φ w ρ ys yx ty hM hF hs hx=>?_⟩;cases hs;exact E3 (es:=[]) (draw:=false) hu hz rfl hb.2.2 hb.2.1 (by simpa using hb.1) hM hF (Ao _ _ _ _ _ _ _ hM hx) (.inl ⟨rfl,rfl⟩) wF
      ·cases h
     ·rename_i id;split at h
      ·rename_i sz et es hm;split at h
       ·rename_i hc;obtain⟨rfl,rfl,ajT⟩:=hc;split at h
        ·rename_i hb;obtain⟨f',m',_,hk,xm,_,wF⟩:=ef h;refine⟨_,f',m',hk,by simp[xm],fun G w0 μ φ w ρ ys yx ty hM hF hs hx=>?_⟩;have vF:=hM.forget id;have DS:=hF.forget id;have hA:aH E.P μ φ w id (aN E.P et) et es:=hM.dy id _ hm;have fl:0<aN E.P et:=hA.2.2.2.1;refine E3 (draw:=false) hu hz rfl fl hb.2 hb.1 vF DS (Ao _ _ _ _ _ _ _ hM hx) ?_ wF;cases hs with
         |tp hg=>have a7:=hA.2.2.2.2.2.2;simp_all
         | @os _ g hg=>obtain⟨c,T,c1,c2,c3,c4,c5⟩:=hA.cells hg;obtain⟨o1,o2⟩:=hM.own id _ g hm (.inl hg);refine .inr ⟨g,(φ id).cap,c,T,by rw[hA.1],o1,o2 rfl,fun j b' hj cS=>?_,c1,c2,c3,hA.pN.2,c4,c5⟩;obtain⟨cK,b2,uQ,rfl⟩:=fJ hj;exact cK (hM.inj j id b2 _ g uQ hm (gp.1 cS) (.inl hg))
        ·cases h
       ·cases h
      ·cases h
     ·cases h
    ·cases h
  ·cases h
theorem Jg{P:Program}{w:World}{dT ty elem:TypeId}{ts:List TypeId}{g aeS dCap:Nat}{c:Array Value}{T:TypeId}{sz:Nat}{es new:List PV}{μ:Ro}{yx:Value}(hu:P.underlying dT=some (.slice elem))(oP:sz=aN P elem)(fl:0<sz)(hx:zM P μ w sz new yx)(hg:w.heap[g]?=some (.cells c T (0,0)))(hle:es.length*sz≤c.size)(hd:aeS=es.length)(hC:Cells P μ sz es (c.toList.take (es.length*sz))):∃c':Array Value,(Builtin.copy_ (dT::ts).toArray ty #[.slice (some ⟨g,0,none⟩) aeS dCap,yx]).run P w=.ok (goInt ((min new.length es.length:Nat):Int)) (w.setRow g c')∧c'.size=c.size∧Cells P μ sz (new.take es.length++es.drop new.length) (c'.toList.take ((new.take es.length++es.drop new.length).length*sz)):=by
 subst hd;obtain⟨i,hi,hs⟩:=yV (P:=P) (t:=elem) (by omega);have hnl:(new.take es.length++es.drop new.length).length=es.length:=by simp;omega
 rw[hnl];cases hx with
 |none hn=>subst hn;refine⟨c,?_,rfl,by simpa using hC⟩;have:=setRow_self w g c T (0,0) hg;rw[this];simp[Builtin.copy_,run_underlying hu,Builtin.lenOf,Builtin.firstCells,sizeOf,typeInfo,hi,storeCells]
 | @some a cx xs hX Kw hcx Vc=>
  have aeT:Nat.min new.length es.length=min new.length es.length:=rfl;have hl:(xs.take (min new.length es.length*sz)).length=min new.length es.length*i.size:=by rw[hs,←oP,akI,hX.len];simp
  have ajU:min new.length es.length*sz≤es.length*sz:=ahw _ (Nat.min_le_right _ _);have hf:=run_firstCells_some (P:=P) w i.size (min new.length es.length) a new.length cx (xs.take (min new.length es.length*sz)) hl (fun j v hj=>Kw j v (iD hj).2);have hl':(xs.take (min new.length es.length*sz)).length=min new.length es.length*sz:=by rw[hl,hs,oP]
  have vp:=run_storeCells_at P g 0 T (xs.take (min new.length es.length*sz)) 0 c w hg (by omega) (fun v hv=>by obtain⟨j,hj⟩:=aky hv;exact hX.one j v (iD hj).2);simp only[akV,alZ,alz,hl']at vp;refine⟨(xs.take (min new.length es.length*sz)++c.toList.drop (min new.length es.length*sz)).toArray,?_,?_,?_⟩
  ·have ajI:Nat.min new.length es.length=min new.length es.length:=rfl;simp_all[Builtin.copy_,run_underlying,Builtin.lenOf,sizeOf,typeInfo]
  ·grind
  ·have e1:(xs.take (min new.length es.length*sz)++c.toList.drop (min new.length es.length*sz)).take (es.length*sz)=xs.take (min new.length es.length*sz)++(c.toList.take (es.length*sz)).drop (min new.length es.length*sz):=by simp_all[List.take_append,List.drop_take,akE]
   simp only[];rw[e1];have h1:=(hX.take (min new.length es.length)).append (hC.drop (min new.length es.length));have e2:new.take (min new.length es.length)=new.take es.length:=by grind
   have e3:es.drop (min new.length es.length)=es.drop new.length:=by simp
   simp_all
theorem HS{R:Type}(m:Mem)(sz:Nat)(x:V)(k:List PV→bq→Option R):I2 m sz x k=(fv m sz x).bind fun p=>k p.1 p.2:=by
 cases x with
 |xn id i off=>simp only[I2,fv];grind
 |_=>simp only[I2];grind
theorem Ve{t:TypeId}{d x:V}{m:Mem}{k:V→Mem→bq→Option R}{r:R}(h:KO E t d x m k=some r):∃n id b ft,(∀m2:Mem,(∀x∈((true,id)::ft:bq),m2 x.2=m x.2)→∀(R':Type)(k':V→Mem→bq→Option R'),KO E t d x m2 k'=k' (.pv (.int .i64 n)) (ao m2 id b) ((true,id)::ft))∧k (.pv (.int .i64 n)) (ao m id b) ((true,id)::ft)=some r∧∀(G:Nat→Option (List PV))(w0:bA)(μ:Ro)(φ:Nat→aA)(w:World)(ρ:Nat→Value)(f:Fr)(yd yx:Value)(ts:List TypeId)(ty:TypeId),av E.P G w0 μ φ m w→bR E.P μ φ m f ρ→af E.P μ φ d yd→af E.P μ φ x yx→∃w' φ',(Builtin.copy_ (t::ts).toArray ty #[yd,yx]).run E.P w=.ok (.int .i64 n) w'∧av E.P G w0 μ φ' (ao m id b) w'∧bR E.P μ φ' (ao m id b) f ρ∧(Lit.int .i64 n).wf=true:=by
 unfold KO at h;split at h
 ·rename_i e hu;split at h
  ·rename_i id;split at h
   ·rename_i sz et es hm;split at h
    ·rename_i hc;rw[HS]at h;obtain⟨⟨new,ft⟩,HQ,h⟩:=cT.1 h
     ·obtain⟨ND,_,Ao⟩:=oQ HQ;refine⟨_,id,_,ft,fun m2 cL R' k'=>?_,h,fun G w0 μ φ w ρ f yd yx ts ty hM hF hd hx=>?_⟩
      ·have h1:=cL (true,id) (by simp);simp_all[KO,AI,HS,akj]
      ·have hA:aH E.P μ φ w id sz et es:=hM.dy id _ hm;have hS:=Ao _ _ _ _ _ _ _ hM hx;have hle:=hA.pN;have hlen:(new.take es.length++es.drop new.length).length=es.length:=by simp;omega
       have Eb:(Lit.int .i64 ((min new.length es.length:Nat):Int)).wf=true:=ES (by omega);cases hd with
       |tp hg=>
        have a7:=hA.2.2.2.2.2.2;rw[hg]at a7;have h0:=a7.1;subst h0;refine⟨w,φ,?_,?_,?_,Eb⟩
        ·obtain⟨i,hi,hs⟩:=yV (P:=E.P) (t:=e) (by have:=hA.2.2.2.1;omega);have P8:∀x:Addr,(loadCells x 0).run E.P w=.ok #[] w:=fun x=>by rfl
         cases hS with
         |none hn=>subst hn;simp[Builtin.copy_,run_underlying hu,Builtin.lenOf,Builtin.firstCells,sizeOf,typeInfo,hi,hA.1,goInt]
         |some xs hX Kw hcx Vc=>simp[Builtin.copy_,run_underlying hu,Builtin.lenOf,Builtin.firstCells,sizeOf,typeInfo,hi,hA.1,P8,goInt]
        ·have:ao m id (.arr sz et (new.take ([]:List PV).length++([]:List PV).drop new.length))=m:=by
          funext j;by_cases e:j=id
          ·subst e;simp[hm]
          ·rw[aq e]
         rw[this];omega
        ·exact hF.nA (fun _ _ h=>h) .set
       | @os _ g hg=>
        obtain⟨c,T,c1,c2,c3,c4,c5⟩:=hA.cells hg;obtain⟨c',r1,r2,r3⟩:=Jg (ts:=ts) (ty:=ty) (dCap:=(φ id).cap) hu hc.1 hA.2.2.2.1 hS c1 c4 hA.1 c5;refine⟨_,φ,r1,hM.write hm rfl hg (lM.setRow (akk _)) setRow_size (fun k hk=>bT hk) ?_ rfl (by simp[bH.names]),hF.nA (fun _ _ h=>h) .set,Eb⟩;refine aH.pO (g:=g) ?_ hA.2.2.1 hA.2.2.2.1 hle.2 (setRow_heap w g c c' T (0,0) c1) (by omega) (by rw[hlen];omega) r3;rw[hlen,←hA.1,←hA.2.1];cases hq:(φ id).toC6 with
        |mk a b c d=>simp_all
    ·cases h
   ·cases h
  ·cases h
 ·cases h
end
end Go.Ab
