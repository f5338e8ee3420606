import Derived.Test.YtmbihgjlollbeaaGreatAbP2
import Derived.Great.BuildSlice
import Derived.Laws.AppendOwn
import Derived.Laws.MakeOwn
set_option linter.unusedVariables false
set_option linter.unusedSimpArgs false
namespace Go.Ab
open Go.RowKit (Below)
structure bS(P:Program)(μ:Ro)(φ:Nat→aA)(m:Mem)(f:Fr)(ρ:Nat→Value):Prop where
 fr:∀t,af P μ φ (f t) (ρ t)
 live:∀t id,(f t).has id=true→(m id).isSome=true
section
variable {P:Program} {G:Nat→Option (List PV)} {w0:bx} {μ μ':Ro} {φ φ':Nat→aA} {m m':Mem} {w w':World} {f:Fr} {ρ:Nat→Value}
theorem bS.mono(h:bS P μ φ m f ρ)(hμ:∀b o,μ b=some o→μ' b=some o)(hφ:∀id,(m id).isSome=true→φ' id=φ id∧(m' id).isSome=true):bS P μ' φ' m' f ρ:=⟨fun t=>(h.fr t).mono hμ fun id hid=>(hφ id (h.live t id hid)).1,fun t id hid=>(hφ id (h.live t id hid)).2⟩
theorem fC{id j:Nat}{b:bH}(h:bg (bD id m) id j=some b):j≠id∧∃b',m j=some b'∧b=gq id b':=by
 by_cases e:j=id
 ·subst e;simp at h
 simp_all[gi,Ew]
theorem tu{id j:Nat}(h:j≠id)(hm:(m j).isSome=true):(bg (bD id m) id j).isSome=true:=by grind [gi,bD]
theorem bS.forget(h:bS P μ φ m f ρ)(id:Nat):bS P μ φ (bg (bD id m) id) (eN id f) ρ:=by refine⟨fun t=>(h.fr t).kill id,fun t j hj=>?_⟩;obtain⟨h1,h2⟩:=wR hj;exact tu h2 (h.live t j h1)
theorem av.put(hM:av P G w0 μ φ m w){site:Nat}{b:bH}{ph:aA}(hs:m site=none)(MT:lD w0.heap.size w w')(vT:∀k o,μ k=some o→w'.heap[k]?=some o)(hold:∀id b' g,m id=some b'→b'.owns (φ id) g→w'.heap[g]?=w.heap[g]?)(B2:∀g,b.owns ph g→w0.heap.size≤g∧μ g=none∧∀id b',m id=some b'→¬b'.owns (φ id) g)(GB:b.apart ph)(hB:gG P μ (fun i=>if i=site then ph else φ i) w' site b)(hn:∀id,b.names id=true→(m id).isSome=true)(hlp:∀st,b=.loop st→∃g rc,ph.g=some g∧w0.rc site=some (g,rc)∧w'.heap[g]?=some (.loop (st.obj rc))):av P G w0 μ (fun i=>if i=site then ph else φ i) (ao m site b) w':=by
 refine⟨hM.below.trans MT,vT,hM.aG,fun id b' hid=>?_,fun id b' g hid hg=>?_,fun TQ id2 b1 b2 g h1 h2 g1 g2=>?_,fun id b' hid=>?_,fun j cs id hj hh=>?_,hM.base,hM.dA,fun id st hid=>?_⟩
 rotate_right
 ·by_cases h:id=site
  ·simp_all
  ·rw[aq h]at hid;obtain⟨g,rc,h1,h2,h3⟩:=hM.CO id st hid;exact⟨g,rc,by simp_all,h2,by rw[hold id _ g hid (.inl h1)];omega⟩
 ·by_cases h:id=site
  ·simp_all
  ·rw[aq h]at hid;have hR:=hM.dx id b' hid;refine hR.cg (fun j hj=>?_) (by simp[h]) (fun _ _ h=>h) (fun g hg=>hold id b' g hid hg);have:=hM.MR hid hj;grind
 ·by_cases h:id=site
  ·simp_all
  ·rw[aq h]at hid;simp only[h,S3]at hg;exact hM.own id b' g hid hg
 ·by_cases e1:TQ=site
  ·by_cases e2:id2=site
   ·omega
   simp_all[bM,cN,IS,aq,S3]
  ·by_cases e2:id2=site
   ·simp_all[bM,cN,IS,aq,S3]
   ·rw[aq e1]at h1;rw[aq e2]at h2;simp only[e1,S3]at g1;simp only[e2,S3]at g2;exact hM.inj TQ id2 b1 b2 g h1 h2 g1 g2
 ·by_cases h:id=site
  ·simp_all
  ·rw[aq h]at hid;simp only[h,S3];exact hM.apart id b' hid
 ·by_cases e:id=site
  ·subst e;simp
  ·rw[aq e];by_cases h:j=site
   ·subst h;rw[bM]at hj;simp only[cN]at hj;subst hj;exact hn id hh
   ·rw[aq h]at hj;exact hM.fO j cs id hj hh
end
section
variable {R:Type} {E:Env}
structure lz(P:Program)(w0:bx)(μ:Ro)(φ:Nat→aA)(m:Mem)(w w':World)(site:Nat)(b:bH)(ph:aA):Prop where
 below:lD w0.heap.size w w'
 ro:∀k o,μ k=some o→w'.heap[k]?=some o
 mR:∀id b' g,m id=some b'→b'.owns (φ id) g→w'.heap[g]?=w.heap[g]?
 own:∀g,ph.g=some g→w0.heap.size≤g∧μ g=none∧∀id b',m id=some b'→¬b'.owns (φ id) g
 rep:∀φ',φ' site=ph→(∀id,b.names id=true→φ' id=φ id)→gG P μ φ' w' site b
 names:∀id,b.names id=true→(m id).isSome=true
 lp:∀st,b=.loop st→∃g rc,ph.g=some g∧w0.rc site=some (g,rc)∧w'.heap[g]?=some (.loop (st.obj rc)):=by intro st h;cases h
theorem dZ{draw:Bool}{site:Nat}{b:bH}{f:Fr}{m:Mem}{k:Fr→Mem→bq→Option R}{r:R}(h:fresh draw site b f m k=some r)(JS:∀i off,b.rowAt i off=true→False:=by intro i off h;simp[bH.rowAt]at h):∃f' m',(∀(R':Type)(k':Fr→Mem→bq→Option R'),fresh draw site b f m k'=k' f' m' [(true,site)])∧k f' m' [(true,site)]=some r∧m' site=some b∧(draw=true→m site=none∧f'=f∧m'=ao m site b)∧(∀(P:Program)(G:Nat→Option (List PV))(w0:bx)(μ:Ro)(φ:Nat→aA)(w w':World)(ρ:Nat→Value)(ph:aA),av P G w0 μ φ m w→bS P μ φ m f ρ→lz P w0 μ φ m w w' site b ph→∃φ',φ' site=ph∧av P G w0 μ φ' m' w'∧bS P μ φ' m' f' ρ):=by
 unfold fresh at h;cases hs:m site with
 |none=>
  simp only[hs]at h;refine⟨f,ao m site b,fun R' k'=>by simp only[fresh,hs],h,by simp,fun _=>⟨rfl,rfl,rfl⟩,fun P G w0 μ φ w w' ρ ph hM hF hp=>?_⟩;have Ks:∀id,(m id).isSome=true→id≠site:=fun id hid e=>by simp_all
  refine⟨fun i=>if i=site then ph else φ i,by simp,hM.put hs hp.below hp.ro hp.mR (fun g hg=>hp.own g (oZ JS hg)) (rD JS) (hp.rep _ (by simp) fun id hid=>by simp[Ks id (hp.names id hid)]) hp.names hp.lp,?_⟩;exact hF.mono (fun _ _ h=>h) fun id hid=>⟨by simp[Ks id hid],by grind [aq,id]⟩
 |some b0=>
  simp only[hs]at h;split at h
  ·cases h
  ·rename_i hc;simp only[ajt,ami,aj9]at hc;refine⟨eN site f,ao (bD site m) site b,fun R' k'=>by simp only[fresh,hs];simp[hc],h,by simp,fun hd=>(by simp_all),fun P G w0 μ φ w w' ρ ph hM hF hp=>?_⟩;have vh:=hM.forget site;have DB:=hF.forget site;have hs1:bg (bD site m) site site=none:=by simp
   have Ks:∀id,(bg (bD site m) site id).isSome=true→id≠site:=fun id hid e=>by subst e;simp at hid
   have hnm:∀id,b.names id=true→id≠site:=fun id hid e=>by simp_all
   refine⟨fun i=>if i=site then ph else φ i,by simp,?_,?_⟩
   ·rw[←zf];refine vh.put hs1 hp.below hp.ro (fun id b' g hid hg=>?_) (fun g hg=>?_) (rD JS) (hp.rep _ (by simp) fun id hid=>by simp[hnm id hid]) (fun id hid=>tu (hnm id hid) (hp.names id hid)) hp.lp
    ·obtain⟨_,b2,ux,rfl⟩:=fC hid;exact hp.mR id b2 g ux (gj.1 hg)
    ·obtain⟨h1,h2,h3⟩:=hp.own g (oZ JS hg);refine⟨h1,h2,fun id b' hid ho=>?_⟩;obtain⟨_,b2,ux,rfl⟩:=fC hid;exact h3 id b2 ux (gj.1 ho)
   ·rw[←zf];exact DB.mono (fun _ _ h=>h) fun id hid=>⟨by simp[Ks id hid],by grind [aq,id]⟩
theorem lz.alloc{P:Program}{G:Nat→Option (List PV)}{w0:bx}{μ:Ro}{φ:Nat→aA}{m:Mem}{w:World}{site:Nat}{b:bH}{ph:aA}{o:Obj}(hM:av P G w0 μ φ m w)(YN:ph.g=some w.heap.size)(rep:∀φ',φ' site=ph→(∀id,b.names id=true→φ' id=φ id)→gG P μ φ' (w.alloc o) site b)(names:∀id,b.names id=true→(m id).isSome=true)(lp:∀st,b=.loop st→∃g rc,ph.g=some g∧w0.rc site=some (g,rc)∧(w.alloc o).heap[g]?=some (.loop (st.obj rc)):=by intro st h;cases h):lz P w0 μ φ m w (w.alloc o) site b ph:=by
 have oD:w0.heap.size≤w.heap.size:=hM.below.size;refine⟨(lD.refl _ w).alloc oD o,fun k o' hk=>?_,fun id b' g hid hg=>lD.heap_alloc w o g ((hM.dx id b' hid).Ev hg),fun g hg=>?_,rep,names,lp⟩
 ·have:=hM.ro k o' hk;grind [lD.heap_alloc]
 ·rw[YN]at hg;simp only[cN]at hg;subst hg;refine⟨oD,?_,fun id b' hid hg=>?_⟩
  ·cases hq:μ w.heap.size with
   |none=>rfl
   |some o'=>have:=hM.ro _ _ hq;simp at this
  ·have:=(hM.dx id b' hid).Ev hg;omega
theorem fE(w:World)(o:Obj):(w.alloc o).heap[w.heap.size]?=some o:=heap_alloc_new w o
variable{t:TypeId}
theorem ek{cs:List V}(h:cY E t=some cs):∃i z,E.P.info? t=some i∧i.zero=some z∧i.size=aO E.P t∧cs.length=aO E.P t∧z.cells.size=aO E.P t∧(∀id,b8 id cs=false)∧(∀(μ:Ro)(φ:Nat→aA)(i:Nat)u y,cs[i]?=some u→z.cells[i]?=some y→af E.P μ φ u y)∧(∀(i:Nat)(y:Value),z.cells[i]?=some y→y.oneCell'=true):=by
 unfold cY zeroV at h;cases hi:E.P.info? t with
 |none=>simp[hi]at h
 |some i=>
  cases hz:i.zero with
  |none=>simp[hi,hz]at h
  |some z=>
   simp only[hi,hz,ajn,ajg]at h;obtain⟨h1,h2,h3⟩:=toCells_ok h;obtain⟨h4,_,h6⟩:=h3 E.P (fun _=>none) (fun _=>default) z (ur z);refine⟨i,z,rfl,hz,by simp[aO,hi],h1,h4,fun id=>?_,fun μ φ i u y hu hy=>(h3 E.P μ φ z (ur z)).2.1 i u y hu hy,h6⟩;cases hh:b8 id cs with
   |false=>rfl
   |true=>grind [id,He]
variable{P:Program}{w:World}
theorem pd{i:TypeInfo}{z:Value}(hi:P.info? t=some i)(hz:i.zero=some z):(zeroValue t).run P w=.ok z w:=by simp[zeroValue,typeInfo,hi,hz]
theorem B7{i:TypeInfo}{z:Value}(hi:P.info? t=some i)(hz:i.zero=some z):(Instr.alloc t true (.tuple #[])).run P w=.ok (.pointer (some ⟨w.heap.size,0,none⟩)) (w.alloc (.cells z.cells t)):=by simp[Instr.alloc,pd hi hz,newVar,newRow]
theorem O9{v:Value}:(Instr.box t v).run P w=.ok (.pointer (some ⟨w.heap.size,0,none⟩)) (w.alloc (.cells v.cells t)):=by rfl
variable{c:Array Value}
theorem lz.box{G:Nat→Option (List PV)}{w0:bx}{μ:Ro}{φ:Nat→aA}{m:Mem}{site:Nat}{cs:List V}{T:TypeId}(hM:av P G w0 μ φ m w)(hl:c.size=cs.length)(hv:∀(i:Nat)u y,cs[i]?=some u→c[i]?=some y→af P μ φ u y)(h1:∀(i:Nat)(y:Value),c[i]?=some y→y.oneCell'=true)(hn:∀id,b8 id cs=true→(m id).isSome=true):lz P w0 μ φ m w (w.alloc (.cells c T)) site (.box cs) (Dz (some w.heap.size) 0 cs.length 0):=by refine lz.alloc hM (by rfl) (fun φ' hφ Yi=>⟨w.heap.size,c,T,by rw[hφ],fE w _,hl,fun i u y hu hy=>?_,h1,by rw[hφ]⟩) hn;exact(hv i u y hu hy).mono (fun _ _ h=>h) fun id hid=>Yi id (bK (agx hu) hid)
theorem kM(h:aO P t≠0):(P.info? t).map (·.size)=some (aO P t):=by simp_all[yu]
theorem cZ{T:Type}{cs new:List T}{off i:Nat}{x:T}(hb:off+new.length≤cs.length)(h:(bJ cs off new)[i]?=some x):(off≤i∧i<off+new.length∧new[i-off]?=some x)∨((i<off∨off+new.length≤i)∧cs[i]?=some x):=by rw[dP]at h;rw[ajD,ajF]at h;grind
theorem cn{T:Type}{cs new:List T}{off:Nat}(hb:off+new.length≤cs.length):(bJ cs off new).length=cs.length:=by simp[dP];omega
variable{g:Nat}
theorem gk{v:Value}{o:Nat}{T:TypeId}(hz:v.cells.size=aO P t)(hi:(P.info? t).map (·.size)=some (aO P t))(hg:w.heap[g]?=some (.cells c T (0,0)))(hb:o+v.cells.size≤c.size)(h1:∀(i:Nat)(y:Value),v.cells[i]?=some y→y.oneCell'=true):(Instr.storeAt t (.pointer (some ⟨g,o,none⟩)) v).run P w=.ok () (w.setRow g (bJ c.toList o v.cells.toList).toArray):=by
 have uf:=run_storeCells_at P g o T v.cells.toList 0 c w hg (by omega) (fun x hx=>by grind [List.getElem?_of_mem]);have oD:(sizeOf t).run P w=.ok (aO P t) w:=by
  cases hq:P.info? t with
  |none=>simp[hq]at hi
  |some i=>simp[sizeOf,typeInfo,hq,aO]
 simp only[Instr.storeAt,Instr.sureAddr,storeVar,Sem.run_bind,Sem.run_pure,Result.andThen_ok,oD,hz,ne_eq,not_true_eq_false,S3,uf,akt];rw[dP];try rfl
variable{xs:Array Value}
theorem bU{k:Nat}(h:k≠g):(w.setRow g xs).heap[k]?=w.heap[k]?:=by simp_all[World.setRow,akC,Ne.symm]
theorem setRow_size:(w.setRow g xs).heap.size=w.heap.size:=by simp[World.setRow]
theorem lD.setRow{B:Nat}(h:B≤g):lD B w (w.setRow g xs):=⟨⟨rfl,rfl,rfl,amh setRow_size.symm,fun k hk=>bU (by omega)⟩,fun _=>ajo _⟩
end
section
variable {P:Program} {G:Nat→Option (List PV)} {w0:bx} {μ:Ro} {φ:Nat→aA} {m m':Mem} {w:World}
def kn(m m':Mem):Prop:=∀id,(m id).isSome=true→(m' id).isSome=true
theorem kn.refl(m:Mem):kn m m:=fun _ h=>h
theorem kn.trans{a b c:Mem}(h:kn a b)(k:kn b c):kn a c:=fun id hid=>k id (h id hid)
variable{id:Nat}
theorem kn.set{b:bH}:kn m (ao m id b):=fun j hj=>by
 by_cases e:j=id
 ·subst e;simp
 ·rw[aq e];omega
theorem bS.nh{f:Fr}{ρ:Nat→Value}{μ':Ro}(h:bS P μ φ m f ρ)(hμ:∀b o,μ b=some o→μ' b=some o)(hl:kn m m'):bS P μ' φ m' f ρ:=h.mono hμ fun id hid=>⟨rfl,hl id hid⟩
variable{v:V}{p:PV}
theorem Pa(h:D5 m v=some (p,m')):kn m m'∧∀(P:Program)(G:Nat→Option (List PV))(w0:bx)(μ:Ro)(φ:Nat→aA)(w:World)(x:Value),av P G w0 μ φ m w→af P μ φ v x→∃μ',(∀b o,μ b=some o→μ' b=some o)∧av P G w0 μ' φ m' w∧ai P μ' p x:=by
 unfold D5 at h;split at h
 ·simp only[cN,aab]at h;obtain⟨rfl,rfl⟩:=h;exact⟨.refl _,fun P G w0 μ φ w x hM hx=>⟨μ,fun _ _ h=>h,hM,by cases hx with|pv hx=>omega⟩⟩
 ·simp only[cN,aab]at h;obtain⟨rfl,rfl⟩:=h;exact⟨.refl _,fun P G w0 μ φ w x hM hx=>⟨μ,fun _ _ h=>h,hM,by cases hx;exact .ly⟩⟩
 ·rename_i id;split at h
  ·rename_i s et es hm;simp only[cN,aab]at h;obtain⟨rfl,rfl⟩:=h;refine⟨.set,fun P G w0 μ φ w x hM hx=>⟨_,mn hM (φ id).g,hM.freeze hm,?_⟩⟩;refine(hM.arr (.inl hm)).full hM hx (mn hM _) fun g hg=>?_;simp[qy,hg]
  ·rename_i s et es hm;simp only[cN,aab]at h;obtain⟨rfl,rfl⟩:=h;refine⟨.refl _,fun P G w0 μ φ w x hM hx=>⟨μ,fun _ _ h=>h,hM,?_⟩⟩;refine(hM.arr (.inr hm)).full hM hx (fun _ _ h=>h) fun g hg=>?_;obtain⟨o,ho⟩:=ajv.1 ((hM.dx id _ hm).2 g hg);rw[ho,hM.ro _ _ ho]
  ·rename_i s et es hm;simp only[cN,aab]at h;obtain⟨rfl,rfl⟩:=h;refine⟨.set,fun P G w0 μ φ w x hM hx=>⟨_,rE hM _,hM.O8 hm,?_⟩⟩;have T0:=hM.O8 hm;have hF:aH P _ φ w id s et (es.map PV.strip):=(T0.dx id _ (bM _ _ _)).1;refine hF.Hk (hx.za (rE hM _)) (fun _ _ h=>h) fun g hg=>?_;unfold uy;rw[GW (show(bH.nest s et es).owns (φ id) g from .inl hg)]
  ·cases h
 ·cases h
theorem Hr(h:D5 cM v=some (p,m')):∀(P:Program)(μ:Ro)(φ:Nat→aA)(x:Value),af P μ φ v x→ai P μ p x:=by
 unfold D5 at h;split at h
 ·simp only[cN,aab]at h;obtain⟨rfl,rfl⟩:=h;exact fun P μ φ x hx=>by cases hx with|pv hx=>omega
 ·simp only[cN,aab]at h;obtain⟨rfl,rfl⟩:=h;exact fun P μ φ x hx=>by cases hx;exact .ly
 ·simp[cM]at h
 ·cases h
theorem rF(h:D5 cM v=some (p,m')):m'=cM:=by unfold D5 at h;grind [Option.some.injEq,Prod.mk.injEq,cM]
theorem Ez:∀{cs:List V}{m m':Mem}{ps:List PV},mL m cs=some (ps,m')→kn m m'∧ps.length=cs.length∧∀(P:Program)(G:Nat→Option (List PV))(w0:bx)(μ:Ro)(φ:Nat→aA)(w:World)(X:Nat→Value),av P G w0 μ φ m w→(∀(i:Nat)u,cs[i]?=some u→af P μ φ u (X i))→∃μ',(∀b o,μ b=some o→μ' b=some o)∧av P G w0 μ' φ m' w∧∀(i:Nat)p,ps[i]?=some p→ai P μ' p (X i)
 |[],m,m',ps,h=>by simp only[mL,cN,aab]at h;obtain⟨rfl,rfl⟩:=h;exact⟨.refl _,rfl,fun P G w0 μ φ w X hM _=>⟨μ,fun _ _ h=>h,hM,by simp⟩⟩
 |c::r,m,m',ps,h=>by
  simp only[mL]at h;split at h
  ·rename_i p m1 h1;split at h
   ·rename_i ps1 m2 h2;simp only[cN,aab]at h;obtain⟨rfl,rfl⟩:=h;obtain⟨a1,a2⟩:=Pa h1;obtain⟨b1,b2,b3⟩:=Ez h2;refine⟨a1.trans b1,by simp[b2],fun P G w0 μ φ w X hM hx=>?_⟩;obtain⟨μ1,c1,c2,c3⟩:=a2 P G w0 μ φ w (X 0) hM (hx 0 c (by simp));obtain⟨μ2,d1,d2,d3⟩:=b3 P G w0 μ1 φ w (fun i=>X (i+1)) c2 (fun i u hu=>(hx (i+1) u (by simpa using hu)).za c1);refine⟨μ2,fun b o h=>d1 b o (c1 b o h),d2,fun i q hq=>?_⟩;cases i with
    |zero=>simp at hq;subst hq;exact c3.mono d1
    |succ i=>simp_all
   ·cases h
  ·cases h
theorem zJ:∀{cs:List V}{m':Mem}{ps:List PV},mL cM cs=some (ps,m')→ps.length=cs.length∧∀(P:Program)(μ:Ro)(φ:Nat→aA)(X:Nat→Value),(∀(i:Nat)u,cs[i]?=some u→af P μ φ u (X i))→∀(i:Nat)p,ps[i]?=some p→ai P μ p (X i)
 |[],m',ps,h=>by simp only[mL,cN,aab]at h;simp_all
 |c::r,m',ps,h=>by
  simp only[mL]at h;split at h
  ·rename_i p m1 h1;split at h
   ·rename_i ps1 m2 h2;simp only[cN,aab]at h;obtain⟨rfl,rfl⟩:=h;have:=rF h1;subst this;obtain⟨b2,b3⟩:=zJ h2;refine⟨by simp[b2],fun P μ φ X hx i q hq=>?_⟩;cases i with
    |zero=>simp at hq;subst hq;exact Hr h1 P μ φ _ (hx 0 c (by simp))
    |succ i=>exact b3 P μ φ (fun i=>X (i+1)) (fun i u hu=>hx (i+1) u (by simpa using hu)) i q (by simpa using hq)
   ·cases h
  ·cases h
structure tv(P:Program)(μ:Ro)(n:Nat)(p:PV)(x:Value):Prop where
 len:p.cells.length=n
 size:x.cells.size=n
 rep:∀(j:Nat)q y,p.cells[j]?=some q→x.cells[j]?=some y→ai P μ q y
 one:∀(j:Nat)y,x.cells[j]?=some y→y.oneCell'=true
variable{n:Nat}{agg:Bool}
theorem zg{P:Program}{μ:Ro}{ps:List PV}{x:Value}(hp:(if agg then some (.agg ps)else match ps with|[p]=>some p|_=>none)=some p)(hl:ps.length=n)(hs:x.cells.size=n)(hr:∀(j:Nat)q y,ps[j]?=some q→x.cells[j]?=some y→ai P μ q y)(h1:∀(j:Nat)y,x.cells[j]?=some y→y.oneCell'=true):tv P μ n p x:=by
 have hc:p.cells=ps:=by
  cases agg with
  |true=>simp at hp;subst hp;rfl
  |false=>
   simp only[cQ,S3]at hp;split at hp
   ·rename_i q;simp only[cN]at hp;subst hp;have bT:0<x.cells.size:=by simp at hl;omega
    have hr0:=hr 0 q _ (by simp) (IT bT);have h10:=h1 0 _ (IT bT);generalize x.cells[0]=y at hr0 h10;cases q<;>first|rfl|(cases hr0;simp[Value.oneCell']at h10)
   ·cases hp
 exact⟨by rw[hc];omega,hs,by rw[hc];omega,h1⟩
theorem EA{m m':Mem}(h:kH m n agg v=some (p,m')):kn m m'∧∀(P:Program)(G:Nat→Option (List PV))(w0:bx)(μ:Ro)(φ:Nat→aA)(w:World)(x:Value),av P G w0 μ φ m w→af P μ φ v x→∃μ',(∀b o,μ b=some o→μ' b=some o)∧av P G w0 μ' φ m' w∧tv P μ' n p x:=by
 unfold kH at h;split at h
 ·rename_i cs hc;obtain⟨c1,c2,c3⟩:=toCells_ok hc;split at h
  ·rename_i ps m1 hf;obtain⟨f1,f2,f3⟩:=Ez hf;have hp:(if agg then some (.agg ps)else match ps with|[p]=>some p|_=>none)=some p∧m1=m':=by grind
   obtain⟨hp,rfl⟩:=hp;refine⟨f1,fun P G w0 μ φ w x hM hx=>?_⟩;obtain⟨d1,d2,d3⟩:=c3 P μ φ x hx;have hX:∀(i:Nat),i<cs.length→x.cells[i]?=some (x.cells.getD i undef):=fun i hi=>by simp_all
   obtain⟨μ',e1,e2,e3⟩:=f3 P G w0 μ φ w (fun i=>x.cells.getD i undef) hM fun i u hu=>d2 i u _ hu (hX i (By.1 hu).1);refine⟨μ',e1,e2,zg hp (by omega) d1 (fun j q y hq hy=>?_) d3⟩;grind
  ·cases h
 ·cases h
theorem AG{m':Mem}(h:kH cM n agg v=some (p,m')):∀(P:Program)(μ:Ro)(φ:Nat→aA)(x:Value),af P μ φ v x→tv P μ n p x:=by
 unfold kH at h;split at h
 ·rename_i cs hc;obtain⟨c1,c2,c3⟩:=toCells_ok hc;split at h
  ·rename_i ps m1 hf;obtain⟨f2,f3⟩:=zJ hf;have hp:(if agg then some (.agg ps)else match ps with|[p]=>some p|_=>none)=some p:=by grind
   refine fun P μ φ x hx=>?_;obtain⟨d1,d2,d3⟩:=c3 P μ φ x hx;have hX:∀(i:Nat),i<cs.length→x.cells[i]?=some (x.cells.getD i undef):=fun i hi=>by simp_all
   have e3:=f3 P μ φ (fun i=>x.cells.getD i undef) fun i u hu=>d2 i u _ hu (hX i (By.1 hu).1);refine zg hp (by omega) d1 (fun j q y hq hy=>?_) d3;grind
  ·cases h
 ·cases h
theorem Kt{draw:Bool}{m m':Mem}(h:wK draw m n agg v=some (p,m')):kn m m'∧(draw=true→m'=m∧∀m2:Mem,wK true m2 n agg v=some (p,m2))∧∀(P:Program)(G:Nat→Option (List PV))(w0:bx)(μ:Ro)(φ:Nat→aA)(w:World)(x:Value),av P G w0 μ φ m w→af P μ φ v x→∃μ',(∀b o,μ b=some o→μ' b=some o)∧av P G w0 μ' φ m' w∧tv P μ' n p x:=by
 unfold wK at h;split at h
 ·rename_i hd;split at h
  ·rename_i q m1 hf;simp only[cN,aab]at h;obtain⟨rfl,rfl⟩:=h;exact⟨.refl _,fun _=>⟨rfl,fun m2=>by simp[wK,hf]⟩,fun P G w0 μ φ w x hM hx=>⟨μ,fun _ _ h=>h,hM,AG hf P μ φ x hx⟩⟩
  ·cases h
 grind [EA,absurd]
theorem aH.set{P:Program}{μ:Ro}{φ:Nat→aA}{w:World}{id sz:Nat}{et:TypeId}{es:List PV}(hA:aH P μ φ w id sz et es){g:Nat}(hg:(φ id).g=some g){i off n:Nat}{e p q:PV}{x:Value}(he:es[i]?=some e)(hE:tv P μ n p x)(hb:off+n≤sz)(hq:q.cells=bJ (aC sz e) off p.cells):∃c T,w.heap[g]?=some (.cells c T (0,0))∧i*sz+off+x.cells.size≤c.size∧aH P μ φ (w.setRow g (bJ c.toList (i*sz+off) x.cells.toList).toArray) id sz et (es.set i q):=by
 obtain⟨a1,a2,a3,a4,a5,a6,a7⟩:=hA;rw[hg]at a7;obtain⟨c,T,c1,c2,c3,c4,c5⟩:=a7;have hi:i<es.length:=(By.1 he).1;have Mz:i*sz+off+n≤c.size:=by have:(i+1)*sz≤(φ id).cap*sz:=agw _ (by omega);grind
 have Ku:x.cells.toList.length=n:=by simpa using hE.size
 have Hl:(aC sz e).length=sz:=aW _ _;have hql:q.cells.length=sz:=by rw[hq,cn (by rw[Hl,hE.len];omega),Hl]
 have yB:(bJ c.toList (i*sz+off) x.cells.toList).length=c.size:=by simp_all[cn]
 have sL:∀(i':Nat)e',(es.set i q)[i']?=some e'→(i'=i∧e'=q)∨(i'≠i∧es[i']?=some e'):=by grind
 refine⟨c,T,c1,by rw[hE.size];omega,?_⟩;refine⟨by simp[a1],a2,a3,a4,fun i' e' h'=>?_,a6,?_⟩
 ·grind
 ·rw[hg];refine⟨_,T,setRow_heap w g c _ T (0,0) c1,by simp[yB,c2],by simpa using c3,fun i' e' j p' x' h' hj hx=>?_,fun j x' hj hx=>?_⟩
  ·rw[ajL]at hx;rcases cZ (by simp[hE.size];omega) hx with⟨b1,b2,b3⟩|⟨b1,b2⟩
   ·rw[Ku]at b2;have hii:i'=i∧e'=q:=by
     rcases sL i' e' h' with h|⟨cJ,h'⟩
     ·omega
     ·exfalso;have zK:=(By.1 hj).1;rw[a5 i' e' h']at zK;rcases Nat.lt_or_gt_of_ne cJ with bT|hgt
      ·have:(i'+1)*sz≤i*sz:=agw _ bT;grind
      ·have:(i+1)*sz≤i'*sz:=agw _ hgt;grind
    obtain⟨rfl,rfl⟩:=hii;rw[hq]at hj;rcases cZ (by rw[Hl,hE.len];omega) hj with⟨d1,d2,d3⟩|⟨d1,d2⟩
    ·exact hE.rep _ _ _ d3 (by rw[←ajR,←b3];congr 1;omega)
    ·exfalso;rw[hE.len]at d1;omega
   ·rw[Ku]at b1;have b2:c[i'*sz+j]?=some x':=by simpa using b2
    rcases sL i' e' h' with⟨rfl,rfl⟩|⟨cJ,h'⟩
    ·rw[hq]at hj;rcases cZ (by rw[Hl,hE.len];omega) hj with⟨d1,d2,d3⟩|⟨d1,d2⟩
     ·exfalso;rw[hE.len]at d2;omega
     grind [ei]
    grind
  ·rw[ajL]at hx;rw[akX]at hj;rcases cZ (by simp[hE.size];omega) hx with⟨b1,b2,b3⟩|⟨b1,b2⟩
   ·exact hE.one _ x' (by simpa using b3)
   grind
variable{off:Nat}
theorem IF{s0:Nat}{e:PV}(he:e.cells.length=s0)(ho:off<s0)(hp:∀cs,p≠.agg cs):(setRow s0 e off p).cells=e.cells.set off p:=by
 have h1:p.cells=[p]:=by cases p<;>first|rfl|exact absurd rfl (hp _)
 unfold setRow;split
 ·rename_i hs;subst hs;have:off=0:=by omega
  subst this;match hc:e.cells,he with
  |[c],_=>simp[h1]
 simp_all[PV.cells,ei]
theorem EB{s:Nat}{e:PV}(h1:p.cells.length=n)(h2:e.cells.length=s):(setCells s e off n p).cells=bJ (aC s e) off p.cells:=by
 unfold setCells;split
 ·rename_i h;obtain⟨rfl,rfl⟩:=h;simp_all[dP,aW]
 rfl
theorem aX.change{P:Program}{μ μ':Ro}{φ φ':Nat→aA}{w w':World}{sz:Nat}{et:TypeId}{es es':List PV}(h:aX P μ φ w id sz et es)(hlen:es'.length=es.length)(wG:∀(i:Nat)e,es'[i]?=some e→e.cells.length=sz)(hφ:(φ' id).toCP=(φ id).toCP)(hw:∀g,(φ id).g=some g→w'.heap[g]?=w.heap[g]?)(hc:∀(i:Nat)e'(j:Nat)p' g c T x,es'[i]?=some e'→e'.cells[j]?=some p'→(φ id).g=some g→w.heap[g]?=some (.cells c T (0,0))→c[i*sz+j]?=some x→(∀e p,es[i]?=some e→e.cells[j]?=some p→dX P μ ((φ id).row i j) w p x)→dX P μ' ((φ' id).row i j) w' p' x):aX P μ' φ' w' id sz et es':=by
 obtain⟨a1,a2,a3,a4,a5,a6,a7⟩:=h;unfold aX;rw[hφ];refine⟨by omega,a2,a3,a4,wG,a6,?_⟩;cases hg:(φ id).g with
 |none=>simp_all
 |some g=>grind
theorem eO{T:Type}{l:List T}{i i':Nat}{q e':T}(h:(l.set i q)[i']?=some e'):(i'=i∧e'=q)∨(i'≠i∧l[i']?=some e'):=by grind
theorem aX.set{P:Program}{μ:Ro}{φ:Nat→aA}{w:World}{sz:Nat}{et:TypeId}{es:List PV}(hA:aX P μ φ w id sz et es)(GB:(bH.nest sz et es).apart (φ id)){g:Nat}(hg:(φ id).g=some g){i:Nat}{e q:PV}{x:Value}(he:es[i]?=some e)(hE:tv P μ n p x)(hb:off+n≤sz)(hq:q.cells=bJ (aC sz e) off p.cells):∃c T,w.heap[g]?=some (.cells c T (0,0))∧i*sz+off+x.cells.size≤c.size∧aX P μ φ (w.setRow g (bJ c.toList (i*sz+off) x.cells.toList).toArray) id sz et (es.set i q)∧∀i' vb,(bH.nest sz et (es.set i q)).rowAt i' vb=true→(bH.nest sz et es).rowAt i' vb=true:=by
 have zG:=hA;obtain⟨a1,a2,a3,a4,a5,a6,a7⟩:=hA;rw[hg]at a7;obtain⟨c,T,c1,c2,c3,c4,c5⟩:=a7;have hi:i<es.length:=(By.1 he).1;have Mz:i*sz+off+n≤c.size:=by have:(i+1)*sz≤(φ id).cap*sz:=agw _ (by omega);grind
 have Ku:x.cells.toList.length=n:=by simpa using hE.size
 have Hl:(aC sz e).length=sz:=aW _ _;have hql:q.cells.length=sz:=by rw[hq,cn (by rw[Hl,hE.len];omega),Hl]
 have yB:(bJ c.toList (i*sz+off) x.cells.toList).length=c.size:=by simp_all[cn]
 have cJ:∀i' j' g',(bH.nest sz et es).rowAt i' j'=true→((φ id).row i' j').g=some g'→g'≠g:=fun i' j' g' hr cP e=>(GB i' j' g' hr cP).1 (by rw[e];omega);have uf:∀{i' j':Nat}{e' p':PV}{x':Value}{l:List Value},es[i']?=some e'→e'.cells[j']?=some p'→dX P μ ((φ id).row i' j') w p' x'→dX P μ ((φ id).row i' j') (w.setRow g l.toArray) p' x':=fun h1 h2 h3=>h3.cg (fun _ _ h=>h) fun hr g' cP=>bU (cJ _ _ g' (by rw[dt h1 h2];omega) cP);refine⟨c,T,c1,by rw[hE.size];omega,⟨by simp[a1],a2,a3,a4,fun i' e' h'=>?_,a6,?_⟩,?_⟩
 ·grind
 ·rw[hg];refine⟨_,T,setRow_heap w g c _ T (0,0) c1,by simp[yB,c2],by simpa using c3,fun i' e' j p' x' h' hj hx=>?_,fun j x' hj hx=>?_⟩
  ·rw[ajL]at hx;rcases cZ (by simp[hE.size];omega) hx with⟨b1,b2,b3⟩|⟨b1,b2⟩
   ·rw[Ku]at b2;have hii:i'=i∧e'=q:=by
     rcases eO h' with h|⟨cJ,h'⟩
     ·omega
     ·exfalso;have zK:=(By.1 hj).1;rw[a5 i' e' h']at zK;rcases Nat.lt_or_gt_of_ne cJ with bT|hgt
      ·have:(i'+1)*sz≤i*sz:=agw _ bT;grind
      ·have:(i+1)*sz≤i'*sz:=agw _ hgt;grind
    obtain⟨rfl,rfl⟩:=hii;rw[hq]at hj;rcases cZ (by rw[Hl,hE.len];omega) hj with⟨d1,d2,d3⟩|⟨d1,d2⟩
    ·exact .pure (hE.rep _ _ _ d3 (by rw[←ajR,←b3];congr 1;omega))
    ·exfalso;rw[hE.len]at d1;omega
   ·rw[Ku]at b1;have b2:c[i'*sz+j]?=some x':=by simpa using b2
    rcases eO h' with⟨rfl,rfl⟩|⟨cJ,h'⟩
    ·rw[hq]at hj;rcases cZ (by rw[Hl,hE.len];omega) hj with⟨d1,d2,d3⟩|⟨d1,d2⟩
     ·exfalso;rw[hE.len]at d2;omega
     grind [ei]
    simp_all
  ·rw[ajL]at hx;rw[akX]at hj;rcases cZ (by simp[hE.size];omega) hx with⟨b1,b2,b3⟩|⟨b1,b2⟩
   ·exact hE.one _ x' (by simpa using b3)
   grind
 ·intro i' vb hr;rcases kj hr with⟨_,_,_,e',s,rs,jG,h',uz⟩|⟨_,_,_,_,_,_,jG,_⟩
  ·simp only[bH.nest.injEq]at jG;obtain⟨rfl,rfl,rfl⟩:=jG;rcases eO h' with⟨rfl,rfl⟩|⟨cJ,h'⟩
   ·rw[hq]at uz;rcases cZ (by rw[Hl,hE.len];omega) uz with⟨d1,d2,d3⟩|⟨d1,d2⟩
    ·exfalso;have bT:vb-off<x.cells.size:=by rw[hE.size,←hE.len];omega
     exact absurd (hE.rep _ _ _ d3 (IT bT)).DO (by simp[PV.isRow])
    ·rw[ei (a5 i' e he)]at d2;rw[dt he d2];rfl
   ·rw[dt h' uz];rfl
  ·cases jG
end
section
variable {R:Type} {E:Env}
theorem zh{p:PV}:∀{n o j:Nat}{q:PV},(dO p o n)[j]?=some q→j<n∧q=cell p (o+j)
 |0,o,j,q,h=>by simp[dO]at h
 |n+1,o,0,q,h=>⟨by omega,by simpa[dO]using h.symm⟩
 |n+1,o,j+1,q,h=>by simp only[dO,akN]at h;obtain⟨h1,h2⟩:=zh h;grind
theorem tw{p:PV}:∀{n o:Nat},(dO p o n).length=n
 |0,_=>rfl
 |n+1,o=>by simp[dO,tw]
variable{n:Nat}
theorem zL{s i:Nat}{p e:PV}(h:(fk s n p)[i]?=some e):i<n∧e=.agg (dO p (i*s) s):=by unfold fk at h;grind
theorem T1{p:PV}{u:Unit}(h:asAgg n p=some u):∃cs,p=.agg cs∧cs.length=n:=by unfold asAgg at h;grind
theorem Ri{t:TypeId}{i off s:Nat}{et:TypeId}{b:Option bH}{x:V}{p:PV}(h:MI E t i off b x=some (s,et,n,p)):∃es,b=some (.arr s et es)∧x=.pv p∧BU E t s i off=true∧n=es.length:=by unfold MI at h;grind
theorem Hs{P:Program}{μ:Ro}{s k:Nat}{cs:List PV}{xs:Array Value}(hp:ai P μ (.agg cs) (.agg xs))(hl:cs.length=n*s){i j:Nat}{e q:PV}(he:(fk s n (.agg cs))[i]?=some e)(hq:e.cells[j]?=some q)(hk:k=i*s+j):∃x,xs[k]?=some x∧ai P μ q x∧x.oneCell'=true:=by
 obtain⟨h1,rfl⟩:=zL he;obtain⟨h2,rfl⟩:=zh hq;have bT:i*s+j<n*s:=by have:(i+1)*s≤n*s:=agw _ (by omega);grind
 subst hk;cases hp with
 |agg g1 g2 g3=>have hc:cs[i*s+j]?=some cs[i*s+j]:=cO (by omega);have hx:xs[i*s+j]?=some xs[i*s+j]:=IT (by omega);grind [cell,PV.cells]
theorem Rj{draw:Bool}{t:TypeId}{a x:V}{m:Mem}{k:Mem→bq→Option R}{r:R}(h:tl E draw t a x m k=some r):∃m' ft,k m' ft=some r∧(draw=true→∃id b,m'=ao m id b∧ft=[(true,id)]∧∀m2:Mem,m2 id=m id→∀(R':Type)(k':Mem→bq→Option R'),tl E true t a x m2 k'=k' (ao m2 id b) [(true,id)])∧kn m m'∧∀(G:Nat→Option (List PV))(w0:bx)(μ:Ro)(φ:Nat→aA)(w:World)(ya yx:Value),av E.P G w0 μ φ m w→af E.P μ φ a ya→af E.P μ φ x yx→(∀id,x.has id=true→(m id).isSome=true)→∃w' μ',(Instr.storeAt t ya yx).run E.P w=.ok () w'∧(∀b o,μ b=some o→μ' b=some o)∧av E.P G w0 μ' φ m' w':=by
 unfold tl at h;split at h
 ·rename_i id off;split at h
  ·rename_i cs hm;split at h
   ·rename_i new hn;split at h
    ·rename_i hb;refine⟨_,_,h,fun hd=>⟨id,_,rfl,rfl,fun m2 cK R' k'=>by simp_all[tl,GW]⟩,.set,fun G w0 μ φ w ya yx hM ha hx hlx=>?_⟩;obtain⟨n1,n2,n3⟩:=toCells_ok hn;obtain⟨x1,x2,x3⟩:=n3 _ _ _ _ hx;cases ha with
     | @op _ _ g hg=>
      obtain⟨g',c,T,cP,hh,hs,hv,h1,Ep⟩:=hM.dx id _ hm;rw[hg]at cP;simp only[cN]at cP;subst cP;have hi:=kM (P:=E.P) (t:=t) (by omega);have mo:off+yx.cells.toList.length≤c.toList.length:=by simp;omega
      refine⟨_,μ,gk x1 hi hh (by omega) x3,fun _ _ h=>h,?_⟩;refine hM.write hm rfl hg (lD.setRow (ajo _)) setRow_size (fun k hk=>bU hk) ⟨g,_,T,hg,setRow_heap w g c _ T (0,0) hh,?_,fun i u y hu hy=>?_,fun i y hy=>?_,by simp_all[cn]⟩ rfl fun j hj=>?_
      ·simp_all[ake,cn]
      ·rw[ajL]at hy;have e1:yx.cells.toList.length=new.length:=by simp;omega
       rcases cZ mo hy with⟨b1,b2,b3⟩|⟨b1,b2⟩<;>rcases cZ (by omega) hu with⟨d1,d2,d3⟩|⟨d1,d2⟩
       ·grind
       ·omega
       ·omega
       grind
      ·rw[ajL]at hy;rcases cZ mo hy with⟨b1,b2,b3⟩|⟨b1,b2⟩
       ·grind
       grind
      ·simp only[bH.names]at hj;obtain⟨v,T2,hh'⟩:=cy.1 hj;simp only[dP,ajA]at T2;rcases T2 with(T2|T2)|T2
       ·exact hM.fO id cs j hm (bK (akn T2) hh')
       ·grind [bK]
       ·exact hM.fO id cs j hm (bK (akv T2) hh')
    ·cases h
   ·cases h
  ·cases h
 ·rename_i id i off;split at h
  ·rename_i s et n p hwv;obtain⟨es,hm,rfl,hw,hn⟩:=Ri hwv;subst hn;obtain⟨u,hu,h⟩:=cT.1 h;split at h
   ·rename_i hl;obtain⟨ha,rfl,rfl,_⟩:=Hj hw;obtain⟨cs,rfl,wG⟩:=T1 hu;refine⟨_,_,h,fun _=>⟨id,_,rfl,rfl,fun m2 cK R' k'=>?_⟩,.set,fun G w0 μ φ w ya yx hM ha hx _=>?_⟩
    ·simp_all[tl,ajn,GW]
    ·have hA:aH E.P μ φ w id s et es:=hM.dx id _ hm;cases ha with
     | @oe _ _ _ g hg=>
      cases hx with
      |pv hx=>
       have IG:=hx;cases hx with
       | @agg _ xs g1 g2 g3=>
        obtain⟨a1,a2,a3,a4,a5,a6,a7⟩:=hA;rw[hg]at a7;obtain⟨c,T,c1,c2,c3,c4,c5⟩:=a7;have hle:es.length*s≤c.size:=ajQ (agw _ c3) c2;have JT:xs.size=es.length*s:=by omega
        have ff:aO E.P t≠0:=by omega
        have hl1:=hl.1;have hi:=kM (P:=E.P) (t:=t) ff;have hcz:(Value.agg xs).cells.size=aO E.P t:=by simp[Value.cells];omega
        refine⟨w.setRow g (bJ c.toList 0 xs.toList).toArray,μ,?_,fun _ _ h=>h,hM.write hm rfl hg (lD.setRow (ajo _)) setRow_size (fun k hk=>bU hk) ?_ rfl (fun j hj=>by simp[bH.names]at hj)⟩
        ·rw[show 0*(φ id).sz+0=0 by omega];exact gk hcz hi c1 (by omega) (fun i y hy=>g3 i y hy)
        ·have Hl:∀(i:Nat)(x:Value),i<es.length*s→(bJ c.toList 0 xs.toList).toArray[i]?=some x→xs[i]?=some x:=fun i x hi hx=>by
          rw[ajL]at hx;rcases cZ (by simp;omega) hx with⟨b1,b2,b3⟩|⟨b1,b2⟩
          ·simpa using b3
          grind
         refine⟨by rw[a1];simp[fk],a2,a3,a4,fun i e he=>?_,a6,?_⟩
         ·obtain⟨_,rfl⟩:=zL he;exact tw
         ·rw[hg];refine⟨_,T,setRow_heap w g c _ T (0,0) c1,?_,?_,fun i e j q x he hq hx=>?_,fun i x hi hx=>?_⟩
          ·simp_all[ake,cn,Value.cells]
          ·simpa[fk]using c3
          ·obtain⟨x',x1,x2,_⟩:=Hs (k:=i*s+j) IG (by omega) he hq rfl;grind
          grind [fk]
   ·cases h
  rename_i hwn;split at h
  ·rename_i p m1 hf;obtain⟨f1,f2,f3⟩:=Kt hf;split at h
   ·rename_i s et es hm;obtain⟨e,he,h⟩:=cT.1 h;have key:∀q,0<aO E.P t→off+aO E.P t≤s→(p.cells.length=aO E.P t→e.cells.length=s→q.cells=bJ (aC s e) off p.cells)→∀(G:Nat→Option (List PV))(w0:bx)(μ:Ro)(φ:Nat→aA)(w:World)(ya yx:Value),av E.P G w0 μ φ m w→af E.P μ φ (.oe id i off) ya→af E.P μ φ x yx→(∀id,x.has id=true→(m id).isSome=true)→∃w' μ',(Instr.storeAt t ya yx).run E.P w=.ok () w'∧(∀b o,μ b=some o→μ' b=some o)∧av E.P G w0 μ' φ (ao m1 id (.arr s et (es.set i q))) w':=by
     intro q hz hb hq G w0 μ φ w ya yx hM ha hx _;obtain⟨μ',g1,g2,g3⟩:=f3 _ _ _ _ _ _ _ hM hx;cases ha with
     | @oe _ _ _ g hg=>have hA:aH E.P μ' φ w id s et es:=g2.dx id _ hm;have hq':=hq g3.len (hA.2.2.2.2.1 i e he);obtain⟨c,T,hh,mo,zG⟩:=hA.set hg he g3 hb hq';have oD:(φ id).sz=s:=hA.2.1;have hi:=kM (P:=E.P) (t:=t) (by omega);refine⟨_,μ',?_,g1,g2.write hm rfl hg (lD.setRow (ajo _)) setRow_size (fun k hk=>bU hk) zG rfl fun j hj=>by simp[bH.names]at hj⟩;rw[oD];exact gk g3.size hi hh mo g3.one
    split at h
    ·rename_i hb;refine⟨_,_,h,fun hd=>?_,f1.trans .set,key p (by omega) (by omega) fun h1 h2=>?_⟩
     ·obtain⟨rfl,f4⟩:=f2 hd;refine⟨id,_,rfl,rfl,fun m2 cK R' k'=>?_⟩;simp_all[tl,ajn,GW]
     simp_all[dP,aW]
    ·rename_i Pb;split at h
     ·rename_i hb;refine⟨_,_,h,fun hd=>?_,f1.trans .set,key _ (by omega) (by omega) fun _ _=>rfl⟩;obtain⟨rfl,f4⟩:=f2 hd;refine⟨id,_,rfl,rfl,fun m2 cK R' k'=>?_⟩;simp_all[tl,ajn,No,GW]
     ·cases h
   ·rename_i s et es hm;obtain⟨e,he,h⟩:=cT.1 h;split at h
    ·rename_i hb;refine⟨_,_,h,fun hd=>?_,f1.trans .set,fun G w0 μ φ w ya yx hM ha hx _=>?_⟩
     ·obtain⟨rfl,f4⟩:=f2 hd;refine⟨id,_,rfl,rfl,fun m2 cK R' k'=>?_⟩;simp_all[tl,ajn,GW]
     ·obtain⟨μ',g1,g2,g3⟩:=f3 _ _ _ _ _ _ _ hM hx;cases ha with
      | @oe _ _ _ g hg=>have hA:aX E.P μ' φ w id s et es:=g2.dx id _ hm;obtain⟨c,T,hh,mo,zG,hrw⟩:=aX.set (q:=.agg (bJ (aC s e) off p.cells)) hA (g2.apart id _ hm) hg he g3 hb.1 rfl;have oD:(φ id).sz=s:=hA.2.1;have hi:=kM (P:=E.P) (t:=t) (by omega);refine⟨_,μ',?_,g1,g2.write hm rfl hg (lD.setRow (ajo _)) setRow_size (fun k hk=>bU hk) zG rfl (fun j hj=>by simp[bH.names]at hj) (fun st h=>by cases h) hrw⟩;rw[oD];exact gk g3.size hi hh mo g3.one
    ·cases h
   ·cases h
  ·cases h
 ·rename_i id i off s j off2;split at h
  ·rename_i p m1 hf;split at h
   ·rename_i s0 et es hm;obtain⟨e,he,h⟩:=cT.1 h;obtain⟨rs,hr,h⟩:=cT.1 h;obtain⟨q,hq,h⟩:=cT.1 h;split at h
    ·rename_i hb;refine⟨_,_,h,fun _=>⟨id,_,rfl,rfl,fun m2 cK R' k'=>?_⟩,.set,fun G w0 μ φ w ya yx hM ha hx _=>?_⟩
     ·simp_all[tl,ajn,GW]
     ·have hE:=AG hf E.P μ φ yx hx;have hN:aX E.P μ φ w id s0 et es:=hM.dx id _ hm;obtain⟨g,y,hg,AH,⟨⟨Gq,hA⟩,hV⟩,hce⟩:=hN.row he hr;have GB:=hM.apart id _ hm;have mS:(bH.nest s0 et es).rowAt i off=true:=by rw[dt he hce];rfl
      have Ht:=hN.2.2.2.2.1 i e he;have T3:(setRow s0 e off (.qE s (rs.set j (setCells s q off2 (aO E.P t) p)))).cells=e.cells.set off (.qE s (rs.set j (setCells s q off2 (aO E.P t) p))):=IF Ht hb.2.2 (by simp);cases ha with
      | @Ar _ _ _ _ _ _ g' cP hs=>
       obtain⟨cJ,aiM⟩:=GB i off g' mS cP;obtain⟨c,T,hh,mo,zG⟩:=hA.set (g:=g') cP hq hE hb.1 (EB hE.len (hA.2.2.2.2.1 j q hq));have hi:=kM (P:=E.P) (t:=t) (by omega);refine⟨_,μ,gk hE.size hi hh mo hE.one,fun _ _ h=>h,hM.TX hm rfl (.inr ⟨i,off,mS,cP⟩) (lD.setRow (ajo _)) setRow_size (fun k hk=>bU hk) ?_ rfl (fun j hj=>by simp[bH.names]at hj) ?_⟩
       ·refine aX.change hN (by simp) (fun i' e' h'=>?_) rfl (fun g0 MQ=>bU fun e=>cJ (by rw[←e];omega)) (fun i' e' j' p' g0 c0 _ x' h' uz MQ Kv IG hold=>?_)
        ·rcases eO h' with⟨_,rfl⟩|⟨_,h'⟩
         ·grind
         ·exact hN.2.2.2.2.1 i' e' h'
        ·have other:∀e'' p'',es[i']?=some e''→e''.cells[j']?=some p''→(i',j')≠(i,off)→dX E.P μ ((φ id).row i' j') (w.setRow g' (bJ c.toList (j*s+off2) yx.cells.toList).toArray) p'' x':=fun e'' p'' h1 h2 h3=>(hold e'' p'' h1 h2).cg (fun _ _ h=>h) fun wF g'' aiV=>bU fun e=>by grind [dt]
         rcases eO h' with⟨rfl,rfl⟩|⟨Yj,h'⟩
         ·rw[T3]at uz;rcases eO uz with⟨rfl,rfl⟩|⟨hnj,uz⟩
          ·have Rk:eC E.P μ ((φ id).row i' j') w s rs x':=hold e _ he hce;refine⟨⟨Gq,zG⟩,?_⟩;exact Rk.2
          grind
         grind
       ·intro i' vb wF;rcases kj wF with⟨_,_,_,e',s',rs',jG,h',uz⟩|⟨_,_,_,_,_,_,jG,_⟩
        ·simp only[bH.nest.injEq]at jG;obtain⟨rfl,rfl,rfl⟩:=jG;rcases eO h' with⟨rfl,rfl⟩|⟨Yj,h'⟩
         ·rw[T3]at uz;rcases eO uz with⟨rfl,_⟩|⟨hnj,uz⟩
          ·omega
          ·rw[dt he uz];rfl
         ·rw[dt h' uz];rfl
        ·cases jG
    ·cases h
   ·cases h
  ·cases h
 ·cases h
end
structure Cells(P:Program)(μ:Ro)(sz:Nat)(es:List PV)(xs:List Value):Prop where
 len:xs.length=es.length*sz
 each:∀(i:Nat)e,es[i]?=some e→e.cells.length=sz
 rep:∀(i:Nat)e(j:Nat)p y,es[i]?=some e→e.cells[j]?=some p→xs[i*sz+j]?=some y→ai P μ p y
 one:∀(i:Nat)y,xs[i]?=some y→y.oneCell'=true
section
variable {P:Program} {μ μ':Ro} {φ:Nat→aA} {w:World} {sz:Nat} {es es':List PV} {xs xs':List Value}
theorem Cells.nil:Cells P μ sz [] []:=⟨by simp,by simp,by simp,by simp⟩
theorem Cells.mono(h:Cells P μ sz es xs)(hμ:∀b o,μ b=some o→μ' b=some o):Cells P μ' sz es xs:=⟨h.len,h.each,fun i e j p y h1 h2 h3=>(h.rep i e j p y h1 h2 h3).mono hμ,h.one⟩
theorem EC{i j n:Nat}(hi:i<n)(hj:j<sz):i*sz+j<n*sz:=by have:(i+1)*sz≤n*sz:=agw _ hi;grind
theorem Cells.append(h:Cells P μ sz es xs)(h':Cells P μ sz es' xs'):Cells P μ sz (es++es') (xs++xs'):=by
 refine⟨by simp[h.len,h'.len,ajV],fun i e hi=>?_,fun i e j p y hi hj hy=>?_,fun i y hy=>?_⟩
 ·rw[ajF]at hi;split at hi
  ·exact h.each i e hi
  ·exact h'.each _ e hi
 ·rw[ajF]at hi hy;split at hi
  ·rename_i hl;have zK:j<sz:=by rw[←h.each i e hi];grind
   rw[GW (by rw[h.len];exact EC hl zK)]at hy;exact h.rep i e j p y hi hj hy
  ·rename_i hl;have hle:es.length*sz≤i*sz:=agw _ (by omega);rw[No (by rw[h.len];omega)]at hy;refine h'.rep _ e j p y hi hj ?_;rw[←hy,h.len,Nat.sub_mul];congr 1;omega
 ·rw[ajF]at hy;split at hy
  ·exact h.one i y hy
  ·exact h'.one _ y hy
theorem Cells.take(h:Cells P μ sz es xs)(n:Nat):Cells P μ sz (es.take n) (xs.take (n*sz)):=by refine⟨?_,fun i e hi=>h.each i e (iy hi).2,fun i e j p y hi hj hy=>h.rep i e j p y (iy hi).2 hj (iy hy).2,fun i y hy=>h.one i y (iy hy).2⟩;rw[ajP,ajP,h.len];simp
theorem Cells.drop(h:Cells P μ sz es xs)(n:Nat):Cells P μ sz (es.drop n) (xs.drop (n*sz)):=by refine⟨by simp[h.len,Nat.sub_mul],fun i e hi=>h.each _ e (uu hi),fun i e j p y hi hj hy=>h.rep _ e j p y (uu hi) hj ?_,fun i y hy=>h.one _ y (uu hy)⟩;grind
variable{id:Nat}{et:TypeId}
theorem aH.cells(hA:aH P μ φ w id sz et es){g:Nat}(hg:(φ id).g=some g):∃(c:Array Value)(T:TypeId),w.heap[g]?=some (.cells c T (0,0))∧(φ id).cap*sz≤c.size∧es.length≤(φ id).cap∧es.length*sz≤c.size∧Cells P μ sz es (c.toList.take (es.length*sz)):=by
 obtain⟨a1,a2,a3,a4,a5,a6,a7⟩:=hA;rw[hg]at a7;obtain⟨c,T,c1,c2,c3,c4,c5⟩:=a7;have hle:es.length*sz≤c.size:=ajQ (agw _ c3) c2;refine⟨c,T,c1,c2,c3,hle,by simp;omega,a5,fun i e j p y hi hj hy=>?_,fun i y hy=>?_⟩
 ·grind
 grind
theorem aH.pA{g:Nat}{T:TypeId}{c:Array Value}(YN:(φ id).toCP=⟨some g,(φ id).cap,es.length,sz⟩)(oD:sz=aO P et)(ff:0<sz)(qI:(φ id).cap≤maxLen)(hh:w.heap[g]?=some (.cells c T (0,0)))(hc:(φ id).cap*sz≤c.size)(hle:es.length≤(φ id).cap)(hC:Cells P μ sz es (c.toList.take (es.length*sz))):aH P μ φ w id sz et es:=by
 have e1:(φ id).g=some g:=by rw[YN]
 refine⟨by rw[YN],by rw[YN],oD,ff,hC.each,qI,?_⟩;rw[e1];have zK:∀(i:Nat)e(j:Nat)p,es[i]?=some e→e.cells[j]?=some p→i*sz+j<es.length*sz:=fun i e j p hi hj=>EC (By.1 hi).1 (by rw[←hC.each i e hi];grind);refine⟨c,T,hh,hc,hle,fun i e j p x hi hj hx=>?_,fun i x hi hx=>?_⟩
 ·exact hC.rep i e j p x hi hj (by grind)
 ·exact hC.one i x (by grind)
inductive zi(P:Program)(μ:Ro)(w:World)(sz:Nat)(es:List PV):Value→Prop
 |none:es=[]→zi P μ w sz es (.slice none 0 0)
 |some {a:Addr} {c:Nat} (xs:List Value):Cells P μ sz es xs→(∀(j:Nat)v,xs[j]?=some v→w.cell? (a.add j)=some v)→es.length≤c→c≤maxLen→zi P μ w sz es (.slice (some a) es.length c)
theorem aH.src(hA:aH P μ φ w id sz et es){g:Nat}(hg:(φ id).g=some g){lo len cap:Nat}(hl:lo+len≤es.length)(hcc:len≤cap)(aiW:lo+cap≤(φ id).cap):zi P μ w sz ((es.drop lo).take len) (.slice (some ⟨g,lo*sz,none⟩) len cap):=by
 obtain⟨c,T,c1,c2,c3,c4,c5⟩:=hA.cells hg;have qI:=hA.pz;have hlen:((es.drop lo).take len).length=len:=by simp;omega
 have:=zi.some (P:=P) (μ:=μ) (w:=w) (sz:=sz) (es:=(es.drop lo).take len) (a:=⟨g,lo*sz,none⟩) (c:=cap) _ ((c5.drop lo).take len) (fun j v hv=>?_) (by omega) (by omega)
 ·simp_all
 grind [iy,uu,Addr.add_mid,dm]
end
section
variable {R:Type} {E:Env}
theorem ai.src{P:Program}{G:Nat→Option (List PV)}{w0:bx}{μ:Ro}{φ:Nat→aA}{m:Mem}{w:World}{sz:Nat}{es:List PV}{y:Value}(hM:av P G w0 μ φ m w)(h:ai P μ (.rs sz es) y):zi P μ w sz es y:=by
 cases h with
 |ly=>exact .none rfl
 |Gw hc=>exact .some (es:=[]) [] .nil (by simp) (by simp) hc
 | @rs _ _ b o cap X h1 h2 h3 h4 h5 h6=>
  by_cases hz:sz=0
  ·subst hz;refine .some [] ⟨by simp,h3,fun i e j p y hi hj=>?_,by simp⟩ (by simp) h1 h2;simp
  ·have eX:∀k v,((List.range (es.length*sz)).map fun k=>X (k/sz) (k%sz))[k]?=some v→∃(e:PV)(p:PV),es[k/sz]?=some e∧e.cells[k%sz]?=some p∧v=X (k/sz) (k%sz):=by
    intro k v hk;have bT:k<es.length*sz:=by grind
    rw[IN,akA bT]at hk;simp at hk;have hi:k/sz<es.length:=(Nat.div_lt_iff_lt_mul (by omega)).2 bT;have hj:k%sz<(es[k/sz]).cells.length:=by rw[h3 _ _ (cO hi)];exact al4 _ (by omega)
    simp_all
   refine .some ((List.range (es.length*sz)).map fun k=>X (k/sz) (k%sz)) ⟨by simp,h3,fun i e j p y hi hj hy=>?_,fun k v hk=>?_⟩ (fun k v hk=>?_) h1 h2
   ·obtain⟨e',p',he,hp,rfl⟩:=eX _ _ hy;have zK:j<sz:=by grind
    have e1:(i*sz+j)/sz=i:=by rw[ali,Nat.mul_add_div (by omega),Nat.div_eq_of_lt zK];rfl
    simp_all[ali,Nat.mul_add_mod,ak5]
   ·grind
   ·obtain⟨e',p',he,hp,rfl⟩:=eX _ _ hk;rw[Addr.add_mid];have:=hM.cellAt (h4 _ e' _ p' he hp);rw[←this];simp[congr,ajU,Nat.div_add_mod']
theorem oE{m:Mem}{sz:Nat}{x:V}{es:List PV}{ft:bq}(h:fl m sz x=some (es,ft)):(∀m2:Mem,(∀x∈ft,m2 x.2=m x.2)→fl m2 sz x=some (es,ft))∧(∀x∈ft,x.1=false)∧∀(P:Program)(G:Nat→Option (List PV))(w0:bx)(μ:Ro)(φ:Nat→aA)(w:World)(y:Value),av P G w0 μ φ m w→af P μ φ x y→zi P μ w sz es y:=by
 unfold fl at h;split at h
 ·rename_i s es';split at h
  ·rename_i hs;simp only[cN,aab]at h;obtain⟨rfl,rfl⟩:=h;subst hs;exact⟨fun m2 _=>by simp[fl],by simp,fun P G w0 μ φ w y hM hy=>by cases hy with|pv hy=>exact hy.src hM⟩
  ·split at h
   ·simp only[cN,aab]at h;obtain⟨rfl,rfl⟩:=h;refine⟨fun m2 _=>by simp[fl],by simp,fun P G w0 μ φ w y hM hy=>?_⟩;cases hy with
    |pv hy=>cases hy with
     |ly=>exact .none rfl
     |Gw hc=>exact .some (es:=[]) [] .nil (by simp) (by simp) hc
     |rs X h1 h2=>exact .some (es:=[]) [] .nil (by simp) h1 h2
   ·cases h
 ·simp only[cN,aab]at h;obtain⟨rfl,rfl⟩:=h;exact⟨fun m2 _=>by rfl,by simp,fun P G w0 μ φ w y hM hy=>by cases hy;exact .none rfl⟩
 ·rename_i id;have key:∀(s:Nat)(et:TypeId)(es:List PV),(m id=some (.arr s et es)∨m id=some (.qT s et es))→∀(P:Program)(G:Nat→Option (List PV))(w0:bx)(μ:Ro)(φ:Nat→aA)(w:World)(y:Value),av P G w0 μ φ m w→af P μ φ (.os id) y→zi P μ w s es y:=by
   intro s et es hm P G w0 μ φ w y hM hy;have hA:=hM.arr hm;cases hy with
   |sK hg=>obtain⟨a1,a2,a3,a4,a5,a6,a7⟩:=hA;rw[hg]at a7;exact .none a7.1
   |os hg=>have:=hA.src hg (lo:=0) (len:=es.length) (cap:=(φ id).cap) (by omega) (hA.pz).1 (by omega);rw[hA.1];simpa using this
  split at h
  ·rename_i s' et es' hm;split at h
   ·rename_i hs;simp only[cN,aab]at h;obtain⟨rfl,rfl⟩:=h;subst hs;exact⟨fun m2 cK=>by have:=cK (false,id) (by simp);simp_all[fl],by simp,key _ _ _ (.inl hm)⟩
   ·cases h
  ·rename_i s' et es' hm;split at h
   ·rename_i hs;simp only[cN,aab]at h;obtain⟨rfl,rfl⟩:=h;subst hs;exact⟨fun m2 cK=>by have:=cK (false,id) (by simp);simp_all[fl],by simp,key _ _ _ (.inr hm)⟩
   ·cases h
  ·cases h
 ·rename_i id lo len;have key:∀(s:Nat)(et:TypeId)(es:List PV),(m id=some (.arr s et es)∨m id=some (.qT s et es))→∀(P:Program)(G:Nat→Option (List PV))(w0:bx)(μ:Ro)(φ:Nat→aA)(w:World)(y:Value),av P G w0 μ φ m w→af P μ φ (.fL id lo len) y→zi P μ w s ((es.drop lo).take len) y:=by
   intro s et es hm P G w0 μ φ w y hM hy;have hA:=hM.arr hm;have hle:=hA.pz;have MA:=hA.1;have oD:=hA.2.1;cases hy with
   |rq hg=>simp;exact .none rfl
   |fL hg hl ha hc1 Tm=>
    rcases ha with rfl|⟨ha,_⟩
    ·rw[oD];exact hA.src hg (by omega) hc1 Tm
    ·have h0:len=0:=by omega
     subst h0;simp only[ak0];exact .some (es:=[]) [] .nil (by simp) (by simp) (by omega)
  split at h
  ·rename_i s' et es' hm;split at h
   ·rename_i hs;simp only[cN,aab]at h;obtain⟨rfl,rfl⟩:=h;subst hs;exact⟨fun m2 cK=>by have:=cK (false,id) (by simp);simp_all[fl],by simp,key _ _ _ (.inl hm)⟩
   ·cases h
  ·rename_i s' et es' hm;split at h
   ·rename_i hs;simp only[cN,aab]at h;obtain⟨rfl,rfl⟩:=h;subst hs;exact⟨fun m2 cK=>by have:=cK (false,id) (by simp);simp_all[fl],by simp,key _ _ _ (.inr hm)⟩
   ·cases h
  ·cases h
 ·rename_i id i off;split at h
  ·rename_i s0 et0 es0 hm;obtain⟨e,he,h⟩:=cT.1 h;obtain⟨rs,hr,h⟩:=cT.1 h;simp only[cN,aab]at h;obtain⟨rfl,rfl⟩:=h;refine⟨fun m2 cK=>by have:=cK (false,id) (by simp);simp_all[fl],by simp,fun P G w0 μ φ w y hM hy=>?_⟩;have hN:aX P μ φ w id s0 et0 es0:=hM.dx id _ hm;obtain⟨_,_,_,_,⟨⟨Gq,hA⟩,_⟩,_⟩:=hN.row he hr;have hy:=hy.MO (ν:=μ);cases hy with
   |sK hg=>obtain⟨a1,a2,a3,a4,a5,a6,a7⟩:=hA;rw[hg]at a7;exact .none a7.1
   |os hg=>have:=hA.src hg (lo:=0) (len:=rs.length) (cap:=(((φ id).row i off).up).cap) (by omega) (hA.pz).1 (by omega);rw[hA.1];simpa using this
  ·cases h
 ·cases h
end
section
variable {P:Program} {w:World}
theorem pO{t ty e:TypeId}(hu:P.underlying t=some (.slice e))(hz:aO P e≠0){base a:Option Addr}{n cap c:Nat}(hn:n≤cap):(Builtin.append_ #[t,t] ty #[.slice base n cap,.slice a 0 c]).run P w=.ok (.slice base n cap) w:=by
 obtain⟨i,hi,hs⟩:=yu hz;have hl:∀x:Addr,(loadCells x 0).run P w=.ok #[] w:=fun x=>by rfl
 cases base<;>cases a<;>simp[Builtin.append_,run_underlying hu,sizeOf,typeInfo,hi,Builtin.lenOf,Builtin.firstCells,hn,hl,storeCells]
end
theorem B8{P:Program}{w:World}(t ty e T:TypeId)(i:TypeInfo)(ht:P.underlying t=some (.slice e))(hi:P.info? e=some i)(g MU abv:Nat)(cur:Array Value)(hg:w.heap[g]?=some (.cells cur T (0,0)))(a:Addr)(m c:Nat)(news:List Value)(hl:news.length=m*i.size)(adH:∀j u,news[j]?=some u→w.cell? (a.add j)=some u)(h1:∀u∈news,u.oneCell'=true)(fg:MU+m≤abv)(mo:MU*i.size+news.length≤cur.size):(Builtin.append_ #[t,t] ty #[.slice (some ⟨g,0,none⟩) MU abv,.slice (some a) m c]).run P w=.ok (.slice (some ⟨g,0,none⟩) (MU+m) abv) (w.setRow g (cur.toList.take (MU*i.size)++news++cur.toList.drop (MU*i.size+news.length)).toArray):=by have hf:=run_firstCells_some (P:=P) w i.size m a m c news hl adH;have uf:=run_storeCells_at P g (MU*i.size) T news 0 cur w hg (by omega) h1;simp only[akt]at uf;simp[Builtin.append_,run_underlying ht,sizeOf,typeInfo,hi,Builtin.lenOf,fg,hf,Addr.add_mid,uf]
section
variable {R:Type} {E:Env}
variable{t:TypeId}
theorem Hu{P:Program}{i:TypeInfo}(hi:P.info? t=some i):i.bytes=Gt P t∧i.size=aO P t:=by simp[Gt,aO,hi]
theorem ED{P:Program}{e ty:TypeId}{sz len n:Nat}{z:Value}{i:TypeInfo}(hu:P.underlying t=some (.slice e))(hi:P.info? e=some i)(hzv:i.zero=some z)(Pc:z.cells.size=sz)(oD:sz=aO P e)(ff:0<aO P e)(hby:0<Gt P e)(fg:(len+n)*Gt P e≤ah){w:World}{ys yx:Value}{os xs:List Value}(hs:(ys=.slice none 0 0∧len=0∧os=[])∨∃(g cap:Nat)(c:Array Value)(T:TypeId),ys=.slice (some ⟨g,0,none⟩) len cap∧w.heap[g]?=some (.cells c T (0,0))∧cap*sz≤c.size∧len≤cap∧cap≤maxLen∧os=c.toList.take (len*sz))(hx:(yx=.slice none 0 0∧n=0∧xs=[])∨∃(a:Addr)(cx:Nat),yx=.slice (some a) n cx∧xs.length=n*sz∧(∀(j:Nat)v,xs[j]?=some v→w.cell? (a.add j)=some v)∧(∀v∈xs,v.oneCell'=true)∧n≤cx∧cx≤maxLen):∃w' y,(Builtin.append_ #[t,t] ty #[ys,yx]).run P w=.ok y w'∧((y=.slice none 0 0∧w'=w∧len=0∧n=0)∨∃(g cap:Nat)(c:Array Value)(T:TypeId),y=.slice (some ⟨g,0,none⟩) (len+n) cap∧w'.heap[g]?=some (.cells c T (0,0))∧cap*sz≤c.size∧len+n≤cap∧cap≤maxLen∧c.toList.take ((len+n)*sz)=os++xs∧((∃YO,ys=.slice (some ⟨g,0,none⟩) len YO∧lD g w w'∧∀k,k≠g→w'.heap[k]?=w.heap[k]?)∨(g=w.heap.size∧w'=w.drew.alloc (.cells c e)))):=by
 obtain⟨hib,his⟩:=Hu hi;have ag4:len+n≤140737488355328:=by have:(len+n)*1≤(len+n)*Gt P e:=akz _ hby;grind [ah]
 have aiX:len+n≤maxLen:=by simp only[maxLen];omega
 have Tn:∀n,(Builtin.zeroCells z.cells n).size=n*sz:=fun n=>by rw[size_zeroCells,Pc]
 rcases hs with⟨rfl,rfl,rfl⟩|⟨g,cap,c,T,rfl,g4,g5,g6,g7,rfl⟩
 ·rcases hx with⟨rfl,rfl,rfl⟩|⟨a,cx,rfl,Ku,JT,YP,hcx,T5⟩
  ·exact⟨w,_,pO hu (by omega) (ajo _),.inl ⟨rfl,rfl,rfl,rfl⟩⟩
  ·by_cases h0:n=0
   ·subst h0;exact⟨w,_,pO hu (by omega) (ajo _),.inl ⟨rfl,rfl,rfl,rfl⟩⟩
   ·have hr:=run_append_nil (P:=P) w t ty e i z hu hi hzv a n cx xs (by rw[Ku,oD,his]) JT (by omega) (by omega) (by simp only[ah,aj0]at fg;rw[hib];omega);have GC:=grownCap_ge w n 0 e;refine⟨_,_,hr,.inr ⟨w.heap.size,grownCap w n 0 e,xs.toArray++Builtin.zeroCells z.cells (grownCap w n 0 e-n),e,by simp,fE w.drew _,?_,by omega,grownCap_le_maxLen w _ 0 e (by omega),?_,.inr ⟨rfl,rfl⟩⟩⟩
    ·rw[alM,Tn];simp only[ake,Ku,←ajV];simp_all
    simp_all
 ·have h1:(c.toList.take (len*sz)).length=len*sz:=by have:len*sz≤cap*sz:=agw _ g6;simp;omega
  rcases hx with⟨rfl,rfl,rfl⟩|⟨a,cx,rfl,Ku,JT,YP,hcx,T5⟩
  ·exact⟨w,_,pO hu (by omega) g6,.inr ⟨g,cap,c,T,rfl,g4,g5,by omega,g7,by simp,.inl ⟨cap,rfl,lD.refl _ _,fun _ _=>rfl⟩⟩⟩
  ·by_cases hrm:len+n≤cap
   ·have mo:len*i.size+xs.length≤c.size:=by rw[his,←oD,Ku,←ajV];exact ajQ (agw _ hrm) g5
    have hr:=B8 (P:=P) (w:=w) t ty e T i hu hi g len cap c g4 a n cx xs (by rw[Ku,oD,his]) JT YP hrm mo;rw[his,←oD]at hr mo;refine⟨_,_,hr,.inr ⟨g,cap,_,T,rfl,setRow_heap w g c _ T (0,0) g4,?_,hrm,g7,?_,.inl ⟨cap,rfl,lD.setRow (ajo _),fun k hk=>bU hk⟩⟩⟩
    ·grind
    grind [List.take_left',List.length_append,Nat.add_mul]
   ·have hr:=run_append_grow (P:=P) w t ty e i z hu hi hzv ⟨g,0,none⟩ len cap (c.toList.take (len*sz)) (by rw[h1,oD,his]) (fun j v hj=>by
      grind [Addr.add_mid,dm,iy]) a n cx xs (by rw[Ku,oD,his]) JT (by omega) (by omega)
     (growslice_fits (by omega) (by simp_all[ah]))
    have GC:=grownCap_ge w (len+n) cap e;refine⟨_,_,hr,.inr ⟨w.heap.size,_,_,e,rfl,fE w.drew _,?_,GC,grownCap_le_maxLen w _ cap e (by omega),?_,.inr ⟨rfl,rfl⟩⟩⟩
    ·rw[alM,alM,Tn];simp only[ake,Ku,h1,←ajV];simp_all
    grind [Array.toList_append,List.take_left',List.length_append,Nat.add_mul]
theorem EE{e ty:TypeId}{sz:Nat}{es new:List PV}{z:List V}(hu:E.P.underlying t=some (.slice e))(hz:cY E e=some z)(oD:sz=aO E.P e)(ff:0<aO E.P e)(hby:0<Gt E.P e)(fg:(es++new).length*Gt E.P e≤ah){G:Nat→Option (List PV)}{w0:bx}{μ:Ro}{φ:Nat→aA}{m:Mem}{w:World}{ρ:Nat→Value}{f:Fr}{draw:Bool}{site:Nat}(hM:av E.P G w0 μ φ m w)(hF:bS E.P μ φ m f ρ){ys yx:Value}(hx:zi E.P μ w sz new yx)(hs:(ys=.slice none 0 0∧es=[])∨∃(g cap:Nat)(c:Array Value)(T:TypeId),ys=.slice (some ⟨g,0,none⟩) es.length cap∧w0.heap.size≤g∧μ g=none∧(∀id b',m id=some b'→¬b'.owns (φ id) g)∧w.heap[g]?=some (.cells c T (0,0))∧cap*sz≤c.size∧es.length≤cap∧cap≤maxLen∧es.length*sz≤c.size∧Cells E.P μ sz es (c.toList.take (es.length*sz))){f':Fr}{m':Mem}(vZ:∀(P:Program)(G:Nat→Option (List PV))(w0:bx)(μ:Ro)(φ:Nat→aA)(w w':World)(ρ:Nat→Value)(ph:aA),av P G w0 μ φ m w→bS P μ φ m f ρ→lz P w0 μ φ m w w' site (.arr sz e (es++new)) ph→∃φ',φ' site=ph∧av P G w0 μ φ' m' w'∧bS P μ φ' m' f' ρ):∃w' y φ',(Builtin.append_ #[t,t] ty #[ys,yx]).run E.P w=.ok y w'∧av E.P G w0 μ φ' m' w'∧bS E.P μ φ' m' f' ρ∧af E.P μ φ' (.os site) y:=by
 obtain⟨i,zv,hi,hzv,his,_,Pc,_,_,_⟩:=ek hz;have Rl:(es++new).length=es.length+new.length:=by simp
 obtain⟨os,hos,hC⟩:∃os,((ys=.slice none 0 0∧es.length=0∧os=[])∨∃(g cap:Nat)(c:Array Value)(T:TypeId),ys=.slice (some ⟨g,0,none⟩) es.length cap∧w.heap[g]?=some (.cells c T (0,0))∧cap*sz≤c.size∧es.length≤cap∧cap≤maxLen∧os=c.toList.take (es.length*sz))∧Cells E.P μ sz es os:=by
  rcases hs with⟨h1,rfl⟩|⟨g,cap,c,T,h1,h2,h3,h4,h5,h6,h7,h8,h9,h10⟩
  ·exact⟨[],.inl ⟨h1,rfl,rfl⟩,.nil⟩
  grind
 obtain⟨xs,JT,hCx⟩:∃xs,((yx=.slice none 0 0∧new.length=0∧xs=[])∨∃(a:Addr)(cx:Nat),yx=.slice (some a) new.length cx∧xs.length=new.length*sz∧(∀(j:Nat)v,xs[j]?=some v→w.cell? (a.add j)=some v)∧(∀v∈xs,v.oneCell'=true)∧new.length≤cx∧cx≤maxLen)∧Cells E.P μ sz new xs:=by
  cases hx with
  |none hn=>subst hn;exact⟨[],.inl ⟨rfl,rfl,rfl⟩,.nil⟩
  | @some a cx xs hC JT hcx T5=>exact⟨xs,.inr ⟨a,cx,rfl,hC.len,JT,fun u hu=>by obtain⟨j,hj⟩:=ajB hu;exact hC.one j u hj,hcx,T5⟩,hC⟩
 obtain⟨w',y,hr,T6⟩:=ED (ty:=ty) hu hi hzv (by omega) oD ff hby (by simp_all) hos JT;rcases T6 with⟨rfl,rfl,h1,h2⟩|⟨g',DA,c',T',rfl,b1,b2,b3,b4,b5,b6⟩
 ·have h1:es=[]:=ajl h1;have h2:new=[]:=ajl h2;obtain⟨φ',a1,a2,a3⟩:=vZ E.P G w0 μ φ w' w' ρ (Dz none 0 0 sz) hM hF ⟨lD.refl _ _,hM.ro,fun _ _ _ _ _=>rfl,by simp,fun φ' hp _=>by refine⟨by rw[hp,h1,h2];rfl,by rw[hp],oD,by omega,by rw[h1,h2];simp,by rw[hp];simp[maxLen],?_⟩;simp_all,by simp[bH.names],fun st h=>by cases h⟩;exact⟨w',_,φ',hr,a2,a3,.sK (by rw[a1])⟩
 ·have hCC:Cells E.P μ sz (es++new) (c'.toList.take ((es++new).length*sz)):=by rw[Rl,b5];exact hC.append hCx
  have fin:∀(φ':Nat→aA),φ' site=Dz (some g') DA (es++new).length sz→af E.P μ φ' (.os site) (.slice (some ⟨g',0,none⟩) (es.length+new.length) DA):=fun φ' a1=>by have:=af.os (P:=E.P) (μ:=μ) (φ:=φ') (id:=site) (g:=g') (by rw[a1]);simp_all
  rcases b6 with⟨YO,hys,b6,b7⟩|⟨rfl,rfl⟩
  ·rcases hs with⟨h1,_⟩|⟨g,cap,c,_,h1,h2,h3,h4,_⟩
   ·rw[hys]at h1;cases h1
   rw[hys]at h1;simp only[Value.slice.injEq,cN,Addr.mk.injEq]at h1;obtain⟨⟨rfl,_⟩,_⟩:=h1;obtain⟨φ',a1,a2,a3⟩:=vZ E.P G w0 μ φ w w' ρ (Dz (some g') DA (es++new).length sz) hM hF ⟨b6.mono h2,fun k o hk=>by rw[b7 k (fun e=>by simp_all)];exact hM.ro k o hk,fun id b' g' hid cP=>b7 g' (fun e=>by simp_all),fun g' cP=>by simp_all,fun φ' hp _=>aH.pA (by rw[hp]) oD (by omega) (by rw[hp];omega) b1 (by rw[hp];omega) (by rw[hp,Rl];omega) hCC,by simp[bH.names],fun st h=>by cases h⟩;grind
  ·obtain⟨φ',a1,a2,a3⟩:=vZ E.P G w0 μ φ w.drew _ ρ (Dz (some w.heap.size) DA (es++new).length sz) hM.drew hF (lz.alloc (o:=.cells c' e) hM.drew rfl (fun φ' hp _=>aH.pA (g:=w.heap.size) (by rw[hp]) oD (by omega) (by rw[hp];omega) (fE w.drew _) (by rw[hp];omega) (by rw[hp,Rl];omega) hCC) (by simp[bH.names]));grind
end
section
variable {R:Type} {E:Env}
theorem MV{draw:Bool}{site:Nat}{t t':TypeId}{s x:V}{f:Fr}{m:Mem}{k:V→Fr→Mem→Option R}{r:R}(h:Ax E draw site t t' s x f m k=some r):draw=false∧t'=t∧∃place f' m',k (.os place) f' m'=some r∧(m' place).isSome=true∧∀(G:Nat→Option (List PV))(w0:bx)(μ:Ro)(φ:Nat→aA)(w:World)(ρ:Nat→Value)(ys yx:Value)(ty:TypeId),av E.P G w0 μ φ m w→bS E.P μ φ m f ρ→af E.P μ φ s ys→af E.P μ φ x yx→∃w' y φ',(Builtin.append_ #[t,t] ty #[ys,yx]).run E.P w=.ok y w'∧av E.P G w0 μ φ' m' w'∧bS E.P μ φ' m' f' ρ∧af E.P μ φ' (.os place) y:=by
 unfold Ax at h;split at h
 ·cases h
 ·rename_i hd;simp only[ajt,ami,aj9,akg,AT,Bool.not_eq_eq_eq_not,aji,ajC]at hd;refine⟨hd.1,by simpa using hd.2,?_⟩;split at h
  ·rename_i e hu;split at h
   ·cases h
   ·rename_i hz;obtain⟨z,hz⟩:∃z,cY E e=some z:=by
     cases hq:cY E e with
     |none=>simp[hq]at hz
     |some z=>simp
    split at h
    ·rename_i new ft Ht;obtain⟨_,_,zM⟩:=oE Ht;split at h
     ·split at h
      ·rename_i hb;obtain⟨f',m',_,hk,wH,_,vZ⟩:=dZ h;refine⟨_,f',m',hk,by simp[wH],fun G w0 μ φ w ρ ys yx ty hM hF hs hx=>?_⟩;cases hs;exact EE (es:=[]) (draw:=false) hu hz rfl hb.2.2 hb.2.1 (by simpa using hb.1) hM hF (zM _ _ _ _ _ _ _ hM hx) (.inl ⟨rfl,rfl⟩) vZ
      ·cases h
     ·rename_i id;split at h
      ·rename_i sz et es hm;split at h
       ·rename_i hc;obtain⟨rfl,rfl,aiY⟩:=hc;split at h
        ·rename_i hb;obtain⟨f',m',_,hk,wH,_,vZ⟩:=dZ h;refine⟨_,f',m',hk,by simp[wH],fun G w0 μ φ w ρ ys yx ty hM hF hs hx=>?_⟩;have vh:=hM.forget id;have DB:=hF.forget id;have hA:aH E.P μ φ w id (aO E.P et) et es:=hM.dx id _ hm;have ff:0<aO E.P et:=hA.2.2.2.1;refine EE (draw:=false) hu hz rfl ff hb.2 hb.1 vh DB (zM _ _ _ _ _ _ _ hM hx) ?_ vZ;cases hs with
         |sK hg=>have a7:=hA.2.2.2.2.2.2;simp_all
         | @os _ g hg=>obtain⟨c,T,c1,c2,c3,c4,c5⟩:=hA.cells hg;obtain⟨o1,o2⟩:=hM.own id _ g hm (.inl hg);refine .inr ⟨g,(φ id).cap,c,T,by rw[hA.1],o1,o2 rfl,fun j b' hj cP=>?_,c1,c2,c3,hA.pz.2,c4,c5⟩;obtain⟨cJ,b2,ux,rfl⟩:=fC hj;exact cJ (hM.inj j id b2 _ g ux hm (gj.1 cP) (.inl hg))
        ·cases h
       ·cases h
      ·cases h
     ·cases h
    ·cases h
  ·cases h
theorem IH{P:Program}{w:World}{dT ty elem:TypeId}{ts:List TypeId}{g adI dCap:Nat}{c:Array Value}{T:TypeId}{sz:Nat}{es new:List PV}{μ:Ro}{yx:Value}(hu:P.underlying dT=some (.slice elem))(oD:sz=aO P elem)(ff:0<sz)(hx:zi P μ w sz new yx)(hg:w.heap[g]?=some (.cells c T (0,0)))(hle:es.length*sz≤c.size)(hd:adI=es.length)(hC:Cells P μ sz es (c.toList.take (es.length*sz))):∃c':Array Value,(Builtin.copy_ (dT::ts).toArray ty #[.slice (some ⟨g,0,none⟩) adI dCap,yx]).run P w=.ok (goInt ((min new.length es.length:Nat):Int)) (w.setRow g c')∧c'.size=c.size∧Cells P μ sz (new.take es.length++es.drop new.length) (c'.toList.take ((new.take es.length++es.drop new.length).length*sz)):=by
 subst hd;obtain⟨i,hi,hs⟩:=yu (P:=P) (t:=elem) (by omega);have hnl:(new.take es.length++es.drop new.length).length=es.length:=by simp;omega
 rw[hnl];cases hx with
 |none hn=>subst hn;refine⟨c,?_,rfl,by simpa using hC⟩;have:=setRow_self w g c T (0,0) hg;rw[this];simp[Builtin.copy_,run_underlying hu,Builtin.lenOf,Builtin.firstCells,sizeOf,typeInfo,hi,storeCells]
 | @some a cx xs hX JT hcx T5=>
  have adJ:Nat.min new.length es.length=min new.length es.length:=rfl;have hl:(xs.take (min new.length es.length*sz)).length=min new.length es.length*i.size:=by rw[hs,←oD,ajP,hX.len];simp
  have aiZ:min new.length es.length*sz≤es.length*sz:=agw _ (Nat.min_le_right _ _);have hf:=run_firstCells_some (P:=P) w i.size (min new.length es.length) a new.length cx (xs.take (min new.length es.length*sz)) hl (fun j v hj=>JT j v (iy hj).2);have hl':(xs.take (min new.length es.length*sz)).length=min new.length es.length*sz:=by rw[hl,hs,oD]
  have uf:=run_storeCells_at P g 0 T (xs.take (min new.length es.length*sz)) 0 c w hg (by omega) (fun v hv=>by obtain⟨j,hj⟩:=ajB hv;exact hX.one j v (iy hj).2);simp only[aj0,ak0,akK,hl']at uf;refine⟨(xs.take (min new.length es.length*sz)++c.toList.drop (min new.length es.length*sz)).toArray,?_,?_,?_⟩
  ·have aiN:Nat.min new.length es.length=min new.length es.length:=rfl;simp_all[Builtin.copy_,run_underlying,Builtin.lenOf,sizeOf,typeInfo]
  ·grind
  ·have e1:(xs.take (min new.length es.length*sz)++c.toList.drop (min new.length es.length*sz)).take (es.length*sz)=xs.take (min new.length es.length*sz)++(c.toList.take (es.length*sz)).drop (min new.length es.length*sz):=by simp_all[List.take_append,List.drop_take,ajM]
   simp only[];rw[e1];have h1:=(hX.take (min new.length es.length)).append (hC.drop (min new.length es.length));have e2:new.take (min new.length es.length)=new.take es.length:=by grind
   have e3:es.drop (min new.length es.length)=es.drop new.length:=by simp
   simp_all
theorem Hv{R:Type}(m:Mem)(sz:Nat)(x:V)(k:List PV→bq→Option R):Iu m sz x k=(fl m sz x).bind fun p=>k p.1 p.2:=by
 cases x with
 |wI id i off=>simp only[Iu,fl];grind
 |_=>simp only[Iu];grind
theorem T7{t:TypeId}{d x:V}{m:Mem}{k:V→Mem→bq→Option R}{r:R}(h:Kb E t d x m k=some r):∃n id b ft,(∀m2:Mem,(∀x∈((true,id)::ft:bq),m2 x.2=m x.2)→∀(R':Type)(k':V→Mem→bq→Option R'),Kb E t d x m2 k'=k' (.pv (.int .i64 n)) (ao m2 id b) ((true,id)::ft))∧k (.pv (.int .i64 n)) (ao m id b) ((true,id)::ft)=some r∧∀(G:Nat→Option (List PV))(w0:bx)(μ:Ro)(φ:Nat→aA)(w:World)(ρ:Nat→Value)(f:Fr)(yd yx:Value)(ts:List TypeId)(ty:TypeId),av E.P G w0 μ φ m w→bS E.P μ φ m f ρ→af E.P μ φ d yd→af E.P μ φ x yx→∃w' φ',(Builtin.copy_ (t::ts).toArray ty #[yd,yx]).run E.P w=.ok (.int .i64 n) w'∧av E.P G w0 μ φ' (ao m id b) w'∧bS E.P μ φ' (ao m id b) f ρ∧(Lit.int .i64 n).wf=true:=by
 unfold Kb at h;split at h
 ·rename_i e hu;split at h
  ·rename_i id;split at h
   ·rename_i sz et es hm;split at h
    ·rename_i hc;rw[Hv]at h;obtain⟨⟨new,ft⟩,Ht,h⟩:=cT.1 h
     ·obtain⟨MW,_,zM⟩:=oE Ht;refine⟨_,id,_,ft,fun m2 cK R' k'=>?_,h,fun G w0 μ φ w ρ f yd yx ts ty hM hF hd hx=>?_⟩
      ·have h1:=cK (true,id) (by simp);simp_all[Kb,GW,Hv,ajn]
      ·have hA:aH E.P μ φ w id sz et es:=hM.dx id _ hm;have hS:=zM _ _ _ _ _ _ _ hM hx;have hle:=hA.pz;have hlen:(new.take es.length++es.drop new.length).length=es.length:=by simp;omega
       have DP:(Lit.int .i64 ((min new.length es.length:Nat):Int)).wf=true:=Es (by omega);cases hd with
       |sK hg=>
        have a7:=hA.2.2.2.2.2.2;rw[hg]at a7;have h0:=a7.1;subst h0;refine⟨w,φ,?_,?_,?_,DP⟩
        ·obtain⟨i,hi,hs⟩:=yu (P:=E.P) (t:=e) (by have:=hA.2.2.2.1;omega);have Pd:∀x:Addr,(loadCells x 0).run E.P w=.ok #[] w:=fun x=>by rfl
         cases hS with
         |none hn=>subst hn;simp[Builtin.copy_,run_underlying hu,Builtin.lenOf,Builtin.firstCells,sizeOf,typeInfo,hi,hA.1,goInt]
         |some xs hX JT hcx T5=>simp[Builtin.copy_,run_underlying hu,Builtin.lenOf,Builtin.firstCells,sizeOf,typeInfo,hi,hA.1,Pd,goInt]
        ·have:ao m id (.arr sz et (new.take ([]:List PV).length++([]:List PV).drop new.length))=m:=by
          funext j;by_cases e:j=id
          ·subst e;simp[hm]
          ·rw[aq e]
         rw[this];omega
        ·exact hF.nh (fun _ _ h=>h) .set
       | @os _ g hg=>
        obtain⟨c,T,c1,c2,c3,c4,c5⟩:=hA.cells hg;obtain⟨c',r1,r2,r3⟩:=IH (ts:=ts) (ty:=ty) (dCap:=(φ id).cap) hu hc.1 hA.2.2.2.1 hS c1 c4 hA.1 c5;refine⟨_,φ,r1,hM.write hm rfl hg (lD.setRow (ajo _)) setRow_size (fun k hk=>bU hk) ?_ rfl (by simp[bH.names]),hF.nh (fun _ _ h=>h) .set,DP⟩;refine aH.pA (g:=g) ?_ hA.2.2.1 hA.2.2.2.1 hle.2 (setRow_heap w g c c' T (0,0) c1) (by omega) (by rw[hlen];omega) r3;rw[hlen,←hA.1,←hA.2.1];cases hq:(φ id).toCP with
        |mk a b c d=>simp_all
    ·cases h
   ·cases h
  ·cases h
 ·cases h
end
end Go.Ab
