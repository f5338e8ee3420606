import Derived.Test.YtoaknfoobjnjgaaGreatAbP2
import Derived.Great.BuildSlice
import Derived.Laws.AppendOwn
import Derived.Laws.MakeOwn
set_option linter.all false
namespace Go.Ab
open Go.RowKit (Below)
structure cd(P:Program)(μ:Ro)(φ:Nat→aH)(m:Mem)(f:Fr)(ρ:Nat→Value):Prop where
 fr:∀t,an P μ φ (f t) (ρ t)
 live:∀t id,(f t).has id=true→(m id).isSome=true
section
variable {P:Program} {G:Nat→Option (List PV)} {w0:bu} {μ μ':Ro} {φ φ':Nat→aH} {m m':Mem} {w w':World} {f:Fr} {ρ:Nat→Value}
theorem cd.mono(h:cd P μ φ m f ρ)(hμ:∀b o,μ b=some o→μ' b=some o)(hφ:∀id,(m id).isSome=true→φ' id=φ id∧(m' id).isSome=true):cd P μ' φ' m' f ρ:=⟨fun t=>(h.fr t).mono hμ fun id hid=>(hφ id (h.live t id hid)).1,fun t id hid=>(hφ id (h.live t id hid)).2⟩
theorem fV{id j:Nat}{b:bL}(h:bq (bK id m) id j=some b):j≠id∧∃b',m j=some b'∧b=gK id b':=by
 by_cases e:j=id
 ·subst e;simp at h
 simp_all[gE,IF]
theorem wU{id j:Nat}(h:j≠id)(hm:(m j).isSome=true):(bq (bK id m) id j).isSome=true:=by grind [gE,bK]
theorem cd.forget(h:cd P μ φ m f ρ)(id:Nat):cd P μ φ (bq (bK id m) id) (eP id f) ρ:=by refine⟨fun t=>(h.fr t).kill id,fun t j hj=>?_⟩;obtain⟨h1,h2⟩:=AU hj;exact wU h2 (h.live t j h1)
theorem aA.put(hM:aA P G w0 μ φ m w){site:Nat}{b:bL}{ph:aH}(hs:m site=none)(RB:lh w0.heap.size w w')(yN:∀k o,μ k=some o→w'.heap[k]?=some o)(hold:∀id b' g,m id=some b'→b'.owns (φ id) g→w'.heap[g]?=w.heap[g]?)(AQ:∀g,b.owns ph g→w0.heap.size≤g∧μ g=none∧∀id b',m id=some b'→¬b'.owns (φ id) g)(HV:b.apart ph)(hB:gM P μ (fun i=>if i=site then ph else φ i) w' site b)(hn:∀id,b.names id=true→(m id).isSome=true)(hlp:∀st,b=.loop st→∃g rc,ph.g=some g∧w0.rc site=some (g,rc)∧w'.heap[g]?=some (.loop (st.obj rc)))(air:∀g o,w0.hid g=some o→w'.heap[g]?=some o∧¬b.owns ph g):aA P G w0 μ (fun i=>if i=site then ph else φ i) (aw m site b) w':=by
 refine⟨hM.below.trans RB,yN,hM.az,fun id b' hid=>?_,fun id b' g hid hg=>?_,fun Zb id2 b1 b2 g h1 h2 g1 g2=>?_,fun id b' hid=>?_,fun j cs id hj hh=>?_,hM.base,hM.dC,fun id st hid=>?_,fun k o h=>⟨(air k o h).1,(hM.hid k o h).2.1,(hM.hid k o h).2.2.1,fun j c hj hg=>by
  by_cases e:j=site
  ·subst e;rw[bD]at hj;cases hj;simp only[BY]at hg;exact(air k o h).2 hg
  ·rw[av e]at hj;simp only[e,OF]at hg;exact(hM.hid k o h).2.2.2 j c hj hg⟩⟩
 rotate_right
 ·by_cases h:id=site
  ·simp_all
  ·rw[av h]at hid;obtain⟨g,rc,h1,h2,h3⟩:=hM.Ft id st hid;exact⟨g,rc,by simp_all,h2,by rw[hold id _ g hid (.inl h1)];omega⟩
 ·by_cases h:id=site
  ·simp_all
  ·rw[av h]at hid;have hR:=hM.dB id b' hid;refine hR.cv (fun j hj=>?_) (by simp[h]) (fun _ _ h=>h) (fun g hg=>hold id b' g hid hg);have:=hM.RA hid hj;grind
 ·by_cases h:id=site
  ·simp_all
  ·rw[av h]at hid;simp only[h,OF]at hg;exact hM.own id b' g hid hg
 ·by_cases e1:Zb=site
  ·by_cases e2:id2=site
   ·omega
   simp_all[bD,tb,BY,av,OF]
  ·by_cases e2:id2=site
   ·simp_all[bD,tb,BY,av,OF]
   ·rw[av e1]at h1;rw[av e2]at h2;simp only[e1,OF]at g1;simp only[e2,OF]at g2;exact hM.inj Zb id2 b1 b2 g h1 h2 g1 g2
 ·by_cases h:id=site
  ·simp_all
  ·rw[av h]at hid;simp only[h,OF];exact hM.apart id b' hid
 ·by_cases e:id=site
  ·subst e;simp
  ·rw[av e];by_cases h:j=site
   ·subst h;rw[bD]at hj;simp only[tb]at hj;subst hj;exact hn id hh
   ·rw[av h]at hj;exact hM.fI j cs id hj hh
end
section
variable {R:Type} {E:Env}
structure l6(P:Program)(w0:bu)(μ:Ro)(φ:Nat→aH)(m:Mem)(w w':World)(site:Nat)(b:bL)(ph:aH):Prop where
 below:lh w0.heap.size w w'
 ro:∀k o,μ k=some o→w'.heap[k]?=some o
 lj:∀id b' g,m id=some b'→b'.owns (φ id) g→w'.heap[g]?=w.heap[g]?
 own:∀g,ph.g=some g→w0.heap.size≤g∧μ g=none∧∀id b',m id=some b'→¬b'.owns (φ id) g
 rep:∀φ',φ' site=ph→(∀id,b.names id=true→φ' id=φ id)→gM P μ φ' w' site b
 names:∀id,b.names id=true→(m id).isSome=true
 hh:∀g o,w0.hid g=some o→w'.heap[g]?=some o∧ph.g≠some g
 lp:∀st,b=.loop st→∃g rc,ph.g=some g∧w0.rc site=some (g,rc)∧w'.heap[g]?=some (.loop (st.obj rc)):=by intro st h;cases h
theorem cj{draw:Bool}{site:Nat}{b:bL}{f:Fr}{m:Mem}{k:Fr→Mem→bB→Option R}{r:R}(h:fresh draw site b f m k=some r)(IG:∀i off,b.rowAt i off=true→False:=by intro i off h;simp[bL.rowAt]at h):∃f' m',(∀(R':Type)(k':Fr→Mem→bB→Option R'),fresh draw site b f m k'=k' f' m' [(true,site)])∧k f' m' [(true,site)]=some r∧m' site=some b∧(draw=true→m site=none∧f'=f∧m'=aw m site b)∧(∀(P:Program)(G:Nat→Option (List PV))(w0:bu)(μ:Ro)(φ:Nat→aH)(w w':World)(ρ:Nat→Value)(ph:aH),aA P G w0 μ φ m w→cd P μ φ m f ρ→l6 P w0 μ φ m w w' site b ph→∃φ',φ' site=ph∧aA P G w0 μ φ' m' w'∧cd P μ φ' m' f' ρ):=by
 unfold fresh at h;cases hs:m site with
 |none=>
  simp only[hs]at h;refine⟨f,aw m site b,fun R' k'=>by simp only[fresh,hs],h,by simp,fun _=>⟨rfl,rfl,rfl⟩,fun P G w0 μ φ w w' ρ ph hM hF hp=>?_⟩;have KL:∀id,(m id).isSome=true→id≠site:=fun id hid e=>by simp_all
  refine⟨fun i=>if i=site then ph else φ i,by simp,hM.put hs hp.below hp.ro hp.lj (fun g hg=>hp.own g (lq IG hg)) (uu IG) (hp.rep _ (by simp) fun id hid=>by simp[KL id (hp.names id hid)]) hp.names hp.lp (fun g o h=>⟨(hp.hh g o h).1,fun hg=>(hp.hh g o h).2 (lq IG hg)⟩),?_⟩;exact hF.mono (fun _ _ h=>h) fun id hid=>⟨by simp[KL id hid],by grind [av,id]⟩
 |some b0=>
  simp only[hs]at h;split at h
  ·cases h
  ·rename_i hc;simp only[aon,aq5,aoZ]at hc;refine⟨eP site f,aw (bK site m) site b,fun R' k'=>by simp only[fresh,hs];simp[hc],h,by simp,fun hd=>(by simp_all),fun P G w0 μ φ w w' ρ ph hM hF hp=>?_⟩;have y9:=hM.forget site;have HF:=hF.forget site;have hs1:bq (bK site m) site site=none:=by simp
   have KL:∀id,(bq (bK site m) site id).isSome=true→id≠site:=fun id hid e=>by subst e;simp at hid
   have hnm:∀id,b.names id=true→id≠site:=fun id hid e=>by simp_all
   refine⟨fun i=>if i=site then ph else φ i,by simp,?_,?_⟩
   ·rw[←C0];refine y9.put hs1 hp.below hp.ro (fun id b' g hid hg=>?_) (fun g hg=>?_) (uu IG) (hp.rep _ (by simp) fun id hid=>by simp[hnm id hid]) (fun id hid=>wU (hnm id hid) (hp.names id hid)) hp.lp (fun g o h=>⟨(hp.hh g o h).1,fun hg=>(hp.hh g o h).2 (lq IG hg)⟩)
    ·obtain⟨_,b2,td,rfl⟩:=fV hid;exact hp.lj id b2 g td (fZ.1 hg)
    ·obtain⟨h1,h2,h3⟩:=hp.own g (lq IG hg);refine⟨h1,h2,fun id b' hid ho=>?_⟩;obtain⟨_,b2,td,rfl⟩:=fV hid;exact h3 id b2 td (fZ.1 ho)
   ·rw[←C0];exact HF.mono (fun _ _ h=>h) fun id hid=>⟨by simp[KL id hid],by grind [av,id]⟩
theorem l6.alloc{P:Program}{G:Nat→Option (List PV)}{w0:bu}{μ:Ro}{φ:Nat→aH}{m:Mem}{w:World}{site:Nat}{b:bL}{ph:aH}{o:Obj}(hM:aA P G w0 μ φ m w)(hph:ph.g=some w.heap.size)(rep:∀φ',φ' site=ph→(∀id,b.names id=true→φ' id=φ id)→gM P μ φ' (w.alloc o) site b)(names:∀id,b.names id=true→(m id).isSome=true)(lp:∀st,b=.loop st→∃g rc,ph.g=some g∧w0.rc site=some (g,rc)∧(w.alloc o).heap[g]?=some (.loop (st.obj rc)):=by intro st h;cases h):l6 P w0 μ φ m w (w.alloc o) site b ph:=by
 have ou:w0.heap.size≤w.heap.size:=hM.below.size;refine⟨(lh.refl _ w).alloc ou o,fun k o' hk=>?_,fun id b' g hid hg=>lh.heap_alloc w o g ((hM.dB id b' hid).HE hg),fun g hg=>?_,rep,names,fun g o' h=>(by obtain⟨h1,_⟩:=hM.hid g o' h;have bF:=(T0.1 h1).1;exact⟨by rw[lh.heap_alloc w o g bF];exact h1,fun e=>by rw[hph]at e;cases e;omega⟩),lp⟩
 ·have:=hM.ro k o' hk;grind [lh.heap_alloc]
 ·rw[hph]at hg;simp only[tb]at hg;subst hg;refine⟨ou,?_,fun id b' hid hg=>?_⟩
  ·cases hq:μ w.heap.size with
   |none=>rfl
   |some o'=>have:=hM.ro _ _ hq;simp at this
  ·have:=(hM.dB id b' hid).HE hg;omega
theorem ga(w:World)(o:Obj):(w.alloc o).heap[w.heap.size]?=some o:=heap_alloc_new w o
variable{t:TypeId}
theorem du{cs:List V}(h:cQ E t=some cs):∃i z,E.P.info? t=some i∧i.zero=some z∧i.size=aS E.P t∧cs.length=aS E.P t∧z.cells.size=aS E.P t∧(∀id,cp id cs=false)∧(∀(μ:Ro)(φ:Nat→aH)(i:Nat)u y,cs[i]?=some u→z.cells[i]?=some y→an E.P μ φ u y)∧(∀(i:Nat)(y:Value),z.cells[i]?=some y→y.oneCell'=true):=by
 unfold cQ zeroV at h;cases hi:E.P.info? t with
 |none=>simp[hi]at h
 |some i=>
  cases hz:i.zero with
  |none=>simp[hi,hz]at h
  |some z=>
   simp only[hi,hz,aoe,IS]at h;obtain⟨h1,h2,h3⟩:=toCells_ok h;obtain⟨h4,_,h6⟩:=h3 E.P (fun _=>none) (fun _=>default) z (yf z);refine⟨i,z,rfl,hz,by simp[aS,hi],h1,h4,fun id=>?_,fun μ φ i u y hu hy=>(h3 E.P μ φ z (yf z)).2.1 i u y hu hy,h6⟩;cases hh:cp id cs with
   |false=>rfl
   |true=>grind [id,Ln]
variable{P:Program}{w:World}
theorem qW{i:TypeInfo}{z:Value}(hi:P.info? t=some i)(hz:i.zero=some z):(zeroValue t).run P w=.ok z w:=by simp[zeroValue,typeInfo,hi,hz]
theorem Cq{i:TypeInfo}{z:Value}(hi:P.info? t=some i)(hz:i.zero=some z):(Instr.alloc t true (.tuple #[])).run P w=.ok (.pointer (some ⟨w.heap.size,0,none⟩)) (w.alloc (.cells z.cells t)):=by simp[Instr.alloc,qW hi hz,newVar,newRow]
theorem T3{v:Value}:(Instr.box t v).run P w=.ok (.pointer (some ⟨w.heap.size,0,none⟩)) (w.alloc (.cells v.cells t)):=by rfl
variable{c:Array Value}
theorem l6.box{G:Nat→Option (List PV)}{w0:bu}{μ:Ro}{φ:Nat→aH}{m:Mem}{site:Nat}{cs:List V}{T:TypeId}(hM:aA P G w0 μ φ m w)(hl:c.size=cs.length)(hv:∀(i:Nat)u y,cs[i]?=some u→c[i]?=some y→an P μ φ u y)(h1:∀(i:Nat)(y:Value),c[i]?=some y→y.oneCell'=true)(hn:∀id,cp id cs=true→(m id).isSome=true):l6 P w0 μ φ m w (w.alloc (.cells c T)) site (.box cs) (GU (some w.heap.size) 0 cs.length 0):=by refine l6.alloc hM (by rfl) (fun φ' hφ T4=>⟨w.heap.size,c,T,by rw[hφ],ga w _,hl,fun i u y hu hy=>?_,h1,by rw[hφ]⟩) hn;exact(hv i u y hu hy).mono (fun _ _ h=>h) fun id hid=>T4 id (bR (an4 hu) hid)
theorem lu(h:aS P t≠0):(P.info? t).map (·.size)=some (aS P t):=by simp_all[Cl]
theorem dm{T:Type}{cs new:List T}{off i:Nat}{x:T}(hb:off+new.length≤cs.length)(h:(bQ cs off new)[i]?=some x):(off≤i∧i<off+new.length∧new[i-off]?=some x)∨((i<off∨off+new.length≤i)∧cs[i]?=some x):=by rw[ea]at h;rw[aow,aoG]at h;grind
theorem cC{T:Type}{cs new:List T}{off:Nat}(hb:off+new.length≤cs.length):(bQ cs off new).length=cs.length:=by simp[ea];omega
variable{g:Nat}
theorem gF{v:Value}{o:Nat}{T:TypeId}(hz:v.cells.size=aS P t)(hi:(P.info? t).map (·.size)=some (aS P t))(hg:w.heap[g]?=some (.cells c T (0,0)))(hb:o+v.cells.size≤c.size)(h1:∀(i:Nat)(y:Value),v.cells[i]?=some y→y.oneCell'=true):(Instr.storeAt t (.pointer (some ⟨g,o,none⟩)) v).run P w=.ok () (w.setRow g (bQ c.toList o v.cells.toList).toArray):=by
 have fo:=run_storeCells_at P g o T v.cells.toList 0 c w hg (by omega) (fun x hx=>by grind [List.getElem?_of_mem]);have ou:(sizeOf t).run P w=.ok (aS P t) w:=by
  cases hq:P.info? t with
  |none=>simp[hq]at hi
  |some i=>simp[sizeOf,typeInfo,hq,aS]
 simp only[Instr.storeAt,Instr.sureAddr,storeVar,Sem.run_bind,Sem.run_pure,Result.andThen_ok,ou,hz,arn,not_true_eq_false,OF,fo,apU];rw[ea];try rfl
variable{xs:Array Value}
theorem ck{k:Nat}(h:k≠g):(w.setRow g xs).heap[k]?=w.heap[k]?:=by simp_all[World.setRow,apD,Ne.symm]
theorem setRow_size:(w.setRow g xs).heap.size=w.heap.size:=by simp[World.setRow]
theorem lh.setRow{B:Nat}(h:B≤g):lh B w (w.setRow g xs):=⟨⟨rfl,rfl,rfl,are setRow_size.symm,fun k hk=>ck (by omega)⟩,fun _=>aoa _⟩
end
section
variable {P:Program} {G:Nat→Option (List PV)} {w0:bu} {μ:Ro} {φ:Nat→aH} {m m':Mem} {w:World}
def kN(m m':Mem):Prop:=∀id,(m id).isSome=true→(m' id).isSome=true
theorem kN.refl(m:Mem):kN m m:=fun _ h=>h
theorem kN.trans{a b c:Mem}(h:kN a b)(k:kN b c):kN a c:=fun id hid=>k id (h id hid)
variable{id:Nat}
theorem kN.set{b:bL}:kN m (aw m id b):=fun j hj=>by
 by_cases e:j=id
 ·subst e;simp
 ·rw[av e];omega
theorem cd.oI{f:Fr}{ρ:Nat→Value}{μ':Ro}(h:cd P μ φ m f ρ)(hμ:∀b o,μ b=some o→μ' b=some o)(hl:kN m m'):cd P μ' φ m' f ρ:=h.mono hμ fun id hid=>⟨rfl,hl id hid⟩
variable{v:V}{p:PV}
theorem T5(h:Ie m v=some (p,m')):kN m m'∧∀(P:Program)(G:Nat→Option (List PV))(w0:bu)(μ:Ro)(φ:Nat→aH)(w:World)(x:Value),aA P G w0 μ φ m w→an P μ φ v x→∃μ',(∀b o,μ b=some o→μ' b=some o)∧aA P G w0 μ' φ m' w∧aq P μ' p x:=by
 unfold Ie at h;split at h
 ·simp only[tb,afu]at h;obtain⟨rfl,rfl⟩:=h;exact⟨.refl _,fun P G w0 μ φ w x hM hx=>⟨μ,fun _ _ h=>h,hM,by cases hx with|pv hx=>omega⟩⟩
 ·simp only[tb,afu]at h;obtain⟨rfl,rfl⟩:=h;exact⟨.refl _,fun P G w0 μ φ w x hM hx=>⟨μ,fun _ _ h=>h,hM,by cases hx;exact .l5⟩⟩
 ·rename_i id;split at h
  ·rename_i s et es hm;simp only[tb,afu]at h;obtain⟨rfl,rfl⟩:=h;refine⟨.set,fun P G w0 μ φ w x hM hx=>⟨_,nc hM (φ id).g,hM.freeze hm,?_⟩⟩;refine(hM.arr (.inl hm)).full hM hx (nc hM _) fun g hg=>?_;simp[qm,hg]
  ·rename_i s et es hm;simp only[tb,afu]at h;obtain⟨rfl,rfl⟩:=h;refine⟨.refl _,fun P G w0 μ φ w x hM hx=>⟨μ,fun _ _ h=>h,hM,?_⟩⟩;refine(hM.arr (.inr hm)).full hM hx (fun _ _ h=>h) fun g hg=>?_;obtain⟨o,ho⟩:=aop.1 ((hM.dB id _ hm).2 g hg);rw[ho,hM.ro _ _ ho]
  ·rename_i s et es hm;simp only[tb,afu]at h;obtain⟨rfl,rfl⟩:=h;refine⟨.set,fun P G w0 μ φ w x hM hx=>⟨_,uv hM _,hM.T2 hm,?_⟩⟩;have YF:=hM.T2 hm;have hF:aL P _ φ w id s et (es.map PV.strip):=(YF.dB id _ (bD _ _ _)).1;refine hF.Lx (hx.CV (uv hM _)) (fun _ _ h=>h) fun g hg=>?_;unfold vX;rw[No (show(bL.nest s et es).owns (φ id) g from .inl hg)]
  ·cases h
 ·cases h
theorem LC(h:Ie cY v=some (p,m')):∀(P:Program)(μ:Ro)(φ:Nat→aH)(x:Value),an P μ φ v x→aq P μ p x:=by
 unfold Ie at h;split at h
 ·simp only[tb,afu]at h;obtain⟨rfl,rfl⟩:=h;exact fun P μ φ x hx=>by cases hx with|pv hx=>omega
 ·simp only[tb,afu]at h;obtain⟨rfl,rfl⟩:=h;exact fun P μ φ x hx=>by cases hx;exact .l5
 ·simp[cY]at h
 ·cases h
theorem uw(h:Ie cY v=some (p,m')):m'=cY:=by unfold Ie at h;grind [Option.some.injEq,Prod.mk.injEq,cY]
theorem IH:∀{cs:List V}{m m':Mem}{ps:List PV},nR m cs=some (ps,m')→kN m m'∧ps.length=cs.length∧∀(P:Program)(G:Nat→Option (List PV))(w0:bu)(μ:Ro)(φ:Nat→aH)(w:World)(X:Nat→Value),aA P G w0 μ φ m w→(∀(i:Nat)u,cs[i]?=some u→an P μ φ u (X i))→∃μ',(∀b o,μ b=some o→μ' b=some o)∧aA P G w0 μ' φ m' w∧∀(i:Nat)p,ps[i]?=some p→aq P μ' p (X i)
 |[],m,m',ps,h=>by simp only[nR,tb,afu]at h;obtain⟨rfl,rfl⟩:=h;exact⟨.refl _,rfl,fun P G w0 μ φ w X hM _=>⟨μ,fun _ _ h=>h,hM,by simp⟩⟩
 |c::r,m,m',ps,h=>by
  simp only[nR]at h;split at h
  ·rename_i p m1 h1;split at h
   ·rename_i ps1 m2 h2;simp only[tb,afu]at h;obtain⟨rfl,rfl⟩:=h;obtain⟨a1,a2⟩:=T5 h1;obtain⟨b1,b2,b3⟩:=IH h2;refine⟨a1.trans b1,by simp[b2],fun P G w0 μ φ w X hM hx=>?_⟩;obtain⟨μ1,c1,c2,c3⟩:=a2 P G w0 μ φ w (X 0) hM (hx 0 c (by simp));obtain⟨μ2,d1,d2,d3⟩:=b3 P G w0 μ1 φ w (fun i=>X (i+1)) c2 (fun i u hu=>(hx (i+1) u (by simpa using hu)).CV c1);refine⟨μ2,fun b o h=>d1 b o (c1 b o h),d2,fun i q hq=>?_⟩;cases i with
    |zero=>simp at hq;subst hq;exact c3.mono d1
    |succ i=>simp_all
   ·cases h
  ·cases h
theorem Du:∀{cs:List V}{m':Mem}{ps:List PV},nR cY cs=some (ps,m')→ps.length=cs.length∧∀(P:Program)(μ:Ro)(φ:Nat→aH)(X:Nat→Value),(∀(i:Nat)u,cs[i]?=some u→an P μ φ u (X i))→∀(i:Nat)p,ps[i]?=some p→aq P μ p (X i)
 |[],m',ps,h=>by simp only[nR,tb,afu]at h;simp_all
 |c::r,m',ps,h=>by
  simp only[nR]at h;split at h
  ·rename_i p m1 h1;split at h
   ·rename_i ps1 m2 h2;simp only[tb,afu]at h;obtain⟨rfl,rfl⟩:=h;have:=uw h1;subst this;obtain⟨b2,b3⟩:=Du h2;refine⟨by simp[b2],fun P μ φ X hx i q hq=>?_⟩;cases i with
    |zero=>simp at hq;subst hq;exact LC h1 P μ φ _ (hx 0 c (by simp))
    |succ i=>exact b3 P μ φ (fun i=>X (i+1)) (fun i u hu=>hx (i+1) u (by simpa using hu)) i q (by simpa using hq)
   ·cases h
  ·cases h
structure wV(P:Program)(μ:Ro)(n:Nat)(p:PV)(x:Value):Prop where
 len:p.cells.length=n
 size:x.cells.size=n
 rep:∀(j:Nat)q y,p.cells[j]?=some q→x.cells[j]?=some y→aq P μ q y
 one:∀(j:Nat)y,x.cells[j]?=some y→y.oneCell'=true
variable{n:Nat}{agg:Bool}
theorem C1{P:Program}{μ:Ro}{ps:List PV}{x:Value}(hp:(if agg then some (.agg ps)else match ps with|[p]=>some p|_=>none)=some p)(hl:ps.length=n)(hs:x.cells.size=n)(hr:∀(j:Nat)q y,ps[j]?=some q→x.cells[j]?=some y→aq P μ q y)(h1:∀(j:Nat)y,x.cells[j]?=some y→y.oneCell'=true):wV P μ n p x:=by
 have hc:p.cells=ps:=by
  cases agg with
  |true=>simp at hp;subst hp;rfl
  |false=>
   simp only[AI,OF]at hp;split at hp
   ·rename_i q;simp only[tb]at hp;subst hp;have bF:0<x.cells.size:=by simp at hl;omega
    have hr0:=hr 0 q _ (by simp) (Yh bF);have h10:=h1 0 _ (Yh bF);generalize x.cells[0]=y at hr0 h10;cases q<;>first|rfl|(cases hr0;simp[Value.oneCell']at h10)
   ·cases hp
 exact⟨by rw[hc];omega,hs,by rw[hc];omega,h1⟩
theorem II{m m':Mem}(h:k9 m n agg v=some (p,m')):kN m m'∧∀(P:Program)(G:Nat→Option (List PV))(w0:bu)(μ:Ro)(φ:Nat→aH)(w:World)(x:Value),aA P G w0 μ φ m w→an P μ φ v x→∃μ',(∀b o,μ b=some o→μ' b=some o)∧aA P G w0 μ' φ m' w∧wV P μ' n p x:=by
 unfold k9 at h;split at h
 ·rename_i cs hc;obtain⟨c1,c2,c3⟩:=toCells_ok hc;split at h
  ·rename_i ps m1 hf;obtain⟨f1,f2,f3⟩:=IH hf;have hp:(if agg then some (.agg ps)else match ps with|[p]=>some p|_=>none)=some p∧m1=m':=by grind
   obtain⟨hp,rfl⟩:=hp;refine⟨f1,fun P G w0 μ φ w x hM hx=>?_⟩;obtain⟨d1,d2,d3⟩:=c3 P μ φ x hx;have hX:∀(i:Nat),i<cs.length→x.cells[i]?=some (x.cells.getD i undef):=fun i hi=>by simp_all
   obtain⟨μ',e1,e2,e3⟩:=f3 P G w0 μ φ w (fun i=>x.cells.getD i undef) hM fun i u hu=>d2 i u _ hu (hX i (IN.1 hu).1);refine⟨μ',e1,e2,C1 hp (by omega) d1 (fun j q y hq hy=>?_) d3⟩;grind
  ·cases h
 ·cases h
theorem Ew{m':Mem}(h:k9 cY n agg v=some (p,m')):∀(P:Program)(μ:Ro)(φ:Nat→aH)(x:Value),an P μ φ v x→wV P μ n p x:=by
 unfold k9 at h;split at h
 ·rename_i cs hc;obtain⟨c1,c2,c3⟩:=toCells_ok hc;split at h
  ·rename_i ps m1 hf;obtain⟨f2,f3⟩:=Du hf;have hp:(if agg then some (.agg ps)else match ps with|[p]=>some p|_=>none)=some p:=by grind
   refine fun P μ φ x hx=>?_;obtain⟨d1,d2,d3⟩:=c3 P μ φ x hx;have hX:∀(i:Nat),i<cs.length→x.cells[i]?=some (x.cells.getD i undef):=fun i hi=>by simp_all
   have e3:=f3 P μ φ (fun i=>x.cells.getD i undef) fun i u hu=>d2 i u _ hu (hX i (IN.1 hu).1);refine C1 hp (by omega) d1 (fun j q y hq hy=>?_) d3;grind
  ·cases h
 ·cases h
theorem O3{draw:Bool}{m m':Mem}(h:AK draw m n agg v=some (p,m')):kN m m'∧(draw=true→m'=m∧∀m2:Mem,AK true m2 n agg v=some (p,m2))∧∀(P:Program)(G:Nat→Option (List PV))(w0:bu)(μ:Ro)(φ:Nat→aH)(w:World)(x:Value),aA P G w0 μ φ m w→an P μ φ v x→∃μ',(∀b o,μ b=some o→μ' b=some o)∧aA P G w0 μ' φ m' w∧wV P μ' n p x:=by
 unfold AK at h;split at h
 ·rename_i hd;split at h
  ·rename_i q m1 hf;simp only[tb,afu]at h;obtain⟨rfl,rfl⟩:=h;exact⟨.refl _,fun _=>⟨rfl,fun m2=>by simp[AK,hf]⟩,fun P G w0 μ φ w x hM hx=>⟨μ,fun _ _ h=>h,hM,Ew hf P μ φ x hx⟩⟩
  ·cases h
 grind [II,absurd]
theorem aL.set{P:Program}{μ:Ro}{φ:Nat→aH}{w:World}{id sz:Nat}{et:TypeId}{es:List PV}(hA:aL P μ φ w id sz et es){g:Nat}(hg:(φ id).g=some g){i off n:Nat}{e p q:PV}{x:Value}(he:es[i]?=some e)(hE:wV P μ n p x)(hb:off+n≤sz)(hq:q.cells=bQ (aK sz e) off p.cells):∃c T,w.heap[g]?=some (.cells c T (0,0))∧i*sz+off+x.cells.size≤c.size∧aL P μ φ (w.setRow g (bQ c.toList (i*sz+off) x.cells.toList).toArray) id sz et (es.set i q):=by
 obtain⟨a1,a2,a3,a4,a5,a6,a7⟩:=hA;rw[hg]at a7;obtain⟨c,T,c1,c2,c3,c4,c5⟩:=a7;have hi:i<es.length:=(IN.1 he).1;have yo:i*sz+off+n≤c.size:=by have:(i+1)*sz≤(φ id).cap*sz:=an8 _ (by omega);grind
 have IJ:x.cells.toList.length=n:=by simpa using hE.size
 have KK:(aK sz e).length=sz:=bh _ _;have OW:q.cells.length=sz:=by rw[hq,cC (by rw[KK,hE.len];omega),KK]
 have wW:(bQ c.toList (i*sz+off) x.cells.toList).length=c.size:=by simp_all[cC]
 have sx:∀(i':Nat)e',(es.set i q)[i']?=some e'→(i'=i∧e'=q)∨(i'≠i∧es[i']?=some e'):=by grind
 refine⟨c,T,c1,by rw[hE.size];omega,?_⟩;refine⟨by simp[a1],a2,a3,a4,fun i' e' h'=>?_,a6,?_⟩
 ·grind
 ·rw[hg];refine⟨_,T,setRow_heap w g c _ T (0,0) c1,by simp[wW,c2],by simpa using c3,fun i' e' j p' x' h' hj hx=>?_,fun j x' hj hx=>?_⟩
  ·rw[aoL]at hx;rcases dm (by simp[hE.size];omega) hx with⟨b1,b2,b3⟩|⟨b1,b2⟩
   ·rw[IJ]at b2;have hii:i'=i∧e'=q:=by
     rcases sx i' e' h' with h|⟨bU,h'⟩
     ·omega
     ·exfalso;have tf:=(IN.1 hj).1;rw[a5 i' e' h']at tf;rcases Nat.lt_or_gt_of_ne bU with bF|hgt
      ·have:(i'+1)*sz≤i*sz:=an8 _ bF;grind
      ·have:(i+1)*sz≤i'*sz:=an8 _ hgt;grind
    obtain⟨rfl,rfl⟩:=hii;rw[hq]at hj;rcases dm (by rw[KK,hE.len];omega) hj with⟨d1,d2,d3⟩|⟨d1,d2⟩
    ·exact hE.rep _ _ _ d3 (by rw[←aoS,←b3];congr 1;omega)
    ·exfalso;rw[hE.len]at d1;omega
   ·rw[IJ]at b1;have b2:c[i'*sz+j]?=some x':=by simpa using b2
    rcases sx i' e' h' with⟨rfl,rfl⟩|⟨bU,h'⟩
    ·rw[hq]at hj;rcases dm (by rw[KK,hE.len];omega) hj with⟨d1,d2,d3⟩|⟨d1,d2⟩
     ·exfalso;rw[hE.len]at d2;omega
     grind [fO]
    grind
  ·rw[aoL]at hx;rw[apW]at hj;rcases dm (by simp[hE.size];omega) hx with⟨b1,b2,b3⟩|⟨b1,b2⟩
   ·exact hE.one _ x' (by simpa using b3)
   grind
variable{off:Nat}
theorem MY{s0:Nat}{e:PV}(he:e.cells.length=s0)(ho:off<s0)(hp:∀cs,p≠.agg cs):(setRow s0 e off p).cells=e.cells.set off p:=by
 have h1:p.cells=[p]:=by cases p<;>first|rfl|exact absurd rfl (hp _)
 unfold setRow;split
 ·rename_i hs;subst hs;have:off=0:=by omega
  subst this;match hc:e.cells,he with
  |[c],_=>simp[h1]
 simp_all[PV.cells,fO]
theorem IK{s:Nat}{e:PV}(h1:p.cells.length=n)(h2:e.cells.length=s):(setCells s e off n p).cells=bQ (aK s e) off p.cells:=by
 unfold setCells;split
 ·rename_i h;obtain⟨rfl,rfl⟩:=h;simp_all[ea,bh]
 rfl
theorem bd.change{P:Program}{μ μ':Ro}{φ φ':Nat→aH}{w w':World}{sz:Nat}{et:TypeId}{es es':List PV}(h:bd P μ φ w id sz et es)(hlen:es'.length=es.length)(qn:∀(i:Nat)e,es'[i]?=some e→e.cells.length=sz)(hφ:(φ' id).toGS=(φ id).toGS)(hw:∀g,(φ id).g=some g→w'.heap[g]?=w.heap[g]?)(hc:∀(i:Nat)e'(j:Nat)p' g c T x,es'[i]?=some e'→e'.cells[j]?=some p'→(φ id).g=some g→w.heap[g]?=some (.cells c T (0,0))→c[i*sz+j]?=some x→(∀e p,es[i]?=some e→e.cells[j]?=some p→eA P μ ((φ id).row i j) w p x)→eA P μ' ((φ' id).row i j) w' p' x):bd P μ' φ' w' id sz et es':=by
 obtain⟨a1,a2,a3,a4,a5,a6,a7⟩:=h;unfold bd;rw[hφ];refine⟨by omega,a2,a3,a4,qn,a6,?_⟩;cases hg:(φ id).g with
 |none=>simp_all
 |some g=>grind
theorem eQ{T:Type}{l:List T}{i i':Nat}{q e':T}(h:(l.set i q)[i']?=some e'):(i'=i∧e'=q)∨(i'≠i∧l[i']?=some e'):=by grind
theorem bd.set{P:Program}{μ:Ro}{φ:Nat→aH}{w:World}{sz:Nat}{et:TypeId}{es:List PV}(hA:bd P μ φ w id sz et es)(HV:(bL.nest sz et es).apart (φ id)){g:Nat}(hg:(φ id).g=some g){i:Nat}{e q:PV}{x:Value}(he:es[i]?=some e)(hE:wV P μ n p x)(hb:off+n≤sz)(hq:q.cells=bQ (aK sz e) off p.cells):∃c T,w.heap[g]?=some (.cells c T (0,0))∧i*sz+off+x.cells.size≤c.size∧bd P μ φ (w.setRow g (bQ c.toList (i*sz+off) x.cells.toList).toArray) id sz et (es.set i q)∧∀i' yV,(bL.nest sz et (es.set i q)).rowAt i' yV=true→(bL.nest sz et es).rowAt i' yV=true:=by
 have Dq:=hA;obtain⟨a1,a2,a3,a4,a5,a6,a7⟩:=hA;rw[hg]at a7;obtain⟨c,T,c1,c2,c3,c4,c5⟩:=a7;have hi:i<es.length:=(IN.1 he).1;have yo:i*sz+off+n≤c.size:=by have:(i+1)*sz≤(φ id).cap*sz:=an8 _ (by omega);grind
 have IJ:x.cells.toList.length=n:=by simpa using hE.size
 have KK:(aK sz e).length=sz:=bh _ _;have OW:q.cells.length=sz:=by rw[hq,cC (by rw[KK,hE.len];omega),KK]
 have wW:(bQ c.toList (i*sz+off) x.cells.toList).length=c.size:=by simp_all[cC]
 have bU:∀i' j' g',(bL.nest sz et es).rowAt i' j'=true→((φ id).row i' j').g=some g'→g'≠g:=fun i' j' g' hr cL e=>(HV i' j' g' hr cL).1 (by rw[e];omega);have fo:∀{i' j':Nat}{e' p':PV}{x':Value}{l:List Value},es[i']?=some e'→e'.cells[j']?=some p'→eA P μ ((φ id).row i' j') w p' x'→eA P μ ((φ id).row i' j') (w.setRow g l.toArray) p' x':=fun h1 h2 h3=>h3.cv (fun _ _ h=>h) fun hr g' cL=>ck (bU _ _ g' (by rw[dE h1 h2];omega) cL);refine⟨c,T,c1,by rw[hE.size];omega,⟨by simp[a1],a2,a3,a4,fun i' e' h'=>?_,a6,?_⟩,?_⟩
 ·grind
 ·rw[hg];refine⟨_,T,setRow_heap w g c _ T (0,0) c1,by simp[wW,c2],by simpa using c3,fun i' e' j p' x' h' hj hx=>?_,fun j x' hj hx=>?_⟩
  ·rw[aoL]at hx;rcases dm (by simp[hE.size];omega) hx with⟨b1,b2,b3⟩|⟨b1,b2⟩
   ·rw[IJ]at b2;have hii:i'=i∧e'=q:=by
     rcases eQ h' with h|⟨bU,h'⟩
     ·omega
     ·exfalso;have tf:=(IN.1 hj).1;rw[a5 i' e' h']at tf;rcases Nat.lt_or_gt_of_ne bU with bF|hgt
      ·have:(i'+1)*sz≤i*sz:=an8 _ bF;grind
      ·have:(i+1)*sz≤i'*sz:=an8 _ hgt;grind
    obtain⟨rfl,rfl⟩:=hii;rw[hq]at hj;rcases dm (by rw[KK,hE.len];omega) hj with⟨d1,d2,d3⟩|⟨d1,d2⟩
    ·exact .pure (hE.rep _ _ _ d3 (by rw[←aoS,←b3];congr 1;omega))
    ·exfalso;rw[hE.len]at d1;omega
   ·rw[IJ]at b1;have b2:c[i'*sz+j]?=some x':=by simpa using b2
    rcases eQ h' with⟨rfl,rfl⟩|⟨bU,h'⟩
    ·rw[hq]at hj;rcases dm (by rw[KK,hE.len];omega) hj with⟨d1,d2,d3⟩|⟨d1,d2⟩
     ·exfalso;rw[hE.len]at d2;omega
     grind [fO]
    simp_all
  ·rw[aoL]at hx;rw[apW]at hj;rcases dm (by simp[hE.size];omega) hx with⟨b1,b2,b3⟩|⟨b1,b2⟩
   ·exact hE.one _ x' (by simpa using b3)
   grind
 ·intro i' yV hr;rcases kM hr with⟨_,_,_,e',s,rs,jn,h',yp⟩|⟨_,_,_,_,_,_,jn,_⟩
  ·simp only[bL.nest.injEq]at jn;obtain⟨rfl,rfl,rfl⟩:=jn;rcases eQ h' with⟨rfl,rfl⟩|⟨bU,h'⟩
   ·rw[hq]at yp;rcases dm (by rw[KK,hE.len];omega) yp with⟨d1,d2,d3⟩|⟨d1,d2⟩
    ·exfalso;have bF:yV-off<x.cells.size:=by rw[hE.size,←hE.len];omega
     exact absurd (hE.rep _ _ _ d3 (Yh bF)).HU (by simp[PV.isRow])
    ·rw[fO (a5 i' e he)]at d2;rw[dE he d2];rfl
   ·rw[dE h' yp];rfl
  ·cases jn
end
section
variable {R:Type} {E:Env}
theorem C2{p:PV}:∀{n o j:Nat}{q:PV},(dZ p o n)[j]?=some q→j<n∧q=cell p (o+j)
 |0,o,j,q,h=>by simp[dZ]at h
 |n+1,o,0,q,h=>⟨by omega,by simpa[dZ]using h.symm⟩
 |n+1,o,j+1,q,h=>by simp only[dZ,apP]at h;obtain⟨h1,h2⟩:=C2 h;grind
theorem wX{p:PV}:∀{n o:Nat},(dZ p o n).length=n
 |0,_=>rfl
 |n+1,o=>by simp[dZ,wX]
variable{n:Nat}
theorem Dv{s i:Nat}{p e:PV}(h:(qB s n p)[i]?=some e):i<n∧e=.agg (dZ p (i*s) s):=by unfold qB at h;grind
theorem Zm{p:PV}{u:Unit}(h:asAgg n p=some u):∃cs,p=.agg cs∧cs.length=n:=by unfold asAgg at h;grind
theorem Wx{t:TypeId}{i off s:Nat}{et:TypeId}{b:Option bL}{x:V}{p:PV}(h:Rp E t i off b x=some (s,et,n,p)):∃es,b=some (.arr s et es)∧x=.pv p∧FD E t s i off=true∧n=es.length:=by unfold Rp at h;grind
theorem LD{P:Program}{μ:Ro}{s k:Nat}{cs:List PV}{xs:Array Value}(hp:aq P μ (.agg cs) (.agg xs))(hl:cs.length=n*s){i j:Nat}{e q:PV}(he:(qB s n (.agg cs))[i]?=some e)(hq:e.cells[j]?=some q)(hk:k=i*s+j):∃x,xs[k]?=some x∧aq P μ q x∧x.oneCell'=true:=by
 obtain⟨h1,rfl⟩:=Dv he;obtain⟨h2,rfl⟩:=C2 hq;have bF:i*s+j<n*s:=by have:(i+1)*s≤n*s:=an8 _ (by omega);grind
 subst hk;cases hp with
 |agg g1 g2 g3=>have hc:cs[i*s+j]?=some cs[i*s+j]:=ta (by omega);have hx:xs[i*s+j]?=some xs[i*s+j]:=Yh (by omega);grind [cell,PV.cells]
theorem Wy{draw:Bool}{t:TypeId}{a x:V}{m:Mem}{k:Mem→bB→Option R}{r:R}(h:wP E draw t a x m k=some r):∃m' ft,k m' ft=some r∧(draw=true→∃id b,m'=aw m id b∧ft=[(true,id)]∧∀m2:Mem,m2 id=m id→∀(R':Type)(k':Mem→bB→Option R'),wP E true t a x m2 k'=k' (aw m2 id b) [(true,id)])∧kN m m'∧∀(G:Nat→Option (List PV))(w0:bu)(μ:Ro)(φ:Nat→aH)(w:World)(ya yx:Value),aA E.P G w0 μ φ m w→an E.P μ φ a ya→an E.P μ φ x yx→(∀id,x.has id=true→(m id).isSome=true)→∃w' μ',(Instr.storeAt t ya yx).run E.P w=.ok () w'∧(∀b o,μ b=some o→μ' b=some o)∧aA E.P G w0 μ' φ m' w':=by
 unfold wP at h;split at h
 ·rename_i id off;split at h
  ·rename_i cs hm;split at h
   ·rename_i new hn;split at h
    ·rename_i hb;refine⟨_,_,h,fun hd=>⟨id,_,rfl,rfl,fun m2 cG R' k'=>by simp_all[wP,No]⟩,.set,fun G w0 μ φ w ya yx hM ha hx Wz=>?_⟩;obtain⟨n1,n2,n3⟩:=toCells_ok hn;obtain⟨x1,x2,x3⟩:=n3 _ _ _ _ hx;cases ha with
     | @op _ _ g hg=>
      obtain⟨g',c,T,cL,hh,hs,hv,h1,KH⟩:=hM.dB id _ hm;rw[hg]at cL;simp only[tb]at cL;subst cL;have hi:=lu (P:=E.P) (t:=t) (by omega);have oJ:off+yx.cells.toList.length≤c.toList.length:=by simp;omega
      refine⟨_,μ,gF x1 hi hh (by omega) x3,fun _ _ h=>h,?_⟩;refine hM.write hm rfl hg (lh.setRow (aoa _)) setRow_size (fun k hk=>ck hk) ⟨g,_,T,hg,setRow_heap w g c _ T (0,0) hh,?_,fun i u y hu hy=>?_,fun i y hy=>?_,by simp_all[cC]⟩ rfl fun j hj=>?_
      ·simp_all[apb,cC]
      ·rw[aoL]at hy;have e1:yx.cells.toList.length=new.length:=by simp;omega
       rcases dm oJ hy with⟨b1,b2,b3⟩|⟨b1,b2⟩<;>rcases dm (by omega) hu with⟨d1,d2,d3⟩|⟨d1,d2⟩
       ·grind
       ·omega
       ·omega
       grind
      ·rw[aoL]at hy;rcases dm oJ hy with⟨b1,b2,b3⟩|⟨b1,b2⟩
       ·grind
       grind
      ·simp only[bL.names]at hj;obtain⟨v,Zn,hh'⟩:=cK.1 hj;simp only[ea,aol]at Zn;rcases Zn with(Zn|Zn)|Zn
       ·exact hM.fI id cs j hm (bR (apv Zn) hh')
       ·grind [bR]
       ·exact hM.fI id cs j hm (bR (ap1 Zn) hh')
    ·cases h
   ·cases h
  ·cases h
 ·rename_i id i off;split at h
  ·rename_i s et n p hwv;obtain⟨es,hm,rfl,hw,hn⟩:=Wx hwv;subst hn;obtain⟨u,hu,h⟩:=By.1 h;split at h
   ·rename_i hl;obtain⟨ha,rfl,rfl,_⟩:=Lv hw;obtain⟨cs,rfl,qn⟩:=Zm hu;refine⟨_,_,h,fun _=>⟨id,_,rfl,rfl,fun m2 cG R' k'=>?_⟩,.set,fun G w0 μ φ w ya yx hM ha hx _=>?_⟩
    ·simp_all[wP,aoe,No]
    ·have hA:aL E.P μ φ w id s et es:=hM.dB id _ hm;cases ha with
     | @oe _ _ _ g hg=>
      cases hx with
      |pv hx=>
       have MZ:=hx;cases hx with
       | @agg _ xs g1 g2 g3=>
        obtain⟨a1,a2,a3,a4,a5,a6,a7⟩:=hA;rw[hg]at a7;obtain⟨c,T,c1,c2,c3,c4,c5⟩:=a7;have hle:es.length*s≤c.size:=aov (an8 _ c3) c2;have IL:xs.size=es.length*s:=by omega
        have eY:aS E.P t≠0:=by omega
        have hl1:=hl.1;have hi:=lu (P:=E.P) (t:=t) eY;have hcz:(Value.agg xs).cells.size=aS E.P t:=by simp[Value.cells];omega
        refine⟨w.setRow g (bQ c.toList 0 xs.toList).toArray,μ,?_,fun _ _ h=>h,hM.write hm rfl hg (lh.setRow (aoa _)) setRow_size (fun k hk=>ck hk) ?_ rfl (fun j hj=>by simp[bL.names]at hj)⟩
        ·rw[show 0*(φ id).sz+0=0 by omega];exact gF hcz hi c1 (by omega) (fun i y hy=>g3 i y hy)
        ·have KK:∀(i:Nat)(x:Value),i<es.length*s→(bQ c.toList 0 xs.toList).toArray[i]?=some x→xs[i]?=some x:=fun i x hi hx=>by
          rw[aoL]at hx;rcases dm (by simp;omega) hx with⟨b1,b2,b3⟩|⟨b1,b2⟩
          ·simpa using b3
          grind
         refine⟨by rw[a1];simp[qB],a2,a3,a4,fun i e he=>?_,a6,?_⟩
         ·obtain⟨_,rfl⟩:=Dv he;exact wX
         ·rw[hg];refine⟨_,T,setRow_heap w g c _ T (0,0) c1,?_,?_,fun i e j q x he hq hx=>?_,fun i x hi hx=>?_⟩
          ·simp_all[apb,cC,Value.cells]
          ·simpa[qB]using c3
          ·obtain⟨x',x1,x2,_⟩:=LD (k:=i*s+j) MZ (by omega) he hq rfl;grind
          grind [qB]
   ·cases h
  rename_i hwn;split at h
  ·rename_i p m1 hf;obtain⟨f1,f2,f3⟩:=O3 hf;split at h
   ·rename_i s et es hm;obtain⟨e,he,h⟩:=By.1 h;have key:∀q,0<aS E.P t→off+aS E.P t≤s→(p.cells.length=aS E.P t→e.cells.length=s→q.cells=bQ (aK s e) off p.cells)→∀(G:Nat→Option (List PV))(w0:bu)(μ:Ro)(φ:Nat→aH)(w:World)(ya yx:Value),aA E.P G w0 μ φ m w→an E.P μ φ (.oe id i off) ya→an E.P μ φ x yx→(∀id,x.has id=true→(m id).isSome=true)→∃w' μ',(Instr.storeAt t ya yx).run E.P w=.ok () w'∧(∀b o,μ b=some o→μ' b=some o)∧aA E.P G w0 μ' φ (aw m1 id (.arr s et (es.set i q))) w':=by
     intro q hz hb hq G w0 μ φ w ya yx hM ha hx _;obtain⟨μ',g1,g2,g3⟩:=f3 _ _ _ _ _ _ _ hM hx;cases ha with
     | @oe _ _ _ g hg=>have hA:aL E.P μ' φ w id s et es:=g2.dB id _ hm;have IM:=hq g3.len (hA.2.2.2.2.1 i e he);obtain⟨c,T,hh,oJ,Dq⟩:=hA.set hg he g3 hb IM;have ou:(φ id).sz=s:=hA.2.1;have hi:=lu (P:=E.P) (t:=t) (by omega);refine⟨_,μ',?_,g1,g2.write hm rfl hg (lh.setRow (aoa _)) setRow_size (fun k hk=>ck hk) Dq rfl fun j hj=>by simp[bL.names]at hj⟩;rw[ou];exact gF g3.size hi hh oJ g3.one
    split at h
    ·rename_i hb;refine⟨_,_,h,fun hd=>?_,f1.trans .set,key p (by omega) (by omega) fun h1 h2=>?_⟩
     ·obtain⟨rfl,f4⟩:=f2 hd;refine⟨id,_,rfl,rfl,fun m2 cG R' k'=>?_⟩;simp_all[wP,aoe,No]
     simp_all[ea,bh]
    ·rename_i hnb;split at h
     ·rename_i hb;refine⟨_,_,h,fun hd=>?_,f1.trans .set,key _ (by omega) (by omega) fun _ _=>rfl⟩;obtain⟨rfl,f4⟩:=f2 hd;refine⟨id,_,rfl,rfl,fun m2 cG R' k'=>?_⟩;simp_all[wP,aoe,QU,No]
     ·cases h
   ·rename_i s et es hm;obtain⟨e,he,h⟩:=By.1 h;split at h
    ·rename_i hb;refine⟨_,_,h,fun hd=>?_,f1.trans .set,fun G w0 μ φ w ya yx hM ha hx _=>?_⟩
     ·obtain⟨rfl,f4⟩:=f2 hd;refine⟨id,_,rfl,rfl,fun m2 cG R' k'=>?_⟩;simp_all[wP,aoe,No]
     ·obtain⟨μ',g1,g2,g3⟩:=f3 _ _ _ _ _ _ _ hM hx;cases ha with
      | @oe _ _ _ g hg=>have hA:bd E.P μ' φ w id s et es:=g2.dB id _ hm;obtain⟨c,T,hh,oJ,Dq,hrw⟩:=bd.set (q:=.agg (bQ (aK s e) off p.cells)) hA (g2.apart id _ hm) hg he g3 hb.1 rfl;have ou:(φ id).sz=s:=hA.2.1;have hi:=lu (P:=E.P) (t:=t) (by omega);refine⟨_,μ',?_,g1,g2.write hm rfl hg (lh.setRow (aoa _)) setRow_size (fun k hk=>ck hk) Dq rfl (fun j hj=>by simp[bL.names]at hj) (fun st h=>by cases h) hrw⟩;rw[ou];exact gF g3.size hi hh oJ g3.one
    ·cases h
   ·cases h
  ·cases h
 ·rename_i id i off s j off2;split at h
  ·rename_i p m1 hf;split at h
   ·rename_i s0 et es hm;obtain⟨e,he,h⟩:=By.1 h;obtain⟨rs,hr,h⟩:=By.1 h;obtain⟨q,hq,h⟩:=By.1 h;split at h
    ·rename_i hb;refine⟨_,_,h,fun _=>⟨id,_,rfl,rfl,fun m2 cG R' k'=>?_⟩,.set,fun G w0 μ φ w ya yx hM ha hx _=>?_⟩
     ·simp_all[wP,aoe,No]
     ·have hE:=Ew hf E.P μ φ yx hx;have hN:bd E.P μ φ w id s0 et es:=hM.dB id _ hm;obtain⟨g,y,hg,Ey,⟨⟨Kz,hA⟩,hV⟩,hce⟩:=hN.row he hr;have HV:=hM.apart id _ hm;have nb:(bL.nest s0 et es).rowAt i off=true:=by rw[dE he hce];rfl
      have G0:=hN.2.2.2.2.1 i e he;have Zo:(setRow s0 e off (.qg s (rs.set j (setCells s q off2 (aS E.P t) p)))).cells=e.cells.set off (.qg s (rs.set j (setCells s q off2 (aS E.P t) p))):=MY G0 hb.2.2 (by simp);cases ha with
      | @Ef _ _ _ _ _ _ g' cL hs=>
       obtain⟨bU,anA⟩:=HV i off g' nb cL;obtain⟨c,T,hh,oJ,Dq⟩:=hA.set (g:=g') cL hq hE hb.1 (IK hE.len (hA.2.2.2.2.1 j q hq));have hi:=lu (P:=E.P) (t:=t) (by omega);refine⟨_,μ,gF hE.size hi hh oJ hE.one,fun _ _ h=>h,hM.Zk hm rfl (.inr ⟨i,off,nb,cL⟩) (lh.setRow (aoa _)) setRow_size (fun k hk=>ck hk) ?_ rfl (fun j hj=>by simp[bL.names]at hj) ?_⟩
       ·refine bd.change hN (by simp) (fun i' e' h'=>?_) rfl (fun g0 Rz=>ck fun e=>bU (by rw[←e];omega)) (fun i' e' j' p' g0 c0 _ x' h' yp Rz Rc MZ hold=>?_)
        ·rcases eQ h' with⟨_,rfl⟩|⟨_,h'⟩
         ·grind
         ·exact hN.2.2.2.2.1 i' e' h'
        ·have other:∀e'' p'',es[i']?=some e''→e''.cells[j']?=some p''→(i',j')≠(i,off)→eA E.P μ ((φ id).row i' j') (w.setRow g' (bQ c.toList (j*s+off2) yx.cells.toList).toArray) p'' x':=fun e'' p'' h1 h2 h3=>(hold e'' p'' h1 h2).cv (fun _ _ h=>h) fun Fu g'' anI=>ck fun e=>by grind [dE]
         rcases eQ h' with⟨rfl,rfl⟩|⟨hni,h'⟩
         ·rw[Zo]at yp;rcases eQ yp with⟨rfl,rfl⟩|⟨hnj,yp⟩
          ·have WA:eX E.P μ ((φ id).row i' j') w s rs x':=hold e _ he hce;refine⟨⟨Kz,Dq⟩,?_⟩;exact WA.2
          grind
         grind
       ·intro i' yV Fu;rcases kM Fu with⟨_,_,_,e',s',rs',jn,h',yp⟩|⟨_,_,_,_,_,_,jn,_⟩
        ·simp only[bL.nest.injEq]at jn;obtain⟨rfl,rfl,rfl⟩:=jn;rcases eQ h' with⟨rfl,rfl⟩|⟨hni,h'⟩
         ·rw[Zo]at yp;rcases eQ yp with⟨rfl,_⟩|⟨hnj,yp⟩
          ·omega
          ·rw[dE he yp];rfl
         ·rw[dE h' yp];rfl
        ·cases jn
    ·cases h
   ·cases h
  ·cases h
 ·cases h
end
structure Cells(P:Program)(μ:Ro)(sz:Nat)(es:List PV)(xs:List Value):Prop where
 len:xs.length=es.length*sz
 each:∀(i:Nat)e,es[i]?=some e→e.cells.length=sz
 rep:∀(i:Nat)e(j:Nat)p y,es[i]?=some e→e.cells[j]?=some p→xs[i*sz+j]?=some y→aq P μ p y
 one:∀(i:Nat)y,xs[i]?=some y→y.oneCell'=true
section
variable {P:Program} {μ μ':Ro} {φ:Nat→aH} {w:World} {sz:Nat} {es es':List PV} {xs xs':List Value}
theorem Cells.nil:Cells P μ sz [] []:=⟨by simp,by simp,by simp,by simp⟩
theorem Cells.mono(h:Cells P μ sz es xs)(hμ:∀b o,μ b=some o→μ' b=some o):Cells P μ' sz es xs:=⟨h.len,h.each,fun i e j p y h1 h2 h3=>(h.rep i e j p y h1 h2 h3).mono hμ,h.one⟩
theorem IP{i j n:Nat}(hi:i<n)(hj:j<sz):i*sz+j<n*sz:=by have:(i+1)*sz≤n*sz:=an8 _ hi;grind
theorem Cells.append(h:Cells P μ sz es xs)(h':Cells P μ sz es' xs'):Cells P μ sz (es++es') (xs++xs'):=by
 refine⟨by simp[h.len,h'.len,aoV],fun i e hi=>?_,fun i e j p y hi hj hy=>?_,fun i y hy=>?_⟩
 ·rw[aoG]at hi;split at hi
  ·exact h.each i e hi
  ·exact h'.each _ e hi
 ·rw[aoG]at hi hy;split at hi
  ·rename_i hl;have tf:j<sz:=by rw[←h.each i e hi];grind
   rw[No (by rw[h.len];exact IP hl tf)]at hy;exact h.rep i e j p y hi hj hy
  ·rename_i hl;have hle:es.length*sz≤i*sz:=an8 _ (by omega);rw[QU (by rw[h.len];omega)]at hy;refine h'.rep _ e j p y hi hj ?_;rw[←hy,h.len,Nat.sub_mul];congr 1;omega
 ·rw[aoG]at hy;split at hy
  ·exact h.one i y hy
  ·exact h'.one _ y hy
theorem Cells.take(h:Cells P μ sz es xs)(n:Nat):Cells P μ sz (es.take n) (xs.take (n*sz)):=by refine⟨?_,fun i e hi=>h.each i e (iS hi).2,fun i e j p y hi hj hy=>h.rep i e j p y (iS hi).2 hj (iS hy).2,fun i y hy=>h.one i y (iS hy).2⟩;rw[aoz,aoz,h.len];simp
theorem Cells.drop(h:Cells P μ sz es xs)(n:Nat):Cells P μ sz (es.drop n) (xs.drop (n*sz)):=by refine⟨by simp[h.len,Nat.sub_mul],fun i e hi=>h.each _ e (yg hi),fun i e j p y hi hj hy=>h.rep _ e j p y (yg hi) hj ?_,fun i y hy=>h.one _ y (yg hy)⟩;grind
variable{id:Nat}{et:TypeId}
theorem aL.cells(hA:aL P μ φ w id sz et es){g:Nat}(hg:(φ id).g=some g):∃(c:Array Value)(T:TypeId),w.heap[g]?=some (.cells c T (0,0))∧(φ id).cap*sz≤c.size∧es.length≤(φ id).cap∧es.length*sz≤c.size∧Cells P μ sz es (c.toList.take (es.length*sz)):=by
 obtain⟨a1,a2,a3,a4,a5,a6,a7⟩:=hA;rw[hg]at a7;obtain⟨c,T,c1,c2,c3,c4,c5⟩:=a7;have hle:es.length*sz≤c.size:=aov (an8 _ c3) c2;refine⟨c,T,c1,c2,c3,hle,by simp;omega,a5,fun i e j p y hi hj hy=>?_,fun i y hy=>?_⟩
 ·grind
 grind
theorem aL.rL{g:Nat}{T:TypeId}{c:Array Value}(hph:(φ id).toGS=⟨some g,(φ id).cap,es.length,sz⟩)(ou:sz=aS P et)(eY:0<sz)(tB:(φ id).cap≤maxLen)(hh:w.heap[g]?=some (.cells c T (0,0)))(hc:(φ id).cap*sz≤c.size)(hle:es.length≤(φ id).cap)(hC:Cells P μ sz es (c.toList.take (es.length*sz))):aL P μ φ w id sz et es:=by
 have e1:(φ id).g=some g:=by rw[hph]
 refine⟨by rw[hph],by rw[hph],ou,eY,hC.each,tB,?_⟩;rw[e1];have tf:∀(i:Nat)e(j:Nat)p,es[i]?=some e→e.cells[j]?=some p→i*sz+j<es.length*sz:=fun i e j p hi hj=>IP (IN.1 hi).1 (by rw[←hC.each i e hi];grind);refine⟨c,T,hh,hc,hle,fun i e j p x hi hj hx=>?_,fun i x hi hx=>?_⟩
 ·exact hC.rep i e j p x hi hj (by grind)
 ·exact hC.one i x (by grind)
inductive C3(P:Program)(μ:Ro)(w:World)(sz:Nat)(es:List PV):Value→Prop
 |none:es=[]→C3 P μ w sz es (.slice none 0 0)
 |some {a:Addr} {c:Nat} (xs:List Value):Cells P μ sz es xs→(∀(j:Nat)v,xs[j]?=some v→w.cell? (a.add j)=some v)→es.length≤c→c≤maxLen→C3 P μ w sz es (.slice (some a) es.length c)
theorem aL.src(hA:aL P μ φ w id sz et es){g:Nat}(hg:(φ id).g=some g){lo len cap:Nat}(hl:lo+len≤es.length)(hcc:len≤cap)(anJ:lo+cap≤(φ id).cap):C3 P μ w sz ((es.drop lo).take len) (.slice (some ⟨g,lo*sz,none⟩) len cap):=by
 obtain⟨c,T,c1,c2,c3,c4,c5⟩:=hA.cells hg;have tB:=hA.rK;have hlen:((es.drop lo).take len).length=len:=by simp;omega
 have:=C3.some (P:=P) (μ:=μ) (w:=w) (sz:=sz) (es:=(es.drop lo).take len) (a:=⟨g,lo*sz,none⟩) (c:=cap) _ ((c5.drop lo).take len) (fun j v hv=>?_) (by omega) (by omega)
 ·simp_all
 grind [iS,yg,Addr.add_mid,dt]
end
section
variable {R:Type} {E:Env}
theorem aq.src{P:Program}{G:Nat→Option (List PV)}{w0:bu}{μ:Ro}{φ:Nat→aH}{m:Mem}{w:World}{sz:Nat}{es:List PV}{y:Value}(hM:aA P G w0 μ φ m w)(h:aq P μ (.rs sz es) y):C3 P μ w sz es y:=by
 cases h with
 |l5=>exact .none rfl
 |Ox hc=>exact .some (es:=[]) [] .nil (by simp) (by simp) hc
 | @rs _ _ b o cap X h1 h2 h3 h4 h5 h6=>
  by_cases hz:sz=0
  ·subst hz;refine .some [] ⟨by simp,h3,fun i e j p y hi hj=>?_,by simp⟩ (by simp) h1 h2;simp
  ·have ey:∀k v,((List.range (es.length*sz)).map fun k=>X (k/sz) (k%sz))[k]?=some v→∃(e:PV)(p:PV),es[k/sz]?=some e∧e.cells[k%sz]?=some p∧v=X (k/sz) (k%sz):=by
    intro k v hk;have bF:k<es.length*sz:=by grind
    rw[AT,apz bF]at hk;simp at hk;have hi:k/sz<es.length:=(Nat.div_lt_iff_lt_mul (by omega)).2 bF;have hj:k%sz<(es[k/sz]).cells.length:=by rw[h3 _ _ (ta hi)];exact aq1 _ (by omega)
    simp_all
   refine .some ((List.range (es.length*sz)).map fun k=>X (k/sz) (k%sz)) ⟨by simp,h3,fun i e j p y hi hj hy=>?_,fun k v hk=>?_⟩ (fun k v hk=>?_) h1 h2
   ·obtain⟨e',p',he,hp,rfl⟩:=ey _ _ hy;have tf:j<sz:=by grind
    have e1:(i*sz+j)/sz=i:=by rw[aqf,Nat.mul_add_div (by omega),Nat.div_eq_of_lt tf];rfl
    simp_all[aqf,Nat.mul_add_mod,Nat.mod_eq_of_lt]
   ·grind
   ·obtain⟨e',p',he,hp,rfl⟩:=ey _ _ hk;rw[Addr.add_mid];have:=hM.cellAt (h4 _ e' _ p' he hp);rw[←this];simp[congr,aoT,Nat.div_add_mod']
theorem qE{m:Mem}{sz:Nat}{x:V}{es:List PV}{ft:bB}(h:fN m sz x=some (es,ft)):(∀m2:Mem,(∀x∈ft,m2 x.2=m x.2)→fN m2 sz x=some (es,ft))∧(∀x∈ft,x.1=false)∧∀(P:Program)(G:Nat→Option (List PV))(w0:bu)(μ:Ro)(φ:Nat→aH)(w:World)(y:Value),aA P G w0 μ φ m w→an P μ φ x y→C3 P μ w sz es y:=by
 unfold fN at h;split at h
 ·rename_i s es';split at h
  ·rename_i hs;simp only[tb,afu]at h;obtain⟨rfl,rfl⟩:=h;subst hs;exact⟨fun m2 _=>by simp[fN],by simp,fun P G w0 μ φ w y hM hy=>by cases hy with|pv hy=>exact hy.src hM⟩
  ·split at h
   ·simp only[tb,afu]at h;obtain⟨rfl,rfl⟩:=h;refine⟨fun m2 _=>by simp[fN],by simp,fun P G w0 μ φ w y hM hy=>?_⟩;cases hy with
    |pv hy=>cases hy with
     |l5=>exact .none rfl
     |Ox hc=>exact .some (es:=[]) [] .nil (by simp) (by simp) hc
     |rs X h1 h2=>exact .some (es:=[]) [] .nil (by simp) h1 h2
   ·cases h
 ·simp only[tb,afu]at h;obtain⟨rfl,rfl⟩:=h;exact⟨fun m2 _=>by rfl,by simp,fun P G w0 μ φ w y hM hy=>by cases hy;exact .none rfl⟩
 ·rename_i id;have key:∀(s:Nat)(et:TypeId)(es:List PV),(m id=some (.arr s et es)∨m id=some (.sq s et es))→∀(P:Program)(G:Nat→Option (List PV))(w0:bu)(μ:Ro)(φ:Nat→aH)(w:World)(y:Value),aA P G w0 μ φ m w→an P μ φ (.os id) y→C3 P μ w s es y:=by
   intro s et es hm P G w0 μ φ w y hM hy;have hA:=hM.arr hm;cases hy with
   |vO hg=>obtain⟨a1,a2,a3,a4,a5,a6,a7⟩:=hA;rw[hg]at a7;exact .none a7.1
   |os hg=>have:=hA.src hg (lo:=0) (len:=es.length) (cap:=(φ id).cap) (by omega) (hA.rK).1 (by omega);rw[hA.1];simpa using this
  split at h
  ·rename_i s' et es' hm;split at h
   ·rename_i hs;simp only[tb,afu]at h;obtain⟨rfl,rfl⟩:=h;subst hs;exact⟨fun m2 cG=>by have:=cG (false,id) (by simp);simp_all[fN],by simp,key _ _ _ (.inl hm)⟩
   ·cases h
  ·rename_i s' et es' hm;split at h
   ·rename_i hs;simp only[tb,afu]at h;obtain⟨rfl,rfl⟩:=h;subst hs;exact⟨fun m2 cG=>by have:=cG (false,id) (by simp);simp_all[fN],by simp,key _ _ _ (.inr hm)⟩
   ·cases h
  ·cases h
 ·rename_i id lo len;have key:∀(s:Nat)(et:TypeId)(es:List PV),(m id=some (.arr s et es)∨m id=some (.sq s et es))→∀(P:Program)(G:Nat→Option (List PV))(w0:bu)(μ:Ro)(φ:Nat→aH)(w:World)(y:Value),aA P G w0 μ φ m w→an P μ φ (.gh id lo len) y→C3 P μ w s ((es.drop lo).take len) y:=by
   intro s et es hm P G w0 μ φ w y hM hy;have hA:=hM.arr hm;have hle:=hA.rK;have G1:=hA.1;have ou:=hA.2.1;cases hy with
   |uj hg=>simp;exact .none rfl
   |gh hg hl ha hc1 TW=>
    rcases ha with rfl|⟨ha,_⟩
    ·rw[ou];exact hA.src hg (by omega) hc1 TW
    ·have h0:len=0:=by omega
     subst h0;simp only[ap4];exact .some (es:=[]) [] .nil (by simp) (by simp) (by omega)
  split at h
  ·rename_i s' et es' hm;split at h
   ·rename_i hs;simp only[tb,afu]at h;obtain⟨rfl,rfl⟩:=h;subst hs;exact⟨fun m2 cG=>by have:=cG (false,id) (by simp);simp_all[fN],by simp,key _ _ _ (.inl hm)⟩
   ·cases h
  ·rename_i s' et es' hm;split at h
   ·rename_i hs;simp only[tb,afu]at h;obtain⟨rfl,rfl⟩:=h;subst hs;exact⟨fun m2 cG=>by have:=cG (false,id) (by simp);simp_all[fN],by simp,key _ _ _ (.inr hm)⟩
   ·cases h
  ·cases h
 ·rename_i id i off;split at h
  ·rename_i s0 et0 es0 hm;obtain⟨e,he,h⟩:=By.1 h;obtain⟨rs,hr,h⟩:=By.1 h;simp only[tb,afu]at h;obtain⟨rfl,rfl⟩:=h;refine⟨fun m2 cG=>by have:=cG (false,id) (by simp);simp_all[fN],by simp,fun P G w0 μ φ w y hM hy=>?_⟩;have hN:bd P μ φ w id s0 et0 es0:=hM.dB id _ hm;obtain⟨_,_,_,_,⟨⟨Kz,hA⟩,_⟩,_⟩:=hN.row he hr;have hy:=hy.Rx (ν:=μ);cases hy with
   |vO hg=>obtain⟨a1,a2,a3,a4,a5,a6,a7⟩:=hA;rw[hg]at a7;exact .none a7.1
   |os hg=>have:=hA.src hg (lo:=0) (len:=rs.length) (cap:=(((φ id).row i off).up).cap) (by omega) (hA.rK).1 (by omega);rw[hA.1];simpa using this
  ·cases h
 ·cases h
end
section
variable {P:Program} {w:World}
theorem sy{t ty e:TypeId}(hu:P.underlying t=some (.slice e))(hz:aS P e≠0){base a:Option Addr}{n cap c:Nat}(hn:n≤cap):(Builtin.append_ #[t,t] ty #[.slice base n cap,.slice a 0 c]).run P w=.ok (.slice base n cap) w:=by
 obtain⟨i,hi,hs⟩:=Cl hz;have hl:∀x:Addr,(loadCells x 0).run P w=.ok #[] w:=fun x=>by rfl
 cases base<;>cases a<;>simp[Builtin.append_,run_underlying hu,sizeOf,typeInfo,hi,Builtin.lenOf,Builtin.firstCells,hn,hl,storeCells]
end
theorem FP{P:Program}{w:World}(t ty e T:TypeId)(i:TypeInfo)(ht:P.underlying t=some (.slice e))(hi:P.info? e=some i)(g RC afI:Nat)(cur:Array Value)(hg:w.heap[g]?=some (.cells cur T (0,0)))(a:Addr)(m c:Nat)(news:List Value)(hl:news.length=m*i.size)(ais:∀j u,news[j]?=some u→w.cell? (a.add j)=some u)(h1:∀u∈news,u.oneCell'=true)(bw:RC+m≤afI)(oJ:RC*i.size+news.length≤cur.size):(Builtin.append_ #[t,t] ty #[.slice (some ⟨g,0,none⟩) RC afI,.slice (some a) m c]).run P w=.ok (.slice (some ⟨g,0,none⟩) (RC+m) afI) (w.setRow g (cur.toList.take (RC*i.size)++news++cur.toList.drop (RC*i.size+news.length)).toArray):=by have hf:=run_firstCells_some (P:=P) w i.size m a m c news hl ais;have fo:=run_storeCells_at P g (RC*i.size) T news 0 cur w hg (by omega) h1;simp only[apU]at fo;simp[Builtin.append_,run_underlying ht,sizeOf,typeInfo,hi,Builtin.lenOf,bw,hf,Addr.add_mid,fo]
section
variable {R:Type} {E:Env}
variable{t:TypeId}
theorem LF{P:Program}{i:TypeInfo}(hi:P.info? t=some i):i.bytes=KD P t∧i.size=aS P t:=by simp[KD,aS,hi]
theorem IQ{P:Program}{e ty:TypeId}{sz len n:Nat}{z:Value}{i:TypeInfo}(hu:P.underlying t=some (.slice e))(hi:P.info? e=some i)(hzv:i.zero=some z)(T6:z.cells.size=sz)(ou:sz=aS P e)(eY:0<aS P e)(hby:0<KD P e)(bw:(len+n)*KD P e≤ab){w:World}{ys yx:Value}{os xs:List Value}(hs:(ys=.slice none 0 0∧len=0∧os=[])∨∃(g cap:Nat)(c:Array Value)(T:TypeId),ys=.slice (some ⟨g,0,none⟩) len cap∧w.heap[g]?=some (.cells c T (0,0))∧cap*sz≤c.size∧len≤cap∧cap≤maxLen∧os=c.toList.take (len*sz))(hx:(yx=.slice none 0 0∧n=0∧xs=[])∨∃(a:Addr)(cx:Nat),yx=.slice (some a) n cx∧xs.length=n*sz∧(∀(j:Nat)v,xs[j]?=some v→w.cell? (a.add j)=some v)∧(∀v∈xs,v.oneCell'=true)∧n≤cx∧cx≤maxLen):∃w' y,(Builtin.append_ #[t,t] ty #[ys,yx]).run P w=.ok y w'∧((y=.slice none 0 0∧w'=w∧len=0∧n=0)∨∃(g cap:Nat)(c:Array Value)(T:TypeId),y=.slice (some ⟨g,0,none⟩) (len+n) cap∧w'.heap[g]?=some (.cells c T (0,0))∧cap*sz≤c.size∧len+n≤cap∧cap≤maxLen∧c.toList.take ((len+n)*sz)=os++xs∧((∃adA,ys=.slice (some ⟨g,0,none⟩) len adA∧lh g w w'∧∀k,k≠g→w'.heap[k]?=w.heap[k]?)∨(g=w.heap.size∧w'=w.drew.alloc (.cells c e)))):=by
 obtain⟨hib,his⟩:=LF hi;have al9:len+n≤140737488355328:=by have:(len+n)*1≤(len+n)*KD P e:=apy _ hby;grind [ab]
 have anK:len+n≤maxLen:=by simp only[maxLen];omega
 have YG:∀n,(Builtin.zeroCells z.cells n).size=n*sz:=fun n=>by rw[size_zeroCells,T6]
 rcases hs with⟨rfl,rfl,rfl⟩|⟨g,cap,c,T,rfl,g4,g5,g6,g7,rfl⟩
 ·rcases hx with⟨rfl,rfl,rfl⟩|⟨a,cx,rfl,IJ,IL,WB,hcx,RD⟩
  ·exact⟨w,_,sy hu (by omega) (aoa _),.inl ⟨rfl,rfl,rfl,rfl⟩⟩
  ·by_cases h0:n=0
   ·subst h0;exact⟨w,_,sy hu (by omega) (aoa _),.inl ⟨rfl,rfl,rfl,rfl⟩⟩
   ·have hr:=run_append_nil (P:=P) w t ty e i z hu hi hzv a n cx xs (by rw[IJ,ou,his]) IL (by omega) (by omega) (by simp only[ab,apa]at bw;rw[hib];omega);have G2:=grownCap_ge w n 0 e;refine⟨_,_,hr,.inr ⟨w.heap.size,grownCap w n 0 e,xs.toArray++Builtin.zeroCells z.cells (grownCap w n 0 e-n),e,by simp,ga w.drew _,?_,by omega,grownCap_le_maxLen w _ 0 e (by omega),?_,.inr ⟨rfl,rfl⟩⟩⟩
    ·rw[aqI,YG];simp only[apb,IJ,←aoV];simp_all
    simp_all
 ·have h1:(c.toList.take (len*sz)).length=len*sz:=by have:len*sz≤cap*sz:=an8 _ g6;simp;omega
  rcases hx with⟨rfl,rfl,rfl⟩|⟨a,cx,rfl,IJ,IL,WB,hcx,RD⟩
  ·exact⟨w,_,sy hu (by omega) g6,.inr ⟨g,cap,c,T,rfl,g4,g5,by omega,g7,by simp,.inl ⟨cap,rfl,lh.refl _ _,fun _ _=>rfl⟩⟩⟩
  ·by_cases hrm:len+n≤cap
   ·have oJ:len*i.size+xs.length≤c.size:=by rw[his,←ou,IJ,←aoV];exact aov (an8 _ hrm) g5
    have hr:=FP (P:=P) (w:=w) t ty e T i hu hi g len cap c g4 a n cx xs (by rw[IJ,ou,his]) IL WB hrm oJ;rw[his,←ou]at hr oJ;refine⟨_,_,hr,.inr ⟨g,cap,_,T,rfl,setRow_heap w g c _ T (0,0) g4,?_,hrm,g7,?_,.inl ⟨cap,rfl,lh.setRow (aoa _),fun k hk=>ck hk⟩⟩⟩
    ·grind
    grind [List.take_left',List.length_append,Nat.add_mul]
   ·have hr:=run_append_grow (P:=P) w t ty e i z hu hi hzv ⟨g,0,none⟩ len cap (c.toList.take (len*sz)) (by rw[h1,ou,his]) (fun j v hj=>by
      grind [Addr.add_mid,dt,iS]) a n cx xs (by rw[IJ,ou,his]) IL (by omega) (by omega)
     (growslice_fits (by omega) (by simp_all[ab]))
    have G2:=grownCap_ge w (len+n) cap e;refine⟨_,_,hr,.inr ⟨w.heap.size,_,_,e,rfl,ga w.drew _,?_,G2,grownCap_le_maxLen w _ cap e (by omega),?_,.inr ⟨rfl,rfl⟩⟩⟩
    ·rw[aqI,aqI,YG];simp only[apb,IJ,h1,←aoV];simp_all
    grind [Array.toList_append,List.take_left',List.length_append,Nat.add_mul]
theorem IU{e ty:TypeId}{sz:Nat}{es new:List PV}{z:List V}(hu:E.P.underlying t=some (.slice e))(hz:cQ E e=some z)(ou:sz=aS E.P e)(eY:0<aS E.P e)(hby:0<KD E.P e)(bw:(es++new).length*KD E.P e≤ab){G:Nat→Option (List PV)}{w0:bu}{μ:Ro}{φ:Nat→aH}{m:Mem}{w:World}{ρ:Nat→Value}{f:Fr}{draw:Bool}{site:Nat}(hM:aA E.P G w0 μ φ m w)(hF:cd E.P μ φ m f ρ){ys yx:Value}(hx:C3 E.P μ w sz new yx)(hs:(ys=.slice none 0 0∧es=[])∨∃(g cap:Nat)(c:Array Value)(T:TypeId),ys=.slice (some ⟨g,0,none⟩) es.length cap∧(w0.heap.size≤g∧w0.hid g=none)∧μ g=none∧(∀id b',m id=some b'→¬b'.owns (φ id) g)∧w.heap[g]?=some (.cells c T (0,0))∧cap*sz≤c.size∧es.length≤cap∧cap≤maxLen∧es.length*sz≤c.size∧Cells E.P μ sz es (c.toList.take (es.length*sz))){f':Fr}{m':Mem}(yW:∀(P:Program)(G:Nat→Option (List PV))(w0:bu)(μ:Ro)(φ:Nat→aH)(w w':World)(ρ:Nat→Value)(ph:aH),aA P G w0 μ φ m w→cd P μ φ m f ρ→l6 P w0 μ φ m w w' site (.arr sz e (es++new)) ph→∃φ',φ' site=ph∧aA P G w0 μ φ' m' w'∧cd P μ φ' m' f' ρ):∃w' y φ',(Builtin.append_ #[t,t] ty #[ys,yx]).run E.P w=.ok y w'∧aA E.P G w0 μ φ' m' w'∧cd E.P μ φ' m' f' ρ∧an E.P μ φ' (.os site) y:=by
 obtain⟨i,zv,hi,hzv,his,_,T6,_,_,_⟩:=du hz;have YH:(es++new).length=es.length+new.length:=by simp
 obtain⟨os,hos,hC⟩:∃os,((ys=.slice none 0 0∧es.length=0∧os=[])∨∃(g cap:Nat)(c:Array Value)(T:TypeId),ys=.slice (some ⟨g,0,none⟩) es.length cap∧w.heap[g]?=some (.cells c T (0,0))∧cap*sz≤c.size∧es.length≤cap∧cap≤maxLen∧os=c.toList.take (es.length*sz))∧Cells E.P μ sz es os:=by
  rcases hs with⟨h1,rfl⟩|⟨g,cap,c,T,h1,h2,h3,h4,h5,h6,h7,h8,h9,h10⟩
  ·exact⟨[],.inl ⟨h1,rfl,rfl⟩,.nil⟩
  grind
 obtain⟨xs,IL,hCx⟩:∃xs,((yx=.slice none 0 0∧new.length=0∧xs=[])∨∃(a:Addr)(cx:Nat),yx=.slice (some a) new.length cx∧xs.length=new.length*sz∧(∀(j:Nat)v,xs[j]?=some v→w.cell? (a.add j)=some v)∧(∀v∈xs,v.oneCell'=true)∧new.length≤cx∧cx≤maxLen)∧Cells E.P μ sz new xs:=by
  cases hx with
  |none hn=>subst hn;exact⟨[],.inl ⟨rfl,rfl,rfl⟩,.nil⟩
  | @some a cx xs hC IL hcx RD=>exact⟨xs,.inr ⟨a,cx,rfl,hC.len,IL,fun u hu=>by obtain⟨j,hj⟩:=aoU hu;exact hC.one j u hj,hcx,RD⟩,hC⟩
 obtain⟨w',y,hr,IV⟩:=IQ (ty:=ty) hu hi hzv (by omega) ou eY hby (by simp_all) hos IL;rcases IV with⟨rfl,rfl,h1,h2⟩|⟨g',HD,c',T',rfl,b1,b2,b3,b4,b5,b6⟩
 ·have h1:es=[]:=aof h1;have h2:new=[]:=aof h2;obtain⟨φ',a1,a2,a3⟩:=yW E.P G w0 μ φ w' w' ρ (GU none 0 0 sz) hM hF ⟨lh.refl _ _,hM.ro,fun _ _ _ _ _=>rfl,by simp,fun φ' hp _=>by refine⟨by rw[hp,h1,h2];rfl,by rw[hp],ou,by omega,by rw[h1,h2];simp,by rw[hp];simp[maxLen],?_⟩;simp_all,by simp[bL.names],fun g o h=>⟨(hM.hid g o h).1,by simp⟩,fun st h=>by cases h⟩;exact⟨w',_,φ',hr,a2,a3,.vO (by rw[a1])⟩
 ·have hCC:Cells E.P μ sz (es++new) (c'.toList.take ((es++new).length*sz)):=by rw[YH,b5];exact hC.append hCx
  have fin:∀(φ':Nat→aH),φ' site=GU (some g') HD (es++new).length sz→an E.P μ φ' (.os site) (.slice (some ⟨g',0,none⟩) (es.length+new.length) HD):=fun φ' a1=>by have:=an.os (P:=E.P) (μ:=μ) (φ:=φ') (id:=site) (g:=g') (by rw[a1]);simp_all
  rcases b6 with⟨adA,hys,b6,b7⟩|⟨rfl,rfl⟩
  ·rcases hs with⟨h1,_⟩|⟨g,cap,c,_,h1,h2,h3,h4,_⟩
   ·rw[hys]at h1;cases h1
   rw[hys]at h1;simp only[Value.slice.injEq,tb,Addr.mk.injEq]at h1;obtain⟨⟨rfl,_⟩,_⟩:=h1;obtain⟨φ',a1,a2,a3⟩:=yW E.P G w0 μ φ w w' ρ (GU (some g') HD (es++new).length sz) hM hF ⟨b6.mono h2.1,fun k o hk=>by rw[b7 k (fun e=>by simp_all)];exact hM.ro k o hk,fun id b' g' hid cL=>b7 g' (fun e=>by simp_all),fun g' cL=>by simp_all,fun φ' hp _=>aL.rL (by rw[hp]) ou (by omega) (by rw[hp];omega) b1 (by rw[hp];omega) (by rw[hp,YH];omega) hCC,by simp[bL.names],fun g o h=>(by
    have bU:g≠g':=fun e=>by subst e;rw[h2.2]at h;cases h
    exact⟨(b7 g bU).trans (hM.hid g o h).1,fun e=>by cases e;exact bU rfl⟩),fun st h=>by cases h⟩
   grind
  ·obtain⟨φ',a1,a2,a3⟩:=yW E.P G w0 μ φ w.drew _ ρ (GU (some w.heap.size) HD (es++new).length sz) hM.drew hF (l6.alloc (o:=.cells c' e) hM.drew rfl (fun φ' hp _=>aL.rL (g:=w.heap.size) (by rw[hp]) ou (by omega) (by rw[hp];omega) (ga w.drew _) (by rw[hp];omega) (by rw[hp,YH];omega) hCC) (by simp[bL.names]));grind
end
section
variable {R:Type} {E:Env}
theorem RE{draw:Bool}{site:Nat}{t t':TypeId}{s x:V}{f:Fr}{m:Mem}{k:V→Fr→Mem→Option R}{r:R}(h:El E draw site t t' s x f m k=some r):draw=false∧t'=t∧∃place f' m',k (.os place) f' m'=some r∧(m' place).isSome=true∧∀(G:Nat→Option (List PV))(w0:bu)(μ:Ro)(φ:Nat→aH)(w:World)(ρ:Nat→Value)(ys yx:Value)(ty:TypeId),aA E.P G w0 μ φ m w→cd E.P μ φ m f ρ→an E.P μ φ s ys→an E.P μ φ x yx→∃w' y φ',(Builtin.append_ #[t,t] ty #[ys,yx]).run E.P w=.ok y w'∧aA E.P G w0 μ φ' m' w'∧cd E.P μ φ' m' f' ρ∧an E.P μ φ' (.os place) y:=by
 unfold El at h;split at h
 ·cases h
 ·rename_i hd;simp only[aon,aq5,aoZ,apE,tc,Bool.not_eq_eq_eq_not,alk,aoj]at hd;refine⟨hd.1,by simpa using hd.2,?_⟩;split at h
  ·rename_i e hu;split at h
   ·cases h
   ·rename_i hz;obtain⟨z,hz⟩:∃z,cQ E e=some z:=by
     cases hq:cQ E e with
     |none=>simp[hq]at hz
     |some z=>simp
    split at h
    ·rename_i new ft G0;obtain⟨_,_,CK⟩:=qE G0;split at h
     ·split at h
      ·rename_i hb;obtain⟨f',m',_,hk,Ak,_,yW⟩:=cj h;refine⟨_,f',m',hk,by simp[Ak],fun G w0 μ φ w ρ ys yx ty hM hF hs hx=>?_⟩;cases hs;exact IU (es:=[]) (draw:=false) hu hz rfl hb.2.2 hb.2.1 (by simpa using hb.1) hM hF (CK _ _ _ _ _ _ _ hM hx) (.inl ⟨rfl,rfl⟩) yW
      ·cases h
     ·rename_i id;split at h
      ·rename_i sz et es hm;split at h
       ·rename_i hc;obtain⟨rfl,rfl,anL⟩:=hc;split at h
        ·rename_i hb;obtain⟨f',m',_,hk,Ak,_,yW⟩:=cj h;refine⟨_,f',m',hk,by simp[Ak],fun G w0 μ φ w ρ ys yx ty hM hF hs hx=>?_⟩;have y9:=hM.forget id;have HF:=hF.forget id;have hA:aL E.P μ φ w id (aS E.P et) et es:=hM.dB id _ hm;have eY:0<aS E.P et:=hA.2.2.2.1;refine IU (draw:=false) hu hz rfl eY hb.2 hb.1 y9 HF (CK _ _ _ _ _ _ _ hM hx) ?_ yW;cases hs with
         |vO hg=>have a7:=hA.2.2.2.2.2.2;simp_all
         | @os _ g hg=>obtain⟨c,T,c1,c2,c3,c4,c5⟩:=hA.cells hg;obtain⟨o1,o2⟩:=hM.own id _ g hm (.inl hg);refine .inr ⟨g,(φ id).cap,c,T,by rw[hA.1],⟨o1,hM.afH hm (.inl hg)⟩,o2 rfl,fun j b' hj cL=>?_,c1,c2,c3,hA.rK.2,c4,c5⟩;obtain⟨bU,b2,td,rfl⟩:=fV hj;exact bU (hM.inj j id b2 _ g td hm (fZ.1 cL) (.inl hg))
        ·cases h
       ·cases h
      ·cases h
     ·cases h
    ·cases h
  ·cases h
theorem M0{P:Program}{w:World}{dT ty elem:TypeId}{ts:List TypeId}{g ait dCap:Nat}{c:Array Value}{T:TypeId}{sz:Nat}{es new:List PV}{μ:Ro}{yx:Value}(hu:P.underlying dT=some (.slice elem))(ou:sz=aS P elem)(eY:0<sz)(hx:C3 P μ w sz new yx)(hg:w.heap[g]?=some (.cells c T (0,0)))(hle:es.length*sz≤c.size)(hd:ait=es.length)(hC:Cells P μ sz es (c.toList.take (es.length*sz))):∃c':Array Value,(Builtin.copy_ (dT::ts).toArray ty #[.slice (some ⟨g,0,none⟩) ait dCap,yx]).run P w=.ok (goInt ((min new.length es.length:Nat):Int)) (w.setRow g c')∧c'.size=c.size∧Cells P μ sz (new.take es.length++es.drop new.length) (c'.toList.take ((new.take es.length++es.drop new.length).length*sz)):=by
 subst hd;obtain⟨i,hi,hs⟩:=Cl (P:=P) (t:=elem) (by omega);have hnl:(new.take es.length++es.drop new.length).length=es.length:=by simp;omega
 rw[hnl];cases hx with
 |none hn=>subst hn;refine⟨c,?_,rfl,by simpa using hC⟩;have:=setRow_self w g c T (0,0) hg;rw[this];simp[Builtin.copy_,run_underlying hu,Builtin.lenOf,Builtin.firstCells,sizeOf,typeInfo,hi,storeCells]
 | @some a cx xs hX IL hcx RD=>
  have adB:Nat.min new.length es.length=min new.length es.length:=rfl;have hl:(xs.take (min new.length es.length*sz)).length=min new.length es.length*i.size:=by rw[hs,←ou,aoz,hX.len];simp
  have anM:min new.length es.length*sz≤es.length*sz:=an8 _ (Nat.min_le_right _ _);have hf:=run_firstCells_some (P:=P) w i.size (min new.length es.length) a new.length cx (xs.take (min new.length es.length*sz)) hl (fun j v hj=>IL j v (iS hj).2);have hl':(xs.take (min new.length es.length*sz)).length=min new.length es.length*sz:=by rw[hl,hs,ou]
  have fo:=run_storeCells_at P g 0 T (xs.take (min new.length es.length*sz)) 0 c w hg (by omega) (fun v hv=>by obtain⟨j,hj⟩:=aoU hv;exact hX.one j v (iS hj).2);simp only[apa,ap4,apA,hl']at fo;refine⟨(xs.take (min new.length es.length*sz)++c.toList.drop (min new.length es.length*sz)).toArray,?_,?_,?_⟩
  ·have anB:Nat.min new.length es.length=min new.length es.length:=rfl;simp_all[Builtin.copy_,run_underlying,Builtin.lenOf,sizeOf,typeInfo]
  ·grind
  ·have e1:(xs.take (min new.length es.length*sz)++c.toList.drop (min new.length es.length*sz)).take (es.length*sz)=xs.take (min new.length es.length*sz)++(c.toList.take (es.length*sz)).drop (min new.length es.length*sz):=by simp_all[List.take_append,List.drop_take,aoF]
   simp only[];rw[e1];have h1:=(hX.take (min new.length es.length)).append (hC.drop (min new.length es.length));have e2:new.take (min new.length es.length)=new.take es.length:=by grind
   have e3:es.drop (min new.length es.length)=es.drop new.length:=by simp
   simp_all
theorem LG{R:Type}(m:Mem)(sz:Nat)(x:V)(k:List PV→bB→Option R):MN m sz x k=(fN m sz x).bind fun p=>k p.1 p.2:=by
 cases x with
 |AJ id i off=>simp only[MN,fN];grind
 |_=>simp only[MN];grind
theorem Zp{t:TypeId}{d x:V}{m:Mem}{k:V→Mem→bB→Option R}{r:R}(h:OM E t d x m k=some r):∃n id b ft,(∀m2:Mem,(∀x∈((true,id)::ft:bB),m2 x.2=m x.2)→∀(R':Type)(k':V→Mem→bB→Option R'),OM E t d x m2 k'=k' (.pv (.int .i64 n)) (aw m2 id b) ((true,id)::ft))∧k (.pv (.int .i64 n)) (aw m id b) ((true,id)::ft)=some r∧∀(G:Nat→Option (List PV))(w0:bu)(μ:Ro)(φ:Nat→aH)(w:World)(ρ:Nat→Value)(f:Fr)(yd yx:Value)(ts:List TypeId)(ty:TypeId),aA E.P G w0 μ φ m w→cd E.P μ φ m f ρ→an E.P μ φ d yd→an E.P μ φ x yx→∃w' φ',(Builtin.copy_ (t::ts).toArray ty #[yd,yx]).run E.P w=.ok (.int .i64 n) w'∧aA E.P G w0 μ φ' (aw m id b) w'∧cd E.P μ φ' (aw m id b) f ρ∧(Lit.int .i64 n).wf=true:=by
 unfold OM at h;split at h
 ·rename_i e hu;split at h
  ·rename_i id;split at h
   ·rename_i sz et es hm;split at h
    ·rename_i hc;rw[LG]at h;obtain⟨⟨new,ft⟩,G0,h⟩:=By.1 h
     ·obtain⟨RF,_,CK⟩:=qE G0;refine⟨_,id,_,ft,fun m2 cG R' k'=>?_,h,fun G w0 μ φ w ρ f yd yx ts ty hM hF hd hx=>?_⟩
      ·have h1:=cG (true,id) (by simp);simp_all[OM,No,LG,aoe]
      ·have hA:aL E.P μ φ w id sz et es:=hM.dB id _ hm;have hS:=CK _ _ _ _ _ _ _ hM hx;have hle:=hA.rK;have hlen:(new.take es.length++es.drop new.length).length=es.length:=by simp;omega
       have Lw:(Lit.int .i64 ((min new.length es.length:Nat):Int)).wf=true:=IC (by omega);cases hd with
       |vO hg=>
        have a7:=hA.2.2.2.2.2.2;rw[hg]at a7;have h0:=a7.1;subst h0;refine⟨w,φ,?_,?_,?_,Lw⟩
        ·obtain⟨i,hi,hs⟩:=Cl (P:=E.P) (t:=e) (by have:=hA.2.2.2.1;omega);have OA:∀x:Addr,(loadCells x 0).run E.P w=.ok #[] w:=fun x=>by rfl
         cases hS with
         |none hn=>subst hn;simp[Builtin.copy_,run_underlying hu,Builtin.lenOf,Builtin.firstCells,sizeOf,typeInfo,hi,hA.1,goInt]
         |some xs hX IL hcx RD=>simp[Builtin.copy_,run_underlying hu,Builtin.lenOf,Builtin.firstCells,sizeOf,typeInfo,hi,hA.1,OA,goInt]
        ·have:aw m id (.arr sz et (new.take ([]:List PV).length++([]:List PV).drop new.length))=m:=by
          funext j;by_cases e:j=id
          ·subst e;simp[hm]
          ·rw[av e]
         rw[this];omega
        ·exact hF.oI (fun _ _ h=>h) .set
       | @os _ g hg=>
        obtain⟨c,T,c1,c2,c3,c4,c5⟩:=hA.cells hg;obtain⟨c',r1,r2,r3⟩:=M0 (ts:=ts) (ty:=ty) (dCap:=(φ id).cap) hu hc.1 hA.2.2.2.1 hS c1 c4 hA.1 c5;refine⟨_,φ,r1,hM.write hm rfl hg (lh.setRow (aoa _)) setRow_size (fun k hk=>ck hk) ?_ rfl (by simp[bL.names]),hF.oI (fun _ _ h=>h) .set,Lw⟩;refine aL.rL (g:=g) ?_ hA.2.2.1 hA.2.2.2.1 hle.2 (setRow_heap w g c c' T (0,0) c1) (by omega) (by rw[hlen];omega) r3;rw[hlen,←hA.1,←hA.2.1];cases hq:(φ id).toGS with
        |mk a b c d=>simp_all
    ·cases h
   ·cases h
  ·cases h
 ·cases h
end
end Go.Ab
