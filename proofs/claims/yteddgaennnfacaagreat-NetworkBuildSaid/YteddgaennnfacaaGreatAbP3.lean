import Derived.Test.YteddgaennnfacaaGreatAbP2
import Derived.Great.BuildSlice
import Derived.Laws.AppendOwn
import Derived.Laws.MakeOwn
set_option linter.all false
namespace Go.Ab
open Go.RowKit (Below)
structure cg(P:Program)(μ:Ro)(φ:Nat→aI)(m:Mem)(f:Fr)(ρ:Nat→Value):Prop where
 fr:∀t,an P μ φ (f t) (ρ t)
 live:∀t id,(f t).has id=true→(m id).isSome=true
section
variable {P:Program} {G:Nat→Option (List PV)} {w0:bE} {μ μ':Ro} {φ φ':Nat→aI} {m m':Mem} {w w':World} {f:Fr} {ρ:Nat→Value}
theorem cg.mono(h:cg P μ φ m f ρ)(hμ:∀b o,μ b=some o→μ' b=some o)(hφ:∀id,(m id).isSome=true→φ' id=φ id∧(m' id).isSome=true):cg P μ' φ' m' f ρ:=⟨fun t=>(h.fr t).mono hμ fun id hid=>(hφ id (h.live t id hid)).1,fun t id hid=>(hφ id (h.live t id hid)).2⟩
theorem fK{id j:Nat}{b:bK}(h:bx (bI id m) id j=some b):j≠id∧∃b',m j=some b'∧b=gz id b':=by
 by_cases e:j=id
 ·subst e;simp at h
 simp_all[gr,HQ]
theorem wz{id j:Nat}(h:j≠id)(hm:(m j).isSome=true):(bx (bI id m) id j).isSome=true:=by grind [gr,bI]
theorem cg.forget(h:cg P μ φ m f ρ)(id:Nat):cg P μ φ (bx (bI id m) id) (fa id f) ρ:=by refine⟨fun t=>(h.fr t).kill id,fun t j hj=>?_⟩;obtain⟨h1,h2⟩:=Af hj;exact wz h2 (h.live t j h1)
theorem aA.put(hM:aA P G w0 μ φ m w){site:Nat}{b:bK}{ph:aI}(hs:m site=none)(Qb:lL w0.heap.size w w')(zw:∀k o,μ k=some o→w'.heap[k]?=some o)(hold:∀id b' g,m id=some b'→b'.owns (φ id) g→w'.heap[g]?=w.heap[g]?)(E5:∀g,b.owns ph g→w0.heap.size≤g∧μ g=none∧∀id b',m id=some b'→¬b'.owns (φ id) g)(G2:b.apart ph)(hB:gM P μ (fun i=>if i=site then ph else φ i) w' site b)(hn:∀id,b.names id=true→(m id).isSome=true)(hlp:∀st,b=.loop st→∃g rc,ph.g=some g∧w0.rc site=some (g,rc)∧w'.heap[g]?=some (.loop (st.obj rc))):aA P G w0 μ (fun i=>if i=site then ph else φ i) (aw m site b) w':=by
 refine⟨hM.below.trans Qb,zw,hM.aM,fun id b' hid=>?_,fun id b' g hid hg=>?_,fun Xb id2 b1 b2 g h1 h2 g1 g2=>?_,fun id b' hid=>?_,fun j cs id hj hh=>?_,hM.base,hM.dK,fun id st hid=>?_⟩
 rotate_right
 ·by_cases h:id=site
  ·simp_all
  ·rw[ax h]at hid;obtain⟨g,rc,h1,h2,h3⟩:=hM.Gd id st hid;exact⟨g,rc,by simp_all,h2,by rw[hold id _ g hid (.inl h1)];omega⟩
 ·by_cases h:id=site
  ·simp_all
  ·rw[ax h]at hid;have hR:=hM.dJ id b' hid;refine hR.cz (fun j hj=>?_) (by simp[h]) (fun _ _ h=>h) (fun g hg=>hold id b' g hid hg);have:=hM.Qa hid hj;grind
 ·by_cases h:id=site
  ·simp_all
  ·rw[ax h]at hid;simp only[h,Wi]at hg;exact hM.own id b' g hid hg
 ·by_cases e1:Xb=site
  ·by_cases e2:id2=site
   ·omega
   simp_all[bW,By,IT,ax,Wi]
  ·by_cases e2:id2=site
   ·simp_all[bW,By,IT,ax,Wi]
   ·rw[ax e1]at h1;rw[ax e2]at h2;simp only[e1,Wi]at g1;simp only[e2,Wi]at g2;exact hM.inj Xb id2 b1 b2 g h1 h2 g1 g2
 ·by_cases h:id=site
  ·simp_all
  ·rw[ax h]at hid;simp only[h,Wi];exact hM.apart id b' hid
 ·by_cases e:id=site
  ·subst e;simp
  ·rw[ax e];by_cases h:j=site
   ·subst h;rw[bW]at hj;simp only[By]at hj;subst hj;exact hn id hh
   ·rw[ax h]at hj;exact hM.fT j cs id hj hh
end
section
variable {R:Type} {E:Env}
structure lB(P:Program)(w0:bE)(μ:Ro)(φ:Nat→aI)(m:Mem)(w w':World)(site:Nat)(b:bK)(ph:aI):Prop where
 below:lL w0.heap.size w w'
 ro:∀k o,μ k=some o→w'.heap[k]?=some o
 nC:∀id b' g,m id=some b'→b'.owns (φ id) g→w'.heap[g]?=w.heap[g]?
 own:∀g,ph.g=some g→w0.heap.size≤g∧μ g=none∧∀id b',m id=some b'→¬b'.owns (φ id) g
 rep:∀φ',φ' site=ph→(∀id,b.names id=true→φ' id=φ id)→gM P μ φ' w' site b
 names:∀id,b.names id=true→(m id).isSome=true
 lp:∀st,b=.loop st→∃g rc,ph.g=some g∧w0.rc site=some (g,rc)∧w'.heap[g]?=some (.loop (st.obj rc)):=by intro st h;cases h
theorem cv{draw:Bool}{site:Nat}{b:bK}{f:Fr}{m:Mem}{k:Fr→Mem→bD→Option R}{r:R}(h:fresh draw site b f m k=some r)(PM:∀i off,b.rowAt i off=true→False:=by intro i off h;simp[bK.rowAt]at h):∃f' m',(∀(R':Type)(k':Fr→Mem→bD→Option R'),fresh draw site b f m k'=k' f' m' [(true,site)])∧k f' m' [(true,site)]=some r∧m' site=some b∧(draw=true→m site=none∧f'=f∧m'=aw m site b)∧(∀(P:Program)(G:Nat→Option (List PV))(w0:bE)(μ:Ro)(φ:Nat→aI)(w w':World)(ρ:Nat→Value)(ph:aI),aA P G w0 μ φ m w→cg P μ φ m f ρ→lB P w0 μ φ m w w' site b ph→∃φ',φ' site=ph∧aA P G w0 μ φ' m' w'∧cg P μ φ' m' f' ρ):=by
 unfold fresh at h;cases hs:m site with
 |none=>
  simp only[hs]at h;refine⟨f,aw m site b,fun R' k'=>by simp only[fresh,hs],h,by simp,fun _=>⟨rfl,rfl,rfl⟩,fun P G w0 μ φ w w' ρ ph hM hF hp=>?_⟩;have LV:∀id,(m id).isSome=true→id≠site:=fun id hid e=>by simp_all
  refine⟨fun i=>if i=site then ph else φ i,by simp,hM.put hs hp.below hp.ro hp.nC (fun g hg=>hp.own g (qw PM hg)) (tW PM) (hp.rep _ (by simp) fun id hid=>by simp[LV id (hp.names id hid)]) hp.names hp.lp,?_⟩;exact hF.mono (fun _ _ h=>h) fun id hid=>⟨by simp[LV id hid],by grind [ax,id]⟩
 |some b0=>
  simp only[hs]at h;split at h
  ·cases h
  ·rename_i hc;simp only[aly,anY,amf]at hc;refine⟨fa site f,aw (bI site m) site b,fun R' k'=>by simp only[fresh,hs];simp[hc],h,by simp,fun hd=>(by simp_all),fun P G w0 μ φ w w' ρ ph hM hF hp=>?_⟩;have yA:=hM.forget site;have G3:=hF.forget site;have hs1:bx (bI site m) site site=none:=by simp
   have LV:∀id,(bx (bI site m) site id).isSome=true→id≠site:=fun id hid e=>by subst e;simp at hid
   have hnm:∀id,b.names id=true→id≠site:=fun id hid e=>by simp_all
   refine⟨fun i=>if i=site then ph else φ i,by simp,?_,?_⟩
   ·rw[←Co];refine yA.put hs1 hp.below hp.ro (fun id b' g hid hg=>?_) (fun g hg=>?_) (tW PM) (hp.rep _ (by simp) fun id hid=>by simp[hnm id hid]) (fun id hid=>wz (hnm id hid) (hp.names id hid)) hp.lp
    ·obtain⟨_,b2,vE,rfl⟩:=fK hid;exact hp.nC id b2 g vE (gu.1 hg)
    ·obtain⟨h1,h2,h3⟩:=hp.own g (qw PM hg);refine⟨h1,h2,fun id b' hid ho=>?_⟩;obtain⟨_,b2,vE,rfl⟩:=fK hid;exact h3 id b2 vE (gu.1 ho)
   ·rw[←Co];exact G3.mono (fun _ _ h=>h) fun id hid=>⟨by simp[LV id hid],by grind [ax,id]⟩
theorem lB.alloc{P:Program}{G:Nat→Option (List PV)}{w0:bE}{μ:Ro}{φ:Nat→aI}{m:Mem}{w:World}{site:Nat}{b:bK}{ph:aI}{o:Obj}(hM:aA P G w0 μ φ m w)(hph:ph.g=some w.heap.size)(rep:∀φ',φ' site=ph→(∀id,b.names id=true→φ' id=φ id)→gM P μ φ' (w.alloc o) site b)(names:∀id,b.names id=true→(m id).isSome=true)(lp:∀st,b=.loop st→∃g rc,ph.g=some g∧w0.rc site=some (g,rc)∧(w.alloc o).heap[g]?=some (.loop (st.obj rc)):=by intro st h;cases h):lB P w0 μ φ m w (w.alloc o) site b ph:=by
 have pT:w0.heap.size≤w.heap.size:=hM.below.size;refine⟨(lL.refl _ w).alloc pT o,fun k o' hk=>?_,fun id b' g hid hg=>lL.heap_alloc w o g ((hM.dJ id b' hid).HP hg),fun g hg=>?_,rep,names,lp⟩
 ·have:=hM.ro k o' hk;grind [lL.heap_alloc]
 ·rw[hph]at hg;simp only[By]at hg;subst hg;refine⟨pT,?_,fun id b' hid hg=>?_⟩
  ·cases hq:μ w.heap.size with
   |none=>rfl
   |some o'=>have:=hM.ro _ _ hq;simp at this
  ·have:=(hM.dJ id b' hid).HP hg;omega
theorem fP(w:World)(o:Obj):(w.alloc o).heap[w.heap.size]?=some o:=heap_alloc_new w o
variable{t:TypeId}
theorem eK{cs:List V}(h:dr E t=some cs):∃i z,E.P.info? t=some i∧i.zero=some z∧i.size=aV E.P t∧cs.length=aV E.P t∧z.cells.size=aV E.P t∧(∀id,cu id cs=false)∧(∀(μ:Ro)(φ:Nat→aI)(i:Nat)u y,cs[i]?=some u→z.cells[i]?=some y→an E.P μ φ u y)∧(∀(i:Nat)(y:Value),z.cells[i]?=some y→y.oneCell'=true):=by
 unfold dr zeroV at h;cases hi:E.P.info? t with
 |none=>simp[hi]at h
 |some i=>
  cases hz:i.zero with
  |none=>simp[hi,hz]at h
  |some z=>
   simp only[hi,hz,alr,No]at h;obtain⟨h1,h2,h3⟩:=toCells_ok h;obtain⟨h4,_,h6⟩:=h3 E.P (fun _=>none) (fun _=>default) z (xE z);refine⟨i,z,rfl,hz,by simp[aV,hi],h1,h4,fun id=>?_,fun μ φ i u y hu hy=>(h3 E.P μ φ z (xE z)).2.1 i u y hu hy,h6⟩;cases hh:cu id cs with
   |false=>rfl
   |true=>grind [id,Kt]
variable{P:Program}{w:World}
theorem qx{i:TypeInfo}{z:Value}(hi:P.info? t=some i)(hz:i.zero=some z):(zeroValue t).run P w=.ok z w:=by simp[zeroValue,typeInfo,hi,hz]
theorem E9{i:TypeInfo}{z:Value}(hi:P.info? t=some i)(hz:i.zero=some z):(Instr.alloc t true (.tuple #[])).run P w=.ok (.pointer (some ⟨w.heap.size,0,none⟩)) (w.alloc (.cells z.cells t)):=by simp[Instr.alloc,qx hi hz,newVar,newRow]
theorem Sn{v:Value}:(Instr.box t v).run P w=.ok (.pointer (some ⟨w.heap.size,0,none⟩)) (w.alloc (.cells v.cells t)):=by rfl
variable{c:Array Value}
theorem lB.box{G:Nat→Option (List PV)}{w0:bE}{μ:Ro}{φ:Nat→aI}{m:Mem}{site:Nat}{cs:List V}{T:TypeId}(hM:aA P G w0 μ φ m w)(hl:c.size=cs.length)(hv:∀(i:Nat)u y,cs[i]?=some u→c[i]?=some y→an P μ φ u y)(h1:∀(i:Nat)(y:Value),c[i]?=some y→y.oneCell'=true)(hn:∀id,cu id cs=true→(m id).isSome=true):lB P w0 μ φ m w (w.alloc (.cells c T)) site (.box cs) (G0 (some w.heap.size) 0 cs.length 0):=by refine lB.alloc hM (by rfl) (fun φ' hφ Nc=>⟨w.heap.size,c,T,by rw[hφ],fP w _,hl,fun i u y hu hy=>?_,h1,by rw[hφ]⟩) hn;exact(hv i u y hu hy).mono (fun _ _ h=>h) fun id hid=>Nc id (bO (alf hu) hid)
theorem kN(h:aV P t≠0):(P.info? t).map (·.size)=some (aV P t):=by simp_all[BJ]
theorem dt{T:Type}{cs new:List T}{off i:Nat}{x:T}(hb:off+new.length≤cs.length)(h:(bN cs off new)[i]?=some x):(off≤i∧i<off+new.length∧new[i-off]?=some x)∨((i<off∨off+new.length≤i)∧cs[i]?=some x):=by rw[dZ]at h;rw[alJ,alV]at h;grind
theorem cF{T:Type}{cs new:List T}{off:Nat}(hb:off+new.length≤cs.length):(bN cs off new).length=cs.length:=by simp[dZ];omega
variable{g:Nat}
theorem gv{v:Value}{o:Nat}{T:TypeId}(hz:v.cells.size=aV P t)(hi:(P.info? t).map (·.size)=some (aV P t))(hg:w.heap[g]?=some (.cells c T (0,0)))(hb:o+v.cells.size≤c.size)(h1:∀(i:Nat)(y:Value),v.cells[i]?=some y→y.oneCell'=true):(Instr.storeAt t (.pointer (some ⟨g,o,none⟩)) v).run P w=.ok () (w.setRow g (bN c.toList o v.cells.toList).toArray):=by
 have nO:=run_storeCells_at P g o T v.cells.toList 0 c w hg (by omega) (fun x hx=>by grind [List.getElem?_of_mem]);have pT:(sizeOf t).run P w=.ok (aV P t) w:=by
  cases hq:P.info? t with
  |none=>simp[hq]at hi
  |some i=>simp[sizeOf,typeInfo,hq,aV]
 simp only[Instr.storeAt,Instr.sureAddr,storeVar,Sem.run_bind,Sem.run_pure,Result.andThen_ok,pT,hz,aoA,not_true_eq_false,Wi,nO,am1];rw[dZ];try rfl
variable{xs:Array Value}
theorem cj{k:Nat}(h:k≠g):(w.setRow g xs).heap[k]?=w.heap[k]?:=by simp_all[World.setRow,amQ,Ne.symm]
theorem setRow_size:(w.setRow g xs).heap.size=w.heap.size:=by simp[World.setRow]
theorem lL.setRow{B:Nat}(h:B≤g):lL B w (w.setRow g xs):=⟨⟨rfl,rfl,rfl,aoz setRow_size.symm,fun k hk=>cj (by omega)⟩,fun _=>alz _⟩
end
section
variable {P:Program} {G:Nat→Option (List PV)} {w0:bE} {μ:Ro} {φ:Nat→aI} {m m':Mem} {w:World}
def ky(m m':Mem):Prop:=∀id,(m id).isSome=true→(m' id).isSome=true
theorem ky.refl(m:Mem):ky m m:=fun _ h=>h
theorem ky.trans{a b c:Mem}(h:ky a b)(k:ky b c):ky a c:=fun id hid=>k id (h id hid)
variable{id:Nat}
theorem ky.set{b:bK}:ky m (aw m id b):=fun j hj=>by
 by_cases e:j=id
 ·subst e;simp
 ·rw[ax e];omega
theorem cg.nP{f:Fr}{ρ:Nat→Value}{μ':Ro}(h:cg P μ φ m f ρ)(hμ:∀b o,μ b=some o→μ' b=some o)(hl:ky m m'):cg P μ' φ m' f ρ:=h.mono hμ fun id hid=>⟨rfl,hl id hid⟩
variable{v:V}{p:PV}
theorem Sq(h:Hs m v=some (p,m')):ky m m'∧∀(P:Program)(G:Nat→Option (List PV))(w0:bE)(μ:Ro)(φ:Nat→aI)(w:World)(x:Value),aA P G w0 μ φ m w→an P μ φ v x→∃μ',(∀b o,μ b=some o→μ' b=some o)∧aA P G w0 μ' φ m' w∧ao P μ' p x:=by
 unfold Hs at h;split at h
 ·simp only[By,akj]at h;obtain⟨rfl,rfl⟩:=h;exact⟨.refl _,fun P G w0 μ φ w x hM hx=>⟨μ,fun _ _ h=>h,hM,by cases hx with|pv hx=>omega⟩⟩
 ·simp only[By,akj]at h;obtain⟨rfl,rfl⟩:=h;exact⟨.refl _,fun P G w0 μ φ w x hM hx=>⟨μ,fun _ _ h=>h,hM,by cases hx;exact .lA⟩⟩
 ·rename_i id;split at h
  ·rename_i s et es hm;simp only[By,akj]at h;obtain⟨rfl,rfl⟩:=h;refine⟨.set,fun P G w0 μ φ w x hM hx=>⟨_,mG hM (φ id).g,hM.freeze hm,?_⟩⟩;refine(hM.arr (.inl hm)).full hM hx (mG hM _) fun g hg=>?_;simp[sJ,hg]
  ·rename_i s et es hm;simp only[By,akj]at h;obtain⟨rfl,rfl⟩:=h;refine⟨.refl _,fun P G w0 μ φ w x hM hx=>⟨μ,fun _ _ h=>h,hM,?_⟩⟩;refine(hM.arr (.inr hm)).full hM hx (fun _ _ h=>h) fun g hg=>?_;obtain⟨o,ho⟩:=alK.1 ((hM.dJ id _ hm).2 g hg);rw[ho,hM.ro _ _ ho]
  ·rename_i s et es hm;simp only[By,akj]at h;obtain⟨rfl,rfl⟩:=h;refine⟨.set,fun P G w0 μ φ w x hM hx=>⟨_,tX hM _,hM.Sl hm,?_⟩⟩;have Xm:=hM.Sl hm;have hF:aN P _ φ w id s et (es.map PV.strip):=(Xm.dJ id _ (bW _ _ _)).1;refine hF.KB (hx.Ck (tX hM _)) (fun _ _ h=>h) fun g hg=>?_;unfold xI;rw[T0 (show(bK.nest s et es).owns (φ id) g from .inl hg)]
  ·cases h
 ·cases h
theorem KG(h:Hs dc v=some (p,m')):∀(P:Program)(μ:Ro)(φ:Nat→aI)(x:Value),an P μ φ v x→ao P μ p x:=by
 unfold Hs at h;split at h
 ·simp only[By,akj]at h;obtain⟨rfl,rfl⟩:=h;exact fun P μ φ x hx=>by cases hx with|pv hx=>omega
 ·simp only[By,akj]at h;obtain⟨rfl,rfl⟩:=h;exact fun P μ φ x hx=>by cases hx;exact .lA
 ·simp[dc]at h
 ·cases h
theorem tY(h:Hs dc v=some (p,m')):m'=dc:=by unfold Hs at h;grind [Option.some.injEq,Prod.mk.injEq,dc]
theorem HS:∀{cs:List V}{m m':Mem}{ps:List PV},np m cs=some (ps,m')→ky m m'∧ps.length=cs.length∧∀(P:Program)(G:Nat→Option (List PV))(w0:bE)(μ:Ro)(φ:Nat→aI)(w:World)(X:Nat→Value),aA P G w0 μ φ m w→(∀(i:Nat)u,cs[i]?=some u→an P μ φ u (X i))→∃μ',(∀b o,μ b=some o→μ' b=some o)∧aA P G w0 μ' φ m' w∧∀(i:Nat)p,ps[i]?=some p→ao P μ' p (X i)
 |[],m,m',ps,h=>by simp only[np,By,akj]at h;obtain⟨rfl,rfl⟩:=h;exact⟨.refl _,rfl,fun P G w0 μ φ w X hM _=>⟨μ,fun _ _ h=>h,hM,by simp⟩⟩
 |c::r,m,m',ps,h=>by
  simp only[np]at h;split at h
  ·rename_i p m1 h1;split at h
   ·rename_i ps1 m2 h2;simp only[By,akj]at h;obtain⟨rfl,rfl⟩:=h;obtain⟨a1,a2⟩:=Sq h1;obtain⟨b1,b2,b3⟩:=HS h2;refine⟨a1.trans b1,by simp[b2],fun P G w0 μ φ w X hM hx=>?_⟩;obtain⟨μ1,c1,c2,c3⟩:=a2 P G w0 μ φ w (X 0) hM (hx 0 c (by simp));obtain⟨μ2,d1,d2,d3⟩:=b3 P G w0 μ1 φ w (fun i=>X (i+1)) c2 (fun i u hu=>(hx (i+1) u (by simpa using hu)).Ck c1);refine⟨μ2,fun b o h=>d1 b o (c1 b o h),d2,fun i q hq=>?_⟩;cases i with
    |zero=>simp at hq;subst hq;exact c3.mono d1
    |succ i=>simp_all
   ·cases h
  ·cases h
theorem CM:∀{cs:List V}{m':Mem}{ps:List PV},np dc cs=some (ps,m')→ps.length=cs.length∧∀(P:Program)(μ:Ro)(φ:Nat→aI)(X:Nat→Value),(∀(i:Nat)u,cs[i]?=some u→an P μ φ u (X i))→∀(i:Nat)p,ps[i]?=some p→ao P μ p (X i)
 |[],m',ps,h=>by simp only[np,By,akj]at h;simp_all
 |c::r,m',ps,h=>by
  simp only[np]at h;split at h
  ·rename_i p m1 h1;split at h
   ·rename_i ps1 m2 h2;simp only[By,akj]at h;obtain⟨rfl,rfl⟩:=h;have:=tY h1;subst this;obtain⟨b2,b3⟩:=CM h2;refine⟨by simp[b2],fun P μ φ X hx i q hq=>?_⟩;cases i with
    |zero=>simp at hq;subst hq;exact KG h1 P μ φ _ (hx 0 c (by simp))
    |succ i=>exact b3 P μ φ (fun i=>X (i+1)) (fun i u hu=>hx (i+1) u (by simpa using hu)) i q (by simpa using hq)
   ·cases h
  ·cases h
structure wA(P:Program)(μ:Ro)(n:Nat)(p:PV)(x:Value):Prop where
 len:p.cells.length=n
 size:x.cells.size=n
 rep:∀(j:Nat)q y,p.cells[j]?=some q→x.cells[j]?=some y→ao P μ q y
 one:∀(j:Nat)y,x.cells[j]?=some y→y.oneCell'=true
variable{n:Nat}{agg:Bool}
theorem Cp{P:Program}{μ:Ro}{ps:List PV}{x:Value}(hp:(if agg then some (.agg ps)else match ps with|[p]=>some p|_=>none)=some p)(hl:ps.length=n)(hs:x.cells.size=n)(hr:∀(j:Nat)q y,ps[j]?=some q→x.cells[j]?=some y→ao P μ q y)(h1:∀(j:Nat)y,x.cells[j]?=some y→y.oneCell'=true):wA P μ n p x:=by
 have hc:p.cells=ps:=by
  cases agg with
  |true=>simp at hp;subst hp;rfl
  |false=>
   simp only[IN,Wi]at hp;split at hp
   ·rename_i q;simp only[By]at hp;subst hp;have bQ:0<x.cells.size:=by simp at hl;omega
    have hr0:=hr 0 q _ (by simp) (ald bQ);have h10:=h1 0 _ (ald bQ);generalize x.cells[0]=y at hr0 h10;cases q<;>first|rfl|(cases hr0;simp[Value.oneCell']at h10)
   ·cases hp
 exact⟨by rw[hc];omega,hs,by rw[hc];omega,h1⟩
theorem HT{m m':Mem}(h:kJ m n agg v=some (p,m')):ky m m'∧∀(P:Program)(G:Nat→Option (List PV))(w0:bE)(μ:Ro)(φ:Nat→aI)(w:World)(x:Value),aA P G w0 μ φ m w→an P μ φ v x→∃μ',(∀b o,μ b=some o→μ' b=some o)∧aA P G w0 μ' φ m' w∧wA P μ' n p x:=by
 unfold kJ at h;split at h
 ·rename_i cs hc;obtain⟨c1,c2,c3⟩:=toCells_ok hc;split at h
  ·rename_i ps m1 hf;obtain⟨f1,f2,f3⟩:=HS hf;have hp:(if agg then some (.agg ps)else match ps with|[p]=>some p|_=>none)=some p∧m1=m':=by grind
   obtain⟨hp,rfl⟩:=hp;refine⟨f1,fun P G w0 μ φ w x hM hx=>?_⟩;obtain⟨d1,d2,d3⟩:=c3 P μ φ x hx;have hX:∀(i:Nat),i<cs.length→x.cells[i]?=some (x.cells.getD i undef):=fun i hi=>by simp_all
   obtain⟨μ',e1,e2,e3⟩:=f3 P G w0 μ φ w (fun i=>x.cells.getD i undef) hM fun i u hu=>d2 i u _ hu (hX i (OF.1 hu).1);refine⟨μ',e1,e2,Cp hp (by omega) d1 (fun j q y hq hy=>?_) d3⟩;grind
  ·cases h
 ·cases h
theorem DZ{m':Mem}(h:kJ dc n agg v=some (p,m')):∀(P:Program)(μ:Ro)(φ:Nat→aI)(x:Value),an P μ φ v x→wA P μ n p x:=by
 unfold kJ at h;split at h
 ·rename_i cs hc;obtain⟨c1,c2,c3⟩:=toCells_ok hc;split at h
  ·rename_i ps m1 hf;obtain⟨f2,f3⟩:=CM hf;have hp:(if agg then some (.agg ps)else match ps with|[p]=>some p|_=>none)=some p:=by grind
   refine fun P μ φ x hx=>?_;obtain⟨d1,d2,d3⟩:=c3 P μ φ x hx;have hX:∀(i:Nat),i<cs.length→x.cells[i]?=some (x.cells.getD i undef):=fun i hi=>by simp_all
   have e3:=f3 P μ φ (fun i=>x.cells.getD i undef) fun i u hu=>d2 i u _ hu (hX i (OF.1 hu).1);refine Cp hp (by omega) d1 (fun j q y hq hy=>?_) d3;grind
  ·cases h
 ·cases h
theorem NG{draw:Bool}{m m':Mem}(h:zW draw m n agg v=some (p,m')):ky m m'∧(draw=true→m'=m∧∀m2:Mem,zW true m2 n agg v=some (p,m2))∧∀(P:Program)(G:Nat→Option (List PV))(w0:bE)(μ:Ro)(φ:Nat→aI)(w:World)(x:Value),aA P G w0 μ φ m w→an P μ φ v x→∃μ',(∀b o,μ b=some o→μ' b=some o)∧aA P G w0 μ' φ m' w∧wA P μ' n p x:=by
 unfold zW at h;split at h
 ·rename_i hd;split at h
  ·rename_i q m1 hf;simp only[By,akj]at h;obtain⟨rfl,rfl⟩:=h;exact⟨.refl _,fun _=>⟨rfl,fun m2=>by simp[zW,hf]⟩,fun P G w0 μ φ w x hM hx=>⟨μ,fun _ _ h=>h,hM,DZ hf P μ φ x hx⟩⟩
  ·cases h
 grind [HT,absurd]
theorem aN.set{P:Program}{μ:Ro}{φ:Nat→aI}{w:World}{id sz:Nat}{et:TypeId}{es:List PV}(hA:aN P μ φ w id sz et es){g:Nat}(hg:(φ id).g=some g){i off n:Nat}{e p q:PV}{x:Value}(he:es[i]?=some e)(hE:wA P μ n p x)(hb:off+n≤sz)(hq:q.cells=bN (aQ sz e) off p.cells):∃c T,w.heap[g]?=some (.cells c T (0,0))∧i*sz+off+x.cells.size≤c.size∧aN P μ φ (w.setRow g (bN c.toList (i*sz+off) x.cells.toList).toArray) id sz et (es.set i q):=by
 obtain⟨a1,a2,a3,a4,a5,a6,a7⟩:=hA;rw[hg]at a7;obtain⟨c,T,c1,c2,c3,c4,c5⟩:=a7;have hi:i<es.length:=(OF.1 he).1;have PN:i*sz+off+n≤c.size:=by have:(i+1)*sz≤(φ id).cap*sz:=alo _ (by omega);grind
 have NH:x.cells.toList.length=n:=by simpa using hE.size
 have JW:(aQ sz e).length=sz:=bw _ _;have hql:q.cells.length=sz:=by rw[hq,cF (by rw[JW,hE.len];omega),JW]
 have BO:(bN c.toList (i*sz+off) x.cells.toList).length=c.size:=by simp_all[cF]
 have rV:∀(i':Nat)e',(es.set i q)[i']?=some e'→(i'=i∧e'=q)∨(i'≠i∧es[i']?=some e'):=by grind
 refine⟨c,T,c1,by rw[hE.size];omega,?_⟩;refine⟨by simp[a1],a2,a3,a4,fun i' e' h'=>?_,a6,?_⟩
 ·grind
 ·rw[hg];refine⟨_,T,setRow_heap w g c _ T (0,0) c1,by simp[BO,c2],by simpa using c3,fun i' e' j p' x' h' hj hx=>?_,fun j x' hj hx=>?_⟩
  ·rw[alY]at hx;rcases dt (by simp[hE.size];omega) hx with⟨b1,b2,b3⟩|⟨b1,b2⟩
   ·rw[NH]at b2;have UD:i'=i∧e'=q:=by
     rcases rV i' e' h' with h|⟨cC,h'⟩
     ·omega
     ·exfalso;have rz:=(OF.1 hj).1;rw[a5 i' e' h']at rz;rcases Nat.lt_or_gt_of_ne cC with bQ|hgt
      ·have:(i'+1)*sz≤i*sz:=alo _ bQ;grind
      ·have:(i+1)*sz≤i'*sz:=alo _ hgt;grind
    obtain⟨rfl,rfl⟩:=UD;rw[hq]at hj;rcases dt (by rw[JW,hE.len];omega) hj with⟨d1,d2,d3⟩|⟨d1,d2⟩
    ·exact hE.rep _ _ _ d3 (by rw[←al3,←b3];congr 1;omega)
    ·exfalso;rw[hE.len]at d1;omega
   ·rw[NH]at b1;have b2:c[i'*sz+j]?=some x':=by simpa using b2
    rcases rV i' e' h' with⟨rfl,rfl⟩|⟨cC,h'⟩
    ·rw[hq]at hj;rcases dt (by rw[JW,hE.len];omega) hj with⟨d1,d2,d3⟩|⟨d1,d2⟩
     ·exfalso;rw[hE.len]at d2;omega
     grind [fE]
    grind
  ·rw[alY]at hx;rw[am8]at hj;rcases dt (by simp[hE.size];omega) hx with⟨b1,b2,b3⟩|⟨b1,b2⟩
   ·exact hE.one _ x' (by simpa using b3)
   grind
variable{off:Nat}
theorem LW{s0:Nat}{e:PV}(he:e.cells.length=s0)(ho:off<s0)(hp:∀cs,p≠.agg cs):(setRow s0 e off p).cells=e.cells.set off p:=by
 have h1:p.cells=[p]:=by cases p<;>first|rfl|exact absurd rfl (hp _)
 unfold setRow;split
 ·rename_i hs;subst hs;have:off=0:=by omega
  subst this;match hc:e.cells,he with
  |[c],_=>simp[h1]
 simp_all[PV.cells,fE]
theorem HU{s:Nat}{e:PV}(h1:p.cells.length=n)(h2:e.cells.length=s):(setCells s e off n p).cells=bN (aQ s e) off p.cells:=by
 unfold setCells;split
 ·rename_i h;obtain⟨rfl,rfl⟩:=h;simp_all[dZ,bw]
 rfl
theorem bd.change{P:Program}{μ μ':Ro}{φ φ':Nat→aI}{w w':World}{sz:Nat}{et:TypeId}{es es':List PV}(h:bd P μ φ w id sz et es)(hlen:es'.length=es.length)(xJ:∀(i:Nat)e,es'[i]?=some e→e.cells.length=sz)(hφ:(φ' id).toGe=(φ id).toGe)(hw:∀g,(φ id).g=some g→w'.heap[g]?=w.heap[g]?)(hc:∀(i:Nat)e'(j:Nat)p' g c T x,es'[i]?=some e'→e'.cells[j]?=some p'→(φ id).g=some g→w.heap[g]?=some (.cells c T (0,0))→c[i*sz+j]?=some x→(∀e p,es[i]?=some e→e.cells[j]?=some p→ep P μ ((φ id).row i j) w p x)→ep P μ' ((φ' id).row i j) w' p' x):bd P μ' φ' w' id sz et es':=by
 obtain⟨a1,a2,a3,a4,a5,a6,a7⟩:=h;unfold bd;rw[hφ];refine⟨by omega,a2,a3,a4,xJ,a6,?_⟩;cases hg:(φ id).g with
 |none=>simp_all
 |some g=>grind
theorem eL{T:Type}{l:List T}{i i':Nat}{q e':T}(h:(l.set i q)[i']?=some e'):(i'=i∧e'=q)∨(i'≠i∧l[i']?=some e'):=by grind
theorem bd.set{P:Program}{μ:Ro}{φ:Nat→aI}{w:World}{sz:Nat}{et:TypeId}{es:List PV}(hA:bd P μ φ w id sz et es)(G2:(bK.nest sz et es).apart (φ id)){g:Nat}(hg:(φ id).g=some g){i:Nat}{e q:PV}{x:Value}(he:es[i]?=some e)(hE:wA P μ n p x)(hb:off+n≤sz)(hq:q.cells=bN (aQ sz e) off p.cells):∃c T,w.heap[g]?=some (.cells c T (0,0))∧i*sz+off+x.cells.size≤c.size∧bd P μ φ (w.setRow g (bN c.toList (i*sz+off) x.cells.toList).toArray) id sz et (es.set i q)∧∀i' yr,(bK.nest sz et (es.set i q)).rowAt i' yr=true→(bK.nest sz et es).rowAt i' yr=true:=by
 have CJ:=hA;obtain⟨a1,a2,a3,a4,a5,a6,a7⟩:=hA;rw[hg]at a7;obtain⟨c,T,c1,c2,c3,c4,c5⟩:=a7;have hi:i<es.length:=(OF.1 he).1;have PN:i*sz+off+n≤c.size:=by have:(i+1)*sz≤(φ id).cap*sz:=alo _ (by omega);grind
 have NH:x.cells.toList.length=n:=by simpa using hE.size
 have JW:(aQ sz e).length=sz:=bw _ _;have hql:q.cells.length=sz:=by rw[hq,cF (by rw[JW,hE.len];omega),JW]
 have BO:(bN c.toList (i*sz+off) x.cells.toList).length=c.size:=by simp_all[cF]
 have cC:∀i' j' g',(bK.nest sz et es).rowAt i' j'=true→((φ id).row i' j').g=some g'→g'≠g:=fun i' j' g' hr dn e=>(G2 i' j' g' hr dn).1 (by rw[e];omega);have nO:∀{i' j':Nat}{e' p':PV}{x':Value}{l:List Value},es[i']?=some e'→e'.cells[j']?=some p'→ep P μ ((φ id).row i' j') w p' x'→ep P μ ((φ id).row i' j') (w.setRow g l.toArray) p' x':=fun h1 h2 h3=>h3.cz (fun _ _ h=>h) fun hr g' dn=>cj (cC _ _ g' (by rw[dG h1 h2];omega) dn);refine⟨c,T,c1,by rw[hE.size];omega,⟨by simp[a1],a2,a3,a4,fun i' e' h'=>?_,a6,?_⟩,?_⟩
 ·grind
 ·rw[hg];refine⟨_,T,setRow_heap w g c _ T (0,0) c1,by simp[BO,c2],by simpa using c3,fun i' e' j p' x' h' hj hx=>?_,fun j x' hj hx=>?_⟩
  ·rw[alY]at hx;rcases dt (by simp[hE.size];omega) hx with⟨b1,b2,b3⟩|⟨b1,b2⟩
   ·rw[NH]at b2;have UD:i'=i∧e'=q:=by
     rcases eL h' with h|⟨cC,h'⟩
     ·omega
     ·exfalso;have rz:=(OF.1 hj).1;rw[a5 i' e' h']at rz;rcases Nat.lt_or_gt_of_ne cC with bQ|hgt
      ·have:(i'+1)*sz≤i*sz:=alo _ bQ;grind
      ·have:(i+1)*sz≤i'*sz:=alo _ hgt;grind
    obtain⟨rfl,rfl⟩:=UD;rw[hq]at hj;rcases dt (by rw[JW,hE.len];omega) hj with⟨d1,d2,d3⟩|⟨d1,d2⟩
    ·exact .pure (hE.rep _ _ _ d3 (by rw[←al3,←b3];congr 1;omega))
    ·exfalso;rw[hE.len]at d1;omega
   ·rw[NH]at b1;have b2:c[i'*sz+j]?=some x':=by simpa using b2
    rcases eL h' with⟨rfl,rfl⟩|⟨cC,h'⟩
    ·rw[hq]at hj;rcases dt (by rw[JW,hE.len];omega) hj with⟨d1,d2,d3⟩|⟨d1,d2⟩
     ·exfalso;rw[hE.len]at d2;omega
     grind [fE]
    simp_all
  ·rw[alY]at hx;rw[am8]at hj;rcases dt (by simp[hE.size];omega) hx with⟨b1,b2,b3⟩|⟨b1,b2⟩
   ·exact hE.one _ x' (by simpa using b3)
   grind
 ·intro i' yr hr;rcases kx hr with⟨_,_,_,e',s,rs,je,h',xK⟩|⟨_,_,_,_,_,_,je,_⟩
  ·simp only[bK.nest.injEq]at je;obtain⟨rfl,rfl,rfl⟩:=je;rcases eL h' with⟨rfl,rfl⟩|⟨cC,h'⟩
   ·rw[hq]at xK;rcases dt (by rw[JW,hE.len];omega) xK with⟨d1,d2,d3⟩|⟨d1,d2⟩
    ·exfalso;have bQ:yr-off<x.cells.size:=by rw[hE.size,←hE.len];omega
     exact absurd (hE.rep _ _ _ d3 (ald bQ)).Hc (by simp[PV.isRow])
    ·rw[fE (a5 i' e he)]at d2;rw[dG he d2];rfl
   ·rw[dG h' xK];rfl
  ·cases je
end
section
variable {R:Type} {E:Env}
theorem Cq{p:PV}:∀{n o j:Nat}{q:PV},(dY p o n)[j]?=some q→j<n∧q=cell p (o+j)
 |0,o,j,q,h=>by simp[dY]at h
 |n+1,o,0,q,h=>⟨by omega,by simpa[dY]using h.symm⟩
 |n+1,o,j+1,q,h=>by simp only[dY,am2]at h;obtain⟨h1,h2⟩:=Cq h;grind
theorem wB{p:PV}:∀{n o:Nat},(dY p o n).length=n
 |0,_=>rfl
 |n+1,o=>by simp[dY,wB]
variable{n:Nat}
theorem CN{s i:Nat}{p e:PV}(h:(pQ s n p)[i]?=some e):i<n∧e=.agg (dY p (i*s) s):=by unfold pQ at h;grind
theorem Xn{p:PV}{u:Unit}(h:asAgg n p=some u):∃cs,p=.agg cs∧cs.length=n:=by unfold asAgg at h;grind
theorem UE{t:TypeId}{i off s:Nat}{et:TypeId}{b:Option bK}{x:V}{p:PV}(h:P2 E t i off b x=some (s,et,n,p)):∃es,b=some (.arr s et es)∧x=.pv p∧EY E t s i off=true∧n=es.length:=by unfold P2 at h;grind
theorem KH{P:Program}{μ:Ro}{s k:Nat}{cs:List PV}{xs:Array Value}(hp:ao P μ (.agg cs) (.agg xs))(hl:cs.length=n*s){i j:Nat}{e q:PV}(he:(pQ s n (.agg cs))[i]?=some e)(hq:e.cells[j]?=some q)(hk:k=i*s+j):∃x,xs[k]?=some x∧ao P μ q x∧x.oneCell'=true:=by
 obtain⟨h1,rfl⟩:=CN he;obtain⟨h2,rfl⟩:=Cq hq;have bQ:i*s+j<n*s:=by have:(i+1)*s≤n*s:=alo _ (by omega);grind
 subst hk;cases hp with
 |agg g1 g2 g3=>have hc:cs[i*s+j]?=some cs[i*s+j]:=AI (by omega);have hx:xs[i*s+j]?=some xs[i*s+j]:=ald (by omega);grind [cell,PV.cells]
theorem UF{draw:Bool}{t:TypeId}{a x:V}{m:Mem}{k:Mem→bD→Option R}{r:R}(h:wq E draw t a x m k=some r):∃m' ft,k m' ft=some r∧(draw=true→∃id b,m'=aw m id b∧ft=[(true,id)]∧∀m2:Mem,m2 id=m id→∀(R':Type)(k':Mem→bD→Option R'),wq E true t a x m2 k'=k' (aw m2 id b) [(true,id)])∧ky m m'∧∀(G:Nat→Option (List PV))(w0:bE)(μ:Ro)(φ:Nat→aI)(w:World)(ya yx:Value),aA E.P G w0 μ φ m w→an E.P μ φ a ya→an E.P μ φ x yx→(∀id,x.has id=true→(m id).isSome=true)→∃w' μ',(Instr.storeAt t ya yx).run E.P w=.ok () w'∧(∀b o,μ b=some o→μ' b=some o)∧aA E.P G w0 μ' φ m' w':=by
 unfold wq at h;split at h
 ·rename_i id off;split at h
  ·rename_i cs hm;split at h
   ·rename_i new hn;split at h
    ·rename_i hb;refine⟨_,_,h,fun hd=>⟨id,_,rfl,rfl,fun m2 cS R' k'=>by simp_all[wq,T0]⟩,.set,fun G w0 μ φ w ya yx hM ha hx hlx=>?_⟩;obtain⟨n1,n2,n3⟩:=toCells_ok hn;obtain⟨x1,x2,x3⟩:=n3 _ _ _ _ hx;cases ha with
     | @op _ _ g hg=>
      obtain⟨g',c,T,dn,hh,hs,hv,h1,JS⟩:=hM.dJ id _ hm;rw[hg]at dn;simp only[By]at dn;subst dn;have hi:=kN (P:=E.P) (t:=t) (by omega);have nQ:off+yx.cells.toList.length≤c.toList.length:=by simp;omega
      refine⟨_,μ,gv x1 hi hh (by omega) x3,fun _ _ h=>h,?_⟩;refine hM.write hm rfl hg (lL.setRow (alz _)) setRow_size (fun k hk=>cj hk) ⟨g,_,T,hg,setRow_heap w g c _ T (0,0) hh,?_,fun i u y hu hy=>?_,fun i y hy=>?_,by simp_all[cF]⟩ rfl fun j hj=>?_
      ·simp_all[amr,cF]
      ·rw[alY]at hy;have e1:yx.cells.toList.length=new.length:=by simp;omega
       rcases dt nQ hy with⟨b1,b2,b3⟩|⟨b1,b2⟩<;>rcases dt (by omega) hu with⟨d1,d2,d3⟩|⟨d1,d2⟩
       ·grind
       ·omega
       ·omega
       grind
      ·rw[alY]at hy;rcases dt nQ hy with⟨b1,b2,b3⟩|⟨b1,b2⟩
       ·grind
       grind
      ·simp only[bK.names]at hj;obtain⟨v,Xo,hh'⟩:=cN.1 hj;simp only[dZ,alM]at Xo;rcases Xo with(Xo|Xo)|Xo
       ·exact hM.fT id cs j hm (bO (amG Xo) hh')
       ·grind [bO]
       ·exact hM.fT id cs j hm (bO (anc Xo) hh')
    ·cases h
   ·cases h
  ·cases h
 ·rename_i id i off;split at h
  ·rename_i s et n p hwv;obtain⟨es,hm,rfl,hw,hn⟩:=UE hwv;subst hn;obtain⟨u,hu,h⟩:=M1.1 h;split at h
   ·rename_i hl;obtain⟨ha,rfl,rfl,_⟩:=Kz hw;obtain⟨cs,rfl,xJ⟩:=Xn hu;refine⟨_,_,h,fun _=>⟨id,_,rfl,rfl,fun m2 cS R' k'=>?_⟩,.set,fun G w0 μ φ w ya yx hM ha hx _=>?_⟩
    ·simp_all[wq,alr,T0]
    ·have hA:aN E.P μ φ w id s et es:=hM.dJ id _ hm;cases ha with
     | @oe _ _ _ g hg=>
      cases hx with
      |pv hx=>
       have LX:=hx;cases hx with
       | @agg _ xs g1 g2 g3=>
        obtain⟨a1,a2,a3,a4,a5,a6,a7⟩:=hA;rw[hg]at a7;obtain⟨c,T,c1,c2,c3,c4,c5⟩:=a7;have hle:es.length*s≤c.size:=alH (alo _ c3) c2;have HV:xs.size=es.length*s:=by omega
        have ez:aV E.P t≠0:=by omega
        have hl1:=hl.1;have hi:=kN (P:=E.P) (t:=t) ez;have hcz:(Value.agg xs).cells.size=aV E.P t:=by simp[Value.cells];omega
        refine⟨w.setRow g (bN c.toList 0 xs.toList).toArray,μ,?_,fun _ _ h=>h,hM.write hm rfl hg (lL.setRow (alz _)) setRow_size (fun k hk=>cj hk) ?_ rfl (fun j hj=>by simp[bK.names]at hj)⟩
        ·rw[show 0*(φ id).sz+0=0 by omega];exact gv hcz hi c1 (by omega) (fun i y hy=>g3 i y hy)
        ·have JW:∀(i:Nat)(x:Value),i<es.length*s→(bN c.toList 0 xs.toList).toArray[i]?=some x→xs[i]?=some x:=fun i x hi hx=>by
          rw[alY]at hx;rcases dt (by simp;omega) hx with⟨b1,b2,b3⟩|⟨b1,b2⟩
          ·simpa using b3
          grind
         refine⟨by rw[a1];simp[pQ],a2,a3,a4,fun i e he=>?_,a6,?_⟩
         ·obtain⟨_,rfl⟩:=CN he;exact wB
         ·rw[hg];refine⟨_,T,setRow_heap w g c _ T (0,0) c1,?_,?_,fun i e j q x he hq hx=>?_,fun i x hi hx=>?_⟩
          ·simp_all[amr,cF,Value.cells]
          ·simpa[pQ]using c3
          ·obtain⟨x',x1,x2,_⟩:=KH (k:=i*s+j) LX (by omega) he hq rfl;grind
          grind [pQ]
   ·cases h
  rename_i hwn;split at h
  ·rename_i p m1 hf;obtain⟨f1,f2,f3⟩:=NG hf;split at h
   ·rename_i s et es hm;obtain⟨e,he,h⟩:=M1.1 h;have key:∀q,0<aV E.P t→off+aV E.P t≤s→(p.cells.length=aV E.P t→e.cells.length=s→q.cells=bN (aQ s e) off p.cells)→∀(G:Nat→Option (List PV))(w0:bE)(μ:Ro)(φ:Nat→aI)(w:World)(ya yx:Value),aA E.P G w0 μ φ m w→an E.P μ φ (.oe id i off) ya→an E.P μ φ x yx→(∀id,x.has id=true→(m id).isSome=true)→∃w' μ',(Instr.storeAt t ya yx).run E.P w=.ok () w'∧(∀b o,μ b=some o→μ' b=some o)∧aA E.P G w0 μ' φ (aw m1 id (.arr s et (es.set i q))) w':=by
     intro q hz hb hq G w0 μ φ w ya yx hM ha hx _;obtain⟨μ',g1,g2,g3⟩:=f3 _ _ _ _ _ _ _ hM hx;cases ha with
     | @oe _ _ _ g hg=>have hA:aN E.P μ' φ w id s et es:=g2.dJ id _ hm;have NI:=hq g3.len (hA.2.2.2.2.1 i e he);obtain⟨c,T,hh,nQ,CJ⟩:=hA.set hg he g3 hb NI;have pT:(φ id).sz=s:=hA.2.1;have hi:=kN (P:=E.P) (t:=t) (by omega);refine⟨_,μ',?_,g1,g2.write hm rfl hg (lL.setRow (alz _)) setRow_size (fun k hk=>cj hk) CJ rfl fun j hj=>by simp[bK.names]at hj⟩;rw[pT];exact gv g3.size hi hh nQ g3.one
    split at h
    ·rename_i hb;refine⟨_,_,h,fun hd=>?_,f1.trans .set,key p (by omega) (by omega) fun h1 h2=>?_⟩
     ·obtain⟨rfl,f4⟩:=f2 hd;refine⟨id,_,rfl,rfl,fun m2 cS R' k'=>?_⟩;simp_all[wq,alr,T0]
     simp_all[dZ,bw]
    ·rename_i hnb;split at h
     ·rename_i hb;refine⟨_,_,h,fun hd=>?_,f1.trans .set,key _ (by omega) (by omega) fun _ _=>rfl⟩;obtain⟨rfl,f4⟩:=f2 hd;refine⟨id,_,rfl,rfl,fun m2 cS R' k'=>?_⟩;simp_all[wq,alr,acB,T0]
     ·cases h
   ·rename_i s et es hm;obtain⟨e,he,h⟩:=M1.1 h;split at h
    ·rename_i hb;refine⟨_,_,h,fun hd=>?_,f1.trans .set,fun G w0 μ φ w ya yx hM ha hx _=>?_⟩
     ·obtain⟨rfl,f4⟩:=f2 hd;refine⟨id,_,rfl,rfl,fun m2 cS R' k'=>?_⟩;simp_all[wq,alr,T0]
     ·obtain⟨μ',g1,g2,g3⟩:=f3 _ _ _ _ _ _ _ hM hx;cases ha with
      | @oe _ _ _ g hg=>have hA:bd E.P μ' φ w id s et es:=g2.dJ id _ hm;obtain⟨c,T,hh,nQ,CJ,hrw⟩:=bd.set (q:=.agg (bN (aQ s e) off p.cells)) hA (g2.apart id _ hm) hg he g3 hb.1 rfl;have pT:(φ id).sz=s:=hA.2.1;have hi:=kN (P:=E.P) (t:=t) (by omega);refine⟨_,μ',?_,g1,g2.write hm rfl hg (lL.setRow (alz _)) setRow_size (fun k hk=>cj hk) CJ rfl (fun j hj=>by simp[bK.names]at hj) (fun st h=>by cases h) hrw⟩;rw[pT];exact gv g3.size hi hh nQ g3.one
    ·cases h
   ·cases h
  ·cases h
 ·rename_i id i off s j off2;split at h
  ·rename_i p m1 hf;split at h
   ·rename_i s0 et es hm;obtain⟨e,he,h⟩:=M1.1 h;obtain⟨rs,hr,h⟩:=M1.1 h;obtain⟨q,hq,h⟩:=M1.1 h;split at h
    ·rename_i hb;refine⟨_,_,h,fun _=>⟨id,_,rfl,rfl,fun m2 cS R' k'=>?_⟩,.set,fun G w0 μ φ w ya yx hM ha hx _=>?_⟩
     ·simp_all[wq,alr,T0]
     ·have hE:=DZ hf E.P μ φ yx hx;have hN:bd E.P μ φ w id s0 et es:=hM.dJ id _ hm;obtain⟨g,y,hg,D2,⟨⟨JL,hA⟩,hV⟩,hce⟩:=hN.row he hr;have G2:=hM.apart id _ hm;have nD:(bK.nest s0 et es).rowAt i off=true:=by rw[dG he hce];rfl
      have KI:=hN.2.2.2.2.1 i e he;have Xp:(setRow s0 e off (.mE s (rs.set j (setCells s q off2 (aV E.P t) p)))).cells=e.cells.set off (.mE s (rs.set j (setCells s q off2 (aV E.P t) p))):=LW KI hb.2.2 (by simp);cases ha with
      | @DJ _ _ _ _ _ _ g' dn hs=>
       obtain⟨cC,akL⟩:=G2 i off g' nD dn;obtain⟨c,T,hh,nQ,CJ⟩:=hA.set (g:=g') dn hq hE hb.1 (HU hE.len (hA.2.2.2.2.1 j q hq));have hi:=kN (P:=E.P) (t:=t) (by omega);refine⟨_,μ,gv hE.size hi hh nQ hE.one,fun _ _ h=>h,hM.Xj hm rfl (.inr ⟨i,off,nD,dn⟩) (lL.setRow (alz _)) setRow_size (fun k hk=>cj hk) ?_ rfl (fun j hj=>by simp[bK.names]at hj) ?_⟩
       ·refine bd.change hN (by simp) (fun i' e' h'=>?_) rfl (fun g0 P9=>cj fun e=>cC (by rw[←e];omega)) (fun i' e' j' p' g0 c0 _ x' h' xK P9 WI LX hold=>?_)
        ·rcases eL h' with⟨_,rfl⟩|⟨_,h'⟩
         ·grind
         ·exact hN.2.2.2.2.1 i' e' h'
        ·have other:∀e'' p'',es[i']?=some e''→e''.cells[j']?=some p''→(i',j')≠(i,off)→ep E.P μ ((φ id).row i' j') (w.setRow g' (bN c.toList (j*s+off2) yx.cells.toList).toArray) p'' x':=fun e'' p'' h1 h2 h3=>(hold e'' p'' h1 h2).cz (fun _ _ h=>h) fun DY g'' akU=>cj fun e=>by grind [dG]
         rcases eL h' with⟨rfl,rfl⟩|⟨hni,h'⟩
         ·rw[Xp]at xK;rcases eL xK with⟨rfl,rfl⟩|⟨hnj,xK⟩
          ·have UG:eQ E.P μ ((φ id).row i' j') w s rs x':=hold e _ he hce;refine⟨⟨JL,CJ⟩,?_⟩;exact UG.2
          grind
         grind
       ·intro i' yr DY;rcases kx DY with⟨_,_,_,e',s',rs',je,h',xK⟩|⟨_,_,_,_,_,_,je,_⟩
        ·simp only[bK.nest.injEq]at je;obtain⟨rfl,rfl,rfl⟩:=je;rcases eL h' with⟨rfl,rfl⟩|⟨hni,h'⟩
         ·rw[Xp]at xK;rcases eL xK with⟨rfl,_⟩|⟨hnj,xK⟩
          ·omega
          ·rw[dG he xK];rfl
         ·rw[dG h' xK];rfl
        ·cases je
    ·cases h
   ·cases h
  ·cases h
 ·cases h
end
structure Cells(P:Program)(μ:Ro)(sz:Nat)(es:List PV)(xs:List Value):Prop where
 len:xs.length=es.length*sz
 each:∀(i:Nat)e,es[i]?=some e→e.cells.length=sz
 rep:∀(i:Nat)e(j:Nat)p y,es[i]?=some e→e.cells[j]?=some p→xs[i*sz+j]?=some y→ao P μ p y
 one:∀(i:Nat)y,xs[i]?=some y→y.oneCell'=true
section
variable {P:Program} {μ μ':Ro} {φ:Nat→aI} {w:World} {sz:Nat} {es es':List PV} {xs xs':List Value}
theorem Cells.nil:Cells P μ sz [] []:=⟨by simp,by simp,by simp,by simp⟩
theorem Cells.mono(h:Cells P μ sz es xs)(hμ:∀b o,μ b=some o→μ' b=some o):Cells P μ' sz es xs:=⟨h.len,h.each,fun i e j p y h1 h2 h3=>(h.rep i e j p y h1 h2 h3).mono hμ,h.one⟩
theorem HW{i j n:Nat}(hi:i<n)(hj:j<sz):i*sz+j<n*sz:=by have:(i+1)*sz≤n*sz:=alo _ hi;grind
theorem Cells.append(h:Cells P μ sz es xs)(h':Cells P μ sz es' xs'):Cells P μ sz (es++es') (xs++xs'):=by
 refine⟨by simp[h.len,h'.len,amb],fun i e hi=>?_,fun i e j p y hi hj hy=>?_,fun i y hy=>?_⟩
 ·rw[alV]at hi;split at hi
  ·exact h.each i e hi
  ·exact h'.each _ e hi
 ·rw[alV]at hi hy;split at hi
  ·rename_i hl;have rz:j<sz:=by rw[←h.each i e hi];grind
   rw[T0 (by rw[h.len];exact HW hl rz)]at hy;exact h.rep i e j p y hi hj hy
  ·rename_i hl;have hle:es.length*sz≤i*sz:=alo _ (by omega);rw[acB (by rw[h.len];omega)]at hy;refine h'.rep _ e j p y hi hj ?_;rw[←hy,h.len,Nat.sub_mul];congr 1;omega
 ·rw[alV]at hy;split at hy
  ·exact h.one i y hy
  ·exact h'.one _ y hy
theorem Cells.take(h:Cells P μ sz es xs)(n:Nat):Cells P μ sz (es.take n) (xs.take (n*sz)):=by refine⟨?_,fun i e hi=>h.each i e (iF hi).2,fun i e j p y hi hj hy=>h.rep i e j p y (iF hi).2 hj (iF hy).2,fun i y hy=>h.one i y (iF hy).2⟩;rw[alF,alF,h.len];simp
theorem Cells.drop(h:Cells P μ sz es xs)(n:Nat):Cells P μ sz (es.drop n) (xs.drop (n*sz)):=by refine⟨by simp[h.len,Nat.sub_mul],fun i e hi=>h.each _ e (xF hi),fun i e j p y hi hj hy=>h.rep _ e j p y (xF hi) hj ?_,fun i y hy=>h.one _ y (xF hy)⟩;grind
variable{id:Nat}{et:TypeId}
theorem aN.cells(hA:aN P μ φ w id sz et es){g:Nat}(hg:(φ id).g=some g):∃(c:Array Value)(T:TypeId),w.heap[g]?=some (.cells c T (0,0))∧(φ id).cap*sz≤c.size∧es.length≤(φ id).cap∧es.length*sz≤c.size∧Cells P μ sz es (c.toList.take (es.length*sz)):=by
 obtain⟨a1,a2,a3,a4,a5,a6,a7⟩:=hA;rw[hg]at a7;obtain⟨c,T,c1,c2,c3,c4,c5⟩:=a7;have hle:es.length*sz≤c.size:=alH (alo _ c3) c2;refine⟨c,T,c1,c2,c3,hle,by simp;omega,a5,fun i e j p y hi hj hy=>?_,fun i y hy=>?_⟩
 ·grind
 grind
theorem aN.rA{g:Nat}{T:TypeId}{c:Array Value}(hph:(φ id).toGe=⟨some g,(φ id).cap,es.length,sz⟩)(pT:sz=aV P et)(ez:0<sz)(sU:(φ id).cap≤maxLen)(hh:w.heap[g]?=some (.cells c T (0,0)))(hc:(φ id).cap*sz≤c.size)(hle:es.length≤(φ id).cap)(hC:Cells P μ sz es (c.toList.take (es.length*sz))):aN P μ φ w id sz et es:=by
 have e1:(φ id).g=some g:=by rw[hph]
 refine⟨by rw[hph],by rw[hph],pT,ez,hC.each,sU,?_⟩;rw[e1];have rz:∀(i:Nat)e(j:Nat)p,es[i]?=some e→e.cells[j]?=some p→i*sz+j<es.length*sz:=fun i e j p hi hj=>HW (OF.1 hi).1 (by rw[←hC.each i e hi];grind);refine⟨c,T,hh,hc,hle,fun i e j p x hi hj hx=>?_,fun i x hi hx=>?_⟩
 ·exact hC.rep i e j p x hi hj (by grind)
 ·exact hC.one i x (by grind)
inductive Cr(P:Program)(μ:Ro)(w:World)(sz:Nat)(es:List PV):Value→Prop
 |none:es=[]→Cr P μ w sz es (.slice none 0 0)
 |some {a:Addr} {c:Nat} (xs:List Value):Cells P μ sz es xs→(∀(j:Nat)v,xs[j]?=some v→w.cell? (a.add j)=some v)→es.length≤c→c≤maxLen→Cr P μ w sz es (.slice (some a) es.length c)
theorem aN.src(hA:aN P μ φ w id sz et es){g:Nat}(hg:(φ id).g=some g){lo len cap:Nat}(hl:lo+len≤es.length)(hcc:len≤cap)(akV:lo+cap≤(φ id).cap):Cr P μ w sz ((es.drop lo).take len) (.slice (some ⟨g,lo*sz,none⟩) len cap):=by
 obtain⟨c,T,c1,c2,c3,c4,c5⟩:=hA.cells hg;have sU:=hA.ry;have hlen:((es.drop lo).take len).length=len:=by simp;omega
 have:=Cr.some (P:=P) (μ:=μ) (w:=w) (sz:=sz) (es:=(es.drop lo).take len) (a:=⟨g,lo*sz,none⟩) (c:=cap) _ ((c5.drop lo).take len) (fun j v hv=>?_) (by omega) (by omega)
 ·simp_all
 grind [iF,xF,Addr.add_mid,dA]
end
section
variable {R:Type} {E:Env}
theorem ao.src{P:Program}{G:Nat→Option (List PV)}{w0:bE}{μ:Ro}{φ:Nat→aI}{m:Mem}{w:World}{sz:Nat}{es:List PV}{y:Value}(hM:aA P G w0 μ φ m w)(h:ao P μ (.rs sz es) y):Cr P μ w sz es y:=by
 cases h with
 |lA=>exact .none rfl
 |M9 hc=>exact .some (es:=[]) [] .nil (by simp) (by simp) hc
 | @rs _ _ b o cap X h1 h2 h3 h4 h5 h6=>
  by_cases hz:sz=0
  ·subst hz;refine .some [] ⟨by simp,h3,fun i e j p y hi hj=>?_,by simp⟩ (by simp) h1 h2;simp
  ·have fo:∀k v,((List.range (es.length*sz)).map fun k=>X (k/sz) (k%sz))[k]?=some v→∃(e:PV)(p:PV),es[k/sz]?=some e∧e.cells[k%sz]?=some p∧v=X (k/sz) (k%sz):=by
    intro k v hk;have bQ:k<es.length*sz:=by grind
    rw[IS,amN bQ]at hk;simp at hk;have hi:k/sz<es.length:=(Nat.div_lt_iff_lt_mul (by omega)).2 bQ;have hj:k%sz<(es[k/sz]).cells.length:=by rw[h3 _ _ (AI hi)];exact aok _ (by omega)
    simp_all
   refine .some ((List.range (es.length*sz)).map fun k=>X (k/sz) (k%sz)) ⟨by simp,h3,fun i e j p y hi hj hy=>?_,fun k v hk=>?_⟩ (fun k v hk=>?_) h1 h2
   ·obtain⟨e',p',he,hp,rfl⟩:=fo _ _ hy;have rz:j<sz:=by grind
    have e1:(i*sz+j)/sz=i:=by rw[anE,Nat.mul_add_div (by omega),Nat.div_eq_of_lt rz];rfl
    simp_all[anE,Nat.mul_add_mod,Nat.mod_eq_of_lt]
   ·grind
   ·obtain⟨e',p',he,hp,rfl⟩:=fo _ _ hk;rw[Addr.add_mid];have:=hM.cellAt (h4 _ e' _ p' he hp);rw[←this];simp[congr,al9,Nat.div_add_mod']
theorem pU{m:Mem}{sz:Nat}{x:V}{es:List PV}{ft:bD}(h:fD m sz x=some (es,ft)):(∀m2:Mem,(∀x∈ft,m2 x.2=m x.2)→fD m2 sz x=some (es,ft))∧(∀x∈ft,x.1=false)∧∀(P:Program)(G:Nat→Option (List PV))(w0:bE)(μ:Ro)(φ:Nat→aI)(w:World)(y:Value),aA P G w0 μ φ m w→an P μ φ x y→Cr P μ w sz es y:=by
 unfold fD at h;split at h
 ·rename_i s es';split at h
  ·rename_i hs;simp only[By,akj]at h;obtain⟨rfl,rfl⟩:=h;subst hs;exact⟨fun m2 _=>by simp[fD],by simp,fun P G w0 μ φ w y hM hy=>by cases hy with|pv hy=>exact hy.src hM⟩
  ·split at h
   ·simp only[By,akj]at h;obtain⟨rfl,rfl⟩:=h;refine⟨fun m2 _=>by simp[fD],by simp,fun P G w0 μ φ w y hM hy=>?_⟩;cases hy with
    |pv hy=>cases hy with
     |lA=>exact .none rfl
     |M9 hc=>exact .some (es:=[]) [] .nil (by simp) (by simp) hc
     |rs X h1 h2=>exact .some (es:=[]) [] .nil (by simp) h1 h2
   ·cases h
 ·simp only[By,akj]at h;obtain⟨rfl,rfl⟩:=h;exact⟨fun m2 _=>by rfl,by simp,fun P G w0 μ φ w y hM hy=>by cases hy;exact .none rfl⟩
 ·rename_i id;have key:∀(s:Nat)(et:TypeId)(es:List PV),(m id=some (.arr s et es)∨m id=some (.tC s et es))→∀(P:Program)(G:Nat→Option (List PV))(w0:bE)(μ:Ro)(φ:Nat→aI)(w:World)(y:Value),aA P G w0 μ φ m w→an P μ φ (.os id) y→Cr P μ w s es y:=by
   intro s et es hm P G w0 μ φ w y hM hy;have hA:=hM.arr hm;cases hy with
   |vt hg=>obtain⟨a1,a2,a3,a4,a5,a6,a7⟩:=hA;rw[hg]at a7;exact .none a7.1
   |os hg=>have:=hA.src hg (lo:=0) (len:=es.length) (cap:=(φ id).cap) (by omega) (hA.ry).1 (by omega);rw[hA.1];simpa using this
  split at h
  ·rename_i s' et es' hm;split at h
   ·rename_i hs;simp only[By,akj]at h;obtain⟨rfl,rfl⟩:=h;subst hs;exact⟨fun m2 cS=>by have:=cS (false,id) (by simp);simp_all[fD],by simp,key _ _ _ (.inl hm)⟩
   ·cases h
  ·rename_i s' et es' hm;split at h
   ·rename_i hs;simp only[By,akj]at h;obtain⟨rfl,rfl⟩:=h;subst hs;exact⟨fun m2 cS=>by have:=cS (false,id) (by simp);simp_all[fD],by simp,key _ _ _ (.inr hm)⟩
   ·cases h
  ·cases h
 ·rename_i id lo len;have key:∀(s:Nat)(et:TypeId)(es:List PV),(m id=some (.arr s et es)∨m id=some (.tC s et es))→∀(P:Program)(G:Nat→Option (List PV))(w0:bE)(μ:Ro)(φ:Nat→aI)(w:World)(y:Value),aA P G w0 μ φ m w→an P μ φ (.fS id lo len) y→Cr P μ w s ((es.drop lo).take len) y:=by
   intro s et es hm P G w0 μ φ w y hM hy;have hA:=hM.arr hm;have hle:=hA.ry;have Sr:=hA.1;have pT:=hA.2.1;cases hy with
   |tQ hg=>simp;exact .none rfl
   |fS hg hl ha hc1 WH=>
    rcases ha with rfl|⟨ha,_⟩
    ·rw[pT];exact hA.src hg (by omega) hc1 WH
    ·have h0:len=0:=by omega
     subst h0;simp only[ang];exact .some (es:=[]) [] .nil (by simp) (by simp) (by omega)
  split at h
  ·rename_i s' et es' hm;split at h
   ·rename_i hs;simp only[By,akj]at h;obtain⟨rfl,rfl⟩:=h;subst hs;exact⟨fun m2 cS=>by have:=cS (false,id) (by simp);simp_all[fD],by simp,key _ _ _ (.inl hm)⟩
   ·cases h
  ·rename_i s' et es' hm;split at h
   ·rename_i hs;simp only[By,akj]at h;obtain⟨rfl,rfl⟩:=h;subst hs;exact⟨fun m2 cS=>by have:=cS (false,id) (by simp);simp_all[fD],by simp,key _ _ _ (.inr hm)⟩
   ·cases h
  ·cases h
 ·rename_i id i off;split at h
  ·rename_i s0 et0 es0 hm;obtain⟨e,he,h⟩:=M1.1 h;obtain⟨rs,hr,h⟩:=M1.1 h;simp only[By,akj]at h;obtain⟨rfl,rfl⟩:=h;refine⟨fun m2 cS=>by have:=cS (false,id) (by simp);simp_all[fD],by simp,fun P G w0 μ φ w y hM hy=>?_⟩;have hN:bd P μ φ w id s0 et0 es0:=hM.dJ id _ hm;obtain⟨_,_,_,_,⟨⟨JL,hA⟩,_⟩,_⟩:=hN.row he hr;have hy:=hy.P8 (ν:=μ);cases hy with
   |vt hg=>obtain⟨a1,a2,a3,a4,a5,a6,a7⟩:=hA;rw[hg]at a7;exact .none a7.1
   |os hg=>have:=hA.src hg (lo:=0) (len:=rs.length) (cap:=(((φ id).row i off).up).cap) (by omega) (hA.ry).1 (by omega);rw[hA.1];simpa using this
  ·cases h
 ·cases h
end
section
variable {P:Program} {w:World}
theorem rW{t ty e:TypeId}(hu:P.underlying t=some (.slice e))(hz:aV P e≠0){base a:Option Addr}{n cap c:Nat}(hn:n≤cap):(Builtin.append_ #[t,t] ty #[.slice base n cap,.slice a 0 c]).run P w=.ok (.slice base n cap) w:=by
 obtain⟨i,hi,hs⟩:=BJ hz;have hl:∀x:Addr,(loadCells x 0).run P w=.ok #[] w:=fun x=>by rfl
 cases base<;>cases a<;>simp[Builtin.append_,run_underlying hu,sizeOf,typeInfo,hi,Builtin.lenOf,Builtin.firstCells,hn,hl,storeCells]
end
theorem Fa{P:Program}{w:World}(t ty e T:TypeId)(i:TypeInfo)(ht:P.underlying t=some (.slice e))(hi:P.info? e=some i)(g Qc adL:Nat)(cur:Array Value)(hg:w.heap[g]?=some (.cells cur T (0,0)))(a:Addr)(m c:Nat)(news:List Value)(hl:news.length=m*i.size)(af5:∀j u,news[j]?=some u→w.cell? (a.add j)=some u)(h1:∀u∈news,u.oneCell'=true)(bF:Qc+m≤adL)(nQ:Qc*i.size+news.length≤cur.size):(Builtin.append_ #[t,t] ty #[.slice (some ⟨g,0,none⟩) Qc adL,.slice (some a) m c]).run P w=.ok (.slice (some ⟨g,0,none⟩) (Qc+m) adL) (w.setRow g (cur.toList.take (Qc*i.size)++news++cur.toList.drop (Qc*i.size+news.length)).toArray):=by have hf:=run_firstCells_some (P:=P) w i.size m a m c news hl af5;have nO:=run_storeCells_at P g (Qc*i.size) T news 0 cur w hg (by omega) h1;simp only[am1]at nO;simp[Builtin.append_,run_underlying ht,sizeOf,typeInfo,hi,Builtin.lenOf,bF,hf,Addr.add_mid,nO]
section
variable {R:Type} {E:Env}
variable{t:TypeId}
theorem KJ{P:Program}{i:TypeInfo}(hi:P.info? t=some i):i.bytes=JP P t∧i.size=aV P t:=by simp[JP,aV,hi]
theorem HX{P:Program}{e ty:TypeId}{sz len n:Nat}{z:Value}{i:TypeInfo}(hu:P.underlying t=some (.slice e))(hi:P.info? e=some i)(hzv:i.zero=some z)(Ss:z.cells.size=sz)(pT:sz=aV P e)(ez:0<aV P e)(hby:0<JP P e)(bF:(len+n)*JP P e≤ag){w:World}{ys yx:Value}{os xs:List Value}(hs:(ys=.slice none 0 0∧len=0∧os=[])∨∃(g cap:Nat)(c:Array Value)(T:TypeId),ys=.slice (some ⟨g,0,none⟩) len cap∧w.heap[g]?=some (.cells c T (0,0))∧cap*sz≤c.size∧len≤cap∧cap≤maxLen∧os=c.toList.take (len*sz))(hx:(yx=.slice none 0 0∧n=0∧xs=[])∨∃(a:Addr)(cx:Nat),yx=.slice (some a) n cx∧xs.length=n*sz∧(∀(j:Nat)v,xs[j]?=some v→w.cell? (a.add j)=some v)∧(∀v∈xs,v.oneCell'=true)∧n≤cx∧cx≤maxLen):∃w' y,(Builtin.append_ #[t,t] ty #[ys,yx]).run P w=.ok y w'∧((y=.slice none 0 0∧w'=w∧len=0∧n=0)∨∃(g cap:Nat)(c:Array Value)(T:TypeId),y=.slice (some ⟨g,0,none⟩) (len+n) cap∧w'.heap[g]?=some (.cells c T (0,0))∧cap*sz≤c.size∧len+n≤cap∧cap≤maxLen∧c.toList.take ((len+n)*sz)=os++xs∧((∃abw,ys=.slice (some ⟨g,0,none⟩) len abw∧lL g w w'∧∀k,k≠g→w'.heap[k]?=w.heap[k]?)∨(g=w.heap.size∧w'=w.drew.alloc (.cells c e)))):=by
 obtain⟨hib,his⟩:=KJ hi;have ajo:len+n≤140737488355328:=by have:(len+n)*1≤(len+n)*JP P e:=amL _ hby;grind [ag]
 have akW:len+n≤maxLen:=by simp only[maxLen];omega
 have WJ:∀n,(Builtin.zeroCells z.cells n).size=n*sz:=fun n=>by rw[size_zeroCells,Ss]
 rcases hs with⟨rfl,rfl,rfl⟩|⟨g,cap,c,T,rfl,g4,g5,g6,g7,rfl⟩
 ·rcases hx with⟨rfl,rfl,rfl⟩|⟨a,cx,rfl,NH,HV,hx1,hcx,Qd⟩
  ·exact⟨w,_,rW hu (by omega) (alz _),.inl ⟨rfl,rfl,rfl,rfl⟩⟩
  ·by_cases h0:n=0
   ·subst h0;exact⟨w,_,rW hu (by omega) (alz _),.inl ⟨rfl,rfl,rfl,rfl⟩⟩
   ·have hr:=run_append_nil (P:=P) w t ty e i z hu hi hzv a n cx xs (by rw[NH,pT,his]) HV (by omega) (by omega) (by simp only[ag,amq]at bF;rw[hib];omega);have Gk:=grownCap_ge w n 0 e;refine⟨_,_,hr,.inr ⟨w.heap.size,grownCap w n 0 e,xs.toArray++Builtin.zeroCells z.cells (grownCap w n 0 e-n),e,by simp,fP w.drew _,?_,by omega,grownCap_le_maxLen w _ 0 e (by omega),?_,.inr ⟨rfl,rfl⟩⟩⟩
    ·rw[an0,WJ];simp only[amr,NH,←amb];simp_all
    simp_all
 ·have h1:(c.toList.take (len*sz)).length=len*sz:=by have:len*sz≤cap*sz:=alo _ g6;simp;omega
  rcases hx with⟨rfl,rfl,rfl⟩|⟨a,cx,rfl,NH,HV,hx1,hcx,Qd⟩
  ·exact⟨w,_,rW hu (by omega) g6,.inr ⟨g,cap,c,T,rfl,g4,g5,by omega,g7,by simp,.inl ⟨cap,rfl,lL.refl _ _,fun _ _=>rfl⟩⟩⟩
  ·by_cases hrm:len+n≤cap
   ·have nQ:len*i.size+xs.length≤c.size:=by rw[his,←pT,NH,←amb];exact alH (alo _ hrm) g5
    have hr:=Fa (P:=P) (w:=w) t ty e T i hu hi g len cap c g4 a n cx xs (by rw[NH,pT,his]) HV hx1 hrm nQ;rw[his,←pT]at hr nQ;refine⟨_,_,hr,.inr ⟨g,cap,_,T,rfl,setRow_heap w g c _ T (0,0) g4,?_,hrm,g7,?_,.inl ⟨cap,rfl,lL.setRow (alz _),fun k hk=>cj hk⟩⟩⟩
    ·grind
    grind [List.take_left',List.length_append,Nat.add_mul]
   ·have hr:=run_append_grow (P:=P) w t ty e i z hu hi hzv ⟨g,0,none⟩ len cap (c.toList.take (len*sz)) (by rw[h1,pT,his]) (fun j v hj=>by
      grind [Addr.add_mid,dA,iF]) a n cx xs (by rw[NH,pT,his]) HV (by omega) (by omega)
     (growslice_fits (by omega) (by simp_all[ag]))
    have Gk:=grownCap_ge w (len+n) cap e;refine⟨_,_,hr,.inr ⟨w.heap.size,_,_,e,rfl,fP w.drew _,?_,Gk,grownCap_le_maxLen w _ cap e (by omega),?_,.inr ⟨rfl,rfl⟩⟩⟩
    ·rw[an0,an0,WJ];simp only[amr,NH,h1,←amb];simp_all
    grind [Array.toList_append,List.take_left',List.length_append,Nat.add_mul]
theorem HY{e ty:TypeId}{sz:Nat}{es new:List PV}{z:List V}(hu:E.P.underlying t=some (.slice e))(hz:dr E e=some z)(pT:sz=aV E.P e)(ez:0<aV E.P e)(hby:0<JP E.P e)(bF:(es++new).length*JP E.P e≤ag){G:Nat→Option (List PV)}{w0:bE}{μ:Ro}{φ:Nat→aI}{m:Mem}{w:World}{ρ:Nat→Value}{f:Fr}{draw:Bool}{site:Nat}(hM:aA E.P G w0 μ φ m w)(hF:cg E.P μ φ m f ρ){ys yx:Value}(hx:Cr E.P μ w sz new yx)(hs:(ys=.slice none 0 0∧es=[])∨∃(g cap:Nat)(c:Array Value)(T:TypeId),ys=.slice (some ⟨g,0,none⟩) es.length cap∧w0.heap.size≤g∧μ g=none∧(∀id b',m id=some b'→¬b'.owns (φ id) g)∧w.heap[g]?=some (.cells c T (0,0))∧cap*sz≤c.size∧es.length≤cap∧cap≤maxLen∧es.length*sz≤c.size∧Cells E.P μ sz es (c.toList.take (es.length*sz))){f':Fr}{m':Mem}(zG:∀(P:Program)(G:Nat→Option (List PV))(w0:bE)(μ:Ro)(φ:Nat→aI)(w w':World)(ρ:Nat→Value)(ph:aI),aA P G w0 μ φ m w→cg P μ φ m f ρ→lB P w0 μ φ m w w' site (.arr sz e (es++new)) ph→∃φ',φ' site=ph∧aA P G w0 μ φ' m' w'∧cg P μ φ' m' f' ρ):∃w' y φ',(Builtin.append_ #[t,t] ty #[ys,yx]).run E.P w=.ok y w'∧aA E.P G w0 μ φ' m' w'∧cg E.P μ φ' m' f' ρ∧an E.P μ φ' (.os site) y:=by
 obtain⟨i,zv,hi,hzv,his,_,Ss,_,_,_⟩:=eK hz;have WK:(es++new).length=es.length+new.length:=by simp
 obtain⟨os,hos,hC⟩:∃os,((ys=.slice none 0 0∧es.length=0∧os=[])∨∃(g cap:Nat)(c:Array Value)(T:TypeId),ys=.slice (some ⟨g,0,none⟩) es.length cap∧w.heap[g]?=some (.cells c T (0,0))∧cap*sz≤c.size∧es.length≤cap∧cap≤maxLen∧os=c.toList.take (es.length*sz))∧Cells E.P μ sz es os:=by
  rcases hs with⟨h1,rfl⟩|⟨g,cap,c,T,h1,h2,h3,h4,h5,h6,h7,h8,h9,h10⟩
  ·exact⟨[],.inl ⟨h1,rfl,rfl⟩,.nil⟩
  grind
 obtain⟨xs,HV,hCx⟩:∃xs,((yx=.slice none 0 0∧new.length=0∧xs=[])∨∃(a:Addr)(cx:Nat),yx=.slice (some a) new.length cx∧xs.length=new.length*sz∧(∀(j:Nat)v,xs[j]?=some v→w.cell? (a.add j)=some v)∧(∀v∈xs,v.oneCell'=true)∧new.length≤cx∧cx≤maxLen)∧Cells E.P μ sz new xs:=by
  cases hx with
  |none hn=>subst hn;exact⟨[],.inl ⟨rfl,rfl,rfl⟩,.nil⟩
  | @some a cx xs hC HV hcx Qd=>exact⟨xs,.inr ⟨a,cx,rfl,hC.len,HV,fun u hu=>by obtain⟨j,hj⟩:=alR hu;exact hC.one j u hj,hcx,Qd⟩,hC⟩
 obtain⟨w',y,hr,Xq⟩:=HX (ty:=ty) hu hi hzv (by omega) pT ez hby (by simp_all) hos HV;rcases Xq with⟨rfl,rfl,h1,h2⟩|⟨g',G1,c',T',rfl,b1,b2,b3,b4,b5,b6⟩
 ·have h1:es=[]:=alv h1;have h2:new=[]:=alv h2;obtain⟨φ',a1,a2,a3⟩:=zG E.P G w0 μ φ w' w' ρ (G0 none 0 0 sz) hM hF ⟨lL.refl _ _,hM.ro,fun _ _ _ _ _=>rfl,by simp,fun φ' hp _=>by refine⟨by rw[hp,h1,h2];rfl,by rw[hp],pT,by omega,by rw[h1,h2];simp,by rw[hp];simp[maxLen],?_⟩;simp_all,by simp[bK.names],fun st h=>by cases h⟩;exact⟨w',_,φ',hr,a2,a3,.vt (by rw[a1])⟩
 ·have hCC:Cells E.P μ sz (es++new) (c'.toList.take ((es++new).length*sz)):=by rw[WK,b5];exact hC.append hCx
  have fin:∀(φ':Nat→aI),φ' site=G0 (some g') G1 (es++new).length sz→an E.P μ φ' (.os site) (.slice (some ⟨g',0,none⟩) (es.length+new.length) G1):=fun φ' a1=>by have:=an.os (P:=E.P) (μ:=μ) (φ:=φ') (id:=site) (g:=g') (by rw[a1]);simp_all
  rcases b6 with⟨abw,PO,b6,b7⟩|⟨rfl,rfl⟩
  ·rcases hs with⟨h1,_⟩|⟨g,cap,c,_,h1,h2,h3,h4,_⟩
   ·rw[PO]at h1;cases h1
   rw[PO]at h1;simp only[Value.slice.injEq,By,Addr.mk.injEq]at h1;obtain⟨⟨rfl,_⟩,_⟩:=h1;obtain⟨φ',a1,a2,a3⟩:=zG E.P G w0 μ φ w w' ρ (G0 (some g') G1 (es++new).length sz) hM hF ⟨b6.mono h2,fun k o hk=>by rw[b7 k (fun e=>by simp_all)];exact hM.ro k o hk,fun id b' g' hid dn=>b7 g' (fun e=>by simp_all),fun g' dn=>by simp_all,fun φ' hp _=>aN.rA (by rw[hp]) pT (by omega) (by rw[hp];omega) b1 (by rw[hp];omega) (by rw[hp,WK];omega) hCC,by simp[bK.names],fun st h=>by cases h⟩;grind
  ·obtain⟨φ',a1,a2,a3⟩:=zG E.P G w0 μ φ w.drew _ ρ (G0 (some w.heap.size) G1 (es++new).length sz) hM.drew hF (lB.alloc (o:=.cells c' e) hM.drew rfl (fun φ' hp _=>aN.rA (g:=w.heap.size) (by rw[hp]) pT (by omega) (by rw[hp];omega) (fP w.drew _) (by rw[hp];omega) (by rw[hp,WK];omega) hCC) (by simp[bK.names]));grind
end
section
variable {R:Type} {E:Env}
theorem Qe{draw:Bool}{site:Nat}{t t':TypeId}{s x:V}{f:Fr}{m:Mem}{k:V→Fr→Mem→Option R}{r:R}(h:DP E draw site t t' s x f m k=some r):draw=false∧t'=t∧∃place f' m',k (.os place) f' m'=some r∧(m' place).isSome=true∧∀(G:Nat→Option (List PV))(w0:bE)(μ:Ro)(φ:Nat→aI)(w:World)(ρ:Nat→Value)(ys yx:Value)(ty:TypeId),aA E.P G w0 μ φ m w→cg E.P μ φ m f ρ→an E.P μ φ s ys→an E.P μ φ x yx→∃w' y φ',(Builtin.append_ #[t,t] ty #[ys,yx]).run E.P w=.ok y w'∧aA E.P G w0 μ φ' m' w'∧cg E.P μ φ' m' f' ρ∧an E.P μ φ' (.os place) y:=by
 unfold DP at h;split at h
 ·cases h
 ·rename_i hd;simp only[aly,anY,amf,amh,AT,Bool.not_eq_eq_eq_not,alc,alA]at hd;refine⟨hd.1,by simpa using hd.2,?_⟩;split at h
  ·rename_i e hu;split at h
   ·cases h
   ·rename_i hz;obtain⟨z,hz⟩:∃z,dr E e=some z:=by
     cases hq:dr E e with
     |none=>simp[hq]at hz
     |some z=>simp
    split at h
    ·rename_i new ft KI;obtain⟨_,_,CO⟩:=pU KI;split at h
     ·split at h
      ·rename_i hb;obtain⟨f',m',_,hk,zS,_,zG⟩:=cv h;refine⟨_,f',m',hk,by simp[zS],fun G w0 μ φ w ρ ys yx ty hM hF hs hx=>?_⟩;cases hs;exact HY (es:=[]) (draw:=false) hu hz rfl hb.2.2 hb.2.1 (by simpa using hb.1) hM hF (CO _ _ _ _ _ _ _ hM hx) (.inl ⟨rfl,rfl⟩) zG
      ·cases h
     ·rename_i id;split at h
      ·rename_i sz et es hm;split at h
       ·rename_i hc;obtain⟨rfl,rfl,akX⟩:=hc;split at h
        ·rename_i hb;obtain⟨f',m',_,hk,zS,_,zG⟩:=cv h;refine⟨_,f',m',hk,by simp[zS],fun G w0 μ φ w ρ ys yx ty hM hF hs hx=>?_⟩;have yA:=hM.forget id;have G3:=hF.forget id;have hA:aN E.P μ φ w id (aV E.P et) et es:=hM.dJ id _ hm;have ez:0<aV E.P et:=hA.2.2.2.1;refine HY (draw:=false) hu hz rfl ez hb.2 hb.1 yA G3 (CO _ _ _ _ _ _ _ hM hx) ?_ zG;cases hs with
         |vt hg=>have a7:=hA.2.2.2.2.2.2;simp_all
         | @os _ g hg=>obtain⟨c,T,c1,c2,c3,c4,c5⟩:=hA.cells hg;obtain⟨o1,o2⟩:=hM.own id _ g hm (.inl hg);refine .inr ⟨g,(φ id).cap,c,T,by rw[hA.1],o1,o2 rfl,fun j b' hj dn=>?_,c1,c2,c3,hA.ry.2,c4,c5⟩;obtain⟨cC,b2,vE,rfl⟩:=fK hj;exact cC (hM.inj j id b2 _ g vE hm (gu.1 dn) (.inl hg))
        ·cases h
       ·cases h
      ·cases h
     ·cases h
    ·cases h
  ·cases h
theorem LY{P:Program}{w:World}{dT ty elem:TypeId}{ts:List TypeId}{g af6 dCap:Nat}{c:Array Value}{T:TypeId}{sz:Nat}{es new:List PV}{μ:Ro}{yx:Value}(hu:P.underlying dT=some (.slice elem))(pT:sz=aV P elem)(ez:0<sz)(hx:Cr P μ w sz new yx)(hg:w.heap[g]?=some (.cells c T (0,0)))(hle:es.length*sz≤c.size)(hd:af6=es.length)(hC:Cells P μ sz es (c.toList.take (es.length*sz))):∃c':Array Value,(Builtin.copy_ (dT::ts).toArray ty #[.slice (some ⟨g,0,none⟩) af6 dCap,yx]).run P w=.ok (goInt ((min new.length es.length:Nat):Int)) (w.setRow g c')∧c'.size=c.size∧Cells P μ sz (new.take es.length++es.drop new.length) (c'.toList.take ((new.take es.length++es.drop new.length).length*sz)):=by
 subst hd;obtain⟨i,hi,hs⟩:=BJ (P:=P) (t:=elem) (by omega);have hnl:(new.take es.length++es.drop new.length).length=es.length:=by simp;omega
 rw[hnl];cases hx with
 |none hn=>subst hn;refine⟨c,?_,rfl,by simpa using hC⟩;have:=setRow_self w g c T (0,0) hg;rw[this];simp[Builtin.copy_,run_underlying hu,Builtin.lenOf,Builtin.firstCells,sizeOf,typeInfo,hi,storeCells]
 | @some a cx xs hX HV hcx Qd=>
  have abx:Nat.min new.length es.length=min new.length es.length:=rfl;have hl:(xs.take (min new.length es.length*sz)).length=min new.length es.length*i.size:=by rw[hs,←pT,alF,hX.len];simp
  have akY:min new.length es.length*sz≤es.length*sz:=alo _ (Nat.min_le_right _ _);have hf:=run_firstCells_some (P:=P) w i.size (min new.length es.length) a new.length cx (xs.take (min new.length es.length*sz)) hl (fun j v hj=>HV j v (iF hj).2);have Xc:(xs.take (min new.length es.length*sz)).length=min new.length es.length*sz:=by rw[hl,hs,pT]
  have nO:=run_storeCells_at P g 0 T (xs.take (min new.length es.length*sz)) 0 c w hg (by omega) (fun v hv=>by obtain⟨j,hj⟩:=alR hv;exact hX.one j v (iF hj).2);simp only[amq,ang,amC,Xc]at nO;refine⟨(xs.take (min new.length es.length*sz)++c.toList.drop (min new.length es.length*sz)).toArray,?_,?_,?_⟩
  ·have akM:Nat.min new.length es.length=min new.length es.length:=rfl;simp_all[Builtin.copy_,run_underlying,Builtin.lenOf,sizeOf,typeInfo]
  ·grind
  ·have e1:(xs.take (min new.length es.length*sz)++c.toList.drop (min new.length es.length*sz)).take (es.length*sz)=xs.take (min new.length es.length*sz)++(c.toList.take (es.length*sz)).drop (min new.length es.length*sz):=by simp_all[List.take_append,List.drop_take,alU]
   simp only[];rw[e1];have h1:=(hX.take (min new.length es.length)).append (hC.drop (min new.length es.length));have e2:new.take (min new.length es.length)=new.take es.length:=by grind
   have e3:es.drop (min new.length es.length)=es.drop new.length:=by simp
   simp_all
theorem KK{R:Type}(m:Mem)(sz:Nat)(x:V)(k:List PV→bD→Option R):LJ m sz x k=(fD m sz x).bind fun p=>k p.1 p.2:=by
 cases x with
 |zU id i off=>simp only[LJ,fD];grind
 |_=>simp only[LJ];grind
theorem Xr{t:TypeId}{d x:V}{m:Mem}{k:V→Mem→bD→Option R}{r:R}(h:Nn E t d x m k=some r):∃n id b ft,(∀m2:Mem,(∀x∈((true,id)::ft:bD),m2 x.2=m x.2)→∀(R':Type)(k':V→Mem→bD→Option R'),Nn E t d x m2 k'=k' (.pv (.int .i64 n)) (aw m2 id b) ((true,id)::ft))∧k (.pv (.int .i64 n)) (aw m id b) ((true,id)::ft)=some r∧∀(G:Nat→Option (List PV))(w0:bE)(μ:Ro)(φ:Nat→aI)(w:World)(ρ:Nat→Value)(f:Fr)(yd yx:Value)(ts:List TypeId)(ty:TypeId),aA E.P G w0 μ φ m w→cg E.P μ φ m f ρ→an E.P μ φ d yd→an E.P μ φ x yx→∃w' φ',(Builtin.copy_ (t::ts).toArray ty #[yd,yx]).run E.P w=.ok (.int .i64 n) w'∧aA E.P G w0 μ φ' (aw m id b) w'∧cg E.P μ φ' (aw m id b) f ρ∧(Lit.int .i64 n).wf=true:=by
 unfold Nn at h;split at h
 ·rename_i e hu;split at h
  ·rename_i id;split at h
   ·rename_i sz et es hm;split at h
    ·rename_i hc;rw[KK]at h;obtain⟨⟨new,ft⟩,KI,h⟩:=M1.1 h
     ·obtain⟨Qf,_,CO⟩:=pU KI;refine⟨_,id,_,ft,fun m2 cS R' k'=>?_,h,fun G w0 μ φ w ρ f yd yx ts ty hM hF hd hx=>?_⟩
      ·have h1:=cS (true,id) (by simp);simp_all[Nn,T0,KK,alr]
      ·have hA:aN E.P μ φ w id sz et es:=hM.dJ id _ hm;have hS:=CO _ _ _ _ _ _ _ hM hx;have hle:=hA.ry;have hlen:(new.take es.length++es.drop new.length).length=es.length:=by simp;omega
       have KA:(Lit.int .i64 ((min new.length es.length:Nat):Int)).wf=true:=HM (by omega);cases hd with
       |vt hg=>
        have a7:=hA.2.2.2.2.2.2;rw[hg]at a7;have h0:=a7.1;subst h0;refine⟨w,φ,?_,?_,?_,KA⟩
        ·obtain⟨i,hi,hs⟩:=BJ (P:=E.P) (t:=e) (by have:=hA.2.2.2.1;omega);have PQ:∀x:Addr,(loadCells x 0).run E.P w=.ok #[] w:=fun x=>by rfl
         cases hS with
         |none hn=>subst hn;simp[Builtin.copy_,run_underlying hu,Builtin.lenOf,Builtin.firstCells,sizeOf,typeInfo,hi,hA.1,goInt]
         |some xs hX HV hcx Qd=>simp[Builtin.copy_,run_underlying hu,Builtin.lenOf,Builtin.firstCells,sizeOf,typeInfo,hi,hA.1,PQ,goInt]
        ·have:aw m id (.arr sz et (new.take ([]:List PV).length++([]:List PV).drop new.length))=m:=by
          funext j;by_cases e:j=id
          ·subst e;simp[hm]
          ·rw[ax e]
         rw[this];omega
        ·exact hF.nP (fun _ _ h=>h) .set
       | @os _ g hg=>
        obtain⟨c,T,c1,c2,c3,c4,c5⟩:=hA.cells hg;obtain⟨c',r1,r2,r3⟩:=LY (ts:=ts) (ty:=ty) (dCap:=(φ id).cap) hu hc.1 hA.2.2.2.1 hS c1 c4 hA.1 c5;refine⟨_,φ,r1,hM.write hm rfl hg (lL.setRow (alz _)) setRow_size (fun k hk=>cj hk) ?_ rfl (by simp[bK.names]),hF.nP (fun _ _ h=>h) .set,KA⟩;refine aN.rA (g:=g) ?_ hA.2.2.1 hA.2.2.2.1 hle.2 (setRow_heap w g c c' T (0,0) c1) (by omega) (by rw[hlen];omega) r3;rw[hlen,←hA.1,←hA.2.1];cases hq:(φ id).toGe with
        |mk a b c d=>simp_all
    ·cases h
   ·cases h
  ·cases h
 ·cases h
end
end Go.Ab
