import Derived.Test.YtoaknfoobjnjgaaGreatAbP2
import Derived.Great.BuildSlice
import Derived.Laws.AppendOwn
import Derived.Laws.MakeOwn
set_option linter.all false
namespace Go.Ab
open Go.RowKit (Below)
structure b9(P:Program)(μ:Ro)(φ:Nat→aK)(m:Mem)(f:Fr)(ρ:Nat→Value):Prop where
 fr:∀t,aq P μ φ (f t) (ρ t)
 live:∀t id,(f t).has id=true→(m id).isSome=true
section
variable {P:Program} {G:Nat→Option (List PV)} {w0:bl} {μ μ':Ro} {φ φ':Nat→aK} {m m':Mem} {w w':World} {f:Fr} {ρ:Nat→Value}
theorem b9.mono(h:b9 P μ φ m f ρ)(hμ:∀b o,μ b=some o→μ' b=some o)(hφ:∀id,(m id).isSome=true→φ' id=φ id∧(m' id).isSome=true):b9 P μ' φ' m' f ρ:=⟨fun t=>(h.fr t).mono hμ fun id hid=>(hφ id (h.live t id hid)).1,fun t id hid=>(hφ id (h.live t id hid)).2⟩
theorem fS{id j:Nat}{b:bI}(h:br (bH id m) id j=some b):j≠id∧∃b',m j=some b'∧b=gI id b':=by
 by_cases e:j=id
 ·subst e;simp at h
 simp_all[gB,GR]
theorem vp{id j:Nat}(h:j≠id)(hm:(m j).isSome=true):(br (bH id m) id j).isSome=true:=by grind [gB,bH]
theorem b9.forget(h:b9 P μ φ m f ρ)(id:Nat):b9 P μ φ (br (bH id m) id) (eU id f) ρ:=by refine⟨fun t=>(h.fr t).kill id,fun t j hj=>?_⟩;obtain⟨h1,h2⟩:=yT hj;exact vp h2 (h.live t j h1)
theorem aG.put(hM:aG P G w0 μ φ m w){site:Nat}{b:bI}{ph:aK}(hs:m site=none)(QA:lr w0.heap.size w w')(sW:∀k o,μ k=some o→w'.heap[k]?=some o)(hold:∀id b' g,m id=some b'→b'.owns (φ id) g→w'.heap[g]?=w.heap[g]?)(BE:∀g,b.owns ph g→w0.heap.size≤g∧μ g=none∧∀id b',m id=some b'→¬b'.owns (φ id) g)(F8:b.apart ph)(hB:gK P μ (fun i=>if i=site then ph else φ i) w' site b)(hn:∀id,b.names id=true→(m id).isSome=true)(hlp:∀st,b=.loop st→∃g rc,ph.g=some g∧w0.rc site=some (g,rc)∧w'.heap[g]?=some (.loop (st.obj rc)))(ahk:∀g o,w0.hid g=some o→w'.heap[g]?=some o∧¬b.owns ph g):aG P G w0 μ (fun i=>if i=site then ph else φ i) (aB m site b) w':=by
 refine⟨hM.below.trans QA,sW,hM.aF,fun id b' hid=>?_,fun id b' g hid hg=>?_,fun Xm id2 b1 b2 g h1 h2 g1 g2=>?_,fun id b' hid=>?_,fun j cs id hj hh=>?_,hM.base,hM.dG,fun id st hid=>?_,fun k o h=>⟨(ahk k o h).1,(hM.hid k o h).2.1,(hM.hid k o h).2.2.1,fun j c hj hg=>by
  by_cases e:j=site
  ·subst e;rw[bB]at hj;cases hj;simp only[IS]at hg;exact(ahk k o h).2 hg
  ·rw[aA e]at hj;simp only[e,PS]at hg;exact(hM.hid k o h).2.2.2 j c hj hg⟩⟩
 rotate_right
 ·by_cases h:id=site
  ·simp_all
  ·rw[aA h]at hid;obtain⟨g,rc,h1,h2,h3⟩:=hM.DL id st hid;exact⟨g,rc,by simp_all,h2,by rw[hold id _ g hid (.inl h1)];omega⟩
 ·by_cases h:id=site
  ·simp_all
  ·rw[aA h]at hid;have hR:=hM.dF id b' hid;refine hR.cG (fun j hj=>?_) (by simp[h]) (fun _ _ h=>h) (fun g hg=>hold id b' g hid hg);have:=hM.Qz hid hj;grind
 ·by_cases h:id=site
  ·simp_all
  ·rw[aA h]at hid;simp only[h,PS]at hg;exact hM.own id b' g hid hg
 ·by_cases e1:Xm=site
  ·by_cases e2:id2=site
   ·omega
   simp_all[bB,tb,IS,aA,PS]
  ·by_cases e2:id2=site
   ·simp_all[bB,tb,IS,aA,PS]
   ·rw[aA e1]at h1;rw[aA e2]at h2;simp only[e1,PS]at g1;simp only[e2,PS]at g2;exact hM.inj Xm id2 b1 b2 g h1 h2 g1 g2
 ·by_cases h:id=site
  ·simp_all
  ·rw[aA h]at hid;simp only[h,PS];exact hM.apart id b' hid
 ·by_cases e:id=site
  ·subst e;simp
  ·rw[aA e];by_cases h:j=site
   ·subst h;rw[bB]at hj;simp only[tb]at hj;subst hj;exact hn id hh
   ·rw[aA h]at hj;exact hM.fJ j cs id hj hh
end
section
variable {R:Type} {E:Env}
structure lW(P:Program)(w0:bl)(μ:Ro)(φ:Nat→aK)(m:Mem)(w w':World)(site:Nat)(b:bI)(ph:aK):Prop where
 below:lr w0.heap.size w w'
 ro:∀k o,μ k=some o→w'.heap[k]?=some o
 lu:∀id b' g,m id=some b'→b'.owns (φ id) g→w'.heap[g]?=w.heap[g]?
 own:∀g,ph.g=some g→w0.heap.size≤g∧μ g=none∧∀id b',m id=some b'→¬b'.owns (φ id) g
 rep:∀φ',φ' site=ph→(∀id,b.names id=true→φ' id=φ id)→gK P μ φ' w' site b
 names:∀id,b.names id=true→(m id).isSome=true
 hh:∀g o,w0.hid g=some o→w'.heap[g]?=some o∧ph.g≠some g
 lp:∀st,b=.loop st→∃g rc,ph.g=some g∧w0.rc site=some (g,rc)∧w'.heap[g]?=some (.loop (st.obj rc)):=by intro st h;cases h
theorem ck{draw:Bool}{site:Nat}{b:bI}{f:Fr}{m:Mem}{k:Fr→Mem→bx→Option R}{r:R}(h:fresh draw site b f m k=some r)(J0:∀i off,b.rowAt i off=true→False:=by intro i off h;simp[bI.rowAt]at h):∃f' m',(∀(R':Type)(k':Fr→Mem→bx→Option R'),fresh draw site b f m k'=k' f' m' [(true,site)])∧k f' m' [(true,site)]=some r∧m' site=some b∧(draw=true→m site=none∧f'=f∧m'=aB m site b)∧(∀(P:Program)(G:Nat→Option (List PV))(w0:bl)(μ:Ro)(φ:Nat→aK)(w w':World)(ρ:Nat→Value)(ph:aK),aG P G w0 μ φ m w→b9 P μ φ m f ρ→lW P w0 μ φ m w w' site b ph→∃φ',φ' site=ph∧aG P G w0 μ φ' m' w'∧b9 P μ φ' m' f' ρ):=by
 unfold fresh at h;cases hs:m site with
 |none=>
  simp only[hs]at h;refine⟨f,aB m site b,fun R' k'=>by simp only[fresh,hs],h,by simp,fun _=>⟨rfl,rfl,rfl⟩,fun P G w0 μ φ w w' ρ ph hM hF hp=>?_⟩;have Ji:∀id,(m id).isSome=true→id≠site:=fun id hid e=>by simp_all
  refine⟨fun i=>if i=site then ph else φ i,by simp,hM.put hs hp.below hp.ro hp.lu (fun g hg=>hp.own g (ly J0 hg)) (s9 J0) (hp.rep _ (by simp) fun id hid=>by simp[Ji id (hp.names id hid)]) hp.names hp.lp (fun g o h=>⟨(hp.hh g o h).1,fun hg=>(hp.hh g o h).2 (ly J0 hg)⟩),?_⟩;exact hF.mono (fun _ _ h=>h) fun id hid=>⟨by simp[Ji id hid],by grind [aA,id]⟩
 |some b0=>
  simp only[hs]at h;split at h
  ·cases h
  ·rename_i hc;simp only[anH,ap8,aor]at hc;refine⟨eU site f,aB (bH site m) site b,fun R' k'=>by simp only[fresh,hs];simp[hc],h,by simp,fun hd=>(by simp_all),fun P G w0 μ φ w w' ρ ph hM hF hp=>?_⟩;have xq:=hM.forget site;have FV:=hF.forget site;have hs1:br (bH site m) site site=none:=by simp
   have Ji:∀id,(br (bH site m) site id).isSome=true→id≠site:=fun id hid e=>by subst e;simp at hid
   have hnm:∀id,b.names id=true→id≠site:=fun id hid e=>by simp_all
   refine⟨fun i=>if i=site then ph else φ i,by simp,?_,?_⟩
   ·rw[←A8];refine xq.put hs1 hp.below hp.ro (fun id b' g hid hg=>?_) (fun g hg=>?_) (s9 J0) (hp.rep _ (by simp) fun id hid=>by simp[hnm id hid]) (fun id hid=>vp (hnm id hid) (hp.names id hid)) hp.lp (fun g o h=>⟨(hp.hh g o h).1,fun hg=>(hp.hh g o h).2 (ly J0 hg)⟩)
    ·obtain⟨_,b2,td,rfl⟩:=fS hid;exact hp.lu id b2 g td (fU.1 hg)
    ·obtain⟨h1,h2,h3⟩:=hp.own g (ly J0 hg);refine⟨h1,h2,fun id b' hid ho=>?_⟩;obtain⟨_,b2,td,rfl⟩:=fS hid;exact h3 id b2 td (fU.1 ho)
   ·rw[←A8];exact FV.mono (fun _ _ h=>h) fun id hid=>⟨by simp[Ji id hid],by grind [aA,id]⟩
theorem lW.alloc{P:Program}{G:Nat→Option (List PV)}{w0:bl}{μ:Ro}{φ:Nat→aK}{m:Mem}{w:World}{site:Nat}{b:bI}{ph:aK}{o:Obj}(hM:aG P G w0 μ φ m w)(hph:ph.g=some w.heap.size)(rep:∀φ',φ' site=ph→(∀id,b.names id=true→φ' id=φ id)→gK P μ φ' (w.alloc o) site b)(names:∀id,b.names id=true→(m id).isSome=true)(lp:∀st,b=.loop st→∃g rc,ph.g=some g∧w0.rc site=some (g,rc)∧(w.alloc o).heap[g]?=some (.loop (st.obj rc)):=by intro st h;cases h):lW P w0 μ φ m w (w.alloc o) site b ph:=by
 have n9:w0.heap.size≤w.heap.size:=hM.below.size;refine⟨(lr.refl _ w).alloc n9 o,fun k o' hk=>?_,fun id b' g hid hg=>lr.heap_alloc w o g ((hM.dF id b' hid).FU hg),fun g hg=>?_,rep,names,fun g o' h=>(by obtain⟨h1,_⟩:=hM.hid g o' h;have bK:=(adW.1 h1).1;exact⟨by rw[lr.heap_alloc w o g bK];exact h1,fun e=>by rw[hph]at e;cases e;omega⟩),lp⟩
 ·have:=hM.ro k o' hk;grind [lr.heap_alloc]
 ·rw[hph]at hg;simp only[tb]at hg;subst hg;refine⟨n9,?_,fun id b' hid hg=>?_⟩
  ·cases hq:μ w.heap.size with
   |none=>rfl
   |some o'=>have:=hM.ro _ _ hq;simp at this
  ·have:=(hM.dF id b' hid).FU hg;omega
theorem fV(w:World)(o:Obj):(w.alloc o).heap[w.heap.size]?=some o:=heap_alloc_new w o
variable{t:TypeId}
theorem dC{cs:List V}(h:da E t=some cs):∃i z,E.P.info? t=some i∧i.zero=some z∧i.size=aW E.P t∧cs.length=aW E.P t∧z.cells.size=aW E.P t∧(∀id,cq id cs=false)∧(∀(μ:Ro)(φ:Nat→aK)(i:Nat)u y,cs[i]?=some u→z.cells[i]?=some y→aq E.P μ φ u y)∧(∀(i:Nat)(y:Value),z.cells[i]?=some y→y.oneCell'=true):=by
 unfold da zeroV at h;cases hi:E.P.info? t with
 |none=>simp[hi]at h
 |some i=>
  cases hz:i.zero with
  |none=>simp[hi,hz]at h
  |some z=>
   simp only[hi,hz,anC,No]at h;obtain⟨h1,h2,h3⟩:=toCells_ok h;obtain⟨h4,_,h6⟩:=h3 E.P (fun _=>none) (fun _=>default) z (wm z);refine⟨i,z,rfl,hz,by simp[aW,hi],h1,h4,fun id=>?_,fun μ φ i u y hu hy=>(h3 E.P μ φ z (wm z)).2.1 i u y hu hy,h6⟩;cases hh:cq id cs with
   |false=>rfl
   |true=>grind [id,JM]
variable{P:Program}{w:World}
theorem qA{i:TypeInfo}{z:Value}(hi:P.info? t=some i)(hz:i.zero=some z):(zeroValue t).run P w=.ok z w:=by simp[zeroValue,typeInfo,hi,hz]
theorem Ap{i:TypeInfo}{z:Value}(hi:P.info? t=some i)(hz:i.zero=some z):(Instr.alloc t true (.tuple #[])).run P w=.ok (.pointer (some ⟨w.heap.size,0,none⟩)) (w.alloc (.cells z.cells t)):=by simp[Instr.alloc,qA hi hz,newVar,newRow]
theorem SG{v:Value}:(Instr.box t v).run P w=.ok (.pointer (some ⟨w.heap.size,0,none⟩)) (w.alloc (.cells v.cells t)):=by rfl
variable{c:Array Value}
theorem lW.box{G:Nat→Option (List PV)}{w0:bl}{μ:Ro}{φ:Nat→aK}{m:Mem}{site:Nat}{cs:List V}{T:TypeId}(hM:aG P G w0 μ φ m w)(hl:c.size=cs.length)(hv:∀(i:Nat)u y,cs[i]?=some u→c[i]?=some y→aq P μ φ u y)(h1:∀(i:Nat)(y:Value),c[i]?=some y→y.oneCell'=true)(hn:∀id,cq id cs=true→(m id).isSome=true):lW P w0 μ φ m w (w.alloc (.cells c T)) site (.box cs) (EY (some w.heap.size) 0 cs.length 0):=by refine lW.alloc hM (by rfl) (fun φ' hφ Qg=>⟨w.heap.size,c,T,by rw[hφ],fV w _,hl,fun i u y hu hy=>?_,h1,by rw[hφ]⟩) hn;exact(hv i u y hu hy).mono (fun _ _ h=>h) fun id hid=>Qg id (bO (amq hu) hid)
theorem lA(h:aW P t≠0):(P.info? t).map (·.size)=some (aW P t):=by simp_all[Ak]
theorem dw{T:Type}{cs new:List T}{off i:Nat}{x:T}(hb:off+new.length≤cs.length)(h:(bN cs off new)[i]?=some x):(off≤i∧i<off+new.length∧new[i-off]?=some x)∨((i<off∨off+new.length≤i)∧cs[i]?=some x):=by rw[ek]at h;rw[an1,an6]at h;grind
theorem cM{T:Type}{cs new:List T}{off:Nat}(hb:off+new.length≤cs.length):(bN cs off new).length=cs.length:=by simp[ek];omega
variable{g:Nat}
theorem gC{v:Value}{o:Nat}{T:TypeId}(hz:v.cells.size=aW P t)(hi:(P.info? t).map (·.size)=some (aW P t))(hg:w.heap[g]?=some (.cells c T (0,0)))(hb:o+v.cells.size≤c.size)(h1:∀(i:Nat)(y:Value),v.cells[i]?=some y→y.oneCell'=true):(Instr.storeAt t (.pointer (some ⟨g,o,none⟩)) v).run P w=.ok () (w.setRow g (bN c.toList o v.cells.toList).toArray):=by
 have gw:=run_storeCells_at P g o T v.cells.toList 0 c w hg (by omega) (fun x hx=>by grind [List.getElem?_of_mem]);have n9:(sizeOf t).run P w=.ok (aW P t) w:=by
  cases hq:P.info? t with
  |none=>simp[hq]at hi
  |some i=>simp[sizeOf,typeInfo,hq,aW]
 simp only[Instr.storeAt,Instr.sureAddr,storeVar,Sem.run_bind,Sem.run_pure,Result.andThen_ok,n9,hz,aqP,not_true_eq_false,PS,gw,apn];rw[ek];try rfl
variable{xs:Array Value}
theorem cm{k:Nat}(h:k≠g):(w.setRow g xs).heap[k]?=w.heap[k]?:=by simp_all[World.setRow,ao0,Ne.symm]
theorem setRow_size:(w.setRow g xs).heap.size=w.heap.size:=by simp[World.setRow]
theorem lr.setRow{B:Nat}(h:B≤g):lr B w (w.setRow g xs):=⟨⟨rfl,rfl,rfl,aqT setRow_size.symm,fun k hk=>cm (by omega)⟩,fun _=>anz _⟩
end
section
variable {P:Program} {G:Nat→Option (List PV)} {w0:bl} {μ:Ro} {φ:Nat→aK} {m m':Mem} {w:World}
def kS(m m':Mem):Prop:=∀id,(m id).isSome=true→(m' id).isSome=true
theorem kS.refl(m:Mem):kS m m:=fun _ h=>h
theorem kS.trans{a b c:Mem}(h:kS a b)(k:kS b c):kS a c:=fun id hid=>k id (h id hid)
variable{id:Nat}
theorem kS.set{b:bI}:kS m (aB m id b):=fun j hj=>by
 by_cases e:j=id
 ·subst e;simp
 ·rw[aA e];omega
theorem b9.oA{f:Fr}{ρ:Nat→Value}{μ':Ro}(h:b9 P μ φ m f ρ)(hμ:∀b o,μ b=some o→μ' b=some o)(hl:kS m m'):b9 P μ' φ m' f ρ:=h.mono hμ fun id hid=>⟨rfl,hl id hid⟩
variable{v:V}{p:PV}
theorem SH(h:Gq m v=some (p,m')):kS m m'∧∀(P:Program)(G:Nat→Option (List PV))(w0:bl)(μ:Ro)(φ:Nat→aK)(w:World)(x:Value),aG P G w0 μ φ m w→aq P μ φ v x→∃μ',(∀b o,μ b=some o→μ' b=some o)∧aG P G w0 μ' φ m' w∧au P μ' p x:=by
 unfold Gq at h;split at h
 ·simp only[tb,T0]at h;obtain⟨rfl,rfl⟩:=h;exact⟨.refl _,fun P G w0 μ φ w x hM hx=>⟨μ,fun _ _ h=>h,hM,by cases hx with|pv hx=>omega⟩⟩
 ·simp only[tb,T0]at h;obtain⟨rfl,rfl⟩:=h;exact⟨.refl _,fun P G w0 μ φ w x hM hx=>⟨μ,fun _ _ h=>h,hM,by cases hx;exact .lV⟩⟩
 ·rename_i id;split at h
  ·rename_i s et es hm;simp only[tb,T0]at h;obtain⟨rfl,rfl⟩:=h;refine⟨.set,fun P G w0 μ φ w x hM hx=>⟨_,mU hM (φ id).g,hM.freeze hm,?_⟩⟩;refine(hM.arr (.inl hm)).full hM hx (mU hM _) fun g hg=>?_;simp[pT,hg]
  ·rename_i s et es hm;simp only[tb,T0]at h;obtain⟨rfl,rfl⟩:=h;refine⟨.refl _,fun P G w0 μ φ w x hM hx=>⟨μ,fun _ _ h=>h,hM,?_⟩⟩;refine(hM.arr (.inr hm)).full hM hx (fun _ _ h=>h) fun g hg=>?_;obtain⟨o,ho⟩:=anK.1 ((hM.dF id _ hm).2 g hg);rw[ho,hM.ro _ _ ho]
  ·rename_i s et es hm;simp only[tb,T0]at h;obtain⟨rfl,rfl⟩:=h;refine⟨.set,fun P G w0 μ φ w x hM hx=>⟨_,tf hM _,hM.SF hm,?_⟩⟩;have WL:=hM.SF hm;have hF:aP P _ φ w id s et (es.map PV.strip):=(WL.dF id _ (bB _ _ _)).1;refine hF.JV (hx.A3 (tf hM _)) (fun _ _ h=>h) fun g hg=>?_;unfold uH;rw[BY (show(bI.nest s et es).owns (φ id) g from .inl hg)]
  ·cases h
 ·cases h
theorem J1(h:Gq dh v=some (p,m')):∀(P:Program)(μ:Ro)(φ:Nat→aK)(x:Value),aq P μ φ v x→au P μ p x:=by
 unfold Gq at h;split at h
 ·simp only[tb,T0]at h;obtain⟨rfl,rfl⟩:=h;exact fun P μ φ x hx=>by cases hx with|pv hx=>omega
 ·simp only[tb,T0]at h;obtain⟨rfl,rfl⟩:=h;exact fun P μ φ x hx=>by cases hx;exact .lV
 ·simp[dh]at h
 ·cases h
theorem tg(h:Gq dh v=some (p,m')):m'=dh:=by unfold Gq at h;grind [Option.some.injEq,Prod.mk.injEq,dh]
theorem GS:∀{cs:List V}{m m':Mem}{ps:List PV},nI m cs=some (ps,m')→kS m m'∧ps.length=cs.length∧∀(P:Program)(G:Nat→Option (List PV))(w0:bl)(μ:Ro)(φ:Nat→aK)(w:World)(X:Nat→Value),aG P G w0 μ φ m w→(∀(i:Nat)u,cs[i]?=some u→aq P μ φ u (X i))→∃μ',(∀b o,μ b=some o→μ' b=some o)∧aG P G w0 μ' φ m' w∧∀(i:Nat)p,ps[i]?=some p→au P μ' p (X i)
 |[],m,m',ps,h=>by simp only[nI,tb,T0]at h;obtain⟨rfl,rfl⟩:=h;exact⟨.refl _,rfl,fun P G w0 μ φ w X hM _=>⟨μ,fun _ _ h=>h,hM,by simp⟩⟩
 |c::r,m,m',ps,h=>by
  simp only[nI]at h;split at h
  ·rename_i p m1 h1;split at h
   ·rename_i ps1 m2 h2;simp only[tb,T0]at h;obtain⟨rfl,rfl⟩:=h;obtain⟨a1,a2⟩:=SH h1;obtain⟨b1,b2,b3⟩:=GS h2;refine⟨a1.trans b1,by simp[b2],fun P G w0 μ φ w X hM hx=>?_⟩;obtain⟨μ1,c1,c2,c3⟩:=a2 P G w0 μ φ w (X 0) hM (hx 0 c (by simp));obtain⟨μ2,d1,d2,d3⟩:=b3 P G w0 μ1 φ w (fun i=>X (i+1)) c2 (fun i u hu=>(hx (i+1) u (by simpa using hu)).A3 c1);refine⟨μ2,fun b o h=>d1 b o (c1 b o h),d2,fun i q hq=>?_⟩;cases i with
    |zero=>simp at hq;subst hq;exact c3.mono d1
    |succ i=>simp_all
   ·cases h
  ·cases h
theorem BI:∀{cs:List V}{m':Mem}{ps:List PV},nI dh cs=some (ps,m')→ps.length=cs.length∧∀(P:Program)(μ:Ro)(φ:Nat→aK)(X:Nat→Value),(∀(i:Nat)u,cs[i]?=some u→aq P μ φ u (X i))→∀(i:Nat)p,ps[i]?=some p→au P μ p (X i)
 |[],m',ps,h=>by simp only[nI,tb,T0]at h;simp_all
 |c::r,m',ps,h=>by
  simp only[nI]at h;split at h
  ·rename_i p m1 h1;split at h
   ·rename_i ps1 m2 h2;simp only[tb,T0]at h;obtain⟨rfl,rfl⟩:=h;have:=tg h1;subst this;obtain⟨b2,b3⟩:=BI h2;refine⟨by simp[b2],fun P μ φ X hx i q hq=>?_⟩;cases i with
    |zero=>simp at hq;subst hq;exact J1 h1 P μ φ _ (hx 0 c (by simp))
    |succ i=>exact b3 P μ φ (fun i=>X (i+1)) (fun i u hu=>hx (i+1) u (by simpa using hu)) i q (by simpa using hq)
   ·cases h
  ·cases h
structure vq(P:Program)(μ:Ro)(n:Nat)(p:PV)(x:Value):Prop where
 len:p.cells.length=n
 size:x.cells.size=n
 rep:∀(j:Nat)q y,p.cells[j]?=some q→x.cells[j]?=some y→au P μ q y
 one:∀(j:Nat)y,x.cells[j]?=some y→y.oneCell'=true
variable{n:Nat}{agg:Bool}
theorem A9{P:Program}{μ:Ro}{ps:List PV}{x:Value}(hp:(if agg then some (.agg ps)else match ps with|[p]=>some p|_=>none)=some p)(hl:ps.length=n)(hs:x.cells.size=n)(hr:∀(j:Nat)q y,ps[j]?=some q→x.cells[j]?=some y→au P μ q y)(h1:∀(j:Nat)y,x.cells[j]?=some y→y.oneCell'=true):vq P μ n p x:=by
 have hc:p.cells=ps:=by
  cases agg with
  |true=>simp at hp;subst hp;rfl
  |false=>
   simp only[tc,PS]at hp;split at hp
   ·rename_i q;simp only[tb]at hp;subst hp;have bK:0<x.cells.size:=by simp at hl;omega
    have hr0:=hr 0 q _ (by simp) (T1 bK);have UF:=h1 0 _ (T1 bK);generalize x.cells[0]=y at hr0 UF;cases q<;>first|rfl|(cases hr0;simp[Value.oneCell']at UF)
   ·cases hp
 exact⟨by rw[hc];omega,hs,by rw[hc];omega,h1⟩
theorem GU{m m':Mem}(h:lj m n agg v=some (p,m')):kS m m'∧∀(P:Program)(G:Nat→Option (List PV))(w0:bl)(μ:Ro)(φ:Nat→aK)(w:World)(x:Value),aG P G w0 μ φ m w→aq P μ φ v x→∃μ',(∀b o,μ b=some o→μ' b=some o)∧aG P G w0 μ' φ m' w∧vq P μ' n p x:=by
 unfold lj at h;split at h
 ·rename_i cs hc;obtain⟨c1,c2,c3⟩:=toCells_ok hc;split at h
  ·rename_i ps m1 hf;obtain⟨f1,f2,f3⟩:=GS hf;have hp:(if agg then some (.agg ps)else match ps with|[p]=>some p|_=>none)=some p∧m1=m':=by grind
   obtain⟨hp,rfl⟩:=hp;refine⟨f1,fun P G w0 μ φ w x hM hx=>?_⟩;obtain⟨d1,d2,d3⟩:=c3 P μ φ x hx;have hX:∀(i:Nat),i<cs.length→x.cells[i]?=some (x.cells.getD i undef):=fun i hi=>by simp_all
   obtain⟨μ',e1,e2,e3⟩:=f3 P G w0 μ φ w (fun i=>x.cells.getD i undef) hM fun i u hu=>d2 i u _ hu (hX i (IN.1 hu).1);refine⟨μ',e1,e2,A9 hp (by omega) d1 (fun j q y hq hy=>?_) d3⟩;grind
  ·cases h
 ·cases h
theorem CL{m':Mem}(h:lj dh n agg v=some (p,m')):∀(P:Program)(μ:Ro)(φ:Nat→aK)(x:Value),aq P μ φ v x→vq P μ n p x:=by
 unfold lj at h;split at h
 ·rename_i cs hc;obtain⟨c1,c2,c3⟩:=toCells_ok hc;split at h
  ·rename_i ps m1 hf;obtain⟨f2,f3⟩:=BI hf;have hp:(if agg then some (.agg ps)else match ps with|[p]=>some p|_=>none)=some p:=by grind
   refine fun P μ φ x hx=>?_;obtain⟨d1,d2,d3⟩:=c3 P μ φ x hx;have hX:∀(i:Nat),i<cs.length→x.cells[i]?=some (x.cells.getD i undef):=fun i hi=>by simp_all
   have e3:=f3 P μ φ (fun i=>x.cells.getD i undef) fun i u hu=>d2 i u _ hu (hX i (IN.1 hu).1);refine A9 hp (by omega) d1 (fun j q y hq hy=>?_) d3;grind
  ·cases h
 ·cases h
theorem NL{draw:Bool}{m m':Mem}(h:yL draw m n agg v=some (p,m')):kS m m'∧(draw=true→m'=m∧∀m2:Mem,yL true m2 n agg v=some (p,m2))∧∀(P:Program)(G:Nat→Option (List PV))(w0:bl)(μ:Ro)(φ:Nat→aK)(w:World)(x:Value),aG P G w0 μ φ m w→aq P μ φ v x→∃μ',(∀b o,μ b=some o→μ' b=some o)∧aG P G w0 μ' φ m' w∧vq P μ' n p x:=by
 unfold yL at h;split at h
 ·rename_i hd;split at h
  ·rename_i q m1 hf;simp only[tb,T0]at h;obtain⟨rfl,rfl⟩:=h;exact⟨.refl _,fun _=>⟨rfl,fun m2=>by simp[yL,hf]⟩,fun P G w0 μ φ w x hM hx=>⟨μ,fun _ _ h=>h,hM,CL hf P μ φ x hx⟩⟩
  ·cases h
 grind [GU,absurd]
theorem aP.set{P:Program}{μ:Ro}{φ:Nat→aK}{w:World}{id sz:Nat}{et:TypeId}{es:List PV}(hA:aP P μ φ w id sz et es){g:Nat}(hg:(φ id).g=some g){i off n:Nat}{e p q:PV}{x:Value}(he:es[i]?=some e)(hE:vq P μ n p x)(hb:off+n≤sz)(hq:q.cells=bN (aM sz e) off p.cells):∃c T,w.heap[g]?=some (.cells c T (0,0))∧i*sz+off+x.cells.size≤c.size∧aP P μ φ (w.setRow g (bN c.toList (i*sz+off) x.cells.toList).toArray) id sz et (es.set i q):=by
 obtain⟨a1,a2,a3,a4,a5,a6,a7⟩:=hA;rw[hg]at a7;obtain⟨c,T,c1,c2,c3,c4,c5⟩:=a7;have hi:i<es.length:=(IN.1 he).1;have yu:i*sz+off+n≤c.size:=by have:(i+1)*sz≤(φ id).cap*sz:=amt _ (by omega);grind
 have GV:x.cells.toList.length=n:=by simpa using hE.size
 have I5:(aM sz e).length=sz:=bj _ _;have hql:q.cells.length=sz:=by rw[hq,cM (by rw[I5,hE.len];omega),I5]
 have rD:(bN c.toList (i*sz+off) x.cells.toList).length=c.size:=by simp_all[cM]
 have uy:∀(i':Nat)e',(es.set i q)[i']?=some e'→(i'=i∧e'=q)∨(i'≠i∧es[i']?=some e'):=by grind
 refine⟨c,T,c1,by rw[hE.size];omega,?_⟩;refine⟨by simp[a1],a2,a3,a4,fun i' e' h'=>?_,a6,?_⟩
 ·grind
 ·rw[hg];refine⟨_,T,setRow_heap w g c _ T (0,0) c1,by simp[rD,c2],by simpa using c3,fun i' e' j p' x' h' hj hx=>?_,fun j x' hj hx=>?_⟩
  ·rw[aoa]at hx;rcases dw (by simp[hE.size];omega) hx with⟨b1,b2,b3⟩|⟨b1,b2⟩
   ·rw[GV]at b2;have UG:i'=i∧e'=q:=by
     rcases uy i' e' h' with h|⟨cy,h'⟩
     ·omega
     ·exfalso;have yD:=(IN.1 hj).1;rw[a5 i' e' h']at yD;rcases Nat.lt_or_gt_of_ne cy with bK|hgt
      ·have:(i'+1)*sz≤i*sz:=amt _ bK;grind
      ·have:(i+1)*sz≤i'*sz:=amt _ hgt;grind
    obtain⟨rfl,rfl⟩:=UG;rw[hq]at hj;rcases dw (by rw[I5,hE.len];omega) hj with⟨d1,d2,d3⟩|⟨d1,d2⟩
    ·exact hE.rep _ _ _ d3 (by rw[←aoi,←b3];congr 1;omega)
    ·exfalso;rw[hE.len]at d1;omega
   ·rw[GV]at b1;have b2:c[i'*sz+j]?=some x':=by simpa using b2
    rcases uy i' e' h' with⟨rfl,rfl⟩|⟨cy,h'⟩
    ·rw[hq]at hj;rcases dw (by rw[I5,hE.len];omega) hj with⟨d1,d2,d3⟩|⟨d1,d2⟩
     ·exfalso;rw[hE.len]at d2;omega
     grind [fN]
    grind
  ·rw[aoa]at hx;rw[aoA]at hj;rcases dw (by simp[hE.size];omega) hx with⟨b1,b2,b3⟩|⟨b1,b2⟩
   ·exact hE.one _ x' (by simpa using b3)
   grind
variable{off:Nat}
theorem Lq{s0:Nat}{e:PV}(he:e.cells.length=s0)(ho:off<s0)(hp:∀cs,p≠.agg cs):(setRow s0 e off p).cells=e.cells.set off p:=by
 have h1:p.cells=[p]:=by cases p<;>first|rfl|exact absurd rfl (hp _)
 unfold setRow;split
 ·rename_i hs;subst hs;have:off=0:=by omega
  subst this;match hc:e.cells,he with
  |[c],_=>simp[h1]
 simp_all[PV.cells,fN]
theorem GW{s:Nat}{e:PV}(h1:p.cells.length=n)(h2:e.cells.length=s):(setCells s e off n p).cells=bN (aM s e) off p.cells:=by
 unfold setCells;split
 ·rename_i h;obtain⟨rfl,rfl⟩:=h;simp_all[ek,bj]
 rfl
theorem bg.change{P:Program}{μ μ':Ro}{φ φ':Nat→aK}{w w':World}{sz:Nat}{et:TypeId}{es es':List PV}(h:bg P μ φ w id sz et es)(hlen:es'.length=es.length)(qB:∀(i:Nat)e,es'[i]?=some e→e.cells.length=sz)(hφ:(φ' id).toEX=(φ id).toEX)(hw:∀g,(φ id).g=some g→w'.heap[g]?=w.heap[g]?)(hc:∀(i:Nat)e'(j:Nat)p' g c T x,es'[i]?=some e'→e'.cells[j]?=some p'→(φ id).g=some g→w.heap[g]?=some (.cells c T (0,0))→c[i*sz+j]?=some x→(∀e p,es[i]?=some e→e.cells[j]?=some p→eH P μ ((φ id).row i j) w p x)→eH P μ' ((φ' id).row i j) w' p' x):bg P μ' φ' w' id sz et es':=by
 obtain⟨a1,a2,a3,a4,a5,a6,a7⟩:=h;unfold bg;rw[hφ];refine⟨by omega,a2,a3,a4,qB,a6,?_⟩;cases hg:(φ id).g with
 |none=>simp_all
 |some g=>grind
theorem eV{T:Type}{l:List T}{i i':Nat}{q e':T}(h:(l.set i q)[i']?=some e'):(i'=i∧e'=q)∨(i'≠i∧l[i']?=some e'):=by grind
theorem bg.set{P:Program}{μ:Ro}{φ:Nat→aK}{w:World}{sz:Nat}{et:TypeId}{es:List PV}(hA:bg P μ φ w id sz et es)(F8:(bI.nest sz et es).apart (φ id)){g:Nat}(hg:(φ id).g=some g){i:Nat}{e q:PV}{x:Value}(he:es[i]?=some e)(hE:vq P μ n p x)(hb:off+n≤sz)(hq:q.cells=bN (aM sz e) off p.cells):∃c T,w.heap[g]?=some (.cells c T (0,0))∧i*sz+off+x.cells.size≤c.size∧bg P μ φ (w.setRow g (bN c.toList (i*sz+off) x.cells.toList).toArray) id sz et (es.set i q)∧∀i' xg,(bI.nest sz et (es.set i q)).rowAt i' xg=true→(bI.nest sz et es).rowAt i' xg=true:=by
 have AN:=hA;obtain⟨a1,a2,a3,a4,a5,a6,a7⟩:=hA;rw[hg]at a7;obtain⟨c,T,c1,c2,c3,c4,c5⟩:=a7;have hi:i<es.length:=(IN.1 he).1;have yu:i*sz+off+n≤c.size:=by have:(i+1)*sz≤(φ id).cap*sz:=amt _ (by omega);grind
 have GV:x.cells.toList.length=n:=by simpa using hE.size
 have I5:(aM sz e).length=sz:=bj _ _;have hql:q.cells.length=sz:=by rw[hq,cM (by rw[I5,hE.len];omega),I5]
 have rD:(bN c.toList (i*sz+off) x.cells.toList).length=c.size:=by simp_all[cM]
 have cy:∀i' j' g',(bI.nest sz et es).rowAt i' j'=true→((φ id).row i' j').g=some g'→g'≠g:=fun i' j' g' hr cV e=>(F8 i' j' g' hr cV).1 (by rw[e];omega);have gw:∀{i' j':Nat}{e' p':PV}{x':Value}{l:List Value},es[i']?=some e'→e'.cells[j']?=some p'→eH P μ ((φ id).row i' j') w p' x'→eH P μ ((φ id).row i' j') (w.setRow g l.toArray) p' x':=fun h1 h2 h3=>h3.cG (fun _ _ h=>h) fun hr g' cV=>cm (cy _ _ g' (by rw[dK h1 h2];omega) cV);refine⟨c,T,c1,by rw[hE.size];omega,⟨by simp[a1],a2,a3,a4,fun i' e' h'=>?_,a6,?_⟩,?_⟩
 ·grind
 ·rw[hg];refine⟨_,T,setRow_heap w g c _ T (0,0) c1,by simp[rD,c2],by simpa using c3,fun i' e' j p' x' h' hj hx=>?_,fun j x' hj hx=>?_⟩
  ·rw[aoa]at hx;rcases dw (by simp[hE.size];omega) hx with⟨b1,b2,b3⟩|⟨b1,b2⟩
   ·rw[GV]at b2;have UG:i'=i∧e'=q:=by
     rcases eV h' with h|⟨cy,h'⟩
     ·omega
     ·exfalso;have yD:=(IN.1 hj).1;rw[a5 i' e' h']at yD;rcases Nat.lt_or_gt_of_ne cy with bK|hgt
      ·have:(i'+1)*sz≤i*sz:=amt _ bK;grind
      ·have:(i+1)*sz≤i'*sz:=amt _ hgt;grind
    obtain⟨rfl,rfl⟩:=UG;rw[hq]at hj;rcases dw (by rw[I5,hE.len];omega) hj with⟨d1,d2,d3⟩|⟨d1,d2⟩
    ·exact .pure (hE.rep _ _ _ d3 (by rw[←aoi,←b3];congr 1;omega))
    ·exfalso;rw[hE.len]at d1;omega
   ·rw[GV]at b1;have b2:c[i'*sz+j]?=some x':=by simpa using b2
    rcases eV h' with⟨rfl,rfl⟩|⟨cy,h'⟩
    ·rw[hq]at hj;rcases dw (by rw[I5,hE.len];omega) hj with⟨d1,d2,d3⟩|⟨d1,d2⟩
     ·exfalso;rw[hE.len]at d2;omega
     grind [fN]
    simp_all
  ·rw[aoa]at hx;rw[aoA]at hj;rcases dw (by simp[hE.size];omega) hx with⟨b1,b2,b3⟩|⟨b1,b2⟩
   ·exact hE.one _ x' (by simpa using b3)
   grind
 ·intro i' xg hr;rcases kR hr with⟨_,_,_,e',s,rs,j4,h',wv⟩|⟨_,_,_,_,_,_,j4,_⟩
  ·simp only[bI.nest.injEq]at j4;obtain⟨rfl,rfl,rfl⟩:=j4;rcases eV h' with⟨rfl,rfl⟩|⟨cy,h'⟩
   ·rw[hq]at wv;rcases dw (by rw[I5,hE.len];omega) wv with⟨d1,d2,d3⟩|⟨d1,d2⟩
    ·exfalso;have bK:xg-off<x.cells.size:=by rw[hE.size,←hE.len];omega
     exact absurd (hE.rep _ _ _ d3 (T1 bK)).F7 (by simp[PV.isRow])
    ·rw[fN (a5 i' e he)]at d2;rw[dK he d2];rfl
   ·rw[dK h' wv];rfl
  ·cases j4
end
section
variable {R:Type} {E:Env}
theorem Ba{p:PV}:∀{n o j:Nat}{q:PV},(eh p o n)[j]?=some q→j<n∧q=cell p (o+j)
 |0,o,j,q,h=>by simp[eh]at h
 |n+1,o,0,q,h=>⟨by omega,by simpa[eh]using h.symm⟩
 |n+1,o,j+1,q,h=>by simp only[eh,apa]at h;obtain⟨h1,h2⟩:=Ba h;grind
theorem vr{p:PV}:∀{n o:Nat},(eh p o n).length=n
 |0,_=>rfl
 |n+1,o=>by simp[eh,vr]
variable{n:Nat}
theorem BJ{s i:Nat}{p e:PV}(h:(pX s n p)[i]?=some e):i<n∧e=.agg (eh p (i*s) s):=by unfold pX at h;grind
theorem Xz{p:PV}{u:Unit}(h:asAgg n p=some u):∃cs,p=.agg cs∧cs.length=n:=by unfold asAgg at h;grind
theorem UH{t:TypeId}{i off s:Nat}{et:TypeId}{b:Option bI}{x:V}{p:PV}(h:Qp E t i off b x=some (s,et,n,p)):∃es,b=some (.arr s et es)∧x=.pv p∧DT E t s i off=true∧n=es.length:=by unfold Qp at h;grind
theorem J2{P:Program}{μ:Ro}{s k:Nat}{cs:List PV}{xs:Array Value}(hp:au P μ (.agg cs) (.agg xs))(hl:cs.length=n*s){i j:Nat}{e q:PV}(he:(pX s n (.agg cs))[i]?=some e)(hq:e.cells[j]?=some q)(hk:k=i*s+j):∃x,xs[k]?=some x∧au P μ q x∧x.oneCell'=true:=by
 obtain⟨h1,rfl⟩:=BJ he;obtain⟨h2,rfl⟩:=Ba hq;have bK:i*s+j<n*s:=by have:(i+1)*s≤n*s:=amt _ (by omega);grind
 subst hk;cases hp with
 |agg g1 g2 g3=>have hc:cs[i*s+j]?=some cs[i*s+j]:=ta (by omega);have hx:xs[i*s+j]?=some xs[i*s+j]:=T1 (by omega);grind [cell,PV.cells]
theorem UI{draw:Bool}{t:TypeId}{a x:V}{m:Mem}{k:Mem→bx→Option R}{r:R}(h:vj E draw t a x m k=some r):∃m' ft,k m' ft=some r∧(draw=true→∃id b,m'=aB m id b∧ft=[(true,id)]∧∀m2:Mem,m2 id=m id→∀(R':Type)(k':Mem→bx→Option R'),vj E true t a x m2 k'=k' (aB m2 id b) [(true,id)])∧kS m m'∧∀(G:Nat→Option (List PV))(w0:bl)(μ:Ro)(φ:Nat→aK)(w:World)(ya yx:Value),aG E.P G w0 μ φ m w→aq E.P μ φ a ya→aq E.P μ φ x yx→(∀id,x.has id=true→(m id).isSome=true)→∃w' μ',(Instr.storeAt t ya yx).run E.P w=.ok () w'∧(∀b o,μ b=some o→μ' b=some o)∧aG E.P G w0 μ' φ m' w':=by
 unfold vj at h;split at h
 ·rename_i id off;split at h
  ·rename_i cs hm;split at h
   ·rename_i new hn;split at h
    ·rename_i hb;refine⟨_,_,h,fun hd=>⟨id,_,rfl,rfl,fun m2 cQ R' k'=>by simp_all[vj,BY]⟩,.set,fun G w0 μ φ w ya yx hM ha hx hlx=>?_⟩;obtain⟨n1,n2,n3⟩:=toCells_ok hn;obtain⟨x1,x2,x3⟩:=n3 _ _ _ _ hx;cases ha with
     | @op _ _ g hg=>
      obtain⟨g',c,T,cV,hh,hs,hv,h1,Jf⟩:=hM.dF id _ hm;rw[hg]at cV;simp only[tb]at cV;subst cV;have hi:=lA (P:=E.P) (t:=t) (by omega);have oB:off+yx.cells.toList.length≤c.toList.length:=by simp;omega
      refine⟨_,μ,gC x1 hi hh (by omega) x3,fun _ _ h=>h,?_⟩;refine hM.write hm rfl hg (lr.setRow (anz _)) setRow_size (fun k hk=>cm hk) ⟨g,_,T,hg,setRow_heap w g c _ T (0,0) hh,?_,fun i u y hu hy=>?_,fun i y hy=>?_,by simp_all[cM]⟩ rfl fun j hj=>?_
      ·simp_all[aoC,cM]
      ·rw[aoa]at hy;have e1:yx.cells.toList.length=new.length:=by simp;omega
       rcases dw oB hy with⟨b1,b2,b3⟩|⟨b1,b2⟩<;>rcases dw (by omega) hu with⟨d1,d2,d3⟩|⟨d1,d2⟩
       ·grind
       ·omega
       ·omega
       grind
      ·rw[aoa]at hy;rcases dw oB hy with⟨b1,b2,b3⟩|⟨b1,b2⟩
       ·grind
       grind
      ·simp only[bI.names]at hj;obtain⟨v,NM,hh'⟩:=cT.1 hj;simp only[ek,anO]at NM;rcases NM with(NM|NM)|NM
       ·exact hM.fJ id cs j hm (bO (aox NM) hh')
       ·grind [bO]
       ·exact hM.fJ id cs j hm (bO (ao3 NM) hh')
    ·cases h
   ·cases h
  ·cases h
 ·rename_i id i off;split at h
  ·rename_i s et n p hwv;obtain⟨es,hm,rfl,hw,hn⟩:=UH hwv;subst hn;obtain⟨u,hu,h⟩:=AI.1 h;split at h
   ·rename_i hl;obtain⟨ha,rfl,rfl,_⟩:=JS hw;obtain⟨cs,rfl,qB⟩:=Xz hu;refine⟨_,_,h,fun _=>⟨id,_,rfl,rfl,fun m2 cQ R' k'=>?_⟩,.set,fun G w0 μ φ w ya yx hM ha hx _=>?_⟩
    ·simp_all[vj,anC,BY]
    ·have hA:aP E.P μ φ w id s et es:=hM.dF id _ hm;cases ha with
     | @oe _ _ _ g hg=>
      cases hx with
      |pv hx=>
       have Lr:=hx;cases hx with
       | @agg _ xs g1 g2 g3=>
        obtain⟨a1,a2,a3,a4,a5,a6,a7⟩:=hA;rw[hg]at a7;obtain⟨c,T,c1,c2,c3,c4,c5⟩:=a7;have hle:es.length*s≤c.size:=anW (amt _ c3) c2;have GX:xs.size=es.length*s:=by omega
        have eO:aW E.P t≠0:=by omega
        have hl1:=hl.1;have hi:=lA (P:=E.P) (t:=t) eO;have hcz:(Value.agg xs).cells.size=aW E.P t:=by simp[Value.cells];omega
        refine⟨w.setRow g (bN c.toList 0 xs.toList).toArray,μ,?_,fun _ _ h=>h,hM.write hm rfl hg (lr.setRow (anz _)) setRow_size (fun k hk=>cm hk) ?_ rfl (fun j hj=>by simp[bI.names]at hj)⟩
        ·rw[show 0*(φ id).sz+0=0 by omega];exact gC hcz hi c1 (by omega) (fun i y hy=>g3 i y hy)
        ·have I5:∀(i:Nat)(x:Value),i<es.length*s→(bN c.toList 0 xs.toList).toArray[i]?=some x→xs[i]?=some x:=fun i x hi hx=>by
          rw[aoa]at hx;rcases dw (by simp;omega) hx with⟨b1,b2,b3⟩|⟨b1,b2⟩
          ·simpa using b3
          grind
         refine⟨by rw[a1];simp[pX],a2,a3,a4,fun i e he=>?_,a6,?_⟩
         ·obtain⟨_,rfl⟩:=BJ he;exact vr
         ·rw[hg];refine⟨_,T,setRow_heap w g c _ T (0,0) c1,?_,?_,fun i e j q x he hq hx=>?_,fun i x hi hx=>?_⟩
          ·simp_all[aoC,cM,Value.cells]
          ·simpa[pX]using c3
          ·obtain⟨x',x1,x2,_⟩:=J2 (k:=i*s+j) Lr (by omega) he hq rfl;grind
          grind [pX]
   ·cases h
  rename_i hwn;split at h
  ·rename_i p m1 hf;obtain⟨f1,f2,f3⟩:=NL hf;split at h
   ·rename_i s et es hm;obtain⟨e,he,h⟩:=AI.1 h;have key:∀q,0<aW E.P t→off+aW E.P t≤s→(p.cells.length=aW E.P t→e.cells.length=s→q.cells=bN (aM s e) off p.cells)→∀(G:Nat→Option (List PV))(w0:bl)(μ:Ro)(φ:Nat→aK)(w:World)(ya yx:Value),aG E.P G w0 μ φ m w→aq E.P μ φ (.oe id i off) ya→aq E.P μ φ x yx→(∀id,x.has id=true→(m id).isSome=true)→∃w' μ',(Instr.storeAt t ya yx).run E.P w=.ok () w'∧(∀b o,μ b=some o→μ' b=some o)∧aG E.P G w0 μ' φ (aB m1 id (.arr s et (es.set i q))) w':=by
     intro q hz hb hq G w0 μ φ w ya yx hM ha hx _;obtain⟨μ',g1,g2,g3⟩:=f3 _ _ _ _ _ _ _ hM hx;cases ha with
     | @oe _ _ _ g hg=>have hA:aP E.P μ' φ w id s et es:=g2.dF id _ hm;have F9:=hq g3.len (hA.2.2.2.2.1 i e he);obtain⟨c,T,hh,oB,AN⟩:=hA.set hg he g3 hb F9;have n9:(φ id).sz=s:=hA.2.1;have hi:=lA (P:=E.P) (t:=t) (by omega);refine⟨_,μ',?_,g1,g2.write hm rfl hg (lr.setRow (anz _)) setRow_size (fun k hk=>cm hk) AN rfl fun j hj=>by simp[bI.names]at hj⟩;rw[n9];exact gC g3.size hi hh oB g3.one
    split at h
    ·rename_i hb;refine⟨_,_,h,fun hd=>?_,f1.trans .set,key p (by omega) (by omega) fun h1 h2=>?_⟩
     ·obtain⟨rfl,f4⟩:=f2 hd;refine⟨id,_,rfl,rfl,fun m2 cQ R' k'=>?_⟩;simp_all[vj,anC,BY]
     simp_all[ek,bj]
    ·rename_i hnb;split at h
     ·rename_i hb;refine⟨_,_,h,fun hd=>?_,f1.trans .set,key _ (by omega) (by omega) fun _ _=>rfl⟩;obtain⟨rfl,f4⟩:=f2 hd;refine⟨id,_,rfl,rfl,fun m2 cQ R' k'=>?_⟩;simp_all[vj,anC,IT,BY]
     ·cases h
   ·rename_i s et es hm;obtain⟨e,he,h⟩:=AI.1 h;split at h
    ·rename_i hb;refine⟨_,_,h,fun hd=>?_,f1.trans .set,fun G w0 μ φ w ya yx hM ha hx _=>?_⟩
     ·obtain⟨rfl,f4⟩:=f2 hd;refine⟨id,_,rfl,rfl,fun m2 cQ R' k'=>?_⟩;simp_all[vj,anC,BY]
     ·obtain⟨μ',g1,g2,g3⟩:=f3 _ _ _ _ _ _ _ hM hx;cases ha with
      | @oe _ _ _ g hg=>have hA:bg E.P μ' φ w id s et es:=g2.dF id _ hm;obtain⟨c,T,hh,oB,AN,hrw⟩:=bg.set (q:=.agg (bN (aM s e) off p.cells)) hA (g2.apart id _ hm) hg he g3 hb.1 rfl;have n9:(φ id).sz=s:=hA.2.1;have hi:=lA (P:=E.P) (t:=t) (by omega);refine⟨_,μ',?_,g1,g2.write hm rfl hg (lr.setRow (anz _)) setRow_size (fun k hk=>cm hk) AN rfl (fun j hj=>by simp[bI.names]at hj) (fun st h=>by cases h) hrw⟩;rw[n9];exact gC g3.size hi hh oB g3.one
    ·cases h
   ·cases h
  ·cases h
 ·rename_i id i off s j off2;split at h
  ·rename_i p m1 hf;split at h
   ·rename_i s0 et es hm;obtain⟨e,he,h⟩:=AI.1 h;obtain⟨rs,hr,h⟩:=AI.1 h;obtain⟨q,hq,h⟩:=AI.1 h;split at h
    ·rename_i hb;refine⟨_,_,h,fun _=>⟨id,_,rfl,rfl,fun m2 cQ R' k'=>?_⟩,.set,fun G w0 μ φ w ya yx hM ha hx _=>?_⟩
     ·simp_all[vj,anC,BY]
     ·have hE:=CL hf E.P μ φ yx hx;have hN:bg E.P μ φ w id s0 et es:=hM.dF id _ hm;obtain⟨g,y,hg,CM,⟨⟨I4,hA⟩,hV⟩,Xr⟩:=hN.row he hr;have F8:=hM.apart id _ hm;have mT:(bI.nest s0 et es).rowAt i off=true:=by rw[dK he Xr];rfl
      have GY:=hN.2.2.2.2.1 i e he;have XA:(setRow s0 e off (.jr s (rs.set j (setCells s q off2 (aW E.P t) p)))).cells=e.cells.set off (.jr s (rs.set j (setCells s q off2 (aW E.P t) p))):=Lq GY hb.2.2 (by simp);cases ha with
      | @Cv _ _ _ _ _ _ g' cV hs=>
       obtain⟨cy,amQ⟩:=F8 i off g' mT cV;obtain⟨c,T,hh,oB,AN⟩:=hA.set (g:=g') cV hq hE hb.1 (GW hE.len (hA.2.2.2.2.1 j q hq));have hi:=lA (P:=E.P) (t:=t) (by omega);refine⟨_,μ,gC hE.size hi hh oB hE.one,fun _ _ h=>h,hM.Xx hm rfl (.inr ⟨i,off,mT,cV⟩) (lr.setRow (anz _)) setRow_size (fun k hk=>cm hk) ?_ rfl (fun j hj=>by simp[bI.names]at hj) ?_⟩
       ·refine bg.change hN (by simp) (fun i' e' h'=>?_) rfl (fun g0 Qy=>cm fun e=>cy (by rw[←e];omega)) (fun i' e' j' p' g0 c0 _ x' h' wv Qy hc0 Lr hold=>?_)
        ·rcases eV h' with⟨_,rfl⟩|⟨_,h'⟩
         ·grind
         ·exact hN.2.2.2.2.1 i' e' h'
        ·have other:∀e'' p'',es[i']?=some e''→e''.cells[j']?=some p''→(i',j')≠(i,off)→eH E.P μ ((φ id).row i' j') (w.setRow g' (bN c.toList (j*s+off2) yx.cells.toList).toArray) p'' x':=fun e'' p'' h1 h2 h3=>(hold e'' p'' h1 h2).cG (fun _ _ h=>h) fun yt g'' am3=>cm fun e=>by grind [dK]
         rcases eV h' with⟨rfl,rfl⟩|⟨hni,h'⟩
         ·rw[XA]at wv;rcases eV wv with⟨rfl,rfl⟩|⟨hnj,wv⟩
          ·have UJ:fb E.P μ ((φ id).row i' j') w s rs x':=hold e _ he Xr;refine⟨⟨I4,AN⟩,?_⟩;exact UJ.2
          grind
         grind
       ·intro i' xg yt;rcases kR yt with⟨_,_,_,e',s',rs',j4,h',wv⟩|⟨_,_,_,_,_,_,j4,_⟩
        ·simp only[bI.nest.injEq]at j4;obtain⟨rfl,rfl,rfl⟩:=j4;rcases eV h' with⟨rfl,rfl⟩|⟨hni,h'⟩
         ·rw[XA]at wv;rcases eV wv with⟨rfl,_⟩|⟨hnj,wv⟩
          ·omega
          ·rw[dK he wv];rfl
         ·rw[dK h' wv];rfl
        ·cases j4
    ·cases h
   ·cases h
  ·cases h
 ·cases h
end
structure Cells(P:Program)(μ:Ro)(sz:Nat)(es:List PV)(xs:List Value):Prop where
 len:xs.length=es.length*sz
 each:∀(i:Nat)e,es[i]?=some e→e.cells.length=sz
 rep:∀(i:Nat)e(j:Nat)p y,es[i]?=some e→e.cells[j]?=some p→xs[i*sz+j]?=some y→au P μ p y
 one:∀(i:Nat)y,xs[i]?=some y→y.oneCell'=true
section
variable {P:Program} {μ μ':Ro} {φ:Nat→aK} {w:World} {sz:Nat} {es es':List PV} {xs xs':List Value}
theorem Cells.nil:Cells P μ sz [] []:=⟨by simp,by simp,by simp,by simp⟩
theorem Cells.mono(h:Cells P μ sz es xs)(hμ:∀b o,μ b=some o→μ' b=some o):Cells P μ' sz es xs:=⟨h.len,h.each,fun i e j p y h1 h2 h3=>(h.rep i e j p y h1 h2 h3).mono hμ,h.one⟩
theorem GZ{i j n:Nat}(hi:i<n)(hj:j<sz):i*sz+j<n*sz:=by have:(i+1)*sz≤n*sz:=amt _ hi;grind
theorem Cells.append(h:Cells P μ sz es xs)(h':Cells P μ sz es' xs'):Cells P μ sz (es++es') (xs++xs'):=by
 refine⟨by simp[h.len,h'.len,aoo],fun i e hi=>?_,fun i e j p y hi hj hy=>?_,fun i y hy=>?_⟩
 ·rw[an6]at hi;split at hi
  ·exact h.each i e hi
  ·exact h'.each _ e hi
 ·rw[an6]at hi hy;split at hi
  ·rename_i hl;have yD:j<sz:=by rw[←h.each i e hi];grind
   rw[BY (by rw[h.len];exact GZ hl yD)]at hy;exact h.rep i e j p y hi hj hy
  ·rename_i hl;have hle:es.length*sz≤i*sz:=amt _ (by omega);rw[IT (by rw[h.len];omega)]at hy;refine h'.rep _ e j p y hi hj ?_;rw[←hy,h.len,Nat.sub_mul];congr 1;omega
 ·rw[an6]at hy;split at hy
  ·exact h.one i y hy
  ·exact h'.one _ y hy
theorem Cells.take(h:Cells P μ sz es xs)(n:Nat):Cells P μ sz (es.take n) (xs.take (n*sz)):=by refine⟨?_,fun i e hi=>h.each i e (iQ hi).2,fun i e j p y hi hj hy=>h.rep i e j p y (iQ hi).2 hj (iQ hy).2,fun i y hy=>h.one i y (iQ hy).2⟩;rw[an9,an9,h.len];simp
theorem Cells.drop(h:Cells P μ sz es xs)(n:Nat):Cells P μ sz (es.drop n) (xs.drop (n*sz)):=by refine⟨by simp[h.len,Nat.sub_mul],fun i e hi=>h.each _ e (wo hi),fun i e j p y hi hj hy=>h.rep _ e j p y (wo hi) hj ?_,fun i y hy=>h.one _ y (wo hy)⟩;grind
variable{id:Nat}{et:TypeId}
theorem aP.cells(hA:aP P μ φ w id sz et es){g:Nat}(hg:(φ id).g=some g):∃(c:Array Value)(T:TypeId),w.heap[g]?=some (.cells c T (0,0))∧(φ id).cap*sz≤c.size∧es.length≤(φ id).cap∧es.length*sz≤c.size∧Cells P μ sz es (c.toList.take (es.length*sz)):=by
 obtain⟨a1,a2,a3,a4,a5,a6,a7⟩:=hA;rw[hg]at a7;obtain⟨c,T,c1,c2,c3,c4,c5⟩:=a7;have hle:es.length*sz≤c.size:=anW (amt _ c3) c2;refine⟨c,T,c1,c2,c3,hle,by simp;omega,a5,fun i e j p y hi hj hy=>?_,fun i y hy=>?_⟩
 ·grind
 grind
theorem aP.re{g:Nat}{T:TypeId}{c:Array Value}(hph:(φ id).toEX=⟨some g,(φ id).cap,es.length,sz⟩)(n9:sz=aW P et)(eO:0<sz)(su:(φ id).cap≤maxLen)(hh:w.heap[g]?=some (.cells c T (0,0)))(hc:(φ id).cap*sz≤c.size)(hle:es.length≤(φ id).cap)(hC:Cells P μ sz es (c.toList.take (es.length*sz))):aP P μ φ w id sz et es:=by
 have e1:(φ id).g=some g:=by rw[hph]
 refine⟨by rw[hph],by rw[hph],n9,eO,hC.each,su,?_⟩;rw[e1];have yD:∀(i:Nat)e(j:Nat)p,es[i]?=some e→e.cells[j]?=some p→i*sz+j<es.length*sz:=fun i e j p hi hj=>GZ (IN.1 hi).1 (by rw[←hC.each i e hi];grind);refine⟨c,T,hh,hc,hle,fun i e j p x hi hj hx=>?_,fun i x hi hx=>?_⟩
 ·exact hC.rep i e j p x hi hj (by grind)
 ·exact hC.one i x (by grind)
inductive Bb(P:Program)(μ:Ro)(w:World)(sz:Nat)(es:List PV):Value→Prop
 |none:es=[]→Bb P μ w sz es (.slice none 0 0)
 |some {a:Addr} {c:Nat} (xs:List Value):Cells P μ sz es xs→(∀(j:Nat)v,xs[j]?=some v→w.cell? (a.add j)=some v)→es.length≤c→c≤maxLen→Bb P μ w sz es (.slice (some a) es.length c)
theorem aP.src(hA:aP P μ φ w id sz et es){g:Nat}(hg:(φ id).g=some g){lo len cap:Nat}(hl:lo+len≤es.length)(Lt:len≤cap)(am4:lo+cap≤(φ id).cap):Bb P μ w sz ((es.drop lo).take len) (.slice (some ⟨g,lo*sz,none⟩) len cap):=by
 obtain⟨c,T,c1,c2,c3,c4,c5⟩:=hA.cells hg;have su:=hA.q9;have hlen:((es.drop lo).take len).length=len:=by simp;omega
 have:=Bb.some (P:=P) (μ:=μ) (w:=w) (sz:=sz) (es:=(es.drop lo).take len) (a:=⟨g,lo*sz,none⟩) (c:=cap) _ ((c5.drop lo).take len) (fun j v hv=>?_) (by omega) (by omega)
 ·simp_all
 grind [iQ,wo,Addr.add_mid,dB]
end
section
variable {R:Type} {E:Env}
theorem au.src{P:Program}{G:Nat→Option (List PV)}{w0:bl}{μ:Ro}{φ:Nat→aK}{m:Mem}{w:World}{sz:Nat}{es:List PV}{y:Value}(hM:aG P G w0 μ φ m w)(h:au P μ (.rs sz es) y):Bb P μ w sz es y:=by
 cases h with
 |lV=>exact .none rfl
 |M9 hc=>exact .some (es:=[]) [] .nil (by simp) (by simp) hc
 | @rs _ _ b o cap X h1 h2 h3 h4 h5 h6=>
  by_cases hz:sz=0
  ·subst hz;refine .some [] ⟨by simp,h3,fun i e j p y hi hj=>?_,by simp⟩ (by simp) h1 h2;simp
  ·have eE:∀k v,((List.range (es.length*sz)).map fun k=>X (k/sz) (k%sz))[k]?=some v→∃(e:PV)(p:PV),es[k/sz]?=some e∧e.cells[k%sz]?=some p∧v=X (k/sz) (k%sz):=by
    intro k v hk;have bK:k<es.length*sz:=by grind
    rw[AT,apD bK]at hk;simp at hk;have hi:k/sz<es.length:=(Nat.div_lt_iff_lt_mul (by omega)).2 bK;have hj:k%sz<(es[k/sz]).cells.length:=by rw[h3 _ _ (ta hi)];exact aqF _ (by omega)
    simp_all
   refine .some ((List.range (es.length*sz)).map fun k=>X (k/sz) (k%sz)) ⟨by simp,h3,fun i e j p y hi hj hy=>?_,fun k v hk=>?_⟩ (fun k v hk=>?_) h1 h2
   ·obtain⟨e',p',he,hp,rfl⟩:=eE _ _ hy;have yD:j<sz:=by grind
    have e1:(i*sz+j)/sz=i:=by rw[apO,Nat.mul_add_div (by omega),Nat.div_eq_of_lt yD];rfl
    simp_all[apO,Nat.mul_add_mod,Nat.mod_eq_of_lt]
   ·grind
   ·obtain⟨e',p',he,hp,rfl⟩:=eE _ _ hk;rw[Addr.add_mid];have:=hM.cellAt (h4 _ e' _ p' he hp);rw[←this];simp[congr,aol,Nat.div_add_mod']
theorem qe{m:Mem}{sz:Nat}{x:V}{es:List PV}{ft:bx}(h:fM m sz x=some (es,ft)):(∀m2:Mem,(∀x∈ft,m2 x.2=m x.2)→fM m2 sz x=some (es,ft))∧(∀x∈ft,x.1=false)∧∀(P:Program)(G:Nat→Option (List PV))(w0:bl)(μ:Ro)(φ:Nat→aK)(w:World)(y:Value),aG P G w0 μ φ m w→aq P μ φ x y→Bb P μ w sz es y:=by
 unfold fM at h;split at h
 ·rename_i s es';split at h
  ·rename_i hs;simp only[tb,T0]at h;obtain⟨rfl,rfl⟩:=h;subst hs;exact⟨fun m2 _=>by simp[fM],by simp,fun P G w0 μ φ w y hM hy=>by cases hy with|pv hy=>exact hy.src hM⟩
  ·split at h
   ·simp only[tb,T0]at h;obtain⟨rfl,rfl⟩:=h;refine⟨fun m2 _=>by simp[fM],by simp,fun P G w0 μ φ w y hM hy=>?_⟩;cases hy with
    |pv hy=>cases hy with
     |lV=>exact .none rfl
     |M9 hc=>exact .some (es:=[]) [] .nil (by simp) (by simp) hc
     |rs X h1 h2=>exact .some (es:=[]) [] .nil (by simp) h1 h2
   ·cases h
 ·simp only[tb,T0]at h;obtain⟨rfl,rfl⟩:=h;exact⟨fun m2 _=>by rfl,by simp,fun P G w0 μ φ w y hM hy=>by cases hy;exact .none rfl⟩
 ·rename_i id;have key:∀(s:Nat)(et:TypeId)(es:List PV),(m id=some (.arr s et es)∨m id=some (.rE s et es))→∀(P:Program)(G:Nat→Option (List PV))(w0:bl)(μ:Ro)(φ:Nat→aK)(w:World)(y:Value),aG P G w0 μ φ m w→aq P μ φ (.os id) y→Bb P μ w s es y:=by
   intro s et es hm P G w0 μ φ w y hM hy;have hA:=hM.arr hm;cases hy with
   |ux hg=>obtain⟨a1,a2,a3,a4,a5,a6,a7⟩:=hA;rw[hg]at a7;exact .none a7.1
   |os hg=>have:=hA.src hg (lo:=0) (len:=es.length) (cap:=(φ id).cap) (by omega) (hA.q9).1 (by omega);rw[hA.1];simpa using this
  split at h
  ·rename_i s' et es' hm;split at h
   ·rename_i hs;simp only[tb,T0]at h;obtain⟨rfl,rfl⟩:=h;subst hs;exact⟨fun m2 cQ=>by have:=cQ (false,id) (by simp);simp_all[fM],by simp,key _ _ _ (.inl hm)⟩
   ·cases h
  ·rename_i s' et es' hm;split at h
   ·rename_i hs;simp only[tb,T0]at h;obtain⟨rfl,rfl⟩:=h;subst hs;exact⟨fun m2 cQ=>by have:=cQ (false,id) (by simp);simp_all[fM],by simp,key _ _ _ (.inr hm)⟩
   ·cases h
  ·cases h
 ·rename_i id lo len;have key:∀(s:Nat)(et:TypeId)(es:List PV),(m id=some (.arr s et es)∨m id=some (.rE s et es))→∀(P:Program)(G:Nat→Option (List PV))(w0:bl)(μ:Ro)(φ:Nat→aK)(w:World)(y:Value),aG P G w0 μ φ m w→aq P μ φ (.fX id lo len) y→Bb P μ w s ((es.drop lo).take len) y:=by
   intro s et es hm P G w0 μ φ w y hM hy;have hA:=hM.arr hm;have hle:=hA.q9;have G0:=hA.1;have n9:=hA.2.1;cases hy with
   |sX hg=>simp;exact .none rfl
   |fX hg hl ha hc1 Na=>
    rcases ha with rfl|⟨ha,_⟩
    ·rw[n9];exact hA.src hg (by omega) hc1 Na
    ·have h0:len=0:=by omega
     subst h0;simp only[apy];exact .some (es:=[]) [] .nil (by simp) (by simp) (by omega)
  split at h
  ·rename_i s' et es' hm;split at h
   ·rename_i hs;simp only[tb,T0]at h;obtain⟨rfl,rfl⟩:=h;subst hs;exact⟨fun m2 cQ=>by have:=cQ (false,id) (by simp);simp_all[fM],by simp,key _ _ _ (.inl hm)⟩
   ·cases h
  ·rename_i s' et es' hm;split at h
   ·rename_i hs;simp only[tb,T0]at h;obtain⟨rfl,rfl⟩:=h;subst hs;exact⟨fun m2 cQ=>by have:=cQ (false,id) (by simp);simp_all[fM],by simp,key _ _ _ (.inr hm)⟩
   ·cases h
  ·cases h
 ·rename_i id i off;split at h
  ·rename_i s0 et0 es0 hm;obtain⟨e,he,h⟩:=AI.1 h;obtain⟨rs,hr,h⟩:=AI.1 h;simp only[tb,T0]at h;obtain⟨rfl,rfl⟩:=h;refine⟨fun m2 cQ=>by have:=cQ (false,id) (by simp);simp_all[fM],by simp,fun P G w0 μ φ w y hM hy=>?_⟩;have hN:bg P μ φ w id s0 et0 es0:=hM.dF id _ hm;obtain⟨_,_,_,_,⟨⟨I4,hA⟩,_⟩,_⟩:=hN.row he hr;have hy:=hy.Qx (ν:=μ);cases hy with
   |ux hg=>obtain⟨a1,a2,a3,a4,a5,a6,a7⟩:=hA;rw[hg]at a7;exact .none a7.1
   |os hg=>have:=hA.src hg (lo:=0) (len:=rs.length) (cap:=(((φ id).row i off).up).cap) (by omega) (hA.q9).1 (by omega);rw[hA.1];simpa using this
  ·cases h
 ·cases h
end
section
variable {P:Program} {w:World}
theorem rI{t ty e:TypeId}(hu:P.underlying t=some (.slice e))(hz:aW P e≠0){base a:Option Addr}{n cap c:Nat}(hn:n≤cap):(Builtin.append_ #[t,t] ty #[.slice base n cap,.slice a 0 c]).run P w=.ok (.slice base n cap) w:=by
 obtain⟨i,hi,hs⟩:=Ak hz;have hl:∀x:Addr,(loadCells x 0).run P w=.ok #[] w:=fun x=>by rfl
 cases base<;>cases a<;>simp[Builtin.append_,run_underlying hu,sizeOf,typeInfo,hi,Builtin.lenOf,Builtin.firstCells,hn,hl,storeCells]
end
theorem D7{P:Program}{w:World}(t ty e T:TypeId)(i:TypeInfo)(ht:P.underlying t=some (.slice e))(hi:P.info? e=some i)(g QB afg:Nat)(cur:Array Value)(hg:w.heap[g]?=some (.cells cur T (0,0)))(a:Addr)(m c:Nat)(news:List Value)(hl:news.length=m*i.size)(ahl:∀j u,news[j]?=some u→w.cell? (a.add j)=some u)(h1:∀u∈news,u.oneCell'=true)(cr:QB+m≤afg)(oB:QB*i.size+news.length≤cur.size):(Builtin.append_ #[t,t] ty #[.slice (some ⟨g,0,none⟩) QB afg,.slice (some a) m c]).run P w=.ok (.slice (some ⟨g,0,none⟩) (QB+m) afg) (w.setRow g (cur.toList.take (QB*i.size)++news++cur.toList.drop (QB*i.size+news.length)).toArray):=by have hf:=run_firstCells_some (P:=P) w i.size m a m c news hl ahl;have gw:=run_storeCells_at P g (QB*i.size) T news 0 cur w hg (by omega) h1;simp only[apn]at gw;simp[Builtin.append_,run_underlying ht,sizeOf,typeInfo,hi,Builtin.lenOf,cr,hf,Addr.add_mid,gw]
section
variable {R:Type} {E:Env}
variable{t:TypeId}
theorem J3{P:Program}{i:TypeInfo}(hi:P.info? t=some i):i.bytes=Jb P t∧i.size=aW P t:=by simp[Jb,aW,hi]
theorem G1{P:Program}{e ty:TypeId}{sz len n:Nat}{z:Value}{i:TypeInfo}(hu:P.underlying t=some (.slice e))(hi:P.info? e=some i)(hzv:i.zero=some z)(SI:z.cells.size=sz)(n9:sz=aW P e)(eO:0<aW P e)(hby:0<Jb P e)(cr:(len+n)*Jb P e≤aa){w:World}{ys yx:Value}{os xs:List Value}(hs:(ys=.slice none 0 0∧len=0∧os=[])∨∃(g cap:Nat)(c:Array Value)(T:TypeId),ys=.slice (some ⟨g,0,none⟩) len cap∧w.heap[g]?=some (.cells c T (0,0))∧cap*sz≤c.size∧len≤cap∧cap≤maxLen∧os=c.toList.take (len*sz))(hx:(yx=.slice none 0 0∧n=0∧xs=[])∨∃(a:Addr)(cx:Nat),yx=.slice (some a) n cx∧xs.length=n*sz∧(∀(j:Nat)v,xs[j]?=some v→w.cell? (a.add j)=some v)∧(∀v∈xs,v.oneCell'=true)∧n≤cx∧cx≤maxLen):∃w' y,(Builtin.append_ #[t,t] ty #[ys,yx]).run P w=.ok y w'∧((y=.slice none 0 0∧w'=w∧len=0∧n=0)∨∃(g cap:Nat)(c:Array Value)(T:TypeId),y=.slice (some ⟨g,0,none⟩) (len+n) cap∧w'.heap[g]?=some (.cells c T (0,0))∧cap*sz≤c.size∧len+n≤cap∧cap≤maxLen∧c.toList.take ((len+n)*sz)=os++xs∧((∃acP,ys=.slice (some ⟨g,0,none⟩) len acP∧lr g w w'∧∀k,k≠g→w'.heap[k]?=w.heap[k]?)∨(g=w.heap.size∧w'=w.drew.alloc (.cells c e)))):=by
 obtain⟨hib,his⟩:=J3 hi;have ala:len+n≤140737488355328:=by have:(len+n)*1≤(len+n)*Jb P e:=aoV _ hby;grind [aa]
 have am5:len+n≤maxLen:=by simp only[maxLen];omega
 have WM:∀n,(Builtin.zeroCells z.cells n).size=n*sz:=fun n=>by rw[size_zeroCells,SI]
 rcases hs with⟨rfl,rfl,rfl⟩|⟨g,cap,c,T,rfl,g4,g5,g6,g7,rfl⟩
 ·rcases hx with⟨rfl,rfl,rfl⟩|⟨a,cx,rfl,GV,GX,hx1,hcx,UK⟩
  ·exact⟨w,_,rI hu (by omega) (anz _),.inl ⟨rfl,rfl,rfl,rfl⟩⟩
  ·by_cases h0:n=0
   ·subst h0;exact⟨w,_,rI hu (by omega) (anz _),.inl ⟨rfl,rfl,rfl,rfl⟩⟩
   ·have hr:=run_append_nil (P:=P) w t ty e i z hu hi hzv a n cx xs (by rw[GV,n9,his]) GX (by omega) (by omega) (by simp only[aa,aoy]at cr;rw[hib];omega);have G2:=grownCap_ge w n 0 e;refine⟨_,_,hr,.inr ⟨w.heap.size,grownCap w n 0 e,xs.toArray++Builtin.zeroCells z.cells (grownCap w n 0 e-n),e,by simp,fV w.drew _,?_,by omega,grownCap_le_maxLen w _ 0 e (by omega),?_,.inr ⟨rfl,rfl⟩⟩⟩
    ·rw[aqg,WM];simp only[aoC,GV,←aoo];simp_all
    simp_all
 ·have h1:(c.toList.take (len*sz)).length=len*sz:=by have:len*sz≤cap*sz:=amt _ g6;simp;omega
  rcases hx with⟨rfl,rfl,rfl⟩|⟨a,cx,rfl,GV,GX,hx1,hcx,UK⟩
  ·exact⟨w,_,rI hu (by omega) g6,.inr ⟨g,cap,c,T,rfl,g4,g5,by omega,g7,by simp,.inl ⟨cap,rfl,lr.refl _ _,fun _ _=>rfl⟩⟩⟩
  ·by_cases SJ:len+n≤cap
   ·have oB:len*i.size+xs.length≤c.size:=by rw[his,←n9,GV,←aoo];exact anW (amt _ SJ) g5
    have hr:=D7 (P:=P) (w:=w) t ty e T i hu hi g len cap c g4 a n cx xs (by rw[GV,n9,his]) GX hx1 SJ oB;rw[his,←n9]at hr oB;refine⟨_,_,hr,.inr ⟨g,cap,_,T,rfl,setRow_heap w g c _ T (0,0) g4,?_,SJ,g7,?_,.inl ⟨cap,rfl,lr.setRow (anz _),fun k hk=>cm hk⟩⟩⟩
    ·grind
    grind [List.take_left',List.length_append,Nat.add_mul]
   ·have hr:=run_append_grow (P:=P) w t ty e i z hu hi hzv ⟨g,0,none⟩ len cap (c.toList.take (len*sz)) (by rw[h1,n9,his]) (fun j v hj=>by
      grind [Addr.add_mid,dB,iQ]) a n cx xs (by rw[GV,n9,his]) GX (by omega) (by omega)
     (growslice_fits (by omega) (by simp_all[aa]))
    have G2:=grownCap_ge w (len+n) cap e;refine⟨_,_,hr,.inr ⟨w.heap.size,_,_,e,rfl,fV w.drew _,?_,G2,grownCap_le_maxLen w _ cap e (by omega),?_,.inr ⟨rfl,rfl⟩⟩⟩
    ·rw[aqg,aqg,WM];simp only[aoC,GV,h1,←aoo];simp_all
    grind [Array.toList_append,List.take_left',List.length_append,Nat.add_mul]
theorem G3{e ty:TypeId}{sz:Nat}{es new:List PV}{z:List V}(hu:E.P.underlying t=some (.slice e))(hz:da E e=some z)(n9:sz=aW E.P e)(eO:0<aW E.P e)(hby:0<Jb E.P e)(cr:(es++new).length*Jb E.P e≤aa){G:Nat→Option (List PV)}{w0:bl}{μ:Ro}{φ:Nat→aK}{m:Mem}{w:World}{ρ:Nat→Value}{f:Fr}{draw:Bool}{site:Nat}(hM:aG E.P G w0 μ φ m w)(hF:b9 E.P μ φ m f ρ){ys yx:Value}(hx:Bb E.P μ w sz new yx)(hs:(ys=.slice none 0 0∧es=[])∨∃(g cap:Nat)(c:Array Value)(T:TypeId),ys=.slice (some ⟨g,0,none⟩) es.length cap∧(w0.heap.size≤g∧w0.hid g=none)∧μ g=none∧(∀id b',m id=some b'→¬b'.owns (φ id) g)∧w.heap[g]?=some (.cells c T (0,0))∧cap*sz≤c.size∧es.length≤cap∧cap≤maxLen∧es.length*sz≤c.size∧Cells E.P μ sz es (c.toList.take (es.length*sz))){f':Fr}{m':Mem}(xh:∀(P:Program)(G:Nat→Option (List PV))(w0:bl)(μ:Ro)(φ:Nat→aK)(w w':World)(ρ:Nat→Value)(ph:aK),aG P G w0 μ φ m w→b9 P μ φ m f ρ→lW P w0 μ φ m w w' site (.arr sz e (es++new)) ph→∃φ',φ' site=ph∧aG P G w0 μ φ' m' w'∧b9 P μ φ' m' f' ρ):∃w' y φ',(Builtin.append_ #[t,t] ty #[ys,yx]).run E.P w=.ok y w'∧aG E.P G w0 μ φ' m' w'∧b9 E.P μ φ' m' f' ρ∧aq E.P μ φ' (.os site) y:=by
 obtain⟨i,zv,hi,hzv,his,_,SI,_,_,_⟩:=dC hz;have WN:(es++new).length=es.length+new.length:=by simp
 obtain⟨os,hos,hC⟩:∃os,((ys=.slice none 0 0∧es.length=0∧os=[])∨∃(g cap:Nat)(c:Array Value)(T:TypeId),ys=.slice (some ⟨g,0,none⟩) es.length cap∧w.heap[g]?=some (.cells c T (0,0))∧cap*sz≤c.size∧es.length≤cap∧cap≤maxLen∧os=c.toList.take (es.length*sz))∧Cells E.P μ sz es os:=by
  rcases hs with⟨h1,rfl⟩|⟨g,cap,c,T,h1,h2,h3,h4,h5,h6,h7,h8,h9,UF⟩
  ·exact⟨[],.inl ⟨h1,rfl,rfl⟩,.nil⟩
  grind
 obtain⟨xs,GX,hCx⟩:∃xs,((yx=.slice none 0 0∧new.length=0∧xs=[])∨∃(a:Addr)(cx:Nat),yx=.slice (some a) new.length cx∧xs.length=new.length*sz∧(∀(j:Nat)v,xs[j]?=some v→w.cell? (a.add j)=some v)∧(∀v∈xs,v.oneCell'=true)∧new.length≤cx∧cx≤maxLen)∧Cells E.P μ sz new xs:=by
  cases hx with
  |none hn=>subst hn;exact⟨[],.inl ⟨rfl,rfl,rfl⟩,.nil⟩
  | @some a cx xs hC GX hcx UK=>exact⟨xs,.inr ⟨a,cx,rfl,hC.len,GX,fun u hu=>by obtain⟨j,hj⟩:=aok hu;exact hC.one j u hj,hcx,UK⟩,hC⟩
 obtain⟨w',y,hr,NN⟩:=G1 (ty:=ty) hu hi hzv (by omega) n9 eO hby (by simp_all) hos GX;rcases NN with⟨rfl,rfl,h1,h2⟩|⟨g',FT,c',T',rfl,b1,b2,b3,b4,b5,b6⟩
 ·have h1:es=[]:=anF h1;have h2:new=[]:=anF h2;obtain⟨φ',a1,a2,a3⟩:=xh E.P G w0 μ φ w' w' ρ (EY none 0 0 sz) hM hF ⟨lr.refl _ _,hM.ro,fun _ _ _ _ _=>rfl,by simp,fun φ' hp _=>by refine⟨by rw[hp,h1,h2];rfl,by rw[hp],n9,by omega,by rw[h1,h2];simp,by rw[hp];simp[maxLen],?_⟩;simp_all,by simp[bI.names],fun g o h=>⟨(hM.hid g o h).1,by simp⟩,fun st h=>by cases h⟩;exact⟨w',_,φ',hr,a2,a3,.ux (by rw[a1])⟩
 ·have hCC:Cells E.P μ sz (es++new) (c'.toList.take ((es++new).length*sz)):=by rw[WN,b5];exact hC.append hCx
  have fin:∀(φ':Nat→aK),φ' site=EY (some g') FT (es++new).length sz→aq E.P μ φ' (.os site) (.slice (some ⟨g',0,none⟩) (es.length+new.length) FT):=fun φ' a1=>by have:=aq.os (P:=E.P) (μ:=μ) (φ:=φ') (id:=site) (g:=g') (by rw[a1]);simp_all
  rcases b6 with⟨acP,WO,b6,b7⟩|⟨rfl,rfl⟩
  ·rcases hs with⟨h1,_⟩|⟨g,cap,c,_,h1,h2,h3,h4,_⟩
   ·rw[WO]at h1;cases h1
   rw[WO]at h1;simp only[Value.slice.injEq,tb,Addr.mk.injEq]at h1;obtain⟨⟨rfl,_⟩,_⟩:=h1;obtain⟨φ',a1,a2,a3⟩:=xh E.P G w0 μ φ w w' ρ (EY (some g') FT (es++new).length sz) hM hF ⟨b6.mono h2.1,fun k o hk=>by rw[b7 k (fun e=>by simp_all)];exact hM.ro k o hk,fun id b' g' hid cV=>b7 g' (fun e=>by simp_all),fun g' cV=>by simp_all,fun φ' hp _=>aP.re (by rw[hp]) n9 (by omega) (by rw[hp];omega) b1 (by rw[hp];omega) (by rw[hp,WN];omega) hCC,by simp[bI.names],fun g o h=>(by
    have cy:g≠g':=fun e=>by subst e;rw[h2.2]at h;cases h
    exact⟨(b7 g cy).trans (hM.hid g o h).1,fun e=>by cases e;exact cy rfl⟩),fun st h=>by cases h⟩
   grind
  ·obtain⟨φ',a1,a2,a3⟩:=xh E.P G w0 μ φ w.drew _ ρ (EY (some w.heap.size) FT (es++new).length sz) hM.drew hF (lW.alloc (o:=.cells c' e) hM.drew rfl (fun φ' hp _=>aP.re (g:=w.heap.size) (by rw[hp]) n9 (by omega) (by rw[hp];omega) (fV w.drew _) (by rw[hp];omega) (by rw[hp,WN];omega) hCC) (by simp[bI.names]));grind
end
section
variable {R:Type} {E:Env}
theorem QC{draw:Bool}{site:Nat}{t t':TypeId}{s x:V}{f:Fr}{m:Mem}{k:V→Fr→Mem→Option R}{r:R}(h:CB E draw site t t' s x f m k=some r):draw=false∧t'=t∧∃place f' m',k (.os place) f' m'=some r∧(m' place).isSome=true∧∀(G:Nat→Option (List PV))(w0:bl)(μ:Ro)(φ:Nat→aK)(w:World)(ρ:Nat→Value)(ys yx:Value)(ty:TypeId),aG E.P G w0 μ φ m w→b9 E.P μ φ m f ρ→aq E.P μ φ s ys→aq E.P μ φ x yx→∃w' y φ',(Builtin.append_ #[t,t] ty #[ys,yx]).run E.P w=.ok y w'∧aG E.P G w0 μ φ' m' w'∧b9 E.P μ φ' m' f' ρ∧aq E.P μ φ' (.os place) y:=by
 unfold CB at h;split at h
 ·cases h
 ·rename_i hd;simp only[anH,ap8,aor,aop,te,Bool.not_eq_eq_eq_not,ag0,anM]at hd;refine⟨hd.1,by simpa using hd.2,?_⟩;split at h
  ·rename_i e hu;split at h
   ·cases h
   ·rename_i hz;obtain⟨z,hz⟩:∃z,da E e=some z:=by
     cases hq:da E e with
     |none=>simp[hq]at hz
     |some z=>simp
    split at h
    ·rename_i new ft GY;obtain⟨_,_,AO⟩:=qe GY;split at h
     ·split at h
      ·rename_i hb;obtain⟨f',m',_,hk,yI,_,xh⟩:=ck h;refine⟨_,f',m',hk,by simp[yI],fun G w0 μ φ w ρ ys yx ty hM hF hs hx=>?_⟩;cases hs;exact G3 (es:=[]) (draw:=false) hu hz rfl hb.2.2 hb.2.1 (by simpa using hb.1) hM hF (AO _ _ _ _ _ _ _ hM hx) (.inl ⟨rfl,rfl⟩) xh
      ·cases h
     ·rename_i id;split at h
      ·rename_i sz et es hm;split at h
       ·rename_i hc;obtain⟨rfl,rfl,am6⟩:=hc;split at h
        ·rename_i hb;obtain⟨f',m',_,hk,yI,_,xh⟩:=ck h;refine⟨_,f',m',hk,by simp[yI],fun G w0 μ φ w ρ ys yx ty hM hF hs hx=>?_⟩;have xq:=hM.forget id;have FV:=hF.forget id;have hA:aP E.P μ φ w id (aW E.P et) et es:=hM.dF id _ hm;have eO:0<aW E.P et:=hA.2.2.2.1;refine G3 (draw:=false) hu hz rfl eO hb.2 hb.1 xq FV (AO _ _ _ _ _ _ _ hM hx) ?_ xh;cases hs with
         |ux hg=>have a7:=hA.2.2.2.2.2.2;simp_all
         | @os _ g hg=>obtain⟨c,T,c1,c2,c3,c4,c5⟩:=hA.cells hg;obtain⟨o1,o2⟩:=hM.own id _ g hm (.inl hg);refine .inr ⟨g,(φ id).cap,c,T,by rw[hA.1],⟨o1,hM.aff hm (.inl hg)⟩,o2 rfl,fun j b' hj cV=>?_,c1,c2,c3,hA.q9.2,c4,c5⟩;obtain⟨cy,b2,td,rfl⟩:=fS hj;exact cy (hM.inj j id b2 _ g td hm (fU.1 cV) (.inl hg))
        ·cases h
       ·cases h
      ·cases h
     ·cases h
    ·cases h
  ·cases h
theorem Lu{P:Program}{w:World}{dT ty elem:TypeId}{ts:List TypeId}{g ahm dCap:Nat}{c:Array Value}{T:TypeId}{sz:Nat}{es new:List PV}{μ:Ro}{yx:Value}(hu:P.underlying dT=some (.slice elem))(n9:sz=aW P elem)(eO:0<sz)(hx:Bb P μ w sz new yx)(hg:w.heap[g]?=some (.cells c T (0,0)))(hle:es.length*sz≤c.size)(hd:ahm=es.length)(hC:Cells P μ sz es (c.toList.take (es.length*sz))):∃c':Array Value,(Builtin.copy_ (dT::ts).toArray ty #[.slice (some ⟨g,0,none⟩) ahm dCap,yx]).run P w=.ok (goInt ((min new.length es.length:Nat):Int)) (w.setRow g c')∧c'.size=c.size∧Cells P μ sz (new.take es.length++es.drop new.length) (c'.toList.take ((new.take es.length++es.drop new.length).length*sz)):=by
 subst hd;obtain⟨i,hi,hs⟩:=Ak (P:=P) (t:=elem) (by omega);have hnl:(new.take es.length++es.drop new.length).length=es.length:=by simp;omega
 rw[hnl];cases hx with
 |none hn=>subst hn;refine⟨c,?_,rfl,by simpa using hC⟩;have:=setRow_self w g c T (0,0) hg;rw[this];simp[Builtin.copy_,run_underlying hu,Builtin.lenOf,Builtin.firstCells,sizeOf,typeInfo,hi,storeCells]
 | @some a cx xs hX GX hcx UK=>
  have ahn:Nat.min new.length es.length=min new.length es.length:=rfl;have hl:(xs.take (min new.length es.length*sz)).length=min new.length es.length*i.size:=by rw[hs,←n9,an9,hX.len];simp
  have am7:min new.length es.length*sz≤es.length*sz:=amt _ (Nat.min_le_right _ _);have hf:=run_firstCells_some (P:=P) w i.size (min new.length es.length) a new.length cx (xs.take (min new.length es.length*sz)) hl (fun j v hj=>GX j v (iQ hj).2);have Xp:(xs.take (min new.length es.length*sz)).length=min new.length es.length*sz:=by rw[hl,hs,n9]
  have gw:=run_storeCells_at P g 0 T (xs.take (min new.length es.length*sz)) 0 c w hg (by omega) (fun v hv=>by obtain⟨j,hj⟩:=aok hv;exact hX.one j v (iQ hj).2);simp only[aoy,apy,aoT,Xp]at gw;refine⟨(xs.take (min new.length es.length*sz)++c.toList.drop (min new.length es.length*sz)).toArray,?_,?_,?_⟩
  ·have amR:Nat.min new.length es.length=min new.length es.length:=rfl;simp_all[Builtin.copy_,run_underlying,Builtin.lenOf,sizeOf,typeInfo]
  ·grind
  ·have e1:(xs.take (min new.length es.length*sz)++c.toList.drop (min new.length es.length*sz)).take (es.length*sz)=xs.take (min new.length es.length*sz)++(c.toList.take (es.length*sz)).drop (min new.length es.length*sz):=by simp_all[List.take_append,List.drop_take,anZ]
   simp only[];rw[e1];have h1:=(hX.take (min new.length es.length)).append (hC.drop (min new.length es.length));have e2:new.take (min new.length es.length)=new.take es.length:=by grind
   have e3:es.drop (min new.length es.length)=es.drop new.length:=by simp
   simp_all
theorem J4{R:Type}(m:Mem)(sz:Nat)(x:V)(k:List PV→bx→Option R):Ld m sz x k=(fM m sz x).bind fun p=>k p.1 p.2:=by
 cases x with
 |yK id i off=>simp only[Ld,fM];grind
 |_=>simp only[Ld];grind
theorem XB{t:TypeId}{d x:V}{m:Mem}{k:V→Mem→bx→Option R}{r:R}(h:Nt E t d x m k=some r):∃n id b ft,(∀m2:Mem,(∀x∈((true,id)::ft:bx),m2 x.2=m x.2)→∀(R':Type)(k':V→Mem→bx→Option R'),Nt E t d x m2 k'=k' (.pv (.int .i64 n)) (aB m2 id b) ((true,id)::ft))∧k (.pv (.int .i64 n)) (aB m id b) ((true,id)::ft)=some r∧∀(G:Nat→Option (List PV))(w0:bl)(μ:Ro)(φ:Nat→aK)(w:World)(ρ:Nat→Value)(f:Fr)(yd yx:Value)(ts:List TypeId)(ty:TypeId),aG E.P G w0 μ φ m w→b9 E.P μ φ m f ρ→aq E.P μ φ d yd→aq E.P μ φ x yx→∃w' φ',(Builtin.copy_ (t::ts).toArray ty #[yd,yx]).run E.P w=.ok (.int .i64 n) w'∧aG E.P G w0 μ φ' (aB m id b) w'∧b9 E.P μ φ' (aB m id b) f ρ∧(Lit.int .i64 n).wf=true:=by
 unfold Nt at h;split at h
 ·rename_i e hu;split at h
  ·rename_i id;split at h
   ·rename_i sz et es hm;split at h
    ·rename_i hc;rw[J4]at h;obtain⟨⟨new,ft⟩,GY,h⟩:=AI.1 h
     ·obtain⟨QD,_,AO⟩:=qe GY;refine⟨_,id,_,ft,fun m2 cQ R' k'=>?_,h,fun G w0 μ φ w ρ f yd yx ts ty hM hF hd hx=>?_⟩
      ·have h1:=cQ (true,id) (by simp);simp_all[Nt,BY,J4,anC]
      ·have hA:aP E.P μ φ w id sz et es:=hM.dF id _ hm;have hS:=AO _ _ _ _ _ _ _ hM hx;have hle:=hA.q9;have hlen:(new.take es.length++es.drop new.length).length=es.length:=by simp;omega
       have JU:(Lit.int .i64 ((min new.length es.length:Nat):Int)).wf=true:=GO (by omega);cases hd with
       |ux hg=>
        have a7:=hA.2.2.2.2.2.2;rw[hg]at a7;have h0:=a7.1;subst h0;refine⟨w,φ,?_,?_,?_,JU⟩
        ·obtain⟨i,hi,hs⟩:=Ak (P:=E.P) (t:=e) (by have:=hA.2.2.2.1;omega);have Nc:∀x:Addr,(loadCells x 0).run E.P w=.ok #[] w:=fun x=>by rfl
         cases hS with
         |none hn=>subst hn;simp[Builtin.copy_,run_underlying hu,Builtin.lenOf,Builtin.firstCells,sizeOf,typeInfo,hi,hA.1,goInt]
         |some xs hX GX hcx UK=>simp[Builtin.copy_,run_underlying hu,Builtin.lenOf,Builtin.firstCells,sizeOf,typeInfo,hi,hA.1,Nc,goInt]
        ·have:aB m id (.arr sz et (new.take ([]:List PV).length++([]:List PV).drop new.length))=m:=by
          funext j;by_cases e:j=id
          ·subst e;simp[hm]
          ·rw[aA e]
         rw[this];omega
        ·exact hF.oA (fun _ _ h=>h) .set
       | @os _ g hg=>
        obtain⟨c,T,c1,c2,c3,c4,c5⟩:=hA.cells hg;obtain⟨c',r1,r2,r3⟩:=Lu (ts:=ts) (ty:=ty) (dCap:=(φ id).cap) hu hc.1 hA.2.2.2.1 hS c1 c4 hA.1 c5;refine⟨_,φ,r1,hM.write hm rfl hg (lr.setRow (anz _)) setRow_size (fun k hk=>cm hk) ?_ rfl (by simp[bI.names]),hF.oA (fun _ _ h=>h) .set,JU⟩;refine aP.re (g:=g) ?_ hA.2.2.1 hA.2.2.2.1 hle.2 (setRow_heap w g c c' T (0,0) c1) (by omega) (by rw[hlen];omega) r3;rw[hlen,←hA.1,←hA.2.1];cases hq:(φ id).toEX with
        |mk a b c d=>simp_all
    ·cases h
   ·cases h
  ·cases h
 ·cases h
end
end Go.Ab
