import Derived.Test.YtoaknfoobjnjgaaGreatA
import Derived.Great.BuildSlice
import Derived.Laws.AppendOwn
import Derived.Laws.MakeOwn
import Derived.WideKeyRuns
import Derived.MapKept
import Derived.RangeFuncRecord
import Derived.Laws.IdiomRangeMap
set_option linter.all false
open Option renaming some→U,none→Z
open Bool renaming true→Y,false→J
open Decidable renaming decide→O
open List renaming range→I
namespace Go.Ab
open Go.RowKit (Below)
structure cR(P:Program)(μ:Ro)(φ:Nat->aT)(m:Mem)(f:Fr)(ρ:Nat->Value):Prop where
 fr:∀t,az P μ φ (f t) (ρ t)
 live:∀t id,(f t).has id=Y->(m id).isSome=Y
section
variable {P:Program} {G:Nat->Option (List PV)} {w0:bI} {μ μ':Ro} {φ φ':Nat->aT} {m m':Mem} {w w':World} {f:Fr} {ρ:Nat->Value}
def cR.mono(h:cR P μ φ m f ρ)(hμ:∀b o,μ b=U o->μ' b=U o)(hφ:∀id,(m id).isSome=Y->φ' id=φ id/\(m' id).isSome=Y):cR P μ' φ' m' f ρ:=⟨λt=>(h.fr t).mono hμ λid hid=>(hφ id (h.live t id hid)).1,λt id hid=>(hφ id (h.live t id hid)).2⟩
def iA{id j:Nat}{b:cS}(h:bO (b9 id m) id j=U b):j≠id/\∃b',m j=U b'/\b=jD id b':=by
 by_cases e:j=id
 .subst e;simp at h
 simp_all[jx,PI]
def Ct{id j:Nat}(h:j≠id)(hm:(m j).isSome=Y):(bO (b9 id m) id j).isSome=true:=by grind [jx,b9]
def cR.forget(h:cR P μ φ m f ρ)(id:Nat):cR P μ φ (bO (b9 id m) id) (ga id f) ρ:=by refine⟨λt=>(h.fr t).kill id,λt j hj=>?_⟩;have⟨h1,h2⟩:=Gx hj;exact Ct h2 (h.live t j h1)
def aR.put(hM:aR P G w0 μ φ m w){site:Nat}{b:cS}{ph:aT}(hs:m site=Z)(aam:ou w0.heap.size w w')(xN:∀k o,μ k=U o->w'.heap[k]?=U o)(hold:∀id b' g,m id=U b'->b'.owns (φ id) g->w'.heap[g]?=w.heap[g]?)(JD:∀g,b.owns ph g->w0.heap.size<=g/\μ g=Z/\∀id b',m id=U b'->¬b'.owns (φ id) g)(JI:b.apart ph)(hB:jF P μ (λi=>if i=site then ph else φ i) w' site b)(hn:∀id,b.names id=Y->(m id).isSome=Y)(hlp:∀st,b=.loop st->∃g rc,ph.g=U g/\w0.rc site=U (g,rc)/\w'.heap[g]?=U (.loop (st.obj rc)))(arE:∀g o,w0.hid g=U o->w'.heap[g]?=U o/\¬b.owns ph g):aR P G w0 μ (λi=>if i=site then ph else φ i) (aO m site b) w':=by
 refine⟨hM.below.trans aam,xN,hM.aQ,λid b' hid=>?_,λid b' g hid hg=>?_,λid1 id2 b1 b2 g h1 h2 g1 g2=>?_,λid b' hid=>?_,λj cs id hj hh=>?_,hM.base,hM.eF,λid st hid=>?_,λk o h=>⟨(arE k o h).1,(hM.hid k o h).2.1,(hM.hid k o h).2.2.1,λj c hj hg=>by
  by_cases e:j=site
  .subst e;rw[bV]at hj;cases hj;simp only[By]at hg;exact(arE k o h).2 hg
  .rw[aN e]at hj;simp only[e,OF]at hg;exact(hM.hid k o h).2.2.2 j c hj hg⟩⟩
 rotate_right
 .by_cases h:id=site
  .simp_all
  .rw[aN h]at hid;have⟨g,rc,h1,h2,h3⟩:=hM.L2 id st hid;exact⟨g,rc,av,h2,by rw[hold id _ g hid (.inl h1)];omega⟩
 .by_cases h:id=site
  .simp_all
  .rw[aN h]at hid;have hR:=hM.eE id b' hid;refine hR.dd (λj hj=>?_) (by simp[h]) (λ_ _ h=>h) (λg hg=>hold id b' g hid hg);have:=hM.aal hid hj;grind
 .by_cases h:id=site
  .simp_all
  .rw[aN h]at hid;simp only[h,OF]at hg;exact hM.own id b' g hid hg
 .by_cases e1:id1=site
  .by_cases e2:id2=site
   .omega
   simp_all[bV,tc,By,aN,OF]
  .by_cases e2:id2=site
   .simp_all[bV,tc,By,aN,OF]
   .rw[aN e1]at h1;rw[aN e2]at h2;simp only[e1,OF]at g1;simp only[e2,OF]at g2;exact hM.inj id1 id2 b1 b2 g h1 h2 g1 g2
 .by_cases h:id=site
  .simp_all
  .rw[aN h]at hid;simp only[h,OF];exact hM.apart id b' hid
 .by_cases e:id=site
  .subst e;simp
  .rw[aN e];by_cases h:j=site
   .subst h;rw[bV]at hj;simp only[tc]at hj;subst hj;exact hn id hh
   .rw[aN h]at hj;exact hM.hU j cs id hj hh
end
section
variable {R:Type} {E:Env}
structure pk(P:Program)(w0:bI)(μ:Ro)(φ:Nat->aT)(m:Mem)(w w':World)(site:Nat)(b:cS)(ph:aT):Prop where
 below:ou w0.heap.size w w'
 ro:∀k o,μ k=U o->w'.heap[k]?=U o
 ow:∀id b' g,m id=U b'->b'.owns (φ id) g->w'.heap[g]?=w.heap[g]?
 own:∀g,ph.g=U g->w0.heap.size<=g/\μ g=Z/\∀id b',m id=U b'->¬b'.owns (φ id) g
 rep:∀φ',φ' site=ph->(∀id,b.names id=Y->φ' id=φ id)->jF P μ φ' w' site b
 names:∀id,b.names id=Y->(m id).isSome=Y
 hh:∀g o,w0.hid g=U o->w'.heap[g]?=U o/\ph.g≠U g
 lp:∀st,b=.loop st->∃g rc,ph.g=U g/\w0.rc site=U (g,rc)/\w'.heap[g]?=U (.loop (st.obj rc)):=by intro st h;cases h
def cU{draw:Bool}{site:Nat}{b:cS}{f:Fr}{m:Mem}{k:Fr->Mem->bS->Option R}{r:R}(h:fresh draw site b f m k=U r)(Ti:∀i off,b.rowAt i off=Y->False:=by intro i off h;simp[cS.rowAt]at h):∃f' m',(∀(R':Type)(k':Fr->Mem->bS->Option R'),fresh draw site b f m k'=k' f' m' [(Y,site)])/\k f' m' [(Y,site)]=U r/\m' site=U b/\(draw=Y->m site=Z/\f'=f/\m'=aO m site b)/\(∀(P:Program)(G:Nat->Option (List PV))(w0:bI)(μ:Ro)(φ:Nat->aT)(w w':World)(ρ:Nat->Value)(ph:aT),aR P G w0 μ φ m w->cR P μ φ m f ρ->pk P w0 μ φ m w w' site b ph->∃φ',φ' site=ph/\aR P G w0 μ φ' m' w'/\cR P μ φ' m' f' ρ):=by
 unfold fresh at h;cases hs:m site with
 |none=>
  simp only[hs]at h;refine⟨f,aO m site b,λR' k'=>by simp only[fresh,hs],h,ae,λ_=>⟨rfl,rfl,rfl⟩,λP G w0 μ φ w w' ρ ph hM hF hp=>?_⟩;have Sq:∀id,(m id).isSome=Y->id≠site:=λid hid e=>av
  refine⟨λi=>if i=site then ph else φ i,ae,hM.put hs hp.below hp.ro hp.ow (λg hg=>hp.own g (oA Ti hg)) (zW Ti) (hp.rep _ ae λid hid=>by simp[Sq id (hp.names id hid)]) hp.names hp.lp (λg o h=>⟨(hp.hh g o h).1,λhg=>(hp.hh g o h).2 (oA Ti hg)⟩),?_⟩;exact hF.mono (λ_ _ h=>h) λid hid=>⟨by simp[Sq id hid],by grind [aN,id]⟩
 |some b0=>
  simp only[hs]at h;split at h
  .cases h
  .rename_i hc;simp only[ayj,aAI,ay1]at hc;refine⟨ga site f,aO (b9 site m) site b,λR' k'=>by simp only[fresh,hs];simp[hc],h,ae,λhd=>av,λP G w0 μ φ w w' ρ ph hM hF hp=>?_⟩;have EA:=hM.forget site;have OO:=hF.forget site;have hs1:bO (b9 site m) site site=none:=ae
   have Sq:∀id,(bO (b9 site m) site id).isSome=Y->id≠site:=λid hid e=>by subst e;simp at hid
   have hnm:∀id,b.names id=Y->id≠site:=λid hid e=>av
   refine⟨λi=>if i=site then ph else φ i,ae,?_,?_⟩
   .rw[<-Je];refine EA.put hs1 hp.below hp.ro (λid b' g hid hg=>?_) (λg hg=>?_) (zW Ti) (hp.rep _ ae λid hid=>by simp[hnm id hid]) (λid hid=>Ct (hnm id hid) (hp.names id hid)) hp.lp (λg o h=>⟨(hp.hh g o h).1,λhg=>(hp.hh g o h).2 (oA Ti hg)⟩)
    .obtain⟨_,b2,yO,rfl⟩:=iA hid;exact hp.ow id b2 g yO (iF.1 hg)
    .obtain⟨h1,h2,h3⟩:=hp.own g (oA Ti hg);refine⟨h1,h2,λid b' hid ho=>?_⟩;obtain⟨_,b2,yO,rfl⟩:=iA hid;exact h3 id b2 yO (iF.1 ho)
   .rw[<-Je];exact OO.mono (λ_ _ h=>h) λid hid=>⟨by simp[Sq id hid],by grind [aN,id]⟩
def pk.alloc{P:Program}{G:Nat->Option (List PV)}{w0:bI}{μ:Ro}{φ:Nat->aT}{m:Mem}{w:World}{site:Nat}{b:cS}{ph:aT}{o:Obj}(hM:aR P G w0 μ φ m w)(hph:ph.g=U w.heap.size)(rep:∀φ',φ' site=ph->(∀id,b.names id=Y->φ' id=φ id)->jF P μ φ' (w.alloc o) site b)(names:∀id,b.names id=Y->(m id).isSome=Y)(lp:∀st,b=.loop st->∃g rc,ph.g=U g/\w0.rc site=U (g,rc)/\(w.alloc o).heap[g]?=U (.loop (st.obj rc)):=by intro st h;cases h):pk P w0 μ φ m w (w.alloc o) site b ph:=by
 have sB:w0.heap.size<=w.heap.size:=hM.below.size;refine⟨(ou.refl _ w).alloc sB o,λk o' hk=>?_,λid b' g hid hg=>ou.heap_alloc w o g ((hM.eE id b' hid).ON hg),λg hg=>?_,rep,names,λg o' h=>(by have⟨h1,_⟩:=hM.hid g o' h;have bX:=(auA.1 h1).1;exact⟨by rw[ou.heap_alloc w o g bX];exact h1,λe=>by rw[hph]at e;cases e;omega⟩),lp⟩
 .have:=hM.ro k o' hk;grind [ou.heap_alloc]
 .rw[hph]at hg;simp only[tc]at hg;subst hg;refine⟨sB,?_,λid b' hid hg=>?_⟩
  .cases hq:μ w.heap.size with
   |none=>rfl
   |some o'=>have:=hM.ro _ _ hq;simp at this
  .have:=(hM.eE id b' hid).ON hg;omega
def iG(w:World)(o:Obj):(w.alloc o).heap[w.heap.size]?=U o:=heap_alloc_new w o
variable{t:TypeId}
def eA{cs:List V}(h:dO E t=U cs):∃i z,E.P.info? t=U i/\i.zero=U z/\i.size=bq E.P t/\cs.length=bq E.P t/\z.cells.size=bq E.P t/\(∀id,cX id cs=J)/\(∀(μ:Ro)(φ:Nat->aT)(i:Nat)u y,cs[i]?=U u->z.cells[i]?=U y->az E.P μ φ u y)/\(∀(i:Nat)(y:Value),z.cells[i]?=U y->y.oneCell'=Y):=by
 unfold dO zeroV at h;cases hi:E.P.info? t with
 |none=>simp[hi]at h
 |some i=>
  cases hz:i.zero with
  |none=>simp[hi,hz]at h
  |some z=>
   simp only[hi,hz,ayg,IN]at h;obtain⟨h1,h2,h3⟩:=toCells_ok h;obtain⟨h4,_,h6⟩:=h3 E.P (λ_=>Z) (λ_=>default) z (Dw z);refine⟨i,z,rfl,hz,by simp[bq,hi],h1,h4,λid=>?_,λμ φ i u y hu hy=>(h3 E.P μ φ z (Dw z)).2.1 i u y hu hy,h6⟩;cases hh:cX id cs with
   |false=>rfl
   |true=>grind [id,S3]
variable{P:Program}{w:World}
def vQ{i:TypeInfo}{z:Value}(hi:P.info? t=U i)(hz:i.zero=U z):(zeroValue t).run P w=.ok z w:=by simp[zeroValue,typeInfo,hi,hz]
def It{i:TypeInfo}{z:Value}(hi:P.info? t=U i)(hz:i.zero=U z):(Instr.alloc t Y (.tuple #[])).run P w=.ok (.pointer (U ⟨w.heap.size,0,Z⟩)) (w.alloc (.cells z.cells t)):=by simp[Instr.alloc,vQ hi hz,newVar,newRow]
def acR{v:Value}:(Instr.box t v).run P w=.ok (.pointer (U ⟨w.heap.size,0,Z⟩)) (w.alloc (.cells v.cells t)):=bm
variable{c:Array Value}
def pk.box{G:Nat->Option (List PV)}{w0:bI}{μ:Ro}{φ:Nat->aT}{m:Mem}{site:Nat}{cs:List V}{T:TypeId}(hM:aR P G w0 μ φ m w)(hl:c.size=cs.length)(hv:∀(i:Nat)u y,cs[i]?=U u->c[i]?=U y->az P μ φ u y)(h1:∀(i:Nat)(y:Value),c[i]?=U y->y.oneCell'=Y)(hn:∀id,cX id cs=Y->(m id).isSome=Y):pk P w0 μ φ m w (w.alloc (.cells c T)) site (.box cs) (NI (U w.heap.size) 0 cs.length 0):=by refine pk.alloc hM bm (λφ' hφ ZZ=>⟨w.heap.size,c,T,by rw[hφ],iG w _,hl,λi u y hu hy=>?_,h1,by rw[hφ]⟩) hn;exact(hv i u y hu hy).mono (λ_ _ h=>h) λid hid=>ZZ id (cq (awU hu) hid)
def oD(h:bq P t≠0):(P.info? t).map (·.size)=U (bq P t):=by simp_all[Io]
def eg{T:Type}{cs new:List T}{off i:Nat}{x:T}(hb:off+new.length<=cs.length)(h:(cp cs off new)[i]?=U x):(off<=i/\i<off+new.length/\new[i-off]?=U x)\/((i<off\/off+new.length<=i)/\cs[i]?=U x):=by rw[fo]at h;rw[ayt,ayJ]at h;grind
theorem dz{T:Type}{cs new:List T}{off:Nat}(hb:off+new.length<=cs.length):(cp cs off new).length=cs.length:=by simp[fo];omega
variable{g:Nat}
theorem jy{v:Value}{o:Nat}{T:TypeId}(hz:v.cells.size=bq P t)(hi:(P.info? t).map (·.size)=U (bq P t))(hg:w.heap[g]?=U (.cells c T (0,0)))(hb:o+v.cells.size<=c.size)(h1:∀(i:Nat)(y:Value),v.cells[i]?=U y->y.oneCell'=Y):(Instr.storeAt t (.pointer (U ⟨g,o,Z⟩)) v).run P w=.ok () (w.setRow g (cp c.toList o v.cells.toList).toArray):=by
 have fL:=run_storeCells_at P g o T v.cells.toList 0 c w hg aa (λx hx=>by grind [List.getElem?_of_mem]);have sB:(sizeOf t).run P w=.ok (bq P t) w:=by
  cases hq:P.info? t with
  |none=>simp[hq]at hi
  |some i=>simp[sizeOf,typeInfo,hq,bq]
 simp only[Instr.storeAt,Instr.sureAddr,storeVar,Sem.run_bind,Sem.run_pure,Result.andThen_ok,sB,hz,aBg,not_true_eq_false,OF,fL,az4];rw[fo];try rfl
variable{xs:Array Value}
def cV{k:Nat}(h:k≠g):(w.setRow g xs).heap[k]?=w.heap[k]?:=by simp_all[World.setRow,azH,Ne.symm]
def setRow_size:(w.setRow g xs).heap.size=w.heap.size:=by simp[World.setRow]
def ou.setRow{B:Nat}(h:B<=g):ou B w (w.setRow g xs):=⟨⟨rfl,rfl,rfl,aBs setRow_size.symm,λk hk=>cV aa⟩,λ_=>ayd _⟩
end
section
variable {P:Program} {G:Nat->Option (List PV)} {w0:bI} {μ:Ro} {φ:Nat->aT} {m m':Mem} {w:World}
def nR(m m':Mem):Prop:=∀id,(m id).isSome=Y->(m' id).isSome=Y
def nR.refl(m:Mem):nR m m:=λ_ h=>h
def nR.trans{a b c:Mem}(h:nR a b)(k:nR b c):nR a c:=λid hid=>k id (h id hid)
variable{id:Nat}
def nR.set{b:cS}:nR m (aO m id b):=λj hj=>by
 by_cases e:j=id
 .subst e;simp
 .rw[aN e];omega
def cR.sL{f:Fr}{ρ:Nat->Value}{μ':Ro}(h:cR P μ φ m f ρ)(hμ:∀b o,μ b=U o->μ' b=U o)(hl:nR m m'):cR P μ' φ m' f ρ:=h.mono hμ λid hid=>⟨rfl,hl id hid⟩
variable{v:V}{p:PV}
def acS(h:Ph m v=U (p,m')):nR m m'/\∀(P:Program)(G:Nat->Option (List PV))(w0:bI)(μ:Ro)(φ:Nat->aT)(w:World)(x:Value),aR P G w0 μ φ m w->az P μ φ v x->∃μ',(∀b o,μ b=U o->μ' b=U o)/\aR P G w0 μ' φ m' w/\aH P μ' p x:=by
 unfold Ph at h;split at h
 .simp only[tc,aq4]at h;obtain⟨rfl,rfl⟩:=h;exact⟨.refl _,λP G w0 μ φ w x hM hx=>⟨μ,λ_ _ h=>h,hM,by cases hx with|pv hx=>omega⟩⟩
 .simp only[tc,aq4]at h;obtain⟨rfl,rfl⟩:=h;exact⟨.refl _,λP G w0 μ φ w x hM hx=>⟨μ,λ_ _ h=>h,hM,by cases hx;exact .pj⟩⟩
 .rename_i id;split at h
  next s et es hm=>simp only[tc,aq4]at h;obtain⟨rfl,rfl⟩:=h;refine⟨.set,λP G w0 μ φ w x hM hx=>⟨_,qV hM (φ id).g,hM.freeze hm,?_⟩⟩;refine(hM.arr (.inl hm)).full hM hx (qV hM _) λg hg=>?_;simp[va,hg]
  next s et es hm=>simp only[tc,aq4]at h;obtain⟨rfl,rfl⟩:=h;refine⟨.refl _,λP G w0 μ φ w x hM hx=>⟨μ,λ_ _ h=>h,hM,?_⟩⟩;refine(hM.arr (.inr hm)).full hM hx (λ_ _ h=>h) λg hg=>?_;obtain⟨o,ho⟩:=aym.1 ((hM.eE id _ hm).2 g hg);rw[ho,hM.ro _ _ ho]
  next s et es hm=>simp only[tc,aq4]at h;obtain⟨rfl,rfl⟩:=h;refine⟨.set,λP G w0 μ φ w x hM hx=>⟨_,zX hM _,hM.acQ hm,?_⟩⟩;have hM':=hM.acQ hm;have hF:ba P _ φ w id s et (es.map PV.strip):=(hM'.eE id _ (bV _ _ _)).1;refine hF.Td (hx.I9 (zX hM _)) (λ_ _ h=>h) λg hg=>?_;unfold BQ;rw[BY (show(cS.nest s et es).owns (φ id) g from .inl hg)]
  .cases h
 .cases h
def Tj(h:Ph dW v=U (p,m')):∀(P:Program)(μ:Ro)(φ:Nat->aT)(x:Value),az P μ φ v x->aH P μ p x:=by
 unfold Ph at h;split at h
 .simp only[tc,aq4]at h;obtain⟨rfl,rfl⟩:=h;exact λP μ φ x hx=>by cases hx with|pv hx=>omega
 .simp only[tc,aq4]at h;obtain⟨rfl,rfl⟩:=h;exact λP μ φ x hx=>by cases hx;exact .pj
 .simp[dW]at h
 .cases h
theorem zY(h:Ph dW v=U (p,m')):m'=dW:=by unfold Ph at h;grind [Option.some.injEq,Prod.mk.injEq,dW]
def PJ:∀{cs:List V}{m m':Mem}{ps:List PV},rT m cs=U (ps,m')->nR m m'/\ps.length=cs.length/\∀(P:Program)(G:Nat->Option (List PV))(w0:bI)(μ:Ro)(φ:Nat->aT)(w:World)(X:Nat->Value),aR P G w0 μ φ m w->(∀(i:Nat)u,cs[i]?=U u->az P μ φ u (X i))->∃μ',(∀b o,μ b=U o->μ' b=U o)/\aR P G w0 μ' φ m' w/\∀(i:Nat)p,ps[i]?=U p->aH P μ' p (X i)
 |[],m,m',ps,h=>by simp only[rT,tc,aq4]at h;obtain⟨rfl,rfl⟩:=h;exact⟨.refl _,rfl,λP G w0 μ φ w X hM _=>⟨μ,λ_ _ h=>h,hM,ae⟩⟩
 |c::r,m,m',ps,h=>by
  simp only[rT]at h;split at h
  .rename_i p m1 h1;split at h
   .rename_i ps1 m2 h2;simp only[tc,aq4]at h;obtain⟨rfl,rfl⟩:=h;have⟨a1,a2⟩:=acS h1;have⟨b1,b2,b3⟩:=PJ h2;refine⟨a1.trans b1,by simp[b2],λP G w0 μ φ w X hM hx=>?_⟩;have⟨μ1,c1,c2,c3⟩:=a2 P G w0 μ φ w (X 0) hM (hx 0 c ae);obtain⟨μ2,d1,d2,d3⟩:=b3 P G w0 μ1 φ w (λi=>X (i+1)) c2 (λi u hu=>(hx (i+1) u (by simpa using hu)).I9 c1);refine⟨μ2,λb o h=>d1 b o (c1 b o h),d2,λi q hq=>?_⟩;cases i with
    |zero=>simp at hq;subst hq;exact c3.mono d1
    |succ i=>simp_all
   .cases h
  .cases h
def JJ:∀{cs:List V}{m':Mem}{ps:List PV},rT dW cs=U (ps,m')->ps.length=cs.length/\∀(P:Program)(μ:Ro)(φ:Nat->aT)(X:Nat->Value),(∀(i:Nat)u,cs[i]?=U u->az P μ φ u (X i))->∀(i:Nat)p,ps[i]?=U p->aH P μ p (X i)
 |[],m',ps,h=>by simp only[rT,tc,aq4]at h;simp_all
 |c::r,m',ps,h=>by
  simp only[rT]at h;split at h
  .rename_i p m1 h1;split at h
   .rename_i ps1 m2 h2;simp only[tc,aq4]at h;obtain⟨rfl,rfl⟩:=h;have:=zY h1;subst this;have⟨b2,b3⟩:=JJ h2;refine⟨by simp[b2],λP μ φ X hx i q hq=>?_⟩;cases i with
    |zero=>simp at hq;subst hq;exact Tj h1 P μ φ _ (hx 0 c ae)
    |succ i=>exact b3 P μ φ (λi=>X (i+1)) (λi u hu=>hx (i+1) u (by simpa using hu)) i q (by simpa using hq)
   .cases h
  .cases h
structure Cu(P:Program)(μ:Ro)(n:Nat)(p:PV)(x:Value):Prop where
 len:p.cells.length=n
 size:x.cells.size=n
 rep:∀(j:Nat)q y,p.cells[j]?=U q->x.cells[j]?=U y->aH P μ q y
 one:∀(j:Nat)y,x.cells[j]?=U y->y.oneCell'=Y
variable{n:Nat}{agg:Bool}
def Jf{P:Program}{μ:Ro}{ps:List PV}{x:Value}(hp:(if agg then U (.agg ps)else match ps with|[p]=>U p|_=>Z)=U p)(hl:ps.length=n)(hs:x.cells.size=n)(hr:∀(j:Nat)q y,ps[j]?=U q->x.cells[j]?=U y->aH P μ q y)(h1:∀(j:Nat)y,x.cells[j]?=U y->y.oneCell'=Y):Cu P μ n p x:=by
 have hc:p.cells=ps:=by
  cases agg with
  |true=>simp at hp;subst hp;rfl
  |false=>
   simp only[AI,OF]at hp;split at hp
   .rename_i q;simp only[tc]at hp;subst hp;have bX:0<x.cells.size:=by simp at hl;omega
    have hr0:=hr 0 q _ ae (aq5 bX);have h10:=h1 0 _ (aq5 bX);generalize x.cells[0]=y at hr0 h10;cases q<;>first|rfl|(cases hr0;simp[Value.oneCell']at h10)
   .cases hp
 exact⟨by rw[hc];omega,hs,by rw[hc];omega,h1⟩
theorem PK{m m':Mem}(h:oq m n agg v=U (p,m')):nR m m'/\∀(P:Program)(G:Nat->Option (List PV))(w0:bI)(μ:Ro)(φ:Nat->aT)(w:World)(x:Value),aR P G w0 μ φ m w->az P μ φ v x->∃μ',(∀b o,μ b=U o->μ' b=U o)/\aR P G w0 μ' φ m' w/\Cu P μ' n p x:=by
 unfold oq at h;split at h
 .rename_i cs hc;obtain⟨c1,c2,c3⟩:=toCells_ok hc;split at h
  .rename_i ps m1 hf;have⟨f1,f2,f3⟩:=PJ hf;have hp:(if agg then U (.agg ps)else match ps with|[p]=>U p|_=>Z)=U p/\m1=m':=ao
   obtain⟨hp,rfl⟩:=hp;refine⟨f1,λP G w0 μ φ w x hM hx=>?_⟩;have⟨d1,d2,d3⟩:=c3 P μ φ x hx;have hX:∀(i:Nat),i<cs.length->x.cells[i]?=U (x.cells.getD i undef):=λi hi=>av
   obtain⟨μ',e1,e2,e3⟩:=f3 P G w0 μ φ w (λi=>x.cells.getD i undef) hM λi u hu=>d2 i u _ hu (hX i (No.1 hu).1);refine⟨μ',e1,e2,Jf hp aa d1 (λj q y hq hy=>?_) d3⟩;grind
  .cases h
 .cases h
def KS{m':Mem}(h:oq dW n agg v=U (p,m')):∀(P:Program)(μ:Ro)(φ:Nat->aT)(x:Value),az P μ φ v x->Cu P μ n p x:=by
 unfold oq at h;split at h
 .rename_i cs hc;obtain⟨c1,c2,c3⟩:=toCells_ok hc;split at h
  .rename_i ps m1 hf;have⟨f2,f3⟩:=JJ hf;have hp:(if agg then U (.agg ps)else match ps with|[p]=>U p|_=>Z)=U p:=ao
   refine λP μ φ x hx=>?_;have⟨d1,d2,d3⟩:=c3 P μ φ x hx;have hX:∀(i:Nat),i<cs.length->x.cells[i]?=U (x.cells.getD i undef):=λi hi=>av
   have e3:=f3 P μ φ (λi=>x.cells.getD i undef) λi u hu=>d2 i u _ hu (hX i (No.1 hu).1);refine Jf hp aa d1 (λj q y hq hy=>?_) d3;grind
  .cases h
 .cases h
def Xt{draw:Bool}{m m':Mem}(h:Gn draw m n agg v=U (p,m')):nR m m'/\(draw=Y->m'=m/\∀m2:Mem,Gn Y m2 n agg v=U (p,m2))/\∀(P:Program)(G:Nat->Option (List PV))(w0:bI)(μ:Ro)(φ:Nat->aT)(w:World)(x:Value),aR P G w0 μ φ m w->az P μ φ v x->∃μ',(∀b o,μ b=U o->μ' b=U o)/\aR P G w0 μ' φ m' w/\Cu P μ' n p x:=by
 unfold Gn at h;split at h
 .rename_i hd;split at h
  next q m1 hf=>simp only[tc,aq4]at h;obtain⟨rfl,rfl⟩:=h;exact⟨.refl _,λ_=>⟨rfl,λm2=>by simp[Gn,hf]⟩,λP G w0 μ φ w x hM hx=>⟨μ,λ_ _ h=>h,hM,KS hf P μ φ x hx⟩⟩
  .cases h
 grind [PK,absurd]
def ba.set{P:Program}{μ:Ro}{φ:Nat->aT}{w:World}{id sz:Nat}{et:TypeId}{es:List PV}(hA:ba P μ φ w id sz et es){g:Nat}(hg:(φ id).g=U g){i off n:Nat}{e p q:PV}{x:Value}(he:es[i]?=U e)(hE:Cu P μ n p x)(hb:off+n<=sz)(hq:q.cells=cp (aX sz e) off p.cells):∃c T,w.heap[g]?=U (.cells c T (0,0))/\i*sz+off+x.cells.size<=c.size/\ba P μ φ (w.setRow g (cp c.toList (i*sz+off) x.cells.toList).toArray) id sz et (es.set i q):=by
 obtain⟨a1,a2,a3,a4,a5,a6,a7⟩:=hA;rw[hg]at a7;obtain⟨c,T,c1,c2,c3,c4,c5⟩:=a7;have hi:i<es.length:=(No.1 he).1;have FT:i*sz+off+n<=c.size:=by have:(i+1)*sz<=(φ id).cap*sz:=ax8 _ aa;grind
 have PL:x.cells.toList.length=n:=by simpa using hE.size
 have OM:(aX sz e).length=sz:=bB _ _;have hql:q.cells.length=sz:=by rw[hq,dz (by rw[OM,hE.len];omega),OM]
 have sM:(cp c.toList (i*sz+off) x.cells.toList).length=c.size:=by simp_all[dz]
 have xP:∀(i':Nat)e',(es.set i q)[i']?=U e'->(i'=i/\e'=q)\/(i'≠i/\es[i']?=U e'):=ao
 refine⟨c,T,c1,by rw[hE.size];omega,?_⟩;refine⟨by simp[a1],a2,a3,a4,λi' e' h'=>?_,a6,?_⟩
 .grind
 .rw[hg];refine⟨_,T,setRow_heap w g c _ T (0,0) c1,by simp[sM,c2],by simpa using c3,λi' e' j p' x' h' hj hx=>?_,λj x' hj hx=>?_⟩
  .rw[ayM]at hx;rcases eg (by simp[hE.size];omega) hx with⟨b1,b2,b3⟩|⟨b1,b2⟩
   .rw[PL]at b2;have hii:i'=i/\e'=q:=by
     rcases xP i' e' h' with h|⟨cO,h'⟩
     .omega
     .exfalso;have xQ:=(No.1 hj).1;rw[a5 i' e' h']at xQ;rcases Nat.lt_or_gt_of_ne cO with bX|hgt
      .have:(i'+1)*sz<=i*sz:=ax8 _ bX;grind
      .have:(i+1)*sz<=i'*sz:=ax8 _ hgt;grind
    obtain⟨rfl,rfl⟩:=hii;rw[hq]at hj;rcases eg (by rw[OM,hE.len];omega) hj with⟨d1,d2,d3⟩|⟨d1,d2⟩
    .exact hE.rep _ _ _ d3 (by rw[<-ayQ,<-b3];congr 1;omega)
    .exfalso;rw[hE.len]at d1;omega
   .rw[PL]at b1;have b2:c[i'*sz+j]?=U x':=by simpa using b2
    rcases xP i' e' h' with⟨rfl,rfl⟩|⟨cO,h'⟩
    .rw[hq]at hj;rcases eg (by rw[OM,hE.len];omega) hj with⟨d1,d2,d3⟩|⟨d1,d2⟩
     .exfalso;rw[hE.len]at d2;omega
     grind [iq]
    grind
  .rw[ayM]at hx;rw[azm]at hj;rcases eg (by simp[hE.size];omega) hx with⟨b1,b2,b3⟩|⟨b1,b2⟩
   .exact hE.one _ x' (by simpa using b3)
   grind
variable{off:Nat}
def UZ{s0:Nat}{e:PV}(he:e.cells.length=s0)(ho:off<s0)(hp:∀cs,p≠.agg cs):(setRow s0 e off p).cells=e.cells.set off p:=by
 have h1:p.cells=[p]:=by cases p<;>first|rfl|exact absurd rfl (hp _)
 unfold setRow;split
 .rename_i hs;subst hs;have:off=0:=aa
  subst this;match hc:e.cells,he with
  |[c],_=>simp[h1]
 simp_all[PV.cells,iq]
def PM{s:Nat}{e:PV}(h1:p.cells.length=n)(h2:e.cells.length=s):(setCells s e off n p).cells=cp (aX s e) off p.cells:=by
 unfold setCells;split
 next h=>obtain⟨rfl,rfl⟩:=h;simp_all[fo,bB]
 rfl
def bw.change{P:Program}{μ μ':Ro}{φ φ':Nat->aT}{w w':World}{sz:Nat}{et:TypeId}{es es':List PV}(h:bw P μ φ w id sz et es)(hlen:es'.length=es.length)(vR:∀(i:Nat)e,es'[i]?=U e->e.cells.length=sz)(hφ:(φ' id).toNH=(φ id).toNH)(hw:∀g,(φ id).g=U g->w'.heap[g]?=w.heap[g]?)(hc:∀(i:Nat)e'(j:Nat)p' g c T x,es'[i]?=U e'->e'.cells[j]?=U p'->(φ id).g=U g->w.heap[g]?=U (.cells c T (0,0))->c[i*sz+j]?=U x->(∀e p,es[i]?=U e->e.cells[j]?=U p->fK P μ ((φ id).row i j) w p x)->fK P μ' ((φ' id).row i j) w' p' x):bw P μ' φ' w' id sz et es':=by
 obtain⟨a1,a2,a3,a4,a5,a6,a7⟩:=h;unfold bw;rw[hφ];refine⟨aa,a2,a3,a4,vR,a6,?_⟩;cases hg:(φ id).g with
 |none=>simp_all
 |some g=>grind
def gg{T:Type}{l:List T}{i i':Nat}{q e':T}(h:(l.set i q)[i']?=U e'):(i'=i/\e'=q)\/(i'≠i/\l[i']?=U e'):=ao
def bw.set{P:Program}{μ:Ro}{φ:Nat->aT}{w:World}{sz:Nat}{et:TypeId}{es:List PV}(hA:bw P μ φ w id sz et es)(JI:(cS.nest sz et es).apart (φ id)){g:Nat}(hg:(φ id).g=U g){i:Nat}{e q:PV}{x:Value}(he:es[i]?=U e)(hE:Cu P μ n p x)(hb:off+n<=sz)(hq:q.cells=cp (aX sz e) off p.cells):∃c T,w.heap[g]?=U (.cells c T (0,0))/\i*sz+off+x.cells.size<=c.size/\bw P μ φ (w.setRow g (cp c.toList (i*sz+off) x.cells.toList).toArray) id sz et (es.set i q)/\∀i' Es,(cS.nest sz et (es.set i q)).rowAt i' Es=Y->(cS.nest sz et es).rowAt i' Es=true:=by
 have JF:=hA;obtain⟨a1,a2,a3,a4,a5,a6,a7⟩:=hA;rw[hg]at a7;obtain⟨c,T,c1,c2,c3,c4,c5⟩:=a7;have hi:i<es.length:=(No.1 he).1;have FT:i*sz+off+n<=c.size:=by have:(i+1)*sz<=(φ id).cap*sz:=ax8 _ aa;grind
 have PL:x.cells.toList.length=n:=by simpa using hE.size
 have OM:(aX sz e).length=sz:=bB _ _;have hql:q.cells.length=sz:=by rw[hq,dz (by rw[OM,hE.len];omega),OM]
 have sM:(cp c.toList (i*sz+off) x.cells.toList).length=c.size:=by simp_all[dz]
 have cO:∀i' j' g',(cS.nest sz et es).rowAt i' j'=Y->((φ id).row i' j').g=U g'->g'≠g:=λi' j' g' hr dH e=>(JI i' j' g' hr dH).1 (by rw[e];omega);have fL:∀{i' j':Nat}{e' p':PV}{x':Value}{l:List Value},es[i']?=U e'->e'.cells[j']?=U p'->fK P μ ((φ id).row i' j') w p' x'->fK P μ ((φ id).row i' j') (w.setRow g l.toArray) p' x':=λh1 h2 h3=>h3.dd (λ_ _ h=>h) λhr g' dH=>cV (cO _ _ g' (by rw[eH h1 h2];omega) dH);refine⟨c,T,c1,by rw[hE.size];omega,⟨by simp[a1],a2,a3,a4,λi' e' h'=>?_,a6,?_⟩,?_⟩
 .grind
 .rw[hg];refine⟨_,T,setRow_heap w g c _ T (0,0) c1,by simp[sM,c2],by simpa using c3,λi' e' j p' x' h' hj hx=>?_,λj x' hj hx=>?_⟩
  .rw[ayM]at hx;rcases eg (by simp[hE.size];omega) hx with⟨b1,b2,b3⟩|⟨b1,b2⟩
   .rw[PL]at b2;have hii:i'=i/\e'=q:=by
     rcases gg h' with h|⟨cO,h'⟩
     .omega
     .exfalso;have xQ:=(No.1 hj).1;rw[a5 i' e' h']at xQ;rcases Nat.lt_or_gt_of_ne cO with bX|hgt
      .have:(i'+1)*sz<=i*sz:=ax8 _ bX;grind
      .have:(i+1)*sz<=i'*sz:=ax8 _ hgt;grind
    obtain⟨rfl,rfl⟩:=hii;rw[hq]at hj;rcases eg (by rw[OM,hE.len];omega) hj with⟨d1,d2,d3⟩|⟨d1,d2⟩
    .exact .pure (hE.rep _ _ _ d3 (by rw[<-ayQ,<-b3];congr 1;omega))
    .exfalso;rw[hE.len]at d1;omega
   .rw[PL]at b1;have b2:c[i'*sz+j]?=U x':=by simpa using b2
    rcases gg h' with⟨rfl,rfl⟩|⟨cO,h'⟩
    .rw[hq]at hj;rcases eg (by rw[OM,hE.len];omega) hj with⟨d1,d2,d3⟩|⟨d1,d2⟩
     .exfalso;rw[hE.len]at d2;omega
     grind [iq]
    simp_all
  .rw[ayM]at hx;rw[azm]at hj;rcases eg (by simp[hE.size];omega) hx with⟨b1,b2,b3⟩|⟨b1,b2⟩
   .exact hE.one _ x' (by simpa using b3)
   grind
 .intro i' Es hr;rcases nQ hr with⟨_,_,_,e',s,rs,mH,h',DA⟩|⟨_,_,_,_,_,_,mH,_⟩
  .simp only[cS.nest.injEq]at mH;obtain⟨rfl,rfl,rfl⟩:=mH;rcases gg h' with⟨rfl,rfl⟩|⟨cO,h'⟩
   .rw[hq]at DA;rcases eg (by rw[OM,hE.len];omega) DA with⟨d1,d2,d3⟩|⟨d1,d2⟩
    .exfalso;have bX:Es-off<x.cells.size:=by rw[hE.size,<-hE.len];omega
     exact absurd (hE.rep _ _ _ d3 (aq5 bX)).OX (by simp[PV.isRow])
    .rw[iq (a5 i' e he)]at d2;rw[eH he d2];rfl
   .rw[eH h' DA];rfl
  .cases mH
end
section
variable {R:Type} {E:Env}
def Jg{p:PV}:∀{n o j:Nat}{q:PV},(fm p o n)[j]?=U q->j<n/\q=cell p (o+j)
 |0,o,j,q,h=>by simp[fm]at h
 |n+1,o,0,q,h=>⟨aa,by simpa[fm]using h.symm⟩
 |n+1,o,j+1,q,h=>by simp only[fm,azV]at h;have⟨h1,h2⟩:=Jg h;grind
def Cv{p:PV}:∀{n o:Nat},(fm p o n).length=n
 |0,_=>rfl
 |n+1,o=>by simp[fm,Cv]
variable{n:Nat}
def JK{s i:Nat}{p e:PV}(h:(vj s n p)[i]?=U e):i<n/\e=.agg (fm p (i*s) s):=by unfold vj at h;grind
def ag9{p:PV}{u:Unit}(h:asAgg n p=U u):∃cs,p=.agg cs/\cs.length=n:=by unfold asAgg at h;grind
def aez{t:TypeId}{i off s:Nat}{et:TypeId}{b:Option cS}{x:V}{p:PV}(h:aac E t i off b x=U (s,et,n,p)):∃es,b=U (.arr s et es)/\x=.pv p/\Mc E t s i off=Y/\n=es.length:=by unfold aac at h;grind
def Tk{P:Program}{μ:Ro}{s k:Nat}{cs:List PV}{xs:Array Value}(hp:aH P μ (.agg cs) (.agg xs))(hl:cs.length=n*s){i j:Nat}{e q:PV}(he:(vj s n (.agg cs))[i]?=U e)(hq:e.cells[j]?=U q)(hk:k=i*s+j):∃x,xs[k]?=U x/\aH P μ q x/\x.oneCell'=true:=by
 obtain⟨h1,rfl⟩:=JK he;obtain⟨h2,rfl⟩:=Jg hq;have bX:i*s+j<n*s:=by have:(i+1)*s<=n*s:=ax8 _ aa;grind
 subst hk;cases hp with
 |agg g1 g2 g3=>have hc:cs[i*s+j]?=U cs[i*s+j]:=ta aa;have hx:xs[i*s+j]?=U xs[i*s+j]:=aq5 aa;grind [cell,PV.cells]
def aeA{draw:Bool}{t:TypeId}{a x:V}{m:Mem}{k:Mem->bS->Option R}{r:R}(h:Cp E draw t a x m k=U r):∃m' ft,k m' ft=U r/\(draw=Y->∃id b,m'=aO m id b/\ft=[(Y,id)]/\∀m2:Mem,m2 id=m id->∀(R':Type)(k':Mem->bS->Option R'),Cp E Y t a x m2 k'=k' (aO m2 id b) [(Y,id)])/\nR m m'/\∀(G:Nat->Option (List PV))(w0:bI)(μ:Ro)(φ:Nat->aT)(w:World)(ya yx:Value),aR E.P G w0 μ φ m w->az E.P μ φ a ya->az E.P μ φ x yx->(∀id,x.has id=Y->(m id).isSome=Y)->∃w' μ',(Instr.storeAt t ya yx).run E.P w=.ok () w'/\(∀b o,μ b=U o->μ' b=U o)/\aR E.P G w0 μ' φ m' w':=by
 unfold Cp at h;split at h
 .rename_i id off;split at h
  .rename_i cs hm;split at h
   .rename_i new hn;split at h
    .rename_i hb;refine⟨_,_,h,λhd=>⟨id,_,rfl,rfl,λm2 dC R' k'=>by simp_all[Cp,BY]⟩,.set,λG w0 μ φ w ya yx hM ha hx hlx=>?_⟩;obtain⟨n1,n2,n3⟩:=toCells_ok hn;obtain⟨x1,x2,x3⟩:=n3 _ _ _ _ hx;cases ha with
     | @op _ _ g hg=>
      obtain⟨g',c,T,dH,hh,hs,hv,h1,Sk⟩:=hM.eE id _ hm;rw[hg]at dH;simp only[tc]at dH;subst dH;have hi:=oD (P:=E.P) (t:=t) aa;have sN:off+yx.cells.toList.length<=c.toList.length:=ah
      refine⟨_,μ,jy x1 hi hh aa x3,λ_ _ h=>h,?_⟩;refine hM.write hm rfl hg (ou.setRow (ayd _)) setRow_size (λk hk=>cV hk) ⟨g,_,T,hg,setRow_heap w g c _ T (0,0) hh,?_,λi u y hu hy=>?_,λi y hy=>?_,by simp_all[dz]⟩ rfl λj hj=>?_
      .simp_all[azd,dz]
      .rw[ayM]at hy;have e1:yx.cells.toList.length=new.length:=ah
       rcases eg sN hy with⟨b1,b2,b3⟩|⟨b1,b2⟩<;>rcases eg aa hu with⟨d1,d2,d3⟩|⟨d1,d2⟩
       .grind
       .omega
       .omega
       grind
      .rw[ayM]at hy;rcases eg sN hy with⟨b1,b2,b3⟩|⟨b1,b2⟩
       .grind
       grind
      .simp only[cS.names]at hj;have⟨v,Tl,hh'⟩:=dF.1 hj;simp only[fo,ayq]at Tl;rcases Tl with(Tl|Tl)|Tl
       .exact hM.hU id cs j hm (cq (ay8 Tl) hh')
       .grind [cq]
       .exact hM.hU id cs j hm (cq (azO Tl) hh')
    .cases h
   .cases h
  .cases h
 .rename_i id i off;split at h
  .rename_i s et n p hwv;obtain⟨es,hm,rfl,hw,hn⟩:=aez hwv;subst hn;have⟨u,hu,h⟩:=IS.1 h;split at h
   .rename_i hl;obtain⟨ha,rfl,rfl,_⟩:=S9 hw;obtain⟨cs,rfl,vR⟩:=ag9 hu;refine⟨_,_,h,λ_=>⟨id,_,rfl,rfl,λm2 dC R' k'=>?_⟩,.set,λG w0 μ φ w ya yx hM ha hx _=>?_⟩
    .simp_all[Cp,ayg,BY]
    .have hA:ba E.P μ φ w id s et es:=hM.eE id _ hm;cases ha with
     | @oe _ _ _ g hg=>
      cases hx with
      |pv hx=>
       have U0:=hx;cases hx with
       | @agg _ xs g1 g2 g3=>
        obtain⟨a1,a2,a3,a4,a5,a6,a7⟩:=hA;rw[hg]at a7;obtain⟨c,T,c1,c2,c3,c4,c5⟩:=a7;have hle:es.length*s<=c.size:=ayn (ax8 _ c3) c2;have PN:xs.size=es.length*s:=aa
        have fa:bq E.P t≠0:=aa
        have hl1:=hl.1;have hi:=oD (P:=E.P) (t:=t) fa;have hcz:(Value.agg xs).cells.size=bq E.P t:=by simp[Value.cells];omega
        refine⟨w.setRow g (cp c.toList 0 xs.toList).toArray,μ,?_,λ_ _ h=>h,hM.write hm rfl hg (ou.setRow (ayd _)) setRow_size (λk hk=>cV hk) ?_ rfl (λj hj=>by simp[cS.names]at hj)⟩
        .rw[show 0*(φ id).sz+0=0 by omega];exact jy hcz hi c1 aa (λi y hy=>g3 i y hy)
        .have OM:∀(i:Nat)(x:Value),i<es.length*s->(cp c.toList 0 xs.toList).toArray[i]?=U x->xs[i]?=U x:=λi x hi hx=>by
          rw[ayM]at hx;rcases eg ah hx with⟨b1,b2,b3⟩|⟨b1,b2⟩
          .simpa using b3
          grind
         refine⟨by rw[a1];simp[vj],a2,a3,a4,λi e he=>?_,a6,?_⟩
         .obtain⟨_,rfl⟩:=JK he;exact Cv
         .rw[hg];refine⟨_,T,setRow_heap w g c _ T (0,0) c1,?_,?_,λi e j q x he hq hx=>?_,λi x hi hx=>?_⟩
          .simp_all[azd,dz,Value.cells]
          .simpa[vj]using c3
          .obtain⟨x',x1,x2,_⟩:=Tk (k:=i*s+j) U0 aa he hq rfl;grind
          grind [vj]
   .cases h
  rename_i hwn;split at h
  .rename_i p m1 hf;have⟨f1,f2,f3⟩:=Xt hf;split at h
   .rename_i s et es hm;have⟨e,he,h⟩:=IS.1 h;have key:∀q,0<bq E.P t->off+bq E.P t<=s->(p.cells.length=bq E.P t->e.cells.length=s->q.cells=cp (aX s e) off p.cells)->∀(G:Nat->Option (List PV))(w0:bI)(μ:Ro)(φ:Nat->aT)(w:World)(ya yx:Value),aR E.P G w0 μ φ m w->az E.P μ φ (.oe id i off) ya->az E.P μ φ x yx->(∀id,x.has id=Y->(m id).isSome=Y)->∃w' μ',(Instr.storeAt t ya yx).run E.P w=.ok () w'/\(∀b o,μ b=U o->μ' b=U o)/\aR E.P G w0 μ' φ (aO m1 id (.arr s et (es.set i q))) w':=by
     intro q hz hb hq G w0 μ φ w ya yx hM ha hx _;obtain⟨μ',g1,g2,g3⟩:=f3 _ _ _ _ _ _ _ hM hx;cases ha with
     | @oe _ _ _ g hg=>have hA:ba E.P μ' φ w id s et es:=g2.eE id _ hm;have Sa:=hq g3.len (hA.2.2.2.2.1 i e he);have⟨c,T,hh,sN,JF⟩:=hA.set hg he g3 hb Sa;have sB:(φ id).sz=s:=hA.2.1;have hi:=oD (P:=E.P) (t:=t) aa;refine⟨_,μ',?_,g1,g2.write hm rfl hg (ou.setRow (ayd _)) setRow_size (λk hk=>cV hk) JF rfl λj hj=>by simp[cS.names]at hj⟩;rw[sB];exact jy g3.size hi hh sN g3.one
    split at h
    .rename_i hb;refine⟨_,_,h,λhd=>?_,f1.trans .set,key p aa aa λh1 h2=>?_⟩
     .obtain⟨rfl,f4⟩:=f2 hd;refine⟨id,_,rfl,rfl,λm2 dC R' k'=>?_⟩;simp_all[Cp,ayg,BY]
     simp_all[fo,bB]
    .rename_i hnb;split at h
     next hb=>refine⟨_,_,h,λhd=>?_,f1.trans .set,key _ aa aa λ_ _=>rfl⟩;obtain⟨rfl,f4⟩:=f2 hd;refine⟨id,_,rfl,rfl,λm2 dC R' k'=>?_⟩;simp_all[Cp,ayg,IT,BY]
     .cases h
   .rename_i s et es hm;have⟨e,he,h⟩:=IS.1 h;split at h
    .rename_i hb;refine⟨_,_,h,λhd=>?_,f1.trans .set,λG w0 μ φ w ya yx hM ha hx _=>?_⟩
     .obtain⟨rfl,f4⟩:=f2 hd;refine⟨id,_,rfl,rfl,λm2 dC R' k'=>?_⟩;simp_all[Cp,ayg,BY]
     .obtain⟨μ',g1,g2,g3⟩:=f3 _ _ _ _ _ _ _ hM hx;cases ha with
      | @oe _ _ _ g hg=>have hA:bw E.P μ' φ w id s et es:=g2.eE id _ hm;obtain⟨c,T,hh,sN,JF,hrw⟩:=bw.set (q:=.agg (cp (aX s e) off p.cells)) hA (g2.apart id _ hm) hg he g3 hb.1 rfl;have sB:(φ id).sz=s:=hA.2.1;have hi:=oD (P:=E.P) (t:=t) aa;refine⟨_,μ',?_,g1,g2.write hm rfl hg (ou.setRow (ayd _)) setRow_size (λk hk=>cV hk) JF rfl (λj hj=>by simp[cS.names]at hj) (λst h=>by cases h) hrw⟩;rw[sB];exact jy g3.size hi hh sN g3.one
    .cases h
   .cases h
  .cases h
 .rename_i id i off s j off2;split at h
  .rename_i p m1 hf;split at h
   .rename_i s0 et es hm;have⟨e,he,h⟩:=IS.1 h;have⟨rs,hr,h⟩:=IS.1 h;have⟨q,hq,h⟩:=IS.1 h;split at h
    .rename_i hb;refine⟨_,_,h,λ_=>⟨id,_,rfl,rfl,λm2 dC R' k'=>?_⟩,.set,λG w0 μ φ w ya yx hM ha hx _=>?_⟩
     .simp_all[Cp,ayg,BY]
     .have hE:=KS hf E.P μ φ yx hx;have hN:bw E.P μ φ w id s0 et es:=hM.eE id _ hm;have⟨g,y,hg,KT,⟨⟨R8,hA⟩,hV⟩,hce⟩:=hN.row he hr;have JI:=hM.apart id _ hm;have qU:(cS.nest s0 et es).rowAt i off=true:=by rw[eH he hce];rfl
      have PO:=hN.2.2.2.2.1 i e he;have aha:(setRow s0 e off (.lJ s (rs.set j (setCells s q off2 (bq E.P t) p)))).cells=e.cells.set off (.lJ s (rs.set j (setCells s q off2 (bq E.P t) p))):=UZ PO hb.2.2 ae;cases ha with
      | @KB _ _ _ _ _ _ g' dH hs=>
       have⟨cO,axs⟩:=JI i off g' qU dH;obtain⟨c,T,hh,sN,JF⟩:=hA.set (g:=g') dH hq hE hb.1 (PM hE.len (hA.2.2.2.2.1 j q hq));have hi:=oD (P:=E.P) (t:=t) aa;refine⟨_,μ,jy hE.size hi hh sN hE.one,λ_ _ h=>h,hM.ag7 hm rfl (.inr ⟨i,off,qU,dH⟩) (ou.setRow (ayd _)) setRow_size (λk hk=>cV hk) ?_ rfl (λj hj=>by simp[cS.names]at hj) ?_⟩
       .refine bw.change hN ae (λi' e' h'=>?_) rfl (λg0 hg0=>cV λe=>cO (by rw[<-e];omega)) (λi' e' j' p' g0 c0 _ x' h' DA hg0 hc0 U0 hold=>?_)
        .rcases gg h' with⟨_,rfl⟩|⟨_,h'⟩
         .grind
         .exact hN.2.2.2.2.1 i' e' h'
        .have other:∀e'' p'',es[i']?=U e''->e''.cells[j']?=U p''->(i',j')≠(i,off)->fK E.P μ ((φ id).row i' j') (w.setRow g' (cp c.toList (j*s+off2) yx.cells.toList).toArray) p'' x':=λe'' p'' h1 h2 h3=>(hold e'' p'' h1 h2).dd (λ_ _ h=>h) λGi g'' axF=>cV λe=>by grind [eH]
         rcases gg h' with⟨rfl,rfl⟩|⟨hni,h'⟩
         .rw[aha]at DA;rcases gg DA with⟨rfl,rfl⟩|⟨hnj,DA⟩
          .have hx0:gv E.P μ ((φ id).row i' j') w s rs x':=hold e _ he hce;refine⟨⟨R8,JF⟩,?_⟩;exact hx0.2
          grind
         grind
       .intro i' Es Gi;rcases nQ Gi with⟨_,_,_,e',s',rs',mH,h',DA⟩|⟨_,_,_,_,_,_,mH,_⟩
        .simp only[cS.nest.injEq]at mH;obtain⟨rfl,rfl,rfl⟩:=mH;rcases gg h' with⟨rfl,rfl⟩|⟨hni,h'⟩
         .rw[aha]at DA;rcases gg DA with⟨rfl,_⟩|⟨hnj,DA⟩
          .omega
          .rw[eH he DA];rfl
         .rw[eH h' DA];rfl
        .cases mH
    .cases h
   .cases h
  .cases h
 .cases h
end
structure Cells(P:Program)(μ:Ro)(sz:Nat)(es:List PV)(xs:List Value):Prop where
 len:xs.length=es.length*sz
 each:∀(i:Nat)e,es[i]?=U e->e.cells.length=sz
 rep:∀(i:Nat)e(j:Nat)p y,es[i]?=U e->e.cells[j]?=U p->xs[i*sz+j]?=U y->aH P μ p y
 one:∀(i:Nat)y,xs[i]?=U y->y.oneCell'=Y
section
variable {P:Program} {μ μ':Ro} {φ:Nat->aT} {w:World} {sz:Nat} {es es':List PV} {xs xs':List Value}
def Cells.nil:Cells P μ sz [] []:=⟨ae,ae,ae,ae⟩
def Cells.mono(h:Cells P μ sz es xs)(hμ:∀b o,μ b=U o->μ' b=U o):Cells P μ' sz es xs:=⟨h.len,h.each,λi e j p y h1 h2 h3=>(h.rep i e j p y h1 h2 h3).mono hμ,h.one⟩
def PQ{i j n:Nat}(hi:i<n)(hj:j<sz):i*sz+j<n*sz:=by have:(i+1)*sz<=n*sz:=ax8 _ hi;grind
def Cells.append(h:Cells P μ sz es xs)(h':Cells P μ sz es' xs'):Cells P μ sz (es++es') (xs++xs'):=by
 refine⟨by simp[h.len,h'.len,ayX],λi e hi=>?_,λi e j p y hi hj hy=>?_,λi y hy=>?_⟩
 .rw[ayJ]at hi;split at hi
  .exact h.each i e hi
  .exact h'.each _ e hi
 .rw[ayJ]at hi hy;split at hi
  .rename_i hl;have xQ:j<sz:=by rw[<-h.each i e hi];grind
   rw[BY (by rw[h.len];exact PQ hl xQ)]at hy;exact h.rep i e j p y hi hj hy
  next hl=>have hle:es.length*sz<=i*sz:=ax8 _ aa;rw[IT (by rw[h.len];omega)]at hy;refine h'.rep _ e j p y hi hj ?_;rw[<-hy,h.len,Nat.sub_mul];congr 1;omega
 .rw[ayJ]at hy;split at hy
  .exact h.one i y hy
  .exact h'.one _ y hy
def Cells.take(h:Cells P μ sz es xs)(n:Nat):Cells P μ sz (es.take n) (xs.take (n*sz)):=by refine⟨?_,λi e hi=>h.each i e (kX hi).2,λi e j p y hi hj hy=>h.rep i e j p y (kX hi).2 hj (kX hy).2,λi y hy=>h.one i y (kX hy).2⟩;rw[ayz,ayz,h.len];simp
def Cells.drop(h:Cells P μ sz es xs)(n:Nat):Cells P μ sz (es.drop n) (xs.drop (n*sz)):=by refine⟨by simp[h.len,Nat.sub_mul],λi e hi=>h.each _ e (Dx hi),λi e j p y hi hj hy=>h.rep _ e j p y (Dx hi) hj ?_,λi y hy=>h.one _ y (Dx hy)⟩;grind
variable{id:Nat}{et:TypeId}
theorem ba.cells(hA:ba P μ φ w id sz et es){g:Nat}(hg:(φ id).g=U g):∃(c:Array Value)(T:TypeId),w.heap[g]?=U (.cells c T (0,0))/\(φ id).cap*sz<=c.size/\es.length<=(φ id).cap/\es.length*sz<=c.size/\Cells P μ sz es (c.toList.take (es.length*sz)):=by
 obtain⟨a1,a2,a3,a4,a5,a6,a7⟩:=hA;rw[hg]at a7;obtain⟨c,T,c1,c2,c3,c4,c5⟩:=a7;have hle:es.length*sz<=c.size:=ayn (ax8 _ c3) c2;refine⟨c,T,c1,c2,c3,hle,ah,a5,λi e j p y hi hj hy=>?_,λi y hy=>?_⟩
 .grind
 grind
def ba.xc{g:Nat}{T:TypeId}{c:Array Value}(hph:(φ id).toNH=⟨U g,(φ id).cap,es.length,sz⟩)(sB:sz=bq P et)(fa:0<sz)(za:(φ id).cap<=maxLen)(hh:w.heap[g]?=U (.cells c T (0,0)))(hc:(φ id).cap*sz<=c.size)(hle:es.length<=(φ id).cap)(hC:Cells P μ sz es (c.toList.take (es.length*sz))):ba P μ φ w id sz et es:=by
 have e1:(φ id).g=U g:=by rw[hph]
 refine⟨by rw[hph],by rw[hph],sB,fa,hC.each,za,?_⟩;rw[e1];have xQ:∀(i:Nat)e(j:Nat)p,es[i]?=U e->e.cells[j]?=U p->i*sz+j<es.length*sz:=λi e j p hi hj=>PQ (No.1 hi).1 (by rw[<-hC.each i e hi];grind);refine⟨c,T,hh,hc,hle,λi e j p x hi hj hx=>?_,λi x hi hx=>?_⟩
 .exact hC.rep i e j p x hi hj ao
 .exact hC.one i x ao
inductive jG(P:Program)(μ:Ro)(w:World)(sz:Nat)(es:List PV):Value->Prop
 |none:es=[]->jG P μ w sz es (.slice Z 0 0)
 |some {a:Addr} {c:Nat} (xs:List Value):Cells P μ sz es xs->(∀(j:Nat)v,xs[j]?=U v->w.cell? (a.add j)=U v)->es.length<=c->c<=maxLen->jG P μ w sz es (.slice (U a) es.length c)
def ba.src(hA:ba P μ φ w id sz et es){g:Nat}(hg:(φ id).g=U g){lo len cap:Nat}(hl:lo+len<=es.length)(Sb:len<=cap)(axG:lo+cap<=(φ id).cap):jG P μ w sz ((es.drop lo).take len) (.slice (U ⟨g,lo*sz,Z⟩) len cap):=by
 have⟨c,T,c1,c2,c3,c4,c5⟩:=hA.cells hg;have za:=hA.wZ;have hlen:((es.drop lo).take len).length=len:=ah
 have:=jG.some (P:=P) (μ:=μ) (w:=w) (sz:=sz) (es:=(es.drop lo).take len) (a:=⟨g,lo*sz,Z⟩) (c:=cap) _ ((c5.drop lo).take len) (λj v hv=>?_) aa aa
 .simp_all
 grind [kX,Dx,Addr.add_mid,ez]
end
section
variable {R:Type} {E:Env}
def aH.src{P:Program}{G:Nat->Option (List PV)}{w0:bI}{μ:Ro}{φ:Nat->aT}{m:Mem}{w:World}{sz:Nat}{es:List PV}{y:Value}(hM:aR P G w0 μ φ m w)(h:aH P μ (.rs sz es) y):jG P μ w sz es y:=by
 cases h with
 |pj=>exact .none rfl
 |WW hc=>exact .some (es:=[]) [] .nil ae ae hc
 | @rs _ _ b o cap X h1 h2 h3 h4 h5 h6=>
  by_cases hz:sz=0
  .subst hz;refine .some [] ⟨ae,h3,λi e j p y hi hj=>?_,ae⟩ ae h1 h2;simp
  .have fG:∀k v,((I (es.length*sz)).map λk=>X (k/sz) (k%sz))[k]?=U v->∃(e:PV)(p:PV),es[k/sz]?=U e/\e.cells[k%sz]?=U p/\v=X (k/sz) (k%sz):=by
    intro k v hk;have bX:k<es.length*sz:=ao
    rw[AT,azz bX]at hk;simp at hk;have hi:k/sz<es.length:=(Nat.div_lt_iff_lt_mul aa).2 bX;have hj:k%sz<(es[k/sz]).cells.length:=by rw[h3 _ _ (ta hi)];exact aBe _ aa
    simp_all
   refine .some ((I (es.length*sz)).map λk=>X (k/sz) (k%sz)) ⟨ae,h3,λi e j p y hi hj hy=>?_,λk v hk=>?_⟩ (λk v hk=>?_) h1 h2
   .obtain⟨e',p',he,hp,rfl⟩:=fG _ _ hy;have xQ:j<sz:=ao
    have e1:(i*sz+j)/sz=i:=by rw[aAt,Nat.mul_add_div aa,Nat.div_eq_of_lt xQ];rfl
    simp_all[aAt,Nat.mul_add_mod,Nat.mod_eq_of_lt]
   .grind
   .obtain⟨e',p',he,hp,rfl⟩:=fG _ _ hk;rw[Addr.add_mid];have:=hM.cellAt (h4 _ e' _ p' he hp);rw[<-this];simp[congr,ayU,Nat.div_add_mod']
theorem vn{m:Mem}{sz:Nat}{x:V}{es:List PV}{ft:bS}(h:im m sz x=U (es,ft)):(∀m2:Mem,(∀x∈ft,m2 x.2=m x.2)->im m2 sz x=U (es,ft))/\(∀x∈ft,x.1=J)/\∀(P:Program)(G:Nat->Option (List PV))(w0:bI)(μ:Ro)(φ:Nat->aT)(w:World)(y:Value),aR P G w0 μ φ m w->az P μ φ x y->jG P μ w sz es y:=by
 unfold im at h;split at h
 .rename_i s es';split at h
  next hs=>simp only[tc,aq4]at h;obtain⟨rfl,rfl⟩:=h;subst hs;exact⟨λm2 _=>by simp[im],ae,λP G w0 μ φ w y hM hy=>by cases hy with|pv hy=>exact hy.src hM⟩
  .split at h
   .simp only[tc,aq4]at h;obtain⟨rfl,rfl⟩:=h;refine⟨λm2 _=>by simp[im],ae,λP G w0 μ φ w y hM hy=>?_⟩;cases hy with
    |pv hy=>cases hy with
     |pj=>exact .none rfl
     |WW hc=>exact .some (es:=[]) [] .nil ae ae hc
     |rs X h1 h2=>exact .some (es:=[]) [] .nil ae h1 h2
   .cases h
 .simp only[tc,aq4]at h;obtain⟨rfl,rfl⟩:=h;exact⟨λm2 _=>bm,ae,λP G w0 μ φ w y hM hy=>by cases hy;exact .none rfl⟩
 .rename_i id;have key:∀(s:Nat)(et:TypeId)(es:List PV),(m id=U (.arr s et es)\/m id=U (.xJ s et es))->∀(P:Program)(G:Nat->Option (List PV))(w0:bI)(μ:Ro)(φ:Nat->aT)(w:World)(y:Value),aR P G w0 μ φ m w->az P μ φ (.os id) y->jG P μ w s es y:=by
   intro s et es hm P G w0 μ φ w y hM hy;have hA:=hM.arr hm;cases hy with
   |BG hg=>obtain⟨a1,a2,a3,a4,a5,a6,a7⟩:=hA;rw[hg]at a7;exact .none a7.1
   |os hg=>have:=hA.src hg (lo:=0) (len:=es.length) (cap:=(φ id).cap) aa (hA.wZ).1 aa;rw[hA.1];simpa using this
  split at h
  .rename_i s' et es' hm;split at h
   next hs=>simp only[tc,aq4]at h;obtain⟨rfl,rfl⟩:=h;subst hs;exact⟨λm2 dC=>by have:=dC (J,id) ae;simp_all[im],ae,key _ _ _ (.inl hm)⟩
   .cases h
  .rename_i s' et es' hm;split at h
   next hs=>simp only[tc,aq4]at h;obtain⟨rfl,rfl⟩:=h;subst hs;exact⟨λm2 dC=>by have:=dC (J,id) ae;simp_all[im],ae,key _ _ _ (.inr hm)⟩
   .cases h
  .cases h
 .rename_i id lo len;have key:∀(s:Nat)(et:TypeId)(es:List PV),(m id=U (.arr s et es)\/m id=U (.xJ s et es))->∀(P:Program)(G:Nat->Option (List PV))(w0:bI)(μ:Ro)(φ:Nat->aT)(w:World)(y:Value),aR P G w0 μ φ m w->az P μ φ (.iJ id lo len) y->jG P μ w s ((es.drop lo).take len) y:=by
   intro s et es hm P G w0 μ φ w y hM hy;have hA:=hM.arr hm;have hle:=hA.wZ;have OY:=hA.1;have sB:=hA.2.1;cases hy with
   |zR hg=>simp;exact .none rfl
   |iJ hg hl ha hc1 Tc=>
    rcases ha with rfl|⟨ha,_⟩
    .rw[sB];exact hA.src hg aa hc1 Tc
    .have h0:len=0:=aa
     subst h0;simp only[aAb];exact .some (es:=[]) [] .nil ae ae aa
  split at h
  .rename_i s' et es' hm;split at h
   next hs=>simp only[tc,aq4]at h;obtain⟨rfl,rfl⟩:=h;subst hs;exact⟨λm2 dC=>by have:=dC (J,id) ae;simp_all[im],ae,key _ _ _ (.inl hm)⟩
   .cases h
  .rename_i s' et es' hm;split at h
   next hs=>simp only[tc,aq4]at h;obtain⟨rfl,rfl⟩:=h;subst hs;exact⟨λm2 dC=>by have:=dC (J,id) ae;simp_all[im],ae,key _ _ _ (.inr hm)⟩
   .cases h
  .cases h
 .rename_i id i off;split at h
  .rename_i s0 et0 es0 hm;have⟨e,he,h⟩:=IS.1 h;have⟨rs,hr,h⟩:=IS.1 h;simp only[tc,aq4]at h;obtain⟨rfl,rfl⟩:=h;refine⟨λm2 dC=>by have:=dC (J,id) ae;simp_all[im],ae,λP G w0 μ φ w y hM hy=>?_⟩;have hN:bw P μ φ w id s0 et0 es0:=hM.eE id _ hm;have⟨_,_,_,_,⟨⟨R8,hA⟩,_⟩,_⟩:=hN.row he hr;have hy:=hy.aak (ν:=μ);cases hy with
   |BG hg=>obtain⟨a1,a2,a3,a4,a5,a6,a7⟩:=hA;rw[hg]at a7;exact .none a7.1
   |os hg=>have:=hA.src hg (lo:=0) (len:=rs.length) (cap:=(((φ id).row i off).up).cap) aa (hA.wZ).1 aa;rw[hA.1];simpa using this
  .cases h
 .cases h
end
section
variable {P:Program} {w:World}
def xR{t ty e:TypeId}(hu:P.underlying t=U (.slice e))(hz:bq P e≠0){base a:Option Addr}{n cap c:Nat}(hn:n<=cap):(Builtin.append_ #[t,t] ty #[.slice base n cap,.slice a 0 c]).run P w=.ok (.slice base n cap) w:=by
 have⟨i,hi,hs⟩:=Io hz;have hl:∀x:Addr,(loadCells x 0).run P w=.ok #[] w:=λx=>bm
 cases base<;>cases a<;>simp[Builtin.append_,run_underlying hu,sizeOf,typeInfo,hi,Builtin.lenOf,Builtin.firstCells,hn,hl,storeCells]
end
def Mo{P:Program}{w:World}(t ty e T:TypeId)(i:TypeInfo)(ht:P.underlying t=U (.slice e))(hi:P.info? e=U i)(g aan anM:Nat)(cur:Array Value)(hg:w.heap[g]?=U (.cells cur T (0,0)))(a:Addr)(m c:Nat)(news:List Value)(hl:news.length=m*i.size)(arF:∀j u,news[j]?=U u->w.cell? (a.add j)=U u)(h1:∀u∈news,u.oneCell'=Y)(bG:aan+m<=anM)(sN:aan*i.size+news.length<=cur.size):(Builtin.append_ #[t,t] ty #[.slice (U ⟨g,0,Z⟩) aan anM,.slice (U a) m c]).run P w=.ok (.slice (U ⟨g,0,Z⟩) (aan+m) anM) (w.setRow g (cur.toList.take (aan*i.size)++news++cur.toList.drop (aan*i.size+news.length)).toArray):=by have hf:=run_firstCells_some (P:=P) w i.size m a m c news hl arF;have fL:=run_storeCells_at P g (aan*i.size) T news 0 cur w hg aa h1;simp only[az4]at fL;simp[Builtin.append_,run_underlying ht,sizeOf,typeInfo,hi,Builtin.lenOf,bG,hf,Addr.add_mid,fL]
section
variable {R:Type} {E:Env}
variable{t:TypeId}
def Tm{P:Program}{i:TypeInfo}(hi:P.info? t=U i):i.bytes=Sf P t/\i.size=bq P t:=by simp[Sf,bq,hi]
def PR{P:Program}{e ty:TypeId}{sz len n:Nat}{z:Value}{i:TypeInfo}(hu:P.underlying t=U (.slice e))(hi:P.info? e=U i)(hzv:i.zero=U z)(hzs:z.cells.size=sz)(sB:sz=bq P e)(fa:0<bq P e)(hby:0<Sf P e)(bG:(len+n)*Sf P e<=au){w:World}{ys yx:Value}{os xs:List Value}(hs:(ys=.slice Z 0 0/\len=0/\os=[])\/∃(g cap:Nat)(c:Array Value)(T:TypeId),ys=.slice (U ⟨g,0,Z⟩) len cap/\w.heap[g]?=U (.cells c T (0,0))/\cap*sz<=c.size/\len<=cap/\cap<=maxLen/\os=c.toList.take (len*sz))(hx:(yx=.slice Z 0 0/\n=0/\xs=[])\/∃(a:Addr)(cx:Nat),yx=.slice (U a) n cx/\xs.length=n*sz/\(∀(j:Nat)v,xs[j]?=U v->w.cell? (a.add j)=U v)/\(∀v∈xs,v.oneCell'=Y)/\n<=cx/\cx<=maxLen):∃w' y,(Builtin.append_ #[t,t] ty #[ys,yx]).run P w=.ok y w'/\((y=.slice Z 0 0/\w'=w/\len=0/\n=0)\/∃(g cap:Nat)(c:Array Value)(T:TypeId),y=.slice (U ⟨g,0,Z⟩) (len+n) cap/\w'.heap[g]?=U (.cells c T (0,0))/\cap*sz<=c.size/\len+n<=cap/\cap<=maxLen/\c.toList.take ((len+n)*sz)=os++xs/\((∃akP,ys=.slice (U ⟨g,0,Z⟩) len akP/\ou g w w'/\∀k,k≠g->w'.heap[k]?=w.heap[k]?)\/(g=w.heap.size/\w'=w.drew.alloc (.cells c e)))):=by
 have⟨hib,his⟩:=Tm hi;have avJ:len+n<=140737488355328:=by have:(len+n)*1<=(len+n)*Sf P e:=azy _ hby;grind [au]
 have axH:len+n<=maxLen:=by simp only[maxLen];omega
 have hzc:∀n,(Builtin.zeroCells z.cells n).size=n*sz:=λn=>by rw[size_zeroCells,hzs]
 rcases hs with⟨rfl,rfl,rfl⟩|⟨g,cap,c,T,rfl,g4,g5,g6,g7,rfl⟩
 .rcases hx with⟨rfl,rfl,rfl⟩|⟨a,cx,rfl,PL,PN,hx1,hcx,hcm⟩
  .exact⟨w,_,xR hu aa (ayd _),.inl ⟨rfl,rfl,rfl,rfl⟩⟩
  .by_cases h0:n=0
   .subst h0;exact⟨w,_,xR hu aa (ayd _),.inl ⟨rfl,rfl,rfl,rfl⟩⟩
   .have hr:=run_append_nil (P:=P) w t ty e i z hu hi hzv a n cx xs (by rw[PL,sB,his]) PN aa aa (by simp only[au,azf]at bG;rw[hib];omega);have L4:=grownCap_ge w n 0 e;refine⟨_,_,hr,.inr ⟨w.heap.size,grownCap w n 0 e,xs.toArray++Builtin.zeroCells z.cells (grownCap w n 0 e-n),e,ae,iG w.drew _,?_,aa,grownCap_le_maxLen w _ 0 e aa,?_,.inr ⟨rfl,rfl⟩⟩⟩
    .rw[aAO,hzc];simp only[azd,PL,<-ayX];simp_all
    simp_all
 .have h1:(c.toList.take (len*sz)).length=len*sz:=by have:len*sz<=cap*sz:=ax8 _ g6;simp;omega
  rcases hx with⟨rfl,rfl,rfl⟩|⟨a,cx,rfl,PL,PN,hx1,hcx,hcm⟩
  .exact⟨w,_,xR hu aa g6,.inr ⟨g,cap,c,T,rfl,g4,g5,aa,g7,ae,.inl ⟨cap,rfl,ou.refl _ _,λ_ _=>rfl⟩⟩⟩
  .by_cases Tn:len+n<=cap
   .have sN:len*i.size+xs.length<=c.size:=by rw[his,<-sB,PL,<-ayX];exact ayn (ax8 _ Tn) g5
    have hr:=Mo (P:=P) (w:=w) t ty e T i hu hi g len cap c g4 a n cx xs (by rw[PL,sB,his]) PN hx1 Tn sN;rw[his,<-sB]at hr sN;refine⟨_,_,hr,.inr ⟨g,cap,_,T,rfl,setRow_heap w g c _ T (0,0) g4,?_,Tn,g7,?_,.inl ⟨cap,rfl,ou.setRow (ayd _),λk hk=>cV hk⟩⟩⟩
    .grind
    grind [List.take_left',List.length_append,Nat.add_mul]
   .have hr:=run_append_grow (P:=P) w t ty e i z hu hi hzv ⟨g,0,Z⟩ len cap (c.toList.take (len*sz)) (by rw[h1,sB,his]) (λj v hj=>by
      grind [Addr.add_mid,ez,kX]) a n cx xs (by rw[PL,sB,his]) PN aa aa
     (growslice_fits aa (by simp_all[au]))
    have L4:=grownCap_ge w (len+n) cap e;refine⟨_,_,hr,.inr ⟨w.heap.size,_,_,e,rfl,iG w.drew _,?_,L4,grownCap_le_maxLen w _ cap e aa,?_,.inr ⟨rfl,rfl⟩⟩⟩
    .rw[aAO,aAO,hzc];simp only[azd,PL,h1,<-ayX];simp_all
    grind [Array.toList_append,List.take_left',List.length_append,Nat.add_mul]
def PS{e ty:TypeId}{sz:Nat}{es new:List PV}{z:List V}(hu:E.P.underlying t=U (.slice e))(hz:dO E e=U z)(sB:sz=bq E.P e)(fa:0<bq E.P e)(hby:0<Sf E.P e)(bG:(es++new).length*Sf E.P e<=au){G:Nat->Option (List PV)}{w0:bI}{μ:Ro}{φ:Nat->aT}{m:Mem}{w:World}{ρ:Nat->Value}{f:Fr}{draw:Bool}{site:Nat}(hM:aR E.P G w0 μ φ m w)(hF:cR E.P μ φ m f ρ){ys yx:Value}(hx:jG E.P μ w sz new yx)(hs:(ys=.slice Z 0 0/\es=[])\/∃(g cap:Nat)(c:Array Value)(T:TypeId),ys=.slice (U ⟨g,0,Z⟩) es.length cap/\(w0.heap.size<=g/\w0.hid g=Z)/\μ g=Z/\(∀id b',m id=U b'->¬b'.owns (φ id) g)/\w.heap[g]?=U (.cells c T (0,0))/\cap*sz<=c.size/\es.length<=cap/\cap<=maxLen/\es.length*sz<=c.size/\Cells E.P μ sz es (c.toList.take (es.length*sz))){f':Fr}{m':Mem}(Et:∀(P:Program)(G:Nat->Option (List PV))(w0:bI)(μ:Ro)(φ:Nat->aT)(w w':World)(ρ:Nat->Value)(ph:aT),aR P G w0 μ φ m w->cR P μ φ m f ρ->pk P w0 μ φ m w w' site (.arr sz e (es++new)) ph->∃φ',φ' site=ph/\aR P G w0 μ φ' m' w'/\cR P μ φ' m' f' ρ):∃w' y φ',(Builtin.append_ #[t,t] ty #[ys,yx]).run E.P w=.ok y w'/\aR E.P G w0 μ φ' m' w'/\cR E.P μ φ' m' f' ρ/\az E.P μ φ' (.os site) y:=by
 have⟨i,zv,hi,hzv,his,_,hzs,_,_,_⟩:=eA hz;have hll:(es++new).length=es.length+new.length:=ae
 obtain⟨os,hos,hC⟩:∃os,((ys=.slice Z 0 0/\es.length=0/\os=[])\/∃(g cap:Nat)(c:Array Value)(T:TypeId),ys=.slice (U ⟨g,0,Z⟩) es.length cap/\w.heap[g]?=U (.cells c T (0,0))/\cap*sz<=c.size/\es.length<=cap/\cap<=maxLen/\os=c.toList.take (es.length*sz))/\Cells E.P μ sz es os:=by
  rcases hs with⟨h1,rfl⟩|⟨g,cap,c,T,h1,h2,h3,h4,h5,h6,h7,h8,h9,h10⟩
  .exact⟨[],.inl ⟨h1,rfl,rfl⟩,.nil⟩
  grind
 obtain⟨xs,PN,hCx⟩:∃xs,((yx=.slice Z 0 0/\new.length=0/\xs=[])\/∃(a:Addr)(cx:Nat),yx=.slice (U a) new.length cx/\xs.length=new.length*sz/\(∀(j:Nat)v,xs[j]?=U v->w.cell? (a.add j)=U v)/\(∀v∈xs,v.oneCell'=Y)/\new.length<=cx/\cx<=maxLen)/\Cells E.P μ sz new xs:=by
  cases hx with
  |none hn=>subst hn;exact⟨[],.inl ⟨rfl,rfl,rfl⟩,.nil⟩
  | @some a cx xs hC PN hcx hcm=>exact⟨xs,.inr ⟨a,cx,rfl,hC.len,PN,λu hu=>by have⟨j,hj⟩:=ayV hu;exact hC.one j u hj,hcx,hcm⟩,hC⟩
 obtain⟨w',y,hr,Xu⟩:=PR (ty:=ty) hu hi hzv aa sB fa hby av hos PN;rcases Xu with⟨rfl,rfl,h1,h2⟩|⟨g',OL,c',T',rfl,b1,b2,b3,b4,b5,b6⟩
 .have h1:es=[]:=ayh h1;have h2:new=[]:=ayh h2;obtain⟨φ',a1,a2,a3⟩:=Et E.P G w0 μ φ w' w' ρ (NI Z 0 0 sz) hM hF ⟨ou.refl _ _,hM.ro,λ_ _ _ _ _=>rfl,ae,λφ' hp _=>by refine⟨by rw[hp,h1,h2];rfl,by rw[hp],sB,aa,by rw[h1,h2];simp,by rw[hp];simp[maxLen],?_⟩;simp_all,gu,λg o h=>⟨(hM.hid g o h).1,ae⟩,λst h=>by cases h⟩;exact⟨w',_,φ',hr,a2,a3,.BG (by rw[a1])⟩
 .have hCC:Cells E.P μ sz (es++new) (c'.toList.take ((es++new).length*sz)):=by rw[hll,b5];exact hC.append hCx
  have fin:∀(φ':Nat->aT),φ' site=NI (U g') OL (es++new).length sz->az E.P μ φ' (.os site) (.slice (U ⟨g',0,Z⟩) (es.length+new.length) OL):=λφ' a1=>by have:=az.os (P:=E.P) (μ:=μ) (φ:=φ') (id:=site) (g:=g') (by rw[a1]);simp_all
  rcases b6 with⟨akP,hys,b6,b7⟩|⟨rfl,rfl⟩
  .rcases hs with⟨h1,_⟩|⟨g,cap,c,_,h1,h2,h3,h4,_⟩
   .rw[hys]at h1;cases h1
   rw[hys]at h1;simp only[Value.slice.injEq,tc,Addr.mk.injEq]at h1;obtain⟨⟨rfl,_⟩,_⟩:=h1;obtain⟨φ',a1,a2,a3⟩:=Et E.P G w0 μ φ w w' ρ (NI (U g') OL (es++new).length sz) hM hF ⟨b6.mono h2.1,λk o hk=>by rw[b7 k (λe=>av)];exact hM.ro k o hk,λid b' g' hid dH=>b7 g' (λe=>av),λg' dH=>av,λφ' hp _=>ba.xc (by rw[hp]) sB aa (by rw[hp];omega) b1 (by rw[hp];omega) (by rw[hp,hll];omega) hCC,gu,λg o h=>(by
    have cO:g≠g':=λe=>by subst e;rw[h2.2]at h;cases h
    exact⟨(b7 g cO).trans (hM.hid g o h).1,λe=>by cases e;exact cO rfl⟩),λst h=>by cases h⟩
   grind
  .obtain⟨φ',a1,a2,a3⟩:=Et E.P G w0 μ φ w.drew _ ρ (NI (U w.heap.size) OL (es++new).length sz) hM.drew hF (pk.alloc (o:=.cells c' e) hM.drew rfl (λφ' hp _=>ba.xc (g:=w.heap.size) (by rw[hp]) sB aa (by rw[hp];omega) (iG w.drew _) (by rw[hp];omega) (by rw[hp,hll];omega) hCC) gu);grind
end
section
variable {R:Type} {E:Env}
def aao{draw:Bool}{site:Nat}{t t':TypeId}{s x:V}{f:Fr}{m:Mem}{k:V->Fr->Mem->Option R}{r:R}(h:KH E draw site t t' s x f m k=U r):draw=J/\t'=t/\∃place f' m',k (.os place) f' m'=U r/\(m' place).isSome=Y/\∀(G:Nat->Option (List PV))(w0:bI)(μ:Ro)(φ:Nat->aT)(w:World)(ρ:Nat->Value)(ys yx:Value)(ty:TypeId),aR E.P G w0 μ φ m w->cR E.P μ φ m f ρ->az E.P μ φ s ys->az E.P μ φ x yx->∃w' y φ',(Builtin.append_ #[t,t] ty #[ys,yx]).run E.P w=.ok y w'/\aR E.P G w0 μ φ' m' w'/\cR E.P μ φ' m' f' ρ/\az E.P μ φ' (.os place) y:=by
 unfold KH at h;split at h
 .cases h
 .rename_i hd;simp only[ayj,aAI,ay1,aza,tb,Bool.not_eq_eq_eq_not,aq3,ayi]at hd;refine⟨hd.1,by simpa using hd.2,?_⟩;split at h
  .rename_i e hu;split at h
   .cases h
   .rename_i hz;obtain⟨z,hz⟩:∃z,dO E e=U z:=by
     cases hq:dO E e with
     |none=>simp[hq]at hz
     |some z=>simp
    split at h
    .rename_i new ft PO;have⟨_,_,IW⟩:=vn PO;split at h
     .split at h
      next hb=>have⟨f',m',_,hk,Gj,_,Et⟩:=cU h;refine⟨_,f',m',hk,by simp[Gj],λG w0 μ φ w ρ ys yx ty hM hF hs hx=>?_⟩;cases hs;exact PS (es:=[]) (draw:=J) hu hz rfl hb.2.2 hb.2.1 (by simpa using hb.1) hM hF (IW _ _ _ _ _ _ _ hM hx) (.inl ⟨rfl,rfl⟩) Et
      .cases h
     .rename_i id;split at h
      .rename_i sz et es hm;split at h
       .rename_i hc;obtain⟨rfl,rfl,axI⟩:=hc;split at h
        .rename_i hb;have⟨f',m',_,hk,Gj,_,Et⟩:=cU h;refine⟨_,f',m',hk,by simp[Gj],λG w0 μ φ w ρ ys yx ty hM hF hs hx=>?_⟩;have EA:=hM.forget id;have OO:=hF.forget id;have hA:ba E.P μ φ w id (bq E.P et) et es:=hM.eE id _ hm;have fa:0<bq E.P et:=hA.2.2.2.1;refine PS (draw:=J) hu hz rfl fa hb.2 hb.1 EA OO (IW _ _ _ _ _ _ _ hM hx) ?_ Et;cases hs with
         |BG hg=>have a7:=hA.2.2.2.2.2.2;simp_all
         | @os _ g hg=>have⟨c,T,c1,c2,c3,c4,c5⟩:=hA.cells hg;obtain⟨o1,o2⟩:=hM.own id _ g hm (.inl hg);refine .inr ⟨g,(φ id).cap,c,T,by rw[hA.1],⟨o1,hM.anL hm (.inl hg)⟩,o2 rfl,λj b' hj dH=>?_,c1,c2,c3,hA.wZ.2,c4,c5⟩;obtain⟨cO,b2,yO,rfl⟩:=iA hj;exact cO (hM.inj j id b2 _ g yO hm (iF.1 dH) (.inl hg))
        .cases h
       .cases h
      .cases h
     .cases h
    .cases h
  .cases h
def U1{P:Program}{w:World}{dT ty elem:TypeId}{ts:List TypeId}{g arG dCap:Nat}{c:Array Value}{T:TypeId}{sz:Nat}{es new:List PV}{μ:Ro}{yx:Value}(hu:P.underlying dT=U (.slice elem))(sB:sz=bq P elem)(fa:0<sz)(hx:jG P μ w sz new yx)(hg:w.heap[g]?=U (.cells c T (0,0)))(hle:es.length*sz<=c.size)(hd:arG=es.length)(hC:Cells P μ sz es (c.toList.take (es.length*sz))):∃c':Array Value,(Builtin.copy_ (dT::ts).toArray ty #[.slice (U ⟨g,0,Z⟩) arG dCap,yx]).run P w=.ok (goInt ((min new.length es.length:Nat):Int)) (w.setRow g c')/\c'.size=c.size/\Cells P μ sz (new.take es.length++es.drop new.length) (c'.toList.take ((new.take es.length++es.drop new.length).length*sz)):=by
 subst hd;obtain⟨i,hi,hs⟩:=Io (P:=P) (t:=elem) aa;have hnl:(new.take es.length++es.drop new.length).length=es.length:=ah
 rw[hnl];cases hx with
 |none hn=>subst hn;refine⟨c,?_,rfl,by simpa using hC⟩;have:=setRow_self w g c T (0,0) hg;rw[this];simp[Builtin.copy_,run_underlying hu,Builtin.lenOf,Builtin.firstCells,sizeOf,typeInfo,hi,storeCells]
 | @some a cx xs hX PN hcx hcm=>
  have akQ:Nat.min new.length es.length=min new.length es.length:=rfl;have hl:(xs.take (min new.length es.length*sz)).length=min new.length es.length*i.size:=by rw[hs,<-sB,ayz,hX.len];simp
  have axJ:min new.length es.length*sz<=es.length*sz:=ax8 _ (Nat.min_le_right _ _);have hf:=run_firstCells_some (P:=P) w i.size (min new.length es.length) a new.length cx (xs.take (min new.length es.length*sz)) hl (λj v hj=>PN j v (kX hj).2);have hl':(xs.take (min new.length es.length*sz)).length=min new.length es.length*sz:=by rw[hl,hs,sB]
  have fL:=run_storeCells_at P g 0 T (xs.take (min new.length es.length*sz)) 0 c w hg aa (λv hv=>by have⟨j,hj⟩:=ayV hv;exact hX.one j v (kX hj).2);simp only[azf,aAb,azg,hl']at fL;refine⟨(xs.take (min new.length es.length*sz)++c.toList.drop (min new.length es.length*sz)).toArray,?_,?_,?_⟩
  .have axt:Nat.min new.length es.length=min new.length es.length:=rfl;simp_all[Builtin.copy_,run_underlying,Builtin.lenOf,sizeOf,typeInfo]
  .grind
  .have e1:(xs.take (min new.length es.length*sz)++c.toList.drop (min new.length es.length*sz)).take (es.length*sz)=xs.take (min new.length es.length*sz)++(c.toList.take (es.length*sz)).drop (min new.length es.length*sz):=by simp_all[List.take_append,List.drop_take,ayu]
   simp only[];rw[e1];have h1:=(hX.take (min new.length es.length)).append (hC.drop (min new.length es.length));have e2:new.take (min new.length es.length)=new.take es.length:=ao
   have e3:es.drop (min new.length es.length)=es.drop new.length:=ae
   simp_all
def To{R:Type}(m:Mem)(sz:Nat)(x:V)(k:List PV->bS->Option R):UN m sz x k=(im m sz x).bind λp=>k p.1 p.2:=by
 cases x with
 |Gm id i off=>simp only[UN,im];grind
 |_=>simp only[UN];grind
def ahb{t:TypeId}{d x:V}{m:Mem}{k:V->Mem->bS->Option R}{r:R}(h:Xe E t d x m k=U r):∃n id b ft,(∀m2:Mem,(∀x∈((Y,id)::ft:bS),m2 x.2=m x.2)->∀(R':Type)(k':V->Mem->bS->Option R'),Xe E t d x m2 k'=k' (.pv (.int .i64 n)) (aO m2 id b) ((Y,id)::ft))/\k (.pv (.int .i64 n)) (aO m id b) ((Y,id)::ft)=U r/\∀(G:Nat->Option (List PV))(w0:bI)(μ:Ro)(φ:Nat->aT)(w:World)(ρ:Nat->Value)(f:Fr)(yd yx:Value)(ts:List TypeId)(ty:TypeId),aR E.P G w0 μ φ m w->cR E.P μ φ m f ρ->az E.P μ φ d yd->az E.P μ φ x yx->∃w' φ',(Builtin.copy_ (t::ts).toArray ty #[yd,yx]).run E.P w=.ok (.int .i64 n) w'/\aR E.P G w0 μ φ' (aO m id b) w'/\cR E.P μ φ' (aO m id b) f ρ/\(Lit.int .i64 n).wf=true:=by
 unfold Xe at h;split at h
 .rename_i e hu;split at h
  .rename_i id;split at h
   .rename_i sz et es hm;split at h
    .rename_i hc;rw[To]at h;have⟨⟨new,ft⟩,PO,h⟩:=IS.1 h
     .obtain⟨aap,_,IW⟩:=vn PO;refine⟨_,id,_,ft,λm2 dC R' k'=>?_,h,λG w0 μ φ w ρ f yd yx ts ty hM hF hd hx=>?_⟩
      .have h1:=dC (Y,id) ae;simp_all[Xe,BY,To,ayg]
      .have hA:ba E.P μ φ w id sz et es:=hM.eE id _ hm;have hS:=IW _ _ _ _ _ _ _ hM hx;have hle:=hA.wZ;have hlen:(new.take es.length++es.drop new.length).length=es.length:=ah
       have Tb:(Lit.int .i64 ((min new.length es.length:Nat):Int)).wf=true:=PE aa;cases hd with
       |BG hg=>
        have a7:=hA.2.2.2.2.2.2;rw[hg]at a7;have h0:=a7.1;subst h0;refine⟨w,φ,?_,?_,?_,Tb⟩
        .obtain⟨i,hi,hs⟩:=Io (P:=E.P) (t:=e) (by have:=hA.2.2.2.1;omega);have W0:∀x:Addr,(loadCells x 0).run E.P w=.ok #[] w:=λx=>bm
         cases hS with
         |none hn=>subst hn;simp[Builtin.copy_,run_underlying hu,Builtin.lenOf,Builtin.firstCells,sizeOf,typeInfo,hi,hA.1,goInt]
         |some xs hX PN hcx hcm=>simp[Builtin.copy_,run_underlying hu,Builtin.lenOf,Builtin.firstCells,sizeOf,typeInfo,hi,hA.1,W0,goInt]
        .have:aO m id (.arr sz et (new.take ([]:List PV).length++([]:List PV).drop new.length))=m:=by
          funext j;by_cases e:j=id
          .subst e;simp[hm]
          .rw[aN e]
         rw[this];omega
        .exact hF.sL (λ_ _ h=>h) .set
       | @os _ g hg=>
        have⟨c,T,c1,c2,c3,c4,c5⟩:=hA.cells hg;obtain⟨c',r1,r2,r3⟩:=U1 (ts:=ts) (ty:=ty) (dCap:=(φ id).cap) hu hc.1 hA.2.2.2.1 hS c1 c4 hA.1 c5;refine⟨_,φ,r1,hM.write hm rfl hg (ou.setRow (ayd _)) setRow_size (λk hk=>cV hk) ?_ rfl gu,hF.sL (λ_ _ h=>h) .set,Tb⟩;refine ba.xc (g:=g) ?_ hA.2.2.1 hA.2.2.2.1 hle.2 (setRow_heap w g c c' T (0,0) c1) aa (by rw[hlen];omega) r3;rw[hlen,<-hA.1,<-hA.2.1];cases hq:(φ id).toNH with
        |mk a b c d=>simp_all
    .cases h
   .cases h
  .cases h
 .cases h
end
end Go.Ab
namespace Go.Ab
open Go.RowKit (Below)
section
variable {R:Type} {E:Env}
def cells_one{x:Value}(h:x.oneCell'=Y):x.cells= #[x]:=by cases x<;>first|rfl|(simp[Value.oneCell']at h)
def aH.elem{P:Program}{μ:Ro}{n:Nat}{p:PV}{x:Value}(h:aH P μ p x)(hl:p.cells.length=n)(hp:p.plain=Y):Cu P μ n p x:=by
 cases hq:p.isAgg with
 |true=>
  cases p<;>simp[PV.isAgg]at hq;cases h with
  |agg h1 h2 h3=>exact⟨hl,by simp_all[PV.cells,Value.cells],h2,h3⟩
 |false=>
  have hc:p.cells=[p]:=by cases p<;>first|rfl|(simp[PV.isAgg]at hq)
  have h1:x.oneCell'=true:=h.one (λcs e=>by subst e;simp[PV.isAgg]at hq) (λcs e=>by subst e;simp[PV.plain]at hp) (λe=>by subst e;simp[PV.plain]at hp);have hx:=cells_one h1;refine⟨hl,av,λj q y hj hy=>?_,λj y hy=>?_⟩
  .grind
  grind
variable{t:TypeId}
def Mp{z:PV}(h:Mh E t=U z):∃i zv,E.P.info? t=U i/\i.zero=U zv/\i.size=bq E.P t/\(∀μ,aH E.P μ z zv)/\∀μ,Cu E.P μ (bq E.P t) z zv:=by
 unfold Mh zeroV at h;cases hi:E.P.info? t with
 |none=>simp[hi]at h
 |some i=>
  cases hz:i.zero with
  |none=>simp[hi,hz]at h
  |some zv=>
   simp only[hi,hz,ayg,IN]at h;split at h
   .rename_i p hp;split at h
    next hc=>simp only[tc]at h;subst h;have hr:∀μ,aH E.P μ p zv:=λμ=>Dz 2 hp (Dw (φ:=λ_=>default) zv);exact⟨i,zv,rfl,hz,by simp[bq,hi],hr,λμ=>(hr μ).elem hc.2.1 hc.2.2⟩
    .cases h
   .cases h
def aaq{z:PV}(h:Mh E t=U z):∃zv,(∀w,(zeroValue t).run E.P w=.ok zv w)/\∀μ,aH E.P μ z zv:=by have⟨i,zv,h1,h2,h3,h4,_⟩:=Mp h;simp_all[vQ]
def Cells.made{P:Program}{μ:Ro}{sz:Nat}{z:PV}{zv:Value}(hE:Cu P μ sz z zv)(fa:0<sz)(n cap:Nat)(hn:n<=cap):Cells P μ sz (List.replicate n z) ((madeCells zv.cells (cap*sz)).toList.take ((List.replicate n z).length*sz)):=by
 have hle:n*sz<=cap*sz:=ax8 _ hn;have fG:∀k y,((madeCells zv.cells (cap*sz)).toList.take ((List.replicate n z).length*sz))[k]?=U y->zv.cells[k%sz]?=U y:=by
  intro k y hk;have⟨h1,h2⟩:=kX hk;simp only[ayD]at h1;have bX:k%sz<zv.cells.size:=by rw[hE.size];exact aBe _ fa
  rw[ayQ,madeCells,Array.getElem?_map,Array.getElem?_range]at h2;rw[BY aa]at h2;simp only[IN,tc,hE.size]at h2;simp_all
 refine⟨by rw[ayz,ayD,aAB,size_madeCells];omega,λi e hi=>?_,λi e j p y hi hj hy=>?_,λk y hk=>hE.one _ y (fG k y hk)⟩
 .rw[aAT]at hi;split at hi
  .simp only[tc]at hi;subst hi;exact hE.len
  .cases hi
 .rw[aAT]at hi;split at hi
  .simp only[tc]at hi;subst hi;have xQ:j<sz:=by rw[<-hE.len];grind
   have:=fG _ y hy;rw[aAt,Nat.mul_add_mod,Nat.mod_eq_of_lt xQ]at this;exact hE.rep j p y hj this
  .cases hi
def Sr{draw:Bool}{site:Nat}{len cap:V}{f:Fr}{m:Mem}{k:V->Fr->Mem->bS->Option R}{r:R}(h:zP E draw site t len cap f m k=U r):∃f' m' b,(draw=Y->m site=Z/\f'=f/\m'=aO m site b/\∀(f2:Fr)(m2:Mem),m2 site=Z->∀(R':Type)(k':V->Fr->Mem->bS->Option R'),zP E Y site t len cap f2 m2 k'=k' (.os site) f2 (aO m2 site b) [(Y,site)])/\k (.os site) f' m' [(Y,site)]=U r/\(m' site).isSome=Y/\∀(G:Nat->Option (List PV))(w0:bI)(μ:Ro)(φ:Nat->aT)(w:World)(ρ:Nat->Value)(yl yc:Value),aR E.P G w0 μ φ m w->cR E.P μ φ m f ρ->az E.P μ φ len yl->az E.P μ φ cap yc->∃w' y φ',(Instr.makeSlice t yl yc).run E.P w=.ok y w'/\aR E.P G w0 μ φ' m' w'/\cR E.P μ φ' m' f' ρ/\az E.P μ φ' (.os site) y:=by
 unfold zP at h;split at h
 .rename_i e ql n qc c hu;split at h
  .rename_i z hz;split at h
   .rename_i hb;have⟨f',m',_,hk,Gj,Gk,Et⟩:=cU h;refine⟨f',m',.arr (bq E.P e) e (List.replicate n.toNat z),λhd=>?_,hk,by simp[Gj],λG w0 μ φ w ρ yl yc hM hF hl hc=>?_⟩
    .simp_all[zP,BY,fresh]
    .obtain⟨i,zv,h1,h2,h3,_,h4⟩:=Mp hz;have⟨hib,_⟩:=Tm h1;have hc1:c.toNat<=140737488355328:=by have:c.toNat*1<=c.toNat*Sf E.P e:=azy _ hb.2.2.2.1;grind [au]
     cases hl with
     |pv hl=>cases hl with
      |int wl=>
       cases hc with
       |pv hc=>cases hc with
        |int wc=>
         have anN:(i.bytes:Int)*c<=281474976710656:=by grind [au,Sf,Int.natCast_mul,Int.toNat_of_nonneg,Int.mul_comm]
         have hr:=run_make (P:=E.P) w t e i zv hu h1 h2 ql qc n c hb.1 hb.2.1 anN aa;rw[h3]at hr;obtain⟨φ',a1,a2,a3⟩:=Et E.P G w0 μ φ w _ ρ (NI (U w.heap.size) c.toNat (List.replicate n.toNat z).length (bq E.P e)) hM hF (pk.alloc (o:=.cells (madeCells zv.cells (c.toNat*bq E.P e)) e) hM rfl (λφ' hp _=>ba.xc (g:=w.heap.size) (by rw[hp]) rfl hb.2.2.2.2 (by rw[hp];simp only[maxLen];omega) (iG w _) (by rw[hp];simp[size_madeCells]) (by rw[hp];simp;omega) (Cells.made (h4 μ) hb.2.2.2.2 _ _ aa)) gu);refine⟨_,_,φ',hr,a2,a3,?_⟩;have:=az.os (P:=E.P) (μ:=μ) (φ:=φ') (id:=site) (g:=w.heap.size) (by rw[a1]);simp_all
   .cases h
  .cases h
 .cases h
def aar(cells:Array Value)(n:Nat):Builtin.zeroCells cells n=madeCells cells (n*cells.size):=rfl
def aeB{x:V}{m:Mem}{k:V->Mem->bS->Option R}{r:R}(h:Po E t x m k=U r):∃id b,(∀m2:Mem,m2 id=m id->∀(R':Type)(k':V->Mem->bS->Option R'),Po E t x m2 k'=k' .top (aO m2 id b) [(Y,id)])/\k .top (aO m id b) [(Y,id)]=U r/\∀(G:Nat->Option (List PV))(w0:bI)(μ:Ro)(φ:Nat->aT)(w:World)(ρ:Nat->Value)(f:Fr)(yx:Value)(ts:List TypeId)(ty:TypeId),aR E.P G w0 μ φ m w->cR E.P μ φ m f ρ->az E.P μ φ x yx->∃w',(Builtin.clear_ (t::ts).toArray ty #[yx]).run E.P w=.ok (.tuple #[]) w'/\aR E.P G w0 μ φ (aO m id b) w'/\cR E.P μ φ (aO m id b) f ρ:=by
 unfold Po at h;split at h
 .rename_i e hu;split at h
  .rename_i id lo len z hz;split at h
   .rename_i sz et es hm;split at h
    .rename_i hc;obtain⟨sB,rfl,hle,fa⟩:=hc;refine⟨id,_,λm2 dC R' k'=>?_,h,λG w0 μ φ w ρ f yx ts ty hM hF hx=>?_⟩
     .simp_all[Po,BY,trivial]
     .obtain⟨i,zv,h1,h2,h3,h4,h5⟩:=Mp hz;have hA:ba E.P μ φ w id sz et es:=hM.eE id _ hm;have arH:len=0->aO m id (.arr sz et (es.take lo++(List.replicate len z++es.drop (lo+len))))=m:=by
       intro h0;subst h0;rw[List.replicate_zero,azg,az4,azo];funext j;by_cases ej:j=id
       .subst ej;simp[hm]
       .rw[aN ej]
      cases hx with
      |zR hg=>rw[arH rfl];simp_all[Builtin.clear_,run_underlying]
      | @iJ _ _ _ cap g a hg hl ha hc1 Tc=>
       by_cases h0:len=0
       .simp_all[Builtin.clear_,run_underlying]
       .have za:=hA.wZ;have OY:=hA.1;have axK:=hA.2.1;have arI:a=⟨g,lo*sz,Z⟩:=ao
        subst arI;have⟨c,T,c1,c2,c3,c4,c5⟩:=hA.cells hg;have hzs:zv.cells.size=sz:=by rw[(h5 μ).size,sB]
        have hn:len*zv.cells.size=len*sz:=by rw[hzs]
        have hlen:(madeCells zv.cells (len*sz)).toList.length=len*sz:=by simp[size_madeCells]
        have WZ:(lo+len)*sz<=es.length*sz:=ax8 _ hle;have yO:(lo+len)*sz=lo*sz+len*sz:=ayX _ _ _;have EA:=Cells.made (P:=E.P) (μ:=μ) (by rw[<-sB]at h5;exact h5 μ) aa len len (ayd _);have Dy:∀v∈(madeCells zv.cells (len*sz)).toList,v.oneCell'=true:=λv hv=>by have⟨j,hj⟩:=ayV hv;refine EA.one j v ?_;grind
        have fL:=run_storeCells_at E.P g (lo*sz) T (madeCells zv.cells (len*sz)).toList 0 c w c1 aa Dy;rw[hlen,az4]at fL;have hnl:(es.take lo++(List.replicate len z++es.drop (lo+len))).length=es.length:=ah
        refine⟨w.setRow g (c.toList.take (lo*sz)++(madeCells zv.cells (len*sz)).toList++c.toList.drop (lo*sz+len*sz)).toArray,?_,hM.write hm rfl hg (ou.setRow (ayd _)) setRow_size (λk hk=>cV hk) ?_ rfl gu,hF.sL (λ_ _ h=>h) .set⟩
        .obtain⟨n',rfl⟩:∃n',len=n'+1:=⟨len-1,aa⟩;simp_all[Builtin.clear_,run_underlying,vQ,aar]
        .refine ba.xc (g:=g) ?_ hA.2.2.1 hA.2.2.2.1 za.2 (setRow_heap w g c _ T (0,0) c1) ?_ aa ?_
         .rw[hnl,<-hA.1,<-hA.2.1];cases hq:(φ id).toNH with
          |mk a b c d=>simp_all
         .grind
         .rw[hnl];have hM2:Cells E.P μ sz (List.replicate len z) (madeCells zv.cells (len*sz)).toList:=ao
          have hX:=(c5.take lo).append (hM2.append (c5.drop (lo+len)));have e1:(c.toList.take (lo*sz)++(madeCells zv.cells (len*sz)).toList++c.toList.drop (lo*sz+len*sz)).take (es.length*sz)=(c.toList.take (es.length*sz)).take (lo*sz)++((madeCells zv.cells (len*sz)).toList++(c.toList.take (es.length*sz)).drop ((lo+len)*sz)):=by
           have l1:(c.toList.take (lo*sz)).length=lo*sz:=ao
           have l2:(c.toList.take (lo*sz)++(madeCells zv.cells (len*sz)).toList).length=lo*sz+len*sz:=av
           grind [List.take_append,List.take_of_length_le,Nat.min_eq_left,List.drop_take,List.append_assoc]
          rw[e1];omega
    .cases h
   .cases h
  .cases h
 .cases h
def NO(off:Nat):∀(l:List Value)(k:Nat)(c:Array Value),off+k+l.length<=c.size->(l.zipIdx k).foldl (λcs(x:Value×Nat)=>cs.setIfInBounds (off+x.2) x.1) c=(cp c.toList (off+k) l).toArray
 |[],k,c,_=>by simp[fo]
 |v::r,k,c,h=>by simp only[List.zipIdx_cons,aA3];rw[NO off r (k+1) _ (by simp at h⊢;omega)];congr 1;have e:=list_seg_step c.toList (off+k) v r aa;simp_all[fo,azh,ayU]
def Iu{place:Nat->Option (Nat×Nat)}{c:Array Value}{i off size:Nat}{v:Value}{rest:List (Nat×Value)}(hp:place i=U (off,size))(hv:v.cells.size=size)(hb:off+size<=c.size):Instr.fill place c ((i,v)::rest)=Instr.fill place (cp c.toList off v.cells.toList).toArray rest:=by
 have h1:v.cells.zipIdx.foldl (λcs(x:Value×Nat)=>cs.setIfInBounds (off+x.2) x.1) c=(cp c.toList off v.cells.toList).toArray:=by rw[<-Array.foldl_toList,Array.toList_zipIdx];simp_all[NO]
 simp_all[Instr.fill,IT]
def PT{place:Nat->Option (Nat×Nat)}:∀{parts:List (Nat×V)}{cs R9:List V},SV place cs parts=U R9->(∀id,cX id R9=Y->cX id cs=Y\/cX id (parts.map (·.2))=Y)/\R9.length=cs.length/\∀(P:Program)(μ:Ro)(φ:Nat->aT)(c:Array Value)(eh:List (Nat×Value)),eh.length=parts.length->(∀(j i:Nat)v,parts[j]?=U (i,v)->∃y,eh[j]?=U (i,y)/\az P μ φ v y)->c.size=cs.length->(∀(i:Nat)u y,cs[i]?=U u->c[i]?=U y->az P μ φ u y)->(∀(i:Nat)(y:Value),c[i]?=U y->y.oneCell'=Y)->∃c',Instr.fill place c eh=U c'/\c'.size=R9.length/\(∀(i:Nat)u y,R9[i]?=U u->c'[i]?=U y->az P μ φ u y)/\(∀(i:Nat)(y:Value),c'[i]?=U y->y.oneCell'=Y)
 |[],cs,R9,h=>by simp only[SV,tc]at h;subst h;refine⟨λid hid=>.inl hid,rfl,λP μ φ c eh hl _ hs hr h1=>?_⟩;have:eh=[]:=ayh (by simpa using hl);subst this;exact⟨c,rfl,hs,hr,h1⟩
 |(i,v)::rest,cs,R9,h=>by
  simp only[SV]at h;split at h
  .rename_i off size hp;split at h
   .rename_i new hn;split at h
    .rename_i hb;obtain⟨n1,n2,n3⟩:=toCells_ok hn;have⟨f1,f2,f3⟩:=PT h;have hlen:(cp cs off new).length=cs.length:=dz aa;refine⟨λid hid=>?_,by rw[f2,hlen],λP μ φ c eh hl sD hs hr h1=>?_⟩
     .rcases f1 id hid with h|h
      .obtain⟨u,hu,hh⟩:=dF.1 h;simp only[fo,ayq]at hu;rcases hu with(hu|hu)|hu
       .exact .inl (cq (ay8 hu) hh)
       .exact .inr (by simp only[ayb,cX,ayj];exact .inl (n2 id (cq hu hh)))
       .exact .inl (cq (azO hu) hh)
      .exact .inr (by simp only[ayb,cX,ayj];exact .inr h)
     .obtain⟨y,hy,hvy⟩:=sD 0 i v ae;cases eh with
      |nil=>simp at hl
      |cons a sG=>
       simp at hy;subst hy;have⟨x1,x2,x3⟩:=n3 P μ φ y hvy;rw[Iu hp x1 aa];have sN:off+y.cells.toList.length<=c.toList.length:=ah
       have e1:y.cells.toList.length=new.length:=ah
       refine f3 P μ φ _ sG (by simpa using hl) (λj i' v' hj=>?_) ?_ (λj u z hu hz=>?_) (λj z hz=>?_)
       .have:=sD (j+1) i' v' (by simpa using hj);simpa using this
       .simp only[azd];rw[dz sN,hlen];simp[hs]
       .rw[ayM]at hz;rcases eg sN hz with⟨b1,b2,b3⟩|⟨b1,b2⟩<;>rcases eg aa hu with⟨d1,d2,d3⟩|⟨d1,d2⟩
        .exact x2 _ u z d3 (by simpa using b3)
        .exfalso;omega
        .exfalso;omega
        .exact hr j u z d2 (by simpa using b2)
       .rw[ayM]at hz;rcases eg sN hz with⟨b1,b2,b3⟩|⟨b1,b2⟩
        .exact x3 _ z (by simpa using b3)
        .exact h1 j z (by simpa using b2)
    .cases h
   .cases h
  .cases h
def PU:∀{fs:List Field},fs.all (λf=>(E.P.info? f.type).isSome)=Y->fs.mapM (λf=>(E.P.info? f.type).map λi=>(f.offset,i.size))=U (fs.map λf=>(f.offset,bq E.P f.type))
 |[],_=>rfl
 |f::r,h=>by simp only[aAV,T1]at h;have⟨i,hi⟩:=aym.1 h.1;simp only[aAN,hi,IN,PU h.2,ayb];simp[bq,hi]
def aeC{parts:List (Nat×V)}{k:V->Option R}{r:R}(h:Mg E t parts k=U r):∃v,(∀(R':Type)(k':V->Option R'),Mg E t parts k'=k' v)/\k v=U r/\(∀id,v.has id=Y->cX id (parts.map (·.2))=Y)/\∀(μ:Ro)(φ:Nat->aT)(w:World)(eh:Array (Nat×Value)),eh.size=parts.length->(∀(j i:Nat)v,parts[j]?=U (i,v)->∃y,eh[j]?=U (i,y)/\az E.P μ φ v y)->∃z,(Instr.build t eh).run E.P w=.ok z w/\az E.P μ φ v z:=by
 unfold Mg at h;split at h
 .rename_i z fs hz hu;split at h
  .rename_i uX;split at h
   .rename_i cs hf;have⟨i,zv,h1,h2,h3,h4,h5,h6,h7,h8⟩:=eA hz;have⟨f1,f2,f3⟩:=PT hf;refine⟨_,λR' k'=>by simp_all[Mg,BY],h,λid hid=>?_,λμ φ w eh hl hp=>?_⟩
    .grind [V.has,id]
    .obtain⟨c',c1,c2,c3,c4⟩:=f3 E.P μ φ zv.cells eh.toList aa (λj i v hj=>by simpa using hp j i v hj) aa (h7 μ φ) h8;refine⟨_,run_build w t eh c' ?_,.agg c2.symm c3 c4⟩;simp only[Program.built,h1,hu,h2,PU uX];rw[<-c1];congr 1;funext j;simp[placesOf]
   .cases h
  .cases h
 .rename_i z n e hz hu;split at h
  .rename_i fa;split at h
   .rename_i cs hf;have⟨i,zv,h1,h2,h3,h4,h5,h6,h7,h8⟩:=eA hz;have⟨f1,f2,f3⟩:=PT hf;refine⟨_,λR' k'=>by simp_all[Mg,BY],h,λid hid=>?_,λμ φ w eh hl hp=>?_⟩
    .grind [V.has,id]
    .obtain⟨c',c1,c2,c3,c4⟩:=f3 E.P μ φ zv.cells eh.toList aa (λj i v hj=>by simpa using hp j i v hj) aa (h7 μ φ) h8;obtain⟨ie,hie,hse⟩:=Io (P:=E.P) (t:=e) aa;refine⟨_,run_build w t eh c' ?_,.agg c2.symm c3 c4⟩;simp only[Program.built,h1,hu,h2,hie,hse];omega
   .cases h
  .cases h
 .cases h
def Cw{n:Nat}{agg:Bool}:∀{parts:List (Nat×V)}{m m':Mem}{i:Nat}{ps:List PV},gS m n agg i parts=U (ps,m')->nR m m'/\ps.length=parts.length/\∀(P:Program)(G:Nat->Option (List PV))(w0:bI)(μ:Ro)(φ:Nat->aT)(w:World)(eh:List (Nat×Value))(es:List PV)(c:Array Value),aR P G w0 μ φ m w->eh.length=parts.length->(∀(j i:Nat)v,parts[j]?=U (i,v)->∃y,eh[j]?=U (i,y)/\az P μ φ v y)->es.length=i->c.size=(i+parts.length)*n->Cells P μ n es (c.toList.take (es.length*n))->∃μ' c',(∀b o,μ b=U o->μ' b=U o)/\aR P G w0 μ' φ m' w/\Instr.fill (λi=>U (i*n,n)) c eh=U c'/\c'.size=(i+parts.length)*n/\Cells P μ' n (es++ps) c'.toList
 |[],m,m',i,ps,h=>by
  simp only[gS,tc,aq4]at h;obtain⟨rfl,rfl⟩:=h;refine⟨.refl _,rfl,λP G w0 μ φ w eh es c hM hl _ he hc hC=>⟨μ,c,λ_ _ h=>h,hM,?_,hc,?_⟩⟩
  .have:eh=[]:=ayh aa;subst this;rfl
  simp_all[ayF,ayu,ayd]
 |(j,v)::r,m,m',i,ps,h=>by
  simp only[gS]at h;split at h
  .rename_i hij;subst hij;split at h
   .rename_i p m1 hf;split at h
    .rename_i ps1 m2 hr;simp only[tc,aq4]at h;obtain⟨rfl,rfl⟩:=h;have⟨a1,a2⟩:=PK hf;have⟨b1,b2,b3⟩:=Cw hr;refine⟨a1.trans b1,by simp[b2],λP G w0 μ φ w eh es c hM hl hp he hc hC=>?_⟩;have⟨y,hy,hvy⟩:=hp 0 i v ae;cases eh with
     |nil=>simp at hl
     |cons a sG=>
      simp at hy;subst hy;have⟨μ1,c1,c2,c3⟩:=a2 P G w0 μ φ w y hM hvy;have sN:i*n+n<=c.size:=ao
      have hyl:y.cells.toList.length=n:=by simpa using c3.size
      have amM:i*n+y.cells.toList.length<=c.toList.length:=av
      obtain⟨μ2,c',d1,d2,d3,d4,d5⟩:=b3 P G w0 μ1 φ w sG (es++[p]) (cp c.toList (i*n) y.cells.toList).toArray c2 (by simpa using hl) (λj i' v' hj=>by
       obtain⟨z,hz1,hz2⟩:=hp (j+1) i' v' (by simpa using hj);exact⟨z,by simpa using hz1,hz2.I9 c1⟩) (by simp[he]) (by
       simp only[azd];rw[dz amM];grind) (by
       have e1:((cp c.toList (i*n) y.cells.toList).toArray.toList.take ((es++[p]).length*n))=c.toList.take (es.length*n)++y.cells.toList:=by simp only[fo,ax9,List.length_singleton,he];exact List.take_left' ao
       rw[e1];refine(hC.mono c1).append ⟨by simp[hyl],λk e hk=>?_,λk e l q z hk hl hz=>?_,λk z hz=>c3.one k z (by simpa using hz)⟩
       .cases k with
        |zero=>simp at hk;subst hk;exact c3.len
        |succ k=>simp at hk
       .cases k with
        |zero=>simp at hk;subst hk;exact c3.rep l q z hl (by simpa using hz)
        |succ k=>simp at hk)
      refine⟨μ2,c',λb o h=>d1 b o (c1 b o h),d2,?_,ao,by simpa using d5⟩;rw[Iu rfl c3.size sN];omega
    .cases h
   .cases h
  .cases h
def Tp:∀{parts:List (Nat×V)}{i:Nat}{cs:List V},Pn i parts=U cs->cs.length=parts.length/\(∀id,cX id cs=Y->cX id (parts.map Prod.snd)=Y)/\∀(P:Program)(μ:Ro)(φ:Nat->aT)(eh:List (Nat×Value))(c:Array Value),eh.length=parts.length->(∀(j i:Nat)v,parts[j]?=U (i,v)->∃y,eh[j]?=U (i,y)/\az P μ φ v y)->c.size=i+parts.length->∃c',Instr.fill (λi=>U (i*1,1)) c eh=U c'/\c'.size=c.size/\(∀j,j<i->c'[j]?=c[j]?)/\∀j u,cs[j]?=U u->∃y,c'[i+j]?=U y/\az P μ φ u y/\y.oneCell'=Y
 |[],i,cs,h=>by simp only[Pn,tc]at h;subst h;refine⟨rfl,by simp[cX],λP μ φ eh c hl _ hc=>⟨c,?_,rfl,λ_ _=>rfl,ae⟩⟩;have:eh=[]:=ayh aa;subst this;rfl
 |(j,v)::r,i,cs,h=>by
  simp only[Pn]at h;split at h
  .rename_i hij;subst hij;split at h
   .rename_i us0 hf;split at h
    .rename_i us hr;simp only[tc]at h;subst h;obtain⟨a1,a2,a3⟩:=toCells_ok hf;have⟨b1,b2,b3⟩:=Tp hr;refine⟨by simp[a1,b1];omega,λid hid=>?_,λP μ φ eh c hl hp hc=>?_⟩
     .obtain⟨u,hu,hh⟩:=dF.1 hid;rcases ayq.1 hu with hu|hu
      .simp only[ayb,cX,ayj];exact .inl (a2 id (cq hu hh))
      .simp only[ayb,cX,ayj];exact .inr (b2 id (cq hu hh))
     .obtain⟨y,hy,hvy⟩:=hp 0 i v ae;cases eh with
      |nil=>simp at hl
      |cons a sG=>
       simp at hy;subst hy;have⟨c1,c2,c3⟩:=a3 P μ φ y hvy;have sN:i*1+1<=c.size:=by simp at hc;omega
       have hyl:y.cells.toList.length=1:=aa
       have amM:i*1+y.cells.toList.length<=c.toList.length:=av
       obtain⟨c',d1,d2,d3,d4⟩:=b3 P μ φ sG (cp c.toList (i*1) y.cells.toList).toArray (by simpa using hl) (λj i' v' hj=>by
        obtain⟨z,hz1,hz2⟩:=hp (j+1) i' v' (by simpa using hj);simp_all) (by
        grind [List.size_toArray,dz,Array.length_toList,List.length_cons])
       have sM:∀k,(cp c.toList (i*1) y.cells.toList).toArray[k]?=if k=i then y.cells[0]? else c[k]?:=λk=>by rw[ayM];rw[fo];rw[ayt,ayJ,ayz,ay2 aa,ayJ,hyl];grind
       refine⟨c',?_,by simp_all[azd,dz],λk hk=>?_,λk u hu=>?_⟩
       .rw[Iu rfl c1 sN];omega
       .grind
       .have h0:us0.length=1:=a1;rw[ayJ,h0]at hu;split at hu
        .rename_i hk;have hk0:k=0:=aa
         subst hk0;have h5:=d3 i aa;grind
        grind
    .cases h
   .cases h
  .cases h
end
section
variable {P:Program}
def kZ:∀(d:Nat)(t:TypeId)(ks:List Kd),LZ P d t=U ks->∀(D:Nat)(w:World)(em:Bool)(ps:List PV),rS ks ps=Y->(Instr.checkKey em (D+d) t (gw P t ps)).run P w=.ok () w
 |0,t,ks,h,_,_,_,_,_=>by simp[LZ]at h
 |d+1,t,ks,h,D,w,em,ps,hp=>by
  have ih:=kZ d;unfold LZ at h;split at h
  .rename_i q hu;simp only[tc]at h;subst h;have ha:aS P t=false:=by simp[aS,hu]
   obtain⟨p,rfl,hkp⟩:=sK hp;simp_all[Dq,gw,valOf,ayU,Instr.checkKey,run_underlying]
  .rename_i hu;simp only[tc]at h;subst h;have ha:aS P t=false:=by simp[aS,hu]
   obtain⟨p,rfl,hkp⟩:=sK hp;simp_all[Dq,gw,valOf,ayU,Instr.checkKey,run_underlying]
  .rename_i hu;simp only[tc]at h;subst h;have ha:aS P t=false:=by simp[aS,hu]
   obtain⟨p,rfl,hkp⟩:=sK hp;simp_all[Dq,gw,valOf,ayU,Instr.checkKey,run_underlying]
  .rename_i fs hu;split at h
   .cases h
   .obtain⟨a,ha,h⟩:=IS.1 h;split at h
    .rename_i hlen;simp only[tc]at h;subst h;have hag:aS P t=true:=by simp[aS,hu]
     simp only[gw,hag,By,<-ayU];rw[Instr.checkKey];simp only[Sem.run_bind,run_underlying hu,Result.andThen_ok];rw[<-Array.forIn_toList];have key:∀(L:List Field)(off:Nat)(b:List Kd),zL (LZ P d) L off=U b->off<=ps.length->rS b (ps.drop off)=Y->(forIn L PUnit.unit λf(_:PUnit)=>(do
       if f.name≠ "_" then Instr.checkKey em (D+d) f.type (<-part f.type (ps.map valOf).toArray f.offset)
       pure (ForInStep.yield PUnit.unit):Sem (ForInStep PUnit))).run P w=.ok PUnit.unit w:=by
      intro L;induction L with
      |nil=>simp
      |cons f L ihL=>
       intro off b hb o1 h1;simp only[zL]at hb;split at hb
       next hf=>have⟨c,hc,hb⟩:=IS.1 hb;have⟨b',mH,hb⟩:=IS.1 hb;simp only[tc]at hb;subst hb;rw[zT]at h1;have l1:=zb h1.1;simp only[ayz,aAd]at l1;have p1:=oz (w:=w) (ps:=ps) (off:=off) hc aa;have p3:=ih f.type c hc D w em _ h1.1;have p4:=ihL (off+c.length) b' mH aa av;simp_all
       .cases hb
     have:=key fs.toList 0 a ha ae (by simpa using hp);simp_all
    .cases h
  .rename_i n e hu;have⟨a,ha,h⟩:=IS.1 h;split at h
   .rename_i hlen;simp only[tc]at h;subst h;have hag:aS P t=true:=by simp[aS,hu]
    have⟨_,_,de,hde⟩:=Iq ha;have sB:(sizeOf e).run P w=.ok a.length w:=by rw[hlen.1];exact NL hde
    simp only[gw,hag,By,<-ayU];rw[Instr.checkKey];simp only[Sem.run_bind,run_underlying hu,Result.andThen_ok];simp only[Std.Legacy.Range.forIn_eq_forIn_range',Std.Legacy.Range.size,aBo,Nat.add_one_sub_one,Nat.div_one];have key:∀(k j:Nat),j*a.length<=ps.length->rS (zM a k) (ps.drop (j*a.length))=Y->(forIn (List.range' j k) PUnit.unit λi(_:PUnit)=>(do
      Instr.checkKey em (D+d) e (<-part e (ps.map valOf).toArray (i*(<-sizeOf e)))
      pure (ForInStep.yield PUnit.unit):Sem (ForInStep PUnit))).run P w=.ok PUnit.unit w:=by
     intro k;induction k with
     |zero=>simp
     |succ k ihk=>
      intro j o1 h1;simp only[zM]at h1;rw[zT]at h1;have l1:=zb h1.1;simp only[ayz,aAd]at l1;have p1:=oz (w:=w) (ps:=ps) (off:=j*a.length) ha aa;have p3:=ih e a ha D w em _ h1.1;have ej:(j+1)*a.length=j*a.length+a.length:=by rw[ayX];omega
      have p4:=ihk (j+1) aa av;simp_all[aAc,List.forIn_cons,Sem.run_bind,Result.andThen_ok,Sem.run_pure]
    simp_all
   .cases h
  .cases h
variable{kt:TypeId}{ks:List Kd}
def rW{μ:Ro}{k:PV}{y:Value}(h:FM P kt ks k=Y)(hy:aH P μ k y):rS ks k.cells=Y/\y=gw P kt k.cells:=by
 simp only[FM,T1,beq_iff_eq]at h;refine⟨h.1,?_⟩;cases hq:k.isAgg with
 |true=>
  cases k<;>simp[PV.isAgg]at hq;cases hy with
  |agg h1 h2 h3=>have:=Cr h.1 h1.symm h2;grind [gw,PV.isAgg,PV.cells]
 |false=>
  have hc:k.cells=[k]:=by cases k<;>first|rfl|(simp[PV.isAgg]at hq)
  have h1:=h.1;rw[hc]at h1;cases ks with
  |nil=>simp[rS]at h1
  |cons kd r=>simp only[rS,T1]at h1;grind [Te,gw]
def U2:∀{ks:List Kd}{ps qs:List PV},rS ks ps=Y->rS ks qs=Y->cz ps qs=Y->ps=qs
 |[],[],[],_,_,_=>rfl
 |k::ks,p::ps,q::qs,h1,h2,h3=>by
  simp only[rS,T1]at h1 h2;simp only[cz,T1]at h3;rw[U2 h1.2 h2.2 h3.2];have:p=q:=by cases k<;>cases p<;>simp[Dq]at h1<;>cases q<;>simp[Dq]at h2<;>simp[peq]at h3<;>simp_all
  rw[this]
 |[],p::ps,_,h,_,_=>by simp[rS]at h
 |k::ks,[],_,h,_,_=>by simp[rS]at h
 |[],[],q::qs,_,h,_=>by simp[rS]at h
 |k::ks,p::ps,[],_,h,_=>by simp[rS]at h
structure GA(P:Program)(μ:Ro)(kt:TypeId)(ks:List Kd)(l:List (PV×PV))(es:List MapEntry):Prop where
 len:es.length=l.length
 key:∀(i:Nat)k v,l[i]?=U (k,v)->FM P kt ks k=Y
 rep:∀(i:Nat)k v e,l[i]?=U (k,v)->es[i]?=U e->aH P μ k e.key/\aH P μ v e.val
variable{l:List (PV×PV)}{es:List MapEntry}
def GA.tail{μ:Ro}{x:PV×PV}{e:MapEntry}(h:GA P μ kt ks (x::l) (e::es)):GA P μ kt ks l es:=⟨by simpa using h.len,λi k v hi=>h.key (i+1) k v (by simpa using hi),λi k v e hi he=>h.rep (i+1) k v e (by simpa using hi) (by simpa using he)⟩
inductive Found(k v:PV)(z:PV)(l:List (PV×PV))(es:List MapEntry)(i:Nat):Option (Nat×Value)->Prop
 |none:pL k l=J->eY k z l=z->eu k v l=l++[(k,v)]->Found k v z l es i Z
 |some {j:Nat} {a u:PV} {e:MapEntry}:l[j]?=U (a,u)->es[j]?=U e->cz k.cells a.cells=Y->pL k l=Y->eY k z l=u->eu k v l=l.set j (k,v)->Found k v z l es i (U (i+j,e.val))
def Found.cons{k v z:PV}{x:PV×PV}{l:List (PV×PV)}{e:MapEntry}{es:List MapEntry}{i:Nat}{r:Option (Nat×Value)}(hx:cz k.cells x.1.cells=J)(h:Found k v z l es (i+1) r):Found k v z (x::l) (e::es) i r:=by
 obtain⟨a,u⟩:=x;cases h with
 |none h1 h2 h3=>exact .none (by simpa[pL,hx]using h1) (by simpa[eY,hx]using h2) (by simpa[eu,hx]using h3)
 | @some j a' u' e' h1 h2 h3 h4 h5 h6=>have:=Found.some (k:=k) (v:=v) (z:=z) (l:=(a,u)::l) (es:=e::es) (i:=i) (j:=j+1) (a:=a') (u:=u') (e:=e') (by simpa using h1) (by simpa using h2) h3 (by simpa[pL,hx]using h4) (by simpa[eY,hx]using h5) (by simpa[eu,hx]using h6);grind
def Found.here{k v z:PV}{a u:PV}{e:MapEntry}{i:Nat}(hx:cz k.cells a.cells=Y):Found k v z ((a,u)::l) (e::es) i (Option.some (i,e.val)):=by have:=Found.some (k:=k) (v:=v) (z:=z) (l:=(a,u)::l) (es:=e::es) (i:=i) (j:=0) (a:=a) (u:=u) (e:=e) ae ae hx (by simp[pL,hx]) (by simp[eY,hx]) (by simp[eu,hx]);omega
def zZ{μ:Ro}{kt:TypeId}{ks:List Kd}{k v z:PV}(hk:LZ P 8 kt=U ks)(Aa:rS ks k.cells=Y)(w:World):∀(l:List (PV×PV))(es:List MapEntry)(i:Nat),GA P μ kt ks l es->∃r,(Instr.findAsking kt (gw P kt k.cells) es i).run P w=.ok r w/\Found k v z l es i r
 |[],es,i,h=>by have:es=[]:=ayh (by simpa using h.len);subst this;exact⟨Z,bm,.none rfl rfl rfl⟩
 |(a,u)::l,es,i,h=>by
  cases es with
  |nil=>have:=h.len;simp at this
  |cons e es=>
   have hka:=h.key 0 a u ae;have⟨h1,h2⟩:=rW hka (h.rep 0 a u e ae ae).1;have he:(Op.equal kt (gw P kt k.cells) e.key).run P w=.ok (cz k.cells a.cells) w:=by rw[h2];exact xO 8 kt ks hk 9992 w _ _ Aa h1
   cases hp:cz k.cells a.cells with
   |true=>exact⟨U (i,e.val),by simp[Instr.findAsking,he,hp],.here hp⟩
   |false=>obtain⟨r,r1,r2⟩:=zZ (v:=v) (z:=z) hk Aa w l es (i+1) h.tail;exact⟨r,by simp[Instr.findAsking,he,hp,r1],r2.cons hp⟩
def NP{μ:Ro}{kt:TypeId}{d:TypeDesc}{ks:List Kd}{k v z:PV}(hu:P.underlying kt=U d)(ha:aS P kt=J)(hk:LZ P 8 kt=U ks)(Aa:rS ks k.cells=Y):∀(l:List (PV×PV))(es:List MapEntry)(i:Nat),GA P μ kt ks l es->∃r,Instr.findNow d (gw P kt k.cells) es i=U r/\Found k v z l es i r
 |[],es,i,h=>by have:es=[]:=ayh (by simpa using h.len);subst this;exact⟨Z,bm,.none rfl rfl rfl⟩
 |(a,u)::l,es,i,h=>by
  cases es with
  |nil=>have:=h.len;simp at this
  |cons e es=>
   have hka:=h.key 0 a u ae;have⟨h1,h2⟩:=rW hka (h.rep 0 a u e ae ae).1;have he:Instr.sameNow d (gw P kt k.cells) e.key=U (cz k.cells a.cells):=by
    rw[h2];have mq:=hk;unfold LZ at mq;rw[hu]at mq;cases d<;>simp at mq<;>try (simp[aS,hu]at ha;done)
    all_goals subst mq;have⟨p,hp1,hp2⟩:=sK Aa;have⟨q,hq1,hq2⟩:=sK h1;rw[hp1,hq1];cases p<;>simp[Dq]at hp2;cases q<;>simp[Dq]at hq2;simp_all[gw,valOf,Instr.sameNow,cz,peq]
    all_goals (rw[ayo,Go.MapKept.bytes_beq];simp_all)
   cases hp:cz k.cells a.cells with
   |true=>exact⟨U (i,e.val),by simp[Instr.findNow,he,hp],.here hp⟩
   |false=>obtain⟨r,r1,r2⟩:=NP (v:=v) (z:=z) hu ha hk Aa l es (i+1) h.tail;exact⟨r,by simp[Instr.findNow,he,hp,r1],r2.cons hp⟩
def qu{μ:Ro}{k v z:PV}(hk:LZ P 8 kt=U ks)(Aa:rS ks k.cells=Y)(w:World)(h:GA P μ kt ks l es):∃r,(Instr.findKey kt (gw P kt k.cells) es).run P w=.ok r w/\Found k v z l es 0 r:=by
 have⟨_,_,d,hu⟩:=Iq hk;cases ha:aS P kt with
 |true=>rw[run_findKey_eq w (by grind [aS])];exact zZ hk Aa w l es 0 h
 |false=>obtain⟨r,r1,r2⟩:=NP (v:=v) (z:=z) hu ha hk Aa l es 0 h;simp_all[Go.MapKept.run_findKey]
end
section
variable {R:Type} {E:Env}
variable{P:Program}{t:TypeId}{ks:List Kd}
def Iv(h:BM P t=U ks):LZ P 8 t=U ks:=by simp_all[BM]
variable{kt:TypeId}
def DB{v:V}{key:PV}(h:keyOf E kt v=U key):∃ks,BM E.P kt=U ks/\FM E.P kt ks key=Y/\∀(μ:Ro)(φ:Nat->aT)(y:Value),az E.P μ φ v y->aH E.P μ key y:=by
 unfold keyOf at h;split at h
 .rename_i ks hks;refine⟨ks,hks,?_⟩;split at h
  .rename_i ha;split at h
   .rename_i cs hc;split at h
    .rename_i ps hp;split at h
     next WX=>simp only[tc]at h;subst h;have⟨_,c2⟩:=wY hc;have⟨p1,p2⟩:=jE hp;refine⟨by simp_all[FM,PV.cells,PV.isAgg],λμ φ y hy=>?_⟩;obtain⟨xs,rfl,h1,h2,h3⟩:=c2 E.P μ φ y hy;refine .agg aa (λi q z hq hz=>?_) h3;grind [Dz]
     .cases h
    .cases h
   .cases h
  .rename_i ha;split at h
   .rename_i p;split at h
    .rename_i WX;simp only[tc]at h;subst h;refine⟨?_,λμ φ y hy=>by cases hy with|pv hy=>omega⟩;cases ks with
     |nil=>simp[rS]at WX
     |cons kd r=>
      have arJ:=WX;simp only[rS,T1]at arJ;have ha':aS E.P kt=false:=by simpa using ha
      cases kd<;>cases p<;>simp[Dq]at arJ<;>simp_all[FM,PV.cells,PV.isAgg]
    .cases h
   .cases h
 .cases h
variable{en:Array MapEntry}
def qT.push{clock:Nat}(h:qT en clock){k v:Value}:qT (en.push {key:=k,val:=v,born:=clock}) (clock+1):=by
 intro i e hi;rw[aAC]at hi;split at hi
 .rename_i e1;simp only[tc]at hi;subst hi;refine⟨aAw _,λj e' hj hb=>?_⟩;rw[aAC]at hj;split at hj
  .omega
  .have:=(h j e' hj).1;simp_all
 .obtain⟨h1,h2⟩:=h i e hi;grind
def qT.modify{en:Array MapEntry}{clock:Nat}(h:qT en clock)(f:MapEntry->MapEntry)(hf:∀e,(f e).born=e.born)(k:Nat):qT (en.modify k f) clock:=by
 have key:∀(i:Nat)e,(en.modify k f)[i]?=U e->∃e0,en[i]?=U e0/\e.born=e0.born:=λi e hi=>ao
 intro i e hi;have⟨e0,h0,hb0⟩:=key i e hi;have⟨h1,h2⟩:=h i e0 h0;grind
inductive ahc(w:World):Value->Array MapEntry->Prop
 |nil:ahc w (.map Z) #[]
 |at{g clock:Nat} {en:Array MapEntry}:w.heap[g]?=U (.map en clock)->ahc w (.map (U g)) en
def Ac{μ:Ro}{et:TypeId}{key z:PV}{zv y yi:Value}{w:World}{l:List (PV×PV)}{ok:Bool}(hu:P.underlying t=U (.map kt et))(hk:BM P kt=U ks)(xS:FM P kt ks key=Y)(hyi:aH P μ key yi)(hy:ahc w y en)(hE:GA P μ kt ks l en.toList)(hz:(zeroValue et).run P w=.ok zv w)(hzr:aH P μ z zv):∃v,(Instr.lookup t y yi ok).run P w=.ok (if ok then .tuple #[v,.bool (pL key l)]else v) w/\aH P μ (eY key z l) v:=by
 have hk8:=Iv hk;have⟨hc,hv⟩:=rW xS hyi;obtain⟨r,r1,r2⟩:=qu (v:=.bad) (z:=z) hk8 hc w hE;have h1:=kZ 8 kt ks hk8 9992 w en.isEmpty key.cells hc;rw[hv];have xM:∀(x:Value×Bool),(r=Z->x=(zv,J))->(∀j v,r=U (j,v)->x=(v,Y))->(Instr.lookup t y (gw P kt key.cells) ok).run P w=.ok (if ok then .tuple #[x.1,.bool x.2]else x.1) w:=by
  intro x hx1 hx2;cases hy with
  |nil=>
   have h1':(Instr.checkKey Y 10000 kt (gw P kt key.cells)).run P w=.ok () w:=h1;have r1':(Instr.findKey kt (gw P kt key.cells) []).run P w=.ok r w:=r1;unfold Instr.lookup;simp only[Sem.run_bind,run_underlying hu,Result.andThen_ok,Sem.run_pure];cases r with
   |none=>simp_all
   |some jv=>obtain⟨j,v⟩:=jv;simp_all
  | «at» hg=>
   have L3:=Go.MapKept.run_getObj_map (P:=P) hg;have h1':(Instr.checkKey en.isEmpty 10000 kt (gw P kt key.cells)).run P w=.ok () w:=h1;unfold Instr.lookup;simp only[Sem.run_bind,run_underlying hu,Result.andThen_ok,Sem.run_pure,L3];cases r with
   |none=>simp_all
   |some jv=>obtain⟨j,v⟩:=jv;simp_all
 cases r2 with
 |none f1 f2 f3=>grind
 | @some j a u e f1 f2 f3 f4 f5 f6=>refine⟨e.val,?_,by rw[f5];exact(hE.rep j a u e f1 f2).2⟩;simp_all
variable{m:Mem}
def aas{x ix:V}{ok:Bool}{k:V->bS->Option R}{r:R}(h:Eo E t x ix ok m k=U r):∃v ft,(∀m2:Mem,(∀x∈ft,m2 x.2=m x.2)->∀(R':Type)(k':V->bS->Option R'),Eo E t x ix ok m2 k'=k' v ft)/\k v ft=U r/\(∀x∈ft,x.1=J)/\(∀id,v.has id=J)/\∀(G:Nat->Option (List PV))(w0:bI)(μ:Ro)(φ:Nat->aT)(w:World)(y yi:Value),aR E.P G w0 μ φ m w->az E.P μ φ x y->az E.P μ φ ix yi->∃u,(Instr.lookup t y yi ok).run E.P w=.ok u w/\az E.P μ φ v u:=by
 have out:∀(q:PV)(b:Bool)(id:Nat),(if ok=Y then V.b8 [.pv q,.pv (.bool b)]else .pv q).has id=false:=by grind [id,V.has,cX]
 have rep:∀(μ:Ro)(φ:Nat->aT)(q:PV)(b:Bool)(v:Value),aH E.P μ q v->az E.P μ φ (if ok=Y then V.b8 [.pv q,.pv (.bool b)]else .pv q) (if ok=Y then .tuple #[v,.bool b]else v):=by
  intro μ φ q b v hv;cases ok with
  |false=>exact .pv hv
  |true=>
   refine .b8 ae λi p y hp hy=>?_;match i with
   |0=>simp at hp hy;subst hp;subst hy;exact .pv hv
   |1=>simp at hp hy;subst hp;subst hy;exact .pv .bool
   |n+2=>simp at hp
 unfold Eo at h;split at h
 .rename_i kt et hu;split at h
  .rename_i z hz;have⟨zv,hz1,hz2⟩:=aaq hz;split at h
   .rename_i id;split at h
    .rename_i Gh es hm;split at h
     .rename_i hkt;subst hkt;have⟨key,xS,h⟩:=IS.1 h;have⟨q,q1,q2,q3,_⟩:=qp h;have⟨ks,k1,k2,k3⟩:=DB xS;refine⟨_,_,λm2 dC R' k'=>by have:=dC (J,id) ae;simp_all[Eo,ayg,By],q2,ae,out q _,λG w0 μ φ w y yi hM hx hi=>?_⟩;obtain⟨g,en,clock,kk,hg,hh,hs,hk,WX,_,hv⟩:=hM.eE id _ hm;rw[k1]at hk;simp only[tc]at hk;subst hk;cases hx with
      |om dH=>rw[hg]at dH;simp only[tc]at dH;subst dH;obtain⟨v,v1,v2⟩:=Ac (ok:=ok) (z:=z) hu k1 k2 (k3 μ φ yi hi) (.at hh) (l:=es) ⟨aa,WX,λi k v e h1 h2=>hv i k v e h1 (by simpa using h2)⟩ (hz1 w) (hz2 μ);exact⟨_,v1,rep μ φ q _ v (q3 _ _ _ v2)⟩
     .cases h
    .cases h
   .rename_i pm;unfold dX at h;split at h
    .obtain⟨key,xS,h⟩:=IS.1 h;have⟨ks,k1,k2,k3⟩:=DB xS;refine⟨_,_,λm2 dC R' k'=>by simp_all[Eo,dX,ayg],h,ae,out z _,λG w0 μ φ w y yi hM hx hi=>?_⟩;cases hx with
     |pv hx=>cases hx with
      |sr=>obtain⟨v,v1,v2⟩:=Ac (ok:=ok) (z:=z) hu k1 k2 (k3 μ φ yi hi) .nil (l:=[]) ⟨ae,ae,ae⟩ (hz1 w) (hz2 μ);exact⟨_,v1,rep μ φ z _ v v2⟩
    .rename_i Gh ks' vs';split at h
     .rename_i hkt;subst hkt;have⟨key,xS,h⟩:=IS.1 h;have⟨q,q1,q2,q3,_⟩:=qp h;have⟨ks,k1,k2,k3⟩:=DB xS;refine⟨_,_,λm2 dC R' k'=>by simp_all[Eo,dX,ayg,By],q2,ae,out q _,λG w0 μ φ w y yi hM hx hi=>?_⟩;cases hx with
      |pv hx=>cases hx with
       | @rm _ _ _ b clock en kk m1 m2 m3 m4 m5 m6 m7=>
        rw[k1]at m4;simp only[tc]at m4;subst m4;have anO:∀(i:Nat)k v,(ks'.zip vs')[i]?=U (k,v)->ks'[i]?=U k/\vs'[i]?=U v:=λi k v h=>ao
        obtain⟨v,v1,v2⟩:=Ac (ok:=ok) (z:=z) hu k1 k2 (k3 μ φ yi hi) (.at (hM.ro _ _ m1)) (l:=ks'.zip vs') ⟨by simp[m2,m3],λi k v h=>m5 i k (anO i k v h).1,λi k v e h1 h2=>⟨m6 i k e (anO i k v h1).1 (by simpa using h2),m7 i v e (anO i k v h1).2 (by simpa using h2)⟩⟩ (hz1 w) (hz2 μ);exact⟨_,v1,rep μ φ q _ v (q3 _ _ _ v2)⟩
     .cases h
    .cases h
   .cases h
  .cases h
 .cases h
variable{m':Mem}
theorem Tr{v:V}{p:PV}(h:Em m v=U (p,m')):nR m m'/\∀(P:Program)(G:Nat->Option (List PV))(w0:bI)(μ:Ro)(φ:Nat->aT)(w:World)(x:Value),aR P G w0 μ φ m w->az P μ φ v x->∃μ',(∀b o,μ b=U o->μ' b=U o)/\aR P G w0 μ' φ m' w/\aH P μ' p x:=by
 unfold Em at h;split at h
 .rename_i cs;split at h
  .rename_i ps m1 hf;simp only[tc,aq4]at h;obtain⟨rfl,rfl⟩:=h;have⟨f1,f2,f3⟩:=PJ hf;refine⟨f1,λP G w0 μ φ w x hM hx=>?_⟩;cases hx with
   | @agg _ xs h1 h2 h3=>
    have hX:∀(i:Nat),i<cs.length->xs[i]?=U (xs.getD i undef):=λi hi=>av
    obtain⟨μ',e1,e2,e3⟩:=f3 P G w0 μ φ w (λi=>xs.getD i undef) hM λi u hu=>h2 i u _ hu (hX i (No.1 hu).1);refine⟨μ',e1,e2,.agg aa (λj q y hq hy=>?_) h3⟩;grind
  .cases h
 .exact acS h
def NQ{v:V}{p:PV}(h:Em dW v=U (p,m')):∀(P:Program)(μ:Ro)(φ:Nat->aT)(x:Value),az P μ φ v x->aH P μ p x:=by
 unfold Em at h;split at h
 .rename_i cs;split at h
  .rename_i ps m1 hf;simp only[tc,aq4]at h;obtain⟨rfl,rfl⟩:=h;have⟨f2,f3⟩:=JJ hf;intro P μ φ x hx;cases hx with
   | @agg _ xs h1 h2 h3=>
    have hX:∀(i:Nat),i<cs.length->xs[i]?=U (xs.getD i undef):=λi hi=>av
    have e3:=f3 P μ φ (λi=>xs.getD i undef) λi u hu=>h2 i u _ hu (hX i (No.1 hu).1);refine .agg aa (λj q y hq hy=>?_) h3;grind
  .cases h
 .exact Tj h
def aat{draw:Bool}{v:V}{p:PV}(h:KG draw m v=U (p,m')):nR m m'/\(draw=Y->m'=m/\∀m2:Mem,KG Y m2 v=U (p,m2))/\∀(P:Program)(G:Nat->Option (List PV))(w0:bI)(μ:Ro)(φ:Nat->aT)(w:World)(x:Value),aR P G w0 μ φ m w->az P μ φ v x->∃μ',(∀b o,μ b=U o->μ' b=U o)/\aR P G w0 μ' φ m' w/\aH P μ' p x:=by
 unfold KG at h;split at h
 .rename_i hd;split at h
  next q m1 hf=>simp only[tc,aq4]at h;obtain⟨rfl,rfl⟩:=h;exact⟨.refl _,λ_=>⟨rfl,λm2=>by simp[KG,hf]⟩,λP G w0 μ φ w x hM hx=>⟨μ,λ_ _ h=>h,hM,NQ hf P μ φ x hx⟩⟩
  .cases h
 grind [Tr,absurd]
def Jh:∀{ps:List PV},rS ks ps=Y->∀(n:Nat),(ps.map valOf).all (λv=>Instr.sameBits n v v)=true:=by
 induction ks with
 |nil=>intro ps h n;cases ps<;>simp[rS]at h;rfl
 |cons k ks ih=>
  intro ps h n;cases ps with
  |nil=>rfl
  |cons p ps=>simp only[rS,T1]at h;simp only[ayb,aAV,ih h.2 n,azw];cases k<;>cases p<;>simp[Dq]at h<;>simp[valOf,Instr.sameBits,Go.MapKept.bytes_beq]
def GB{ps:List PV}(h:rS ks ps=Y)(hl:aS P t=J->ps.length=1)(n:Nat):Instr.sameBits (n+1) (gw P t ps) (gw P t ps)=true:=by
 unfold gw;cases ha:aS P t with
 |true=>have:=Jh h n;simp only[By,Instr.sameBits,BEq.rfl,ayS];grind
 |false=>
  have h1:=hl ha;match ps,h1 with
  |[p],_=>have:=Jh h (n+1);simpa using this
def Ji{draw:Bool}{x key val:V}{k:Mem->bS->Option R}{r:R}(h:vk E draw t x key val m k=U r):∃m' ft,k m' ft=U r/\(draw=Y->∃id b,m'=aO m id b/\ft=[(Y,id)]/\∀m2:Mem,m2 id=m id->∀(R':Type)(k':Mem->bS->Option R'),vk E Y t x key val m2 k'=k' (aO m2 id b) [(Y,id)])/\nR m m'/\∀(G:Nat->Option (List PV))(w0:bI)(μ:Ro)(φ:Nat->aT)(w:World)(ya yk yv:Value),aR E.P G w0 μ φ m w->az E.P μ φ x ya->az E.P μ φ key yk->az E.P μ φ val yv->∃w' μ',(Instr.mapUpdate t ya yk yv).run E.P w=.ok () w'/\(∀b o,μ b=U o->μ' b=U o)/\aR E.P G w0 μ' φ m' w':=by
 unfold vk at h;split at h
 .rename_i kt et hu;split at h
  .rename_i id;split at h
   .rename_i v m1 hf;have⟨f1,f2,f3⟩:=aat hf;split at h
    .rename_i Gh es hm;split at h
     .rename_i hkt;subst hkt;have⟨kp,xS,h⟩:=IS.1 h;have⟨ks,k1,k2,k3⟩:=DB xS;refine⟨_,_,h,λhd=>?_,f1.trans .set,λG w0 μ φ w ya yk yv hM hx hk hv=>?_⟩
      .obtain⟨rfl,f4⟩:=f2 hd;exact⟨id,_,rfl,rfl,λm2 dC R' k'=>by simp_all[vk,ayg,By]⟩
      .obtain⟨μ',g1,g2,g3⟩:=f3 _ _ _ _ _ _ _ hM hv;obtain⟨g,en,clock,kk,hg,hh,hs,Aa,WX,Ik,nI⟩:=g2.eE id _ hm;rw[k1]at Aa;simp only[tc]at Aa;subst Aa;have hk8:=Iv k1;have hkr:=(k3 μ φ yk hk).mono g1;have⟨hc,hkv⟩:=rW k2 hkr;have hE:GA E.P μ' Gh ks es en.toList:=⟨aa,WX,λi k v e h1 h2=>nI i k v e h1 (by simpa using h2)⟩;obtain⟨res,r1,r2⟩:=qu (v:=v) (z:=.bad) hk8 hc w hE;have L3:=Go.MapKept.run_getObj_map (P:=E.P) hh;have h1:(Instr.checkKey J 10000 Gh yk).run E.P w=.ok () w:=by rw[hkv];exact kZ 8 Gh ks hk8 9992 w J kp.cells hc
       rw[<-hkv]at r1;have bX:g<w.heap.size:=(auA.1 hh).1;cases hx with
       |om dH=>
        rw[hg]at dH;simp only[tc]at dH;subst dH;have fin:∀(o:Obj)(Z0:Array MapEntry)(xT:Nat),o=.map Z0 xT->(Instr.mapUpdate t (.map (U g)) yk yv).run E.P w=.ok () {w with heap:=w.heap.setIfInBounds g o}->qT Z0 xT->GA E.P μ' Gh ks (eu kp v es) Z0.toList->∃w' μ',(Instr.mapUpdate t (.map (U g)) yk yv).run E.P w=.ok () w'/\(∀b o,μ b=U o->μ' b=U o)/\aR E.P G w0 μ' φ (aO m1 id (.map Gh (eu kp v es))) w':=by rintro o Z0 xT rfl hr avK hE';refine⟨_,μ',hr,g1,g2.write hm rfl hg ⟨⟨rfl,rfl,rfl,ae,λk hk=>ao⟩,λ_=>ayd _⟩ ae (λk hk=>ao) ?_ rfl gu⟩;exact⟨g,Z0,xT,ks,hg,by simp[bX],by simpa using hE'.len,k1,hE'.key,avK,λi k v e h1 h2=>hE'.rep i k v e h1 (by simpa using h2)⟩
        cases r2 with
        |none e1 e2 e3=>
         have hso:=Go.MapKept.run_setObj_map (P:=E.P) (.map (en.push {key:=yk,val:=yv,born:=clock}) (clock+1)) hh;refine fin _ _ _ rfl (by simp only[Instr.mapUpdate,Sem.run_bind,run_underlying hu,L3,h1,r1,Result.andThen_ok];exact hso) Ik.push ?_;rw[e3];have fG:∀(i:Nat)k' v' e,(es++[(kp,v)])[i]?=U (k',v')->(en.push {key:=yk,val:=yv,born:=clock}).toList[i]?=U e->(es[i]?=U (k',v')/\en.toList[i]?=U e)\/(k'=kp/\v'=v/\e.key=yk/\e.val=yv):=ao
         refine⟨by simp[hs],λi k' v' h=>?_,λi k' v' e h1 h2=>?_⟩
         .grind
         grind
        | @some j a u e e1 e2 e3 e4 e5 e6=>
         have e2':en[j]?=U e:=by simpa using e2
         have⟨hca,hva⟩:=rW (WX j a u e1) (nI j a u e e1 e2').1;have EB:=U2 hc hca e3;have hsb:Instr.sameBits 10000 e.key yk=true:=by rw[hva,hkv,<-EB];refine GB (n:=9999) hc (λha=>?_);rw[zb hc];exact(Iq hk8).2.1 ha
         have hso:=Go.MapKept.run_setObj_map (P:=E.P) (.map (en.modify j λe=>{e with key:=yk,val:=yv}) clock) hh;have xQ:j<en.size:=(auA.1 e2').1;refine fin _ _ _ rfl (by simp only[Instr.mapUpdate,Sem.run_bind,run_underlying hu,L3,h1,r1,Result.andThen_ok];simp only[azf,e2',IN,ayy,Instr.keyThatStays,hsb,By,Sem.run_pure,Result.andThen_ok];exact hso) (Ik.modify (λe=>{e with key:=yk,val:=yv}) (λ_=>rfl) _) ?_;rw[e6];have xP:∀(i:Nat)k' v',(es.set j (kp,v))[i]?=U (k',v')->(i=j/\k'=kp/\v'=v)\/(i≠j/\es[i]?=U (k',v')):=ao
         refine⟨by simp[hs],λi k' v' h=>?_,λi k' v' e' h1 h2=>?_⟩
         .grind
         grind
     .cases h
    .cases h
   .cases h
  .cases h
 .cases h
def Xv{μ:Ro}{φ:Nat->aT}{w:World}{site:Nat}(hk:BM P kt=U ks)(hφ:(φ site).g=U w.heap.size):jF P μ φ (w.alloc (.map #[] 0)) site (.map kt []):=⟨w.heap.size,#[],0,ks,hφ,iG w _,rfl,hk,ae,λi e h=>by simp at h,ae⟩
end
def Gv(P:Program)(G:Nat->Option (List PV))(g:FuncId)(M:List PV->Option PV):Prop:=
 (∃fn c,P.funcs[g]?=U fn/\fn.body=U c/\(fn.name== "runtime.NumGoroutine")=J)/\
 ∀(ps:List PV)(r:PV),M ps=U r->∀(w:World)(μ:Ro)(xs:Array Value),(∀b o,μ b=U o->w.heap[b]?=U o)->(∀g cs,G g=U cs->I8 P μ g cs)->ps.length=xs.size->(∀(i:Nat)p x,ps[i]?=U p->xs[i]?=U x->aH P μ p x)->Calls P g xs w λe w'=>∃y,e=.returned y/\ou w.heap.size w w'/\aH P (dc μ w w') r y
def Mm(P:Program)(G:Nat->Option (List PV))(g:FuncId)(M:List PV->Option PV):Prop:=
 (∃fn c,P.funcs[g]?=U fn/\fn.body=U c/\(fn.name== "runtime.NumGoroutine")=J)/\
 ∀(fn:Func)(t e:TypeId),P.funcs[g]?=U fn->fn.resultTypes.toList=[t]->P.underlying t=U (.slice e)->∀(ps:List PV)(r:PV),M ps=U r->∀(w:World)(μ:Ro)(xs:Array Value),(∀b o,μ b=U o->w.heap[b]?=U o)->(∀g cs,G g=U cs->I8 P μ g cs)->ps.length=xs.size->(∀(i:Nat)p x,ps[i]?=U p->xs[i]?=U x->aH P μ p x)->Calls P g xs w λen w'=>∃(y:Value)(ph:aT)(es:List PV),en=.returned y/\ou w.heap.size w w'/\r=.rs (bq P e) es/\(∀g,ph.g=U g->w.heap.size<=g)/\ba P (rU (dc μ w w') ph.g) (λ_=>ph) w' 0 (bq P e) e es/\az P μ (λ_=>ph) (.os 0) y
def arK(m:Mem):Option (Nat×cS)->Mem
 |some (id,b)=>aO m id b
 |none=>m
def arL(E:Env)(g:FuncId)(args:List V)(f:Fr)(m:Mem)(v:V)(f':Fr)(m':Mem):Prop:=
 (∃fn c,E.P.funcs[g]?=U fn/\fn.body=U c/\(fn.name== "runtime.NumGoroutine")=J)/\
 ∀(w0:bI)(μ:Ro)(φ:Nat->aT)(ρ:Nat->Value)(w:World)(xs:Array Value),aR E.P E.aQ w0 μ φ m w->cR E.P μ φ m f ρ->args.length=xs.size->(∀(i:Nat)v x,args[i]?=U v->xs[i]?=U x->az E.P μ φ v x)->(∀id,cX id args=Y->(m id).isSome=Y)->Calls E.P g xs w λe w'=>∃y μ' φ',e=.returned y/\aR E.P E.aQ w0 μ' φ' m' w'/\cR E.P μ' φ' m' f' ρ/\az E.P μ' φ' v y/\∀id,v.has id=Y->(m' id).isSome=Y
def U3{R:Type}(P:Program)(G:Nat->Option (List PV))(g:FuncId)(args:List V)(f:Fr)(m:Mem)(k:V->Fr->Mem->Option R)(r:R):Prop:=
 (∃fn c,P.funcs[g]?=U fn/\fn.body=U c/\(fn.name== "runtime.NumGoroutine")=J)/\
 ∀(w0:bI)(μ:Ro)(φ:Nat->aT)(ρ:Nat->Value)(w:World)(xs:Array Value),aR P G w0 μ φ m w->cR P μ φ m f ρ->args.length=xs.size->(∀(i:Nat)v x,args[i]?=U v->xs[i]?=U x->az P μ φ v x)->(∀id,cX id args=Y->(m id).isSome=Y)->Calls P g xs w λe w'=>∃v f' m' y μ' φ',k v f' m'=U r/\e=.returned y/\aR P G w0 μ' φ' m' w'/\cR P μ' φ' m' f' ρ/\az P μ' φ' v y/\∀id,v.has id=Y->(m' id).isSome=Y
def amN(P:Program)(G:Nat->Option (List PV))(nt:Nat)(yl:YL)(w0:bI):Prop:=∀(R:Type)site id args f m(k:V->Fr->Mem->Option R)r,yl R nt site id args f m k=U r->∀(μ:Ro)(φ:Nat->aT)(ρ:Nat->Value)(w:World)(xs:Array Value),aR P G w0 μ φ m w->cR P μ φ m f ρ->(∀t,nt<=t->ρ t=w0.sv t)->args.length=xs.size->(∀(i:Nat)v x,args[i]?=U v->xs[i]?=U x->az P μ φ v x)->(∀id,cX id args=Y->(m id).isSome=Y)->∀g,(φ id).g=U g->∃fn tmps assign body,(Instr.yield g xs).run P w=.ok (.round g fn tmps assign body) w/\RoundIn Fence.wide 0 P g fn tmps assign body w λe w'=>∃v f' m' y μ' φ',k v f' m'=U r/\e=.returned y/\(∀b o,μ b=U o->μ' b=U o)/\aR P G w0 μ' φ' m' w'/\cR P μ' φ' m' f' ρ/\az P μ' φ' v y/\∀id,v.has id=Y->(m' id).isSome=Y
def yZ(P:Program)(G:Nat->Option (List PV))(nt:Nat)(yl:YL)(w0:bI):Prop:=∀H:Ro,amN P G nt yl {w0 with hid:=H}
def KL(P:Program)(G:Nat->Option (List PV))(nt:Nat)(w0:bI):yZ P G nt Jx w0:=λH R site id args f m k r h=>by cases h
variable{G:Nat->Option (List PV)}{φ:Nat->aT}
def aR.JL{P:Program}{w0:bI}{μ:Ro}{m:Mem}{w:World}(h:aR P G w0 μ φ m w){K:Ro}(hK:∀b o,K b=U o->μ b=U o):aR P G {w0 with eF:=K} μ φ m w:=⟨h.below,h.ro,h.aQ,h.eE,h.own,h.inj,h.apart,h.hU,h.base,hK,h.L2,h.hid⟩
def aR.PW{P:Program}{w0:bI}{μ:Ro}{m:Mem}{w:World}{K:Ro}(h:aR P G {w0 with eF:=K} μ φ m w)(hK:∀b o,w0.eF b=U o->K b=U o):aR P G w0 μ φ m w:=⟨h.below,h.ro,h.aQ,h.eE,h.own,h.inj,h.apart,h.hU,h.base,λb o hb=>h.eF b o (hK b o hb),h.L2,h.hid⟩
def yZ.JL{P:Program}{G:Nat->Option (List PV)}{nt:Nat}{yl:YL}{w0:bI}(h:yZ P G nt yl w0){K:Ro}(hK:∀b o,w0.eF b=U o->K b=U o):yZ P G nt yl {w0 with eF:=K}:=λH R site id args f m k r hy μ φ ρ w xs hM hF hρ hl hr UT g hg=>
  let⟨fn,tmps,assign,body,y1,y2⟩:=h H R site id args f m k r hy μ φ ρ w xs (aR.PW (w0:={w0 with hid:=H}) hM hK) hF hρ hl hr UT g hg
  ⟨fn,tmps,assign,body,y1,y2.mono λe w'⟨v,f',m',y,μ',φ',a1,a2,a3,a4,a5⟩=>⟨v,f',m',y,μ',φ',a1,a2,a3,a4.JL λb o hb=>a3 b o (hM.eF b o hb),a5⟩⟩
def aaj{R:Type}(P:Program)(G:Nat->Option (List PV))(g:FuncId)(yl:YL)(args:List V)(f:Fr)(m:Mem)(k:V->Fr->Mem->Option R)(r:R):Prop:=
 ∃fn c,P.funcs[g]?=U fn/\fn.body=U c/\(fn.name== "runtime.NumGoroutine")=J/\
 ∀(w0:bI)(μ:Ro)(φ:Nat->aT)(ρ:Nat->Value)(w:World)(xs:Array Value),aR P G w0 μ φ m w->cR P μ φ m f ρ->args.length=xs.size->(∀(i:Nat)v x,args[i]?=U v->xs[i]?=U x->az P μ φ v x)->(∀id,cX id args=Y->(m id).isSome=Y)->yZ P G fn.ntmps yl {w0 with sv:=λt=>ρ (t-fn.ntmps)}->Calls P g xs w λe w'=>∃v f' m' y μ' φ',k v f' m'=U r/\e=.returned y/\aR P G w0 μ' φ' m' w'/\cR P μ' φ' m' f' ρ/\az P μ' φ' v y/\∀id,v.has id=Y->(m' id).isSome=Y
structure mn(E:Env):Prop where
 mixed:E.P.follows .mixedOrders=Y
 lp:∀(S R:Type)(body:S->(S->Option R)->Option R)s r,E.lp.run body s=U r->∃n,bT body n s=U r
 ctx:∀g M,E.ctx g=U M->Gv E.P E.aQ g M
 own:∀g M,E.own g=U M->Mm E.P E.aQ g M
 inl:∀(R:Type)g Z1 args f m(k:V->Fr->Mem->Option R)r,E.inl R g Z1 args f m k=U r->U3 E.P E.aQ g args f m k r
 rng:∀(R:Type)g Z1 yl args f m(k:V->Fr->Mem->Option R)r,E.rng R g Z1 yl args f m k=U r->aaj E.P E.aQ g yl args f m k r
section
variable {R:Type} {E:Env}
def fS{f:V->List Nat}{id:Nat}:∀{cs:List V},id∈lQ f cs↔∃v∈cs,id∈f v
 |[]=>by simp[lQ]
 |c::r=>by simp[lQ,fS (cs:=r)]
def qW{g g':V->Option PV}:∀{cs:List V},(∀v∈cs,g' v=g v)->xK g' cs=xK g cs
 |[],_=>rfl
 |c::r,h=>by simp_all[xK,qW]
def zG{m m2:Mem}:∀(d:Nat){v:V},(∀id∈dN m d v,m2 id=m id)->pg m2 d v=pg m d v
 |0,v,_=>rfl
 |d+1,v,h=>by
  cases v with
  |agg cs=>simp only[pg];rw[qW λv hv=>zG d λid hid=>h id (by simp only[dN];exact fS.2 ⟨v,hv,hid⟩)]
  |b8 cs=>simp only[pg];rw[qW λv hv=>zG d λid hid=>h id (by simp only[dN];exact fS.2 ⟨v,hv,hid⟩)]
  |fn g cs=>simp only[pg];rw[qW λv hv=>zG d λid hid=>h id (by simp only[dN];exact fS.2 ⟨v,hv,hid⟩)]
  |op id off=>
   have h0:=h id (by simp[dN]);simp only[pg,h0];split
   next cs hm=>rw[qW λv hv=>zG d λBE hid=>h BE (by simp only[dN,hm];exact az6 _ (fS.2 ⟨v,hv,hid⟩))]
   rfl
  |oe id i off=>grind [pg,id,dN]
  |os id=>grind [pg,id,dN]
  |iJ id lo len=>grind [pg,id,dN]
  |om id=>grind [pg,id,dN]
  |Gm id i off=>grind [pg,id,dN]
  |_=>rfl
def lW{g g':V->List Nat}:∀{cs:List V},(∀v∈cs,g' v=g v)->lQ g' cs=lQ g cs
 |[],_=>rfl
 |c::r,h=>by simp_all[lQ,lW]
def rX{m m2:Mem}:∀(d:Nat){v:V},(∀id∈dN m d v,m2 id=m id)->dN m2 d v=dN m d v
 |0,v,_=>rfl
 |d+1,v,h=>by
  cases v with
  |agg cs=>simp only[dN];exact lW λv hv=>rX d λid hid=>h id (by simp only[dN];exact fS.2 ⟨v,hv,hid⟩)
  |b8 cs=>simp only[dN];exact lW λv hv=>rX d λid hid=>h id (by simp only[dN];exact fS.2 ⟨v,hv,hid⟩)
  |fn g cs=>simp only[dN];exact lW λv hv=>rX d λid hid=>h id (by simp only[dN];exact fS.2 ⟨v,hv,hid⟩)
  |op id off=>
   have h0:=h id (by simp[dN]);simp only[dN,h0];split
   next cs hm=>rw[lW λv hv=>rX d λBE hid=>h BE (by simp only[dN,hm];exact az6 _ (fS.2 ⟨v,hv,hid⟩))]
   rfl
  |_=>rfl
variable{p:PV}
def NR{t:TypeId}{k:PV->Option R}{r:R}(hs:Ep E t=Y)(h:j9 E t p k=U r):∃q,(∀(R':Type)(k':PV->Option R'),j9 E t p k'=k' q)/\k q=U r/\∀(P:Program)(μ μ':Ro)x,aH P μ p x->aH P μ' q x:=by
 unfold Ep at hs;unfold j9 at h;split at h
 .rename_i q hu;have⟨n,hn,hk⟩:=IS.1 h;have hp:p=.int q n:=by cases p<;>simp[asInt]at hn;simp_all
  exact⟨.int q n,λR' k'=>by simp[j9,hu,hn],hk,λP μ μ' x hx=>by subst hp;cases hx with|int h=>exact .int h⟩
 .rename_i hu;have⟨n,hn,hk⟩:=IS.1 h;have hp:p=.bool n:=by cases p<;>simp[asBool]at hn;subst hn;rfl
  exact⟨.bool n,λR' k'=>by simp[j9,hu,hn],hk,λP μ μ' x hx=>by subst hp;cases hx;exact .bool⟩
 .rename_i hu;have⟨n,hn,hk⟩:=IS.1 h;have hp:p=.str n:=by cases p<;>simp[bU]at hn;subst hn;rfl
  exact⟨.str n,λR' k'=>by simp[j9,hu,hn],hk,λP μ μ' x hx=>by subst hp;cases hx with|str h=>exact .str h⟩
 all_goals simp_all
def Xw:∀{ts:List TypeId}{ps:List PV}{k:List V->Option R}{r:R},Nv E ts ps k=U r->∃vs,(∀(R':Type)(k':List V->Option R'),Nv E ts ps k'=k' vs)/\k vs=U r/\vs.length=ps.length/\(∀id,cX id vs=J)/\(∀(P:Program)(μ:Ro)(φ:Nat->aT)(i:Nat)p v x,ps[i]?=U p->vs[i]?=U v->aH P μ p x->az P μ φ v x)/\(ts.all (Ep E)=Y->∀(P:Program)(μ μ':Ro)(φ:Nat->aT)(i:Nat)p v x,ps[i]?=U p->vs[i]?=U v->aH P μ p x->az P μ' φ v x)
 |[],[],k,r,h=>⟨[],λR' k'=>rfl,h,rfl,λ_=>rfl,ae,ae⟩
 |t::ts,p::ps,k,r,h=>by
  simp only[Nv]at h;have⟨q,q1,q2,q3,_⟩:=qp h;have⟨vs,v1,v2,v3,v4,v5,v6⟩:=Xw q2;refine⟨.pv q::vs,λR' k'=>by simp only[Nv];rw[q1,v1],v2,by simp[v3],λid=>by simp[cX,v4],λP μ φ i p' v x hp hv hx=>?_,λhs P μ μ' φ i p' v x hp hv hx=>?_⟩
  .cases i with
   |zero=>simp at hp hv;subst hp;subst hv;exact .pv (q3 _ _ _ hx)
   |succ i=>grind
  .simp only[aAV,T1]at hs;cases i with
   |zero=>
    simp at hp hv;subst hp;subst hv;have⟨q',s1,s2,s3⟩:=NR hs.1 h;have:q'=q:=by have e1:=s1 PV U;grind
    subst this;exact .pv (s3 P μ μ' x hx)
   |succ i=>grind
 |[],p::ps,k,r,h=>by simp[Nv]at h
 |t::ts,[],k,r,h=>by simp[Nv]at h
def Xx{n:Nat}{r:PV}{vs:List PV}(h:bY n r=U vs):r=.b8 vs/\vs.length=n:=by cases r<;>simp[bY]at h;grind
variable{ts:List TypeId}
def Xy{k:V->Option R}{r:R}(h:Nx E ts p k=U r):∃v,(∀(R':Type)(k':V->Option R'),Nx E ts p k'=k' v)/\k v=U r/\(∀id,v.has id=J)/\(∀(P:Program)(μ:Ro)(φ:Nat->aT)x,aH P μ p x->az P μ φ v x)/\(ts.all (Ep E)=Y->∀(P:Program)(μ μ':Ro)(φ:Nat->aT)x,aH P μ p x->az P μ' φ v x):=by
 unfold Nx at h;split at h
 .obtain⟨vs,hv,hk⟩:=IS.1 h;obtain⟨rfl,hl⟩:=Xx hv;have:vs=[]:=ayh hl;subst this;have key:∀(P:Program)(μ μ':Ro)(φ:Nat->aT)x,aH P μ (.b8 []) x->az P μ' φ (.b8 []) x:=λP μ μ' φ x hx=>by
   cases hx with
   |b8 h1 h2=>exact .b8 h1 ae
  grind [Nx,V.has,cX]
 .rename_i t;have⟨q,q1,q2,q3,_⟩:=qp h;refine⟨.pv q,λR' k'=>by simp only[Nx];rw[q1],q2,ae,λP μ φ x hx=>.pv (q3 _ _ _ hx),λhs P μ μ' φ x hx=>?_⟩;obtain⟨q',s1,s2,s3⟩:=NR (by simpa using hs) h;have:q'=q:=by have e1:=s1 PV U;grind
  subst this;exact .pv (s3 P μ μ' x hx)
 .rename_i avL arM;have⟨vs,hv,hk⟩:=IS.1 h;obtain⟨rfl,hl⟩:=Xx hv;have⟨us,u1,u2,u3,u4,u5,u6⟩:=Xw hk;have arN:((I ts.length).map λj=>vs.getD j .bad)=vs:=acI
  rw[arN]at u3 u5 u6;refine⟨.b8 us,λR' k'=>?_,u2,λid=>by simp[V.has,u4],λP μ φ x hx=>?_,λhs P μ μ' φ x hx=>?_⟩
  .unfold Nx;simp_all
  .cases hx with
   |b8 h1 h2=>
    refine .b8 aa λi v y hv hy=>?_;have hi:i<vs.length:=ao
    exact u5 P μ φ i _ v y (ta hi) hv (h2 i _ y (ta hi) hy)
  .cases hx with
   |b8 h1 h2=>
    refine .b8 aa λi v y hv hy=>?_;have hi:i<vs.length:=ao
    exact u6 hs P μ μ' φ i _ v y (ta hi) hv (h2 i _ y (ta hi) hy)
def Cx:∀{args:List V}{m m':Mem}{ps:List PV},lR m args=U (ps,m')->nR m m'/\ps.length=args.length/\∀(P:Program)(G:Nat->Option (List PV))(w0:bI)(μ:Ro)(φ:Nat->aT)(w:World)(X:Nat->Value),aR P G w0 μ φ m w->(∀(i:Nat)u,args[i]?=U u->az P μ φ u (X i))->∃μ',(∀b o,μ b=U o->μ' b=U o)/\aR P G w0 μ' φ m' w/\∀(i:Nat)p,ps[i]?=U p->aH P μ' p (X i)
 |[],m,m',ps,h=>by simp only[lR,tc,aq4]at h;obtain⟨rfl,rfl⟩:=h;exact⟨.refl _,rfl,λP G w0 μ φ w X hM _=>⟨μ,λ_ _ h=>h,hM,ae⟩⟩
 |c::r,m,m',ps,h=>by
  simp only[lR]at h;split at h
  .rename_i p m1 h1;split at h
   .rename_i ps1 m2 h2;simp only[tc,aq4]at h;obtain⟨rfl,rfl⟩:=h;have⟨a1,a2⟩:=Tr h1;have⟨b1,b2,b3⟩:=Cx h2;refine⟨a1.trans b1,by simp[b2],λP G w0 μ φ w X hM hx=>?_⟩;have⟨μ1,c1,c2,c3⟩:=a2 P G w0 μ φ w (X 0) hM (hx 0 c ae);obtain⟨μ2,d1,d2,d3⟩:=b3 P G w0 μ1 φ w (λi=>X (i+1)) c2 (λi u hu=>(hx (i+1) u (by simpa using hu)).I9 c1);refine⟨μ2,λb o h=>d1 b o (c1 b o h),d2,λi q hq=>?_⟩;cases i with
    |zero=>simp at hq;subst hq;exact c3.mono d1
    |succ i=>simp_all
   .cases h
  .cases h
def U4{m':Mem}{v:V}(h:Em dW v=U (p,m')):m'=dW:=by
 have key:∀{cs:List V}{m':Mem}{ps:List PV},rT dW cs=U (ps,m')->m'=dW:=by
  intro cs;induction cs with
  |nil=>simp[rT,tc,aq4]
  |cons c r ih=>grind [rT,zY,Option.some.injEq,Prod.mk.injEq]
 unfold Em at h;grind [Option.some.injEq,Prod.mk.injEq,zY]
def xU:∀{args:List V}{m':Mem}{ps:List PV},lR dW args=U (ps,m')->ps.length=args.length/\∀(P:Program)(μ:Ro)(φ:Nat->aT)(X:Nat->Value),(∀(i:Nat)u,args[i]?=U u->az P μ φ u (X i))->∀(i:Nat)p,ps[i]?=U p->aH P μ p (X i)
 |[],m',ps,h=>by simp only[lR,tc,aq4]at h;simp_all
 |c::r,m',ps,h=>by
  simp only[lR]at h;split at h
  .rename_i p m1 h1;have:=U4 h1;subst this;split at h
   .rename_i ps1 m2 h2;simp only[tc,aq4]at h;obtain⟨rfl,rfl⟩:=h;have⟨b2,b3⟩:=xU h2;refine⟨by simp[b2],λP μ φ X hx i q hq=>?_⟩;cases i with
    |zero=>simp at hq;subst hq;exact NQ h1 P μ φ _ (hx 0 c ae)
    |succ i=>exact b3 P μ φ (λi=>X (i+1)) (λi u hu=>hx (i+1) u (by simpa using hu)) i q (by simpa using hq)
   .cases h
  .cases h
variable{φ:Nat->aT}
def ba.move{P:Program}{μ μ':Ro}{φ':Nat->aT}{w:World}{i j sz:Nat}{et:TypeId}{es:List PV}(h:ba P μ φ w i sz et es)(hφ:φ' j=φ i)(hμ:∀b o,μ b=U o->μ' b=U o):ba P μ' φ' w j sz et es:=by
 unfold ba at*;rw[hφ];obtain⟨h1,h2,h3,h4,h5,h6,h7⟩:=h;refine⟨h1,h2,h3,h4,h5,h6,?_⟩;split at h7
 .omega
 .obtain⟨c,T,c1,c2,c3,c4,c5⟩:=h7;exact⟨c,T,c1,c2,c3,λi e j p x he hp hx=>(c4 i e j p x he hp hx).mono hμ,c5⟩
def ba.aeD{P:Program}{ν μ:Ro}{w:World}{i:Nat}{et:TypeId}{es:List PV}(h:ba P ν φ w i 1 et es):ba P μ φ w i 1 et (es.map SX):=by
 unfold ba at*;obtain⟨h1,h2,h3,h4,h5,h6,h7⟩:=h;have hc:∀p:PV,(SX p).cells.length=1:=λp=>by cases p<;>rfl
 refine⟨by simpa using h1,h2,h3,h4,λj e he=>?_,h6,?_⟩
 .grind
 .split at h7
  .simp_all
  .obtain⟨c,T,c1,c2,c3,c4,c5⟩:=h7;refine⟨c,T,c1,c2,by simpa using c3,λj e l p x he hp hx=>?_,λj x hj hx=>c5 j x (by simpa using hj) hx⟩;simp only[AT,asI]at he;obtain⟨q,hq,rfl⟩:=he;have hl:l=0:=ao
   subst hl;cases q<;>(simp only[SX,PV.cells,ayR,tc]at hp;subst hp);case int=>have:=c4 j _ 0 _ x hq rfl hx;cases this with|int h=>exact .int h
   case bool=>have:=c4 j _ 0 _ x hq rfl hx;cases this;exact .bool
   case str=>have:=c4 j _ 0 _ x hq rfl hx;cases this with|str h=>exact .str h
   all_goals exact .bad
mutual
theorem ahd:∀(s:FS)(p:PV)(a:List PV),rdL s p=U a->a.length=s.n/\∀r,UL s (a++r)=(p,r)
 |.raw,p,a,h=>by simp only[rdL,tc]at h;subst h;exact⟨rfl,λr=>rfl⟩
 |.fn g cs,p,a,h=>by
  cases p<;>simp only[rdL]at h<;>try (cases h;done)
  split at h
  next e=>subst e;obtain⟨h1,h2⟩:=U5 cs _ a h;exact⟨by simp[FS.n,h1],λr=>by simp[UL,h2 r]⟩
  .cases h
 |.ptr cs,p,a,h=>by
  cases p<;>simp only[rdL]at h<;>try (cases h;done)
  obtain⟨h1,h2⟩:=U5 cs _ a h;exact⟨by simp[FS.n,h1],λr=>by simp[UL,h2 r]⟩
theorem U5:∀(ss:List FS)(ps:List PV)(a:List PV),Xa ss ps=U a->a.length=nFs ss/\∀r,Nu ss (a++r)=(ps,r)
 |[],ps,a,h=>by
  cases ps with
  |nil=>simp only[Xa,tc]at h;subst h;exact⟨rfl,λr=>rfl⟩
  |cons p ps=>simp[Xa]at h
 |s::ss,ps,a,h=>by
  cases ps with
  |nil=>simp[Xa]at h
  |cons p ps=>simp only[Xa]at h;have⟨x,hx,h⟩:=IS.1 h;have⟨y,hy,h⟩:=IS.1 h;simp only[tc]at h;subst h;have⟨a1,a2⟩:=ahd s p x hx;have⟨b1,b2⟩:=U5 ss ps y hy;refine⟨by simp[nFs,a1,b1],λr=>?_⟩;simp only[Nu,ayt,a2,b2]
end
theorem acT{s:FS}{ls:List PV}(h:rdL s p=U ls):(UL s ((I s.n).map λj=>ls.getD j .bad)).1=p:=by
 have⟨h1,h2⟩:=ahd s p ls h;have:((I s.n).map λj=>ls.getD j .bad)=ls:=acI
 rw[this];have:=h2 [];simp_all
def aeE{fid:FuncId}{k:V->Option R}{r:R}(h:Mb E fid ts p k=U r):∃v,(∀(R':Type)(k':V->Option R'),Mb E fid ts p k'=k' v)/\k v=U r/\(∀id,v.has id=J)/\(∀(P:Program)(μ:Ro)(φ:Nat->aT)x,aH P μ p x->az P μ φ v x)/\True:=by
 unfold Mb at h;split at h
 next s hs=>have⟨ls,hl,hk⟩:=IS.1 h;refine⟨_,λR' k'=>by simp_all[Mb,ayg],hk,λid=>rfl,λP μ φ x hx=>.pv ?_,trivial⟩;rw[acT hl];omega
 next hs=>have⟨v,v1,v2,v3,v4,_⟩:=Xy h;exact⟨v,λR' k'=>by simp_all[Mb],v2,v3,v4,trivial⟩
def ahe(hE:mn E){draw:Bool}{site:Nat}{g:FuncId}{args:List V}{f:Fr}{m:Mem}{k:V->Fr->Mem->bS->Option R}{r:R}(h:FN E draw site g args f m k=U r):(∃v f' m' ft,k v f' m' ft=U r/\(draw=Y->f'=f/\∃wr:Option (Nat×cS),m'=arK m wr/\(∀id b,wr=U (id,b)->(Y,id)∈ft)/\∀(f2:Fr)(m2:Mem),(∀x∈ft,m2 x.2=m x.2)->∀(R':Type)(k':V->Fr->Mem->bS->Option R'),FN E Y site g args f2 m2 k'=k' v f2 (arK m2 wr) ft)/\((∀x∈ft,x.1=J)->f'=f/\m'=m)/\arL E g args f m v f' m')\/(draw=J/\U3 E.P E.aQ g args f m (λv f m=>k v f m [(Y,0)]) r):=by
 have hX:∀(P:Program)(μ:Ro)(φ:Nat->aT)(xs:Array Value),args.length=xs.size->(∀(i:Nat)v x,args[i]?=U v->xs[i]?=U x->az P μ φ v x)->∀(i:Nat)u,args[i]?=U u->xs[i]?=U (xs.getD i undef)/\az P μ φ u (xs.getD i undef):=by
  intro P μ φ xs hl hr i u hu;have bX:i<xs.size:=ao
  have:xs[i]?=U (xs.getD i undef):=av
  grind
 unfold FN at h;split at h
 .rename_i M aeF;have⟨hfn,hM⟩:=hE.ctx g M aeF;split at h
  .rename_i fn hg;split at h
   .rename_i hsc;split at h
    .rename_i ps u9;have⟨p,hp,h⟩:=IS.1 h;have⟨v,v1,v2,v3,v4,v5⟩:=Xy h;refine .inl ⟨v,f,m,_,v2,λhd=>⟨rfl,Z,rfl,ae,λf2 m2 dC R' k'=>?_⟩,λ_=>⟨rfl,rfl⟩,hfn,λw0 μ φ ρ w xs hR hF hl hr UT=>?_⟩
     .have hag:xK (pg m2 gr) args=xK (pg m gr) args:=qW λv hv=>zG _ λid hid=>dC (J,id) (by simp only[ayl];exact⟨id,fS.2 ⟨v,hv,hid⟩,rfl⟩);have KU:((lQ (dN m2 gr) args).map λi=>(J,i))=((lQ (dN m gr) args).map λi=>(J,i)):=by have:lQ (dN m2 gr) args=lQ (dN m gr) args:=lW λv hv=>rX _ λid hid=>dC (J,id) (by simp only[ayl];exact⟨id,fS.2 ⟨v,hv,hid⟩,rfl⟩);rw[this]
      simp only[FN,aeF,hg];rw[BY hsc];simp only[hag,u9,hp,ayg,KU];rw[v1];rfl
     .obtain⟨p1,p2⟩:=jE u9;refine(hM ps p hp w (nO w) xs (λ_ _ h=>h) (λg cs hg=>(hR.aQ g cs hg).mono hR.Ip) aa (λi q x hq hx=>?_)).mono ?_
      .obtain⟨u,hu,hf⟩:=p2 i q hq;exact Dv hR hR.Ip (λ_ _ _ _ _=>rfl) _ hf (hr i u x hu hx)
      .rintro e w' ⟨y,rfl,hb,hy⟩;exact⟨y,dc μ w w',φ,rfl,hR.called hb,hF.sL (oC hR w') (.refl _),v5 hsc E.P _ _ φ y hy,λid hid=>av⟩
    .cases h
   .rename_i hsc;split at h
    .rename_i ps m1 u9;have⟨p,hp,h⟩:=IS.1 h;have⟨v,v1,v2,v3,v4,v5⟩:=aeE h;cases draw with
     |true=>
      simp only[By]at u9 v2;have⟨q1,q2⟩:=xU u9;refine .inl ⟨v,f,m,_,v2,λ_=>⟨rfl,Z,rfl,ae,λf2 m2 dC R' k'=>?_⟩,λ_=>⟨rfl,rfl⟩,hfn,λw0 μ φ ρ w xs hR hF hl hr UT=>?_⟩
      .simp only[FN,aeF,hg];rw[IT hsc];simp only[By,u9,hp,ayg];rw[v1];rfl
      .refine(hM ps p hp w μ xs hR.ro hR.aQ aa (λi q x hq hx=>?_)).mono ?_
       .have:=q2 E.P μ φ (λi=>xs.getD i undef) (λi u hu=>(hX E.P μ φ xs hl hr i u hu).2) i q hq;simp_all
       .rintro e w' ⟨y,rfl,hb,hy⟩;exact⟨y,dc μ w w',φ,rfl,hR.called hb,hF.sL (oC hR w') (.refl _),v4 E.P _ φ y hy,λid hid=>av⟩
     |false=>
      simp only[AI,OF]at u9 v2;have⟨q0,q1,q2⟩:=Cx u9;refine .inl ⟨v,f,m1,_,v2,λhd=>by(cases hd),λhq=>absurd (hq (Y,0) ae) ae,hfn,λw0 μ φ ρ w xs hR hF hl hr UT=>?_⟩;obtain⟨μ1,r1,r2,r3⟩:=q2 E.P E.aQ w0 μ φ w (λi=>xs.getD i undef) hR (λi u hu=>(hX E.P μ φ xs hl hr i u hu).2);refine(hM ps p hp w μ1 xs r2.ro r2.aQ aa (λi q x hq hx=>?_)).mono ?_
      .have:=r3 i q hq;have bX:i<xs.size:=(auA.1 hx).1;simp_all[undef,aq5,tc,Array.getD]
      .rintro e w' ⟨y,rfl,hb,hy⟩;exact⟨y,dc μ1 w w',φ,rfl,r2.called hb,hF.sL (λb o h=>oC r2 w' b o (r1 b o h)) q0,v4 E.P _ φ y hy,λid hid=>ao⟩
    .cases h
  .cases h
 .rename_i aeF;split at h
  .rename_i M JD;have⟨hfn,hM⟩:=hE.own g M JD;split at h
   .rename_i fn hg;split at h
    .rename_i t ht;split at h
     .rename_i e hu;split at h
      .rename_i hsc;obtain⟨hsc,Dy⟩:=hsc;split at h
       .rename_i ps u9;have⟨p,hp,h⟩:=IS.1 h;have⟨es,W2,h⟩:=IS.1 h;have⟨f',m',n1,n2,n3,n4,n5⟩:=cU h;refine .inl ⟨_,f',m',_,n2,λhd=>?_,λhq=>absurd (hq (Y,site) ae) ae,hfn,λw0 μ φ ρ w xs hR hF hl hr UT=>?_⟩
        .obtain⟨d1,d2,d3⟩:=n4 hd;subst hd;refine⟨d2,U (site,_),d3,ae,λf2 m2 dC R' k'=>?_⟩;have hag:xK (pg m2 gr) args=xK (pg m gr) args:=qW λv hv=>zG _ λid hid=>dC (J,id) (by simp only[ayq,ayl];exact .inr ⟨id,fS.2 ⟨v,hv,hid⟩,rfl⟩);have KU:lQ (dN m2 gr) args=lQ (dN m gr) args:=lW λv hv=>rX _ λid hid=>dC (J,id) (by simp only[ayq,ayl];exact .inr ⟨id,fS.2 ⟨v,hv,hid⟩,rfl⟩);simp only[FN,aeF,JD,hg,ht,hu];rw[BY ⟨hsc,Dy⟩];simp only[hag,u9,hp,ayg,W2,KU];have hs2:m2 site=none:=by rw[dC (Y,site) ae];omega
         simp only[fresh,hs2];rfl
        .obtain⟨p1,p2⟩:=jE u9;refine(hM fn t e hg ht hu ps p hp w (nO w) xs (λ_ _ h=>h) (λg cs hg=>(hR.aQ g cs hg).mono hR.Ip) aa (λi q x hq hx=>?_)).mono ?_
         .obtain⟨u,zU,hf⟩:=p2 i q hq;exact Dv hR hR.Ip (λ_ _ _ _ _=>rfl) _ hf (hr i u x zU hx)
         rintro en w' ⟨y,ph,es',rfl,hb,rfl,L3,hA,hy⟩;have anP:es'=es:=by simp only[aJ,By,tc]at W2;omega
         subst anP;rw[Dy]at hA;have hA2:ba E.P (rU (dc μ w w') ph.g) (λ_=>ph) w' 0 1 e (es'.map SX):=hA.aeD;have Mq:=hR.Th hb L3;have hF2:cR E.P (rU (dc μ w w') ph.g) φ m f ρ:=hF.sL (λb o h=>JH hR w' L3 b o h) (.refl _);have hP:pk E.P w0 (rU (dc μ w w') ph.g) φ m w' w' site (.arr (bq E.P e) e (es'.map SX)) ph:=by
          refine⟨ou.refl _ _,Mq.ro,λ_ _ _ _ _=>rfl,λg hg=>⟨?_,?_,?_⟩,λφ' hp _=>by rw[Dy];exact hA2.move hp (λ_ _ h=>h),gu,λg o h=>⟨(Mq.hid g o h).1,λe=>by have h1:=L3 g e;have:=(auA.1 (hR.hid g o h).1).1;omega⟩,λst h=>by cases h⟩
          .have:=L3 g hg;have:=hR.below.size;grind
          .simp[rU,hg]
          .intro id b' mH dH;have h1:=(hR.eE id b' mH).ON dH;grind
         obtain⟨φ',a1,a2,a3⟩:=n5 E.P E.aQ w0 _ φ w' w' ρ ph Mq hF2 hP;refine⟨y,_,φ',rfl,a2,a3,?_,λid hid=>?_⟩
         .cases hy with
          |BG h=>exact .BG (by rw[a1];omega)
          | @os _ g h=>have:=az.os (P:=E.P) (μ:=rU (dc μ w w') ph.g) (φ:=φ') (id:=site) (g:=g) (by rw[a1];omega);grind
         .have hid:=T0 hid;subst hid;simp[n3]
       .cases h
      rename_i hsc;split at h
      .rename_i ps m1 u9;have⟨p,hp,h⟩:=IS.1 h;have⟨es,W2,h⟩:=IS.1 h;have⟨f',m',n1,n2,n3,n4,n5⟩:=cU h;have fin:∀(w0:bI)(μ μ1:Ro)(φ:Nat->aT)(ρ:Nat->Value)(w:World)(xs:Array Value),(∀b o,μ b=U o->μ1 b=U o)->nR m (if draw then m else m1)->aR E.P E.aQ w0 μ1 φ (if draw then m else m1) w->cR E.P μ φ m f ρ->ps.length=xs.size->(∀(i:Nat)p x,ps[i]?=U p->xs[i]?=U x->aH E.P μ1 p x)->Calls E.P g xs w λe w'=>∃y μ' φ',e=.returned y/\aR E.P E.aQ w0 μ' φ' m' w'/\cR E.P μ' φ' m' f' ρ/\az E.P μ' φ' (.os site) y/\∀id,(V.os site).has id=Y->(m' id).isSome=true:=by
        intro w0 μ μ1 φ ρ w xs hle UT hR hF hl hr;refine(hM fn t e hg ht hu ps p hp w μ1 xs hR.ro hR.aQ hl hr).mono ?_;rintro en w' ⟨y,ph,es',rfl,hb,rfl,L3,hA,hy⟩;have anP:es'=es:=by simp only[aJ,By,tc]at W2;omega
        subst anP;have Mq:=hR.Th hb L3;have hF2:cR E.P (rU (dc μ1 w w') ph.g) φ (if draw then m else m1) f ρ:=hF.sL (λb o h=>JH hR w' L3 b o (hle b o h)) UT;have hP:pk E.P w0 (rU (dc μ1 w w') ph.g) φ (if draw then m else m1) w' w' site (.arr (bq E.P e) e es') ph:=by
         refine⟨ou.refl _ _,Mq.ro,λ_ _ _ _ _=>rfl,λg hg=>⟨?_,?_,?_⟩,λφ' hp _=>hA.move hp (λ_ _ h=>h),gu,λg o h=>⟨(Mq.hid g o h).1,λe=>by have h1:=L3 g e;have:=(auA.1 (hR.hid g o h).1).1;omega⟩,λst h=>by cases h⟩
         .have:=L3 g hg;have:=hR.below.size;grind
         .simp[rU,hg]
         .intro id b' mH dH;have h1:=(hR.eE id b' mH).ON dH;grind
        obtain⟨φ',a1,a2,a3⟩:=n5 E.P E.aQ w0 _ φ w' w' ρ ph Mq hF2 hP;refine⟨y,_,φ',rfl,a2,a3,?_,λid hid=>?_⟩
        .cases hy with
         |BG h=>exact .BG (by rw[a1];omega)
         | @os _ g h=>have:=az.os (P:=E.P) (μ:=rU (dc μ1 w w') ph.g) (φ:=φ') (id:=site) (g:=g) (by rw[a1];omega);grind
        .have hid:=T0 hid;subst hid;simp[n3]
       cases draw with
       |true=>
        simp only[By]at u9 n2 fin n4;have⟨q1,q2⟩:=xU u9;have⟨d1,d2,d3⟩:=n4 trivial;refine .inl ⟨_,f',m',_,n2,λ_=>⟨d2,U (site,_),d3,ae,λf2 m2 dC R' k'=>?_⟩,λhq=>absurd (hq (Y,site) ae) ae,hfn,λw0 μ φ ρ w xs hR hF hl hr UT=>?_⟩
        .simp only[FN,aeF,JD,hg,ht,hu];rw[IT hsc];simp only[By,u9,hp,ayg,W2];have hs2:m2 site=none:=by rw[dC (Y,site) ae];omega
         simp only[fresh,hs2];rfl
        .refine fin w0 μ μ φ ρ w xs (λ_ _ h=>h) (.refl _) hR hF aa λi q x hq hx=>?_;have:=q2 E.P μ φ (λi=>xs.getD i undef) (λi u hu=>(hX E.P μ φ xs hl hr i u hu).2) i q hq;have bX:i<xs.size:=(auA.1 hx).1;have e:xs.getD i undef=x:=by rw[aq5 bX]at hx;simp only[tc]at hx;simp[Array.getD,bX,hx]
         rw[<-e];omega
       |false=>
        simp only[AI,OF]at u9 n2 fin n4;have⟨q0,q1,q2⟩:=Cx u9;refine .inl ⟨_,f',m',_,n2,λhd=>by(cases hd),λhq=>absurd (hq (Y,site) ae) ae,hfn,λw0 μ φ ρ w xs hR hF hl hr UT=>?_⟩;obtain⟨μ1,r1,r2,r3⟩:=q2 E.P E.aQ w0 μ φ w (λi=>xs.getD i undef) hR (λi u hu=>(hX E.P μ φ xs hl hr i u hu).2);refine fin w0 μ μ1 φ ρ w xs r1 q0 r2 hF aa λi q x hq hx=>?_;have:=r3 i q hq;have bX:i<xs.size:=(auA.1 hx).1;have e:xs.getD i undef=x:=by rw[aq5 bX]at hx;simp only[tc]at hx;simp[Array.getD,bX,hx]
        rw[<-e];omega
      .cases h
     .cases h
    .cases h
   .cases h
  .split at h
   .cases h
   next hd=>exact .inr ⟨by simpa using hd,hE.inl _ _ _ _ _ _ _ _ h⟩
end
end Go.Ab
namespace Go.Ab
section
variable {P:Program} {G:Nat->Option (List PV)} {w0:bI} {μ:Ro} {φ:Nat->aT} {m:Mem} {w:World}
def aR.arO(hM:aR P G w0 μ φ m w){g:Nat}(hB:w0.heap.size<=g)(axu:∀id b,m id=U b->¬b.owns (φ id) g)(hh:w0.hid g=Z):aR P G w0 (va μ w (U g)) φ m w:=by
 have mono:=qV hM (U g);refine⟨hM.below,λb o hb=>?_,λg' cs hg=>(hM.aQ g' cs hg).mono mono,λj c hj=>(hM.eE j c hj).dd (λ_ _=>rfl) rfl mono (λ_ _=>rfl),λj c g' hj dH=>?_,hM.inj,hM.apart,hM.hU,λb o hb bX=>?_,λb o hb=>mono b o (hM.eF b o hb),hM.L2,λk o h=>(by have⟨h1,h2,h3,h4⟩:=hM.hid k o h;exact⟨h1,h2,by unfold va;rw[IT (λe=>by cases e;rw[hh]at h;cases h)];exact h3,h4⟩)⟩
 .unfold va at hb;split at hb
  .omega
  .exact hM.ro b o hb
 .obtain⟨h1,h2⟩:=hM.own j c g' hj dH;grind [va,Option.some.injEq,absurd]
 .unfold va at hb;split at hb
  .grind
  .exact hM.base b o hb bX
def aau(w:World)(g:Nat)(o:Obj):ou g w (w.putObj g o):=⟨⟨rfl,rfl,rfl,ae,λk hk=>World.putObj_heap_other aa⟩,λ_=>ayd _⟩
def KV{A:Type}(f:A->Nat):∀{l:List A}{i:Nat}{e:A},l[i]?=U e->(∀(j:Nat)x,l[j]?=U x->f x=f e->j=i)->l.filter (λx=> !(f x==f e))=l.eraseIdx i
 |[],i,e,h,_=>bm
 |y::l,0,e,h,inj=>by simp only[ayR,tc]at h;subst h;simp only[aAX,BEq.rfl,aq3,AI,OF,List.eraseIdx_cons_zero];rw[aBk];intro x hx;have⟨j,hj⟩:=ayc.1 hx;simp only[ayx,aAg];intro e;have:=inj (j+1) x (by simpa using hj) e;omega
 |y::l,i+1,e,h,inj=>by
  have h':l[i]?=U e:=by simpa using h
  have cO:¬f y=f e:=λe'=>by have:=inj 0 y rfl e';omega
  have hb:(f y==f e)=false:=by simpa using cO
  simp only[aAX,hb,ayi,By,List.eraseIdx_cons_succ];rw[KV f h' (λj x hj e'=>by have:=inj (j+1) x (by simpa using hj) e';omega)]
def Ts(en:Array MapEntry):pO en #[]=en.toList:=by simp[pO,aBk]
variable{en:Array MapEntry}{clock:Nat}{seen:Array Nat}{e:MapEntry}
def PX(hb:qT en clock){i:Nat}(hi:(pO en seen)[i]?=U e):pO en (seen.push e.born)=(pO en seen).eraseIdx i:=by
 have h1:pO en (seen.push e.born)=(pO en seen).filter (λx=> !(x.born==e.born)):=by unfold pO;rw[List.filter_filter];grind
 rw[h1];refine KV (λx=>x.born) hi λj x hj e'=>?_;have Z2:(pO en seen).Pairwise λa b=>a.born≠b.born:=by
  unfold pO;refine List.Pairwise.filter _ ?_;rw[ayL];intro a b ha mH xH he;have h2:en[a]?=U en.toList[a]:=ae
  have h3:en[b]?=U en.toList[b]:=ae
  have:=(hb b _ h3).2 a _ h2 he;omega
 have xQ:j<(pO en seen).length:=(No.1 hj).1;have NS:i<(pO en seen).length:=(No.1 hi).1;grind [List.getElem?_eq_getElem,Option.some.injEq,List.pairwise_iff_getElem,Nat.lt_trichotomy,absurd]
def aeG(h:e∈pO en seen):∃i:Nat,en[i]?=U e:=by unfold pO at h;have:=(ayr.1 h).1;have⟨i,hi⟩:=ayc.1 this;grind
def aeH{w:World}{g mg:Nat}(hg:w.heap[g]?=U (.mapIter (U mg) clock seen clock))(hm:w.heap[mg]?=U (.map en clock))(hb:qT en clock)(ty:TypeId):(pO en seen=[]/\(Instr.next (.pointer (U ⟨g,0,Z⟩)) J ty).run P w=.ok (.tuple #[.bool J]) w)\/∃(j:Nat)(e:MapEntry)(w1:World),(pO en seen)[j]?=U e/\(w1=w\/w1=w.drew)/\(Instr.next (.pointer (U ⟨g,0,Z⟩)) J ty).run P w=.ok (.tuple #[.bool Y,e.key,e.val]) (w1.putObj g (.mapIter (U mg) clock (seen.push e.born) clock)):=by
 have hold:∀x∈en.toList,x.born<clock:=λx hx=>by have⟨i,hi⟩:=ayc.1 hx;exact(hb i x av).1
 simp only[Instr.next,getObj,Sem.run_bind,Sem.run,hg,hm,Result.andThen,next_test_false seen en clock clock hold (ayd _),AI,OF];have hL:(Array.filter (λe=> !seen.contains e.born) en).toList=pO en seen:=by simp[pO]
 have bt:∀x∈(Array.filter (λe=> !seen.contains e.born) en).toList,x.born<clock:=λx hx=>hold x ao;generalize Array.filter (λe=> !seen.contains e.born) en=L at bt hL⊢;have e1:L.filter (λx=>O (x.born<clock))=L:=Array.filter_eq_self.2 (λx hx=>ao);have e2:L.filter (λx=>O (x.born>=clock))= #[]:=av
 simp only[e1,e2,Array.append_empty];rw[<-hL];by_cases h0:L.size=0
 .left;have:L= #[]:=aAs h0;subst this;refine⟨rfl,?_⟩;simp[choose,Sem.run,Question.forced]
 .right;have cO:L.isEmpty=false:=by simp[Array.isEmpty,h0]
  simp only[cO,AI,OF,Array.empty_append,Array.size_map];have hch:∃(j:Nat)(w1:World),j<L.size/\(w1=w\/w1=w.drew)/\(choose (Question.mapNext L.size)).run P w=.ok j w1:=by
   by_cases hf:L.size<=1
   .exact⟨0,w,aa,.inl rfl,by simp[choose,Sem.run,Question.forced,hf]⟩
   .exact⟨_,w.drew,aBe _ aa,.inr rfl,by simp only[choose,Sem.run,Question.forced,tb,hf,OF,Question.cut];rfl⟩
  obtain⟨j,w1,hj,OY,xM⟩:=hch;refine⟨j,L[j],w1,ae,OY,?_⟩;have hg1:w1.heap[g]?=U (.mapIter (U mg) clock seen clock):=by rcases OY with rfl|rfl<;>exact hg
  have xP:(setObj g (.mapIter (U mg) clock (seen.push L[j].born) clock)).run P w1=.ok () (w1.putObj g (.mapIter (U mg) clock (seen.push L[j].born) clock)):=by simp only[setObj,Sem.run,hg1];rfl
  simp_all
def aav{w:World}{g mg:Nat}{i:Nat}(hg:w.heap[g]?=U (.mapIter (U mg) clock seen clock))(hm:w.heap[mg]?=U (.map en clock))(hb:qT en clock)(hi:en[i]?=U e)(hs:seen.back? =U e.born):(Instr.entry (.pointer (U ⟨g,0,Z⟩))).run P w=.ok (.tuple #[e.key,e.val]) w:=by
 have hf:en.find? (·.born==e.born)=U e:=by
  rw[<-Array.find?_toList];refine find_born e en.toList ?_ ao;rw[List.Nodup,aAP,ayL];intro a b ha mH xH he;have h2:en[a]?=U en.toList[a]:=ae
  have h3:en[b]?=U en.toList[b]:=ae
  have:=(hb b _ h3).2 a _ h2 he;omega
 simp only[Instr.entry,getObj,Sem.run_bind,Sem.run,hg,hm,Result.andThen,hs,bne_self_eq_false,AI,OF,hf];rfl
end
section
variable {R:Type} {E:Env}
variable{g:Nat->Option R}{r:R}
def aaw{n:Nat}(h:BO n g=U r)(i:Nat)(hi:i<n):g i=U r:=by
 unfold BO at h;split at h
 .grind
 .cases h
def PY{n:Nat}(h0:0<n)(h:∀i,i<n->g i=U r):BO n g=U r:=by unfold BO;have hh:∃r,∀i,i<n->g i=U r:=⟨r,h⟩;rw[aBu hh];grind
variable{k:V->Fr->Mem->Option R}
def aeI{site:Nat}{t:TypeId}{x:V}{f:Fr}{m:Mem}(h:aad E site t x f m k=U r):∃f' m',k (.it site) f' m'=U r/\(m' site).isSome=Y/\∀(G:Nat->Option (List PV))(w0:bI)(μ:Ro)(φ:Nat->aT)(w:World)(ρ:Nat->Value)(y:Value),aR E.P G w0 μ φ m w->cR E.P μ φ m f ρ->az E.P μ φ x y->∃w' y' μ' φ',(Instr.range t y).run E.P w=.ok y' w'/\aR E.P G w0 μ' φ' m' w'/\cR E.P μ' φ' m' f' ρ/\az E.P μ' φ' (.it site) y':=by
 unfold aad at h;split at h
 .rename_i kt et hu;split at h
  .rename_i id;split at h
   .rename_i Gh es hm;split at h
    .obtain⟨f',m',hn,mq,Gj,Gk,Et⟩:=cU h;refine⟨f',m',mq,by simp[Gj],λG w0 μ φ w ρ y hM hF hx=>?_⟩;obtain⟨g,en,clock,kk,hg,hh,hs,Aa,WX,Ik,hv⟩:=hM.eE id _ hm;obtain⟨o1,o2⟩:=hM.own id _ g hm (.inl hg);cases hx with
     |om dH=>
      rw[hg]at dH;simp only[tc]at dH;subst dH;have EA:=hM.forget id;have hM2:=EA.arO o1 (λj b hj e=>by
       obtain⟨cO,b',mH,rfl⟩:=iA hj;exact cO (hM.inj j id b' _ g mH hm (iF.1 e) (.inl hg))) (by
        cases hq:w0.hid g with
        |none=>rfl
        |some o=>exact absurd (.inl hg) ((hM.hid g o hq).2.2.2 id _ hm))
      have Ad:=qV EA (U g);have OO:cR E.P (va μ w (U g)) φ (bO (b9 id m) id) (ga id f) ρ:=(hF.forget id).mono Ad λj hj=>⟨rfl,hj⟩;have nI:∀φ':Nat->aT,φ' site=(NI (U w.heap.size) 0 0 0)->(∀j,(cS.iter t es Z).names j=Y->φ' j=φ j)->jF E.P (va μ w (U g)) φ' (w.alloc (.mapIter (U g) clock #[] clock)) site (.iter t es Z):=λφ' hp _=>by
       refine⟨w.heap.size,g,en,clock,#[],by rw[hp],iG w _,by simp[va,hh],Ik,(by rw[Ts,aAB,hs]),λi k v e h1 h2=>?_,λk v h=>by cases h⟩;have h2':en[i]?=U e:=by simp_all[ayQ,Ts]
       exact⟨(hv i k v e h1 h2').1.mono Ad,(hv i k v e h1 h2').2.mono Ad⟩
      obtain⟨φ',a1,a2,a3⟩:=Et E.P G w0 _ φ w (w.alloc (.mapIter (U g) clock #[] clock)) ρ (NI (U w.heap.size) 0 0 0) hM2 OO (pk.alloc (o:=.mapIter (U g) clock #[] clock) hM2 rfl nI gu);exact⟨_,_,_,φ',run_range_map w t kt et g en clock hu hh,a2,a3,.it (by rw[a1])⟩
    .cases h
   .cases h
  .cases h
 .cases h
def ahf{x:V}{f:Fr}{m:Mem}(h:agR E x f m k=U r)(G:Nat->Option (List PV))(w0:bI)(μ:Ro)(φ:Nat->aT)(w:World)(y:Value)(ty:TypeId)(hM:aR E.P G w0 μ φ m w)(hx:az E.P μ φ x y):∃v m' y' w',k v f m'=U r/\(∀id,v.has id=J)/\nR m m'/\(Instr.next y J ty).run E.P w=.ok y' w'/\aR E.P G w0 μ φ m' w'/\az E.P μ φ v y':=by
 unfold agR at h;split at h
 .rename_i id;split at h
  .rename_i t es cur hm;split at h
   .rename_i kt et hu;obtain⟨g,mg,en,clock,seen,hg,hh,WY,Ik,Sk,hv,_⟩:=hM.eE id _ hm;obtain⟨o1,o2⟩:=hM.own id _ g hm (.inl hg);cases hx with
    |it dH=>
     rw[hg]at dH;simp only[tc]at dH;subst dH;have hmg:=hM.ro _ _ WY;rcases aeH (P:=E.P) hh hmg Ik ty with⟨anQ,xM⟩|⟨j,e,w1,hj,hw1,xM⟩
     .have:es=[]:=ao
      subst this;simp only[List.isEmpty_nil,By]at h;refine⟨_,m,_,w,h,by simp[V.has,cX],nR.refl m,xM,hM,.b8 rfl λi p x hp hx=>?_⟩;cases i with
      |zero=>simp at hp hx;subst hp;subst hx;exact .pv .bool
      |succ i=>simp at hp
     .have xQ:j<(pO en seen).length:=(No.1 hj).1;have cO:¬es.isEmpty=true:=ao
      rw[IT cO]at h;have h:=aaw h j aa;have⟨e0,Tu,h⟩:=IS.1 h;have⟨qa,_,ha,ra,_⟩:=qp h;have⟨qb,_,hb,rb,_⟩:=qp ha;have⟨rk,rv⟩:=hv j e0.1 e0.2 e Tu hj;refine⟨_,_,_,_,hb,by simp[V.has,cX],.set,xM,?_,.b8 rfl λi p x hp hx=>?_⟩
      .have EA:aR E.P G w0 μ φ m w1:=by rcases hw1 with rfl|rfl;exact hM;exact hM.drew
       have bX:g<w1.heap.size:=by have:g<w.heap.size:=(auA.1 hh).1;rcases hw1 with rfl|rfl<;>exact this
       refine EA.write hm rfl hg (aau w1 g _) World.putObj_size (λk hk=>World.putObj_heap_other hk) ?_ rfl gu;refine⟨g,mg,en,clock,seen.push e.born,hg,World.putObj_heap_same bX,WY,Ik,?_,λi k v e' h1 h2=>?_,λk v hc=>?_⟩
       .rw[PX Ik hj,aBi,aBi,Sk]
       .rw[PX Ik hj]at h2;grind
       .simp only[tc,aq4]at hc;obtain⟨rfl,rfl⟩:=hc;have⟨i,hi⟩:=aeG (awU hj);grind
      .match i with
       |0=>simp at hp hx;subst hp;subst hx;exact .pv .bool
       |1=>simp at hp hx;subst hp;subst hx;exact .pv (ra _ _ _ rk)
       |2=>simp at hp hx;subst hp;subst hx;exact .pv (rb _ _ _ rv)
       |i+3=>simp at hp
   .cases h
  .cases h
 .cases h
def aeJ{x:V}{m:Mem}{k:V->Mem->Option R}(h:aae x m k=U r)(P:Program)(G:Nat->Option (List PV))(w0:bI)(μ:Ro)(φ:Nat->aT)(w:World)(y:Value)(hM:aR P G w0 μ φ m w)(hx:az P μ φ x y):∃v m' y',k v m'=U r/\(∀id,v.has id=J)/\nR m m'/\(Instr.entry y).run P w=.ok y' w/\aR P G w0 μ φ m' w/\az P μ φ v y':=by
 unfold aae at h;split at h
 .rename_i id;split at h
  .rename_i t es a b hm;obtain⟨g,mg,en,clock,seen,hg,hh,WY,Ik,Sk,hv,hcu⟩:=hM.eE id _ hm;have⟨i,e,hi,hs,ra,rb⟩:=hcu a b rfl;cases hx with
   |it dH=>
    rw[hg]at dH;simp only[tc]at dH;subst dH;refine⟨_,_,_,h,by simp[V.has,cX],.set,aav hh (hM.ro _ _ WY) Ik hi hs,?_,.b8 rfl λi p x hp hx=>?_⟩
    .exact hM.write hm rfl hg (ou.refl _ _) rfl (λ_ _=>rfl) ⟨g,mg,en,clock,seen,hg,hh,WY,Ik,Sk,hv,λk v h=>by cases h⟩ rfl gu
    match i with
    |0=>simp at hp hx;subst hp;subst hx;exact .pv ra
    |1=>simp at hp hx;subst hp;subst hx;exact .pv rb
    |i+2=>simp at hp
  .cases h
 .cases h
end
section
variable {P:Program} {G:Nat->Option (List PV)} {w0:bI} {μ μ':Ro} {φ φ':Nat->aT} {m m':Mem} {w w':World}
variable{id j:Nat}{b:cS}
def jH(h:gR id m j=U b):∃b',m j=U b'/\b=eZ id b':=by unfold gR at h;grind
def vS:(gR id m j).isSome=(m j).isSome:=by unfold gR;cases m j<;>rfl
def NT(id:Nat)(b:cS):(eZ id b).rowAt=b.rowAt:=by cases b<;>rfl
def vo{p:aT}{g:Nat}:(eZ id b).owns p g↔b.owns p g:=by unfold cS.owns;rw[NT]
def GC{p:aT}:(eZ id b).apart p↔b.apart p:=by unfold cS.apart;rw[NT]
def JM(id:Nat)(b:cS):(eZ id b).nb=b.nb:=by cases b<;>rfl
def aax{cs:List V}(h:cX j (cs.map (sF id))=Y):cX j cs=true:=by have⟨v,hv,hh⟩:=dF.1 h;obtain⟨u,hu,rfl⟩:=ayl.1 hv;exact cq hu (Im hh).1
def jF.Ja{id j:Nat}{b:cS}(h:jF P μ φ w j b):jF P μ φ w j (eZ id b):=by
 cases b with
 |box cs=>obtain⟨g,c,T,hg,hh,hs,hv,h1,Sk⟩:=h;refine⟨g,c,T,hg,hh,by simpa using hs,λi v x hi hx=>?_,h1,by simpa using Sk⟩;simp only[AT,asI]at hi;obtain⟨u,hu,rfl⟩:=hi;exact(hv i u x hu hx).Ja id
 |_=>exact h
def aR.EC(hM:aR P G w0 μ φ m w)(id:Nat):aR P G w0 μ φ (gR id m) w:=by
 refine⟨hM.below,hM.ro,hM.aQ,λj b h=>?_,λj b g h hg=>?_,λi j b1 b2 g h1 h2 g1 g2=>?_,λj b h=>?_,λj cs i h hh=>?_,hM.base,hM.eF,λj st h=>?_,λg o h=>⟨(hM.hid g o h).1,(hM.hid g o h).2.1,(hM.hid g o h).2.2.1,λj b hj hg=>by obtain⟨b',hb,rfl⟩:=jH hj;exact(hM.hid g o h).2.2.2 j b' hb (vo.1 hg)⟩⟩
 .obtain⟨b',hb,rfl⟩:=jH h;exact(hM.eE j b' hb).Ja
 .obtain⟨b',hb,rfl⟩:=jH h;rw[JM];exact hM.own j b' g hb (vo.1 hg)
 .obtain⟨b1',WZ,rfl⟩:=jH h1;obtain⟨b2',yO,rfl⟩:=jH h2;exact hM.inj i j b1' b2' g WZ yO (vo.1 g1) (vo.1 g2)
 .obtain⟨b',hb,rfl⟩:=jH h;exact GC.2 (hM.apart j b' hb)
 .obtain⟨b',hb,e⟩:=jH h;cases b' with
  |box R9=>simp only[eZ,cS.box.injEq]at e;subst e;rw[vS];exact hM.hU j R9 i hb (aax hh)
  |_=>simp[eZ]at e
 .obtain⟨b',hb,e⟩:=jH h;cases b' with
  |loop st'=>simp only[eZ,cS.loop.injEq]at e;subst e;exact hM.L2 j st hb
  |_=>simp[eZ]at e
variable{ρ:Nat->Value}
def cR.EC{f:Fr}(h:cR P μ φ m f ρ)(id:Nat):cR P μ φ (gR id m) (jr id f) ρ:=⟨λt=>(h.fr t).Ja id,λt j hj=>by rw[vS];exact h.live t j (Im hj).1⟩
def aR.km:∀{kl:Kl}{m:Mem},aR P G w0 μ φ m w->aR P G w0 μ φ (Go.Ab.km kl m) w
 |[],_,h=>h
 |(Y,id)::r,m,h=>(aR.km (kl:=r) (m:=bO (b9 id m) id) (h.forget id):)
 |(J,id)::r,m,h=>(aR.km (kl:=r) (m:=gR id m) (h.EC id):)
def cR.km{ρ:Nat->Value}:∀{kl:Kl}{m:Mem}{f:Fr},cR P μ φ m f ρ->cR P μ φ (Go.Ab.km kl m) (kf kl f) ρ
 |[],_,_,h=>h
 |(Y,id)::r,m,f,h=>(cR.km (kl:=r) (m:=bO (b9 id m) id) (f:=ga id f) (h.forget id):)
 |(J,id)::r,m,f,h=>(cR.km (kl:=r) (m:=gR id m) (f:=jr id f) (h.EC id):)
def aR.acU(hM:aR P G w0 μ φ m w)(nw:Nat->Nat->Nat)(hblk:∀j b',m' j=U b'->jF P μ φ' w j b')(IW:∀j b' g,m' j=U b'->b'.owns (φ' j) g->∃k b,m k=U b/\b.owns (φ k) g/\(b'.nb=Y->b.nb=Y)/\j=nw g k)(JI:∀j b',m' j=U b'->b'.apart (φ' j))(NG:∀j cs id,m' j=U (.box cs)->cX id cs=Y->(m' id).isSome=Y)(avM:∀j st,m' j=U (.loop st)->m j=U (.loop st)/\(φ' j).g=(φ j).g):aR P G w0 μ φ' m' w:=by
 refine⟨hM.below,hM.ro,hM.aQ,hblk,λj b' g h hg=>?_,λi j b1 b2 g h1 h2 g1 g2=>?_,JI,NG,hM.base,hM.eF,λj st h=>?_,λg o h=>⟨(hM.hid g o h).1,(hM.hid g o h).2.1,(hM.hid g o h).2.2.1,λj b' hj hg=>by have⟨k,b,hk,ho,_,_⟩:=IW j b' g hj hg;exact(hM.hid g o h).2.2.2 k b hk ho⟩⟩
 .obtain⟨k,b,hk,ho,WY,_⟩:=IW j b' g h hg;have⟨o1,o2⟩:=hM.own k b g hk ho;simp_all
 .obtain⟨k1,c1,hk1,ho1,_,e1⟩:=IW i b1 g h1 g1;have⟨k2,c2,Sc,ho2,_,e2⟩:=IW j b2 g h2 g2;rw[e1,e2,hM.inj k1 k2 c1 c2 g hk1 Sc ho1 ho2]
 .obtain⟨h1,h2⟩:=avM j st h;have⟨g,rc,r1,r2,r3⟩:=hM.L2 j st h1;simp_all
def oE(p:aT)(i off:Nat)(r:NH):aT:={p with row:=λa b=>if a=i/\b=off then r else p.row a b}
def jI(p:aT)(i off:Nat)(r:NH):(oE p i off r).row i off=r:=by simp[oE]
def kc(p:aT){i off a b:Nat}(r:NH)(h:¬(a=i/\b=off)):(oE p i off r).row a b=p.row a b:=by simp[oE,h]
def jF.acV(h:jF P μ φ w j (eZ id b))(hj:j≠id)(h0:(φ' id).toNH=(φ id).toNH)(hφ:∀k,k≠id->φ' k=φ k):jF P μ φ' w j (eZ id b):=by
 have e:=hφ j hj;cases b with
 |box cs=>
  obtain⟨g,c,T,hg,hh,hs,hv,h1,Sk⟩:=h;refine⟨g,c,T,by rw[e];omega,hh,hs,λi v x hi hx=>?_,h1,by rw[e];omega⟩;refine(hv i v x hi hx).amI (λ_ _ h=>h) λk hk=>?_;by_cases hki:k=id
  .subst hki;refine⟨h0,λh2=>?_⟩;simp only[AT,asI]at hi;obtain⟨u,hu,rfl⟩:=hi;rw[(Im hk).2]at h2;cases h2
  simp_all
 |arr sz et es=>exact jF.dd h (λk hk=>by simp[cS.names,eZ]at hk) e (λ_ _ h=>h) (λ_ _=>rfl)
 |xJ sz et es=>exact jF.dd h (λk hk=>by simp[cS.names,eZ]at hk) e (λ_ _ h=>h) (λ_ _=>rfl)
 |map kt es=>exact jF.dd h (λk hk=>by simp[cS.names,eZ]at hk) e (λ_ _ h=>h) (λ_ _=>rfl)
 |nest sz et es=>exact jF.dd h (λk hk=>by simp[cS.names,eZ]at hk) e (λ_ _ h=>h) (λ_ _=>rfl)
 |gY kt e0 es=>exact jF.dd h (λk hk=>by simp[cS.names,eZ]at hk) e (λ_ _ h=>h) (λ_ _=>rfl)
 |loop st=>exact jF.dd h (λk hk=>by simp[cS.names,eZ]at hk) e (λ_ _ h=>h) (λ_ _=>rfl)
 |iter t es cur=>exact jF.dd h (λk hk=>by simp[cS.names,eZ]at hk) e (λ_ _ h=>h) (λ_ _=>rfl)
def cR.amO{f:Fr}(h:cR P μ φ m (jr id f) ρ)(h0:(φ' id).toNH=(φ id).toNH)(hφ:∀k,k≠id->φ' k=φ k)(hl:∀j,(m j).isSome=Y->(m' j).isSome=Y):cR P μ φ' m' (jr id f) ρ:=by
 refine⟨λt=>(h.fr t).amI (λ_ _ h=>h) λk hk=>?_,λt j hj=>hl j (h.live t j hj)⟩;by_cases hki:k=id
 .subst hki;refine⟨h0,λh2=>?_⟩;have:=(Im (show(sF k (f t)).has k=Y from hk)).2;rw[show jr k f t=sF k (f t)from rfl,this]at h2;cases h2
 simp_all
def iB{id2:Nat}{b':cS}(h:aO (gR id (bO (b9 id2 m) id2)) id b j=U b'):(j=id/\b'=b)\/(j≠id/\j≠id2/\∃c,m j=U c/\b'=eZ id (jD id2 c)):=by
 by_cases e:j=id
 .simp_all
 .rw[aN e]at h;obtain⟨c1,h1,rfl⟩:=jH h;obtain⟨cO,c,hc,rfl⟩:=iA h1;simp_all
def aay{x:Value}(h:az P μ φ (.os id) x):az P μ (λ_=>((φ id).toNH).up) (.os 0) x:=by
 cases h with
 |BG h=>exact .BG h
 |os h=>exact .os (id:=0) (φ:=λ_=>((φ id).toNH).up) h
def ba.up{sz:Nat}{et:TypeId}{es:List PV}(h:ba P μ φ w id sz et es):ba P μ (λ_=>((φ id).toNH).up) w 0 sz et es:=h
def aR.anR(hM:aR P G w0 μ φ m w){id2 i off s s2:Nat}{et Xz:TypeId}{es rs:List PV}{e q:PV}{x:Value}(cO:id2≠id)(hm:m id=U (.nest s et es))(dC:m id2=U (.arr s2 Xz rs))(he:es[i]?=U e)(KT:e.cells[off]?=U .bad)(hx:∀g c T,(φ id).g=U g->w.heap[g]?=U (.cells c T (0,0))->c[i*s+off]?=U x)(hv:az P μ φ (.os id2) x)(hq:q.cells=e.cells.set off (.lJ s2 rs)):aR P G w0 μ (λj=>if j=id then oE (φ id) i off (φ id2).toNH else φ j) (aO (gR id (bO (b9 id2 m) id2)) id (.nest s et (es.set i q))) w:=by
 have EA:=(hM.forget id2).EC id;have hN:bw P μ φ w id s et es:=hM.eE id _ hm;have hA2:ba P μ φ w id2 s2 Xz rs:=hM.eE id2 _ dC;have NS:i<es.length:=(No.1 he).1;have hol:off<e.cells.length:=(No.1 KT).1;have qU:∀a b,(cS.nest s et (es.set i q)).rowAt a b=Y->(a=i/\b=off)\/((cS.nest s et es).rowAt a b=Y/\¬(a=i/\b=off)):=by
  intro a b hr;by_cases xH:a=i/\b=off
  .exact .inl xH
  .refine .inr ⟨?_,xH⟩;rcases nQ hr with⟨_,_,_,e',s',rs',mH,h',DA⟩|⟨_,_,_,_,_,_,mH,_⟩
   .simp only[cS.nest.injEq]at mH;obtain⟨rfl,rfl,rfl⟩:=mH;rcases gg h' with⟨rfl,rfl⟩|⟨hni,h'⟩
    .rw[hq]at DA;rcases gg DA with⟨rfl,_⟩|⟨hnj,DA⟩
     .exact absurd ⟨rfl,rfl⟩ xH
     .rw[eH he DA];rfl
    .rw[eH h' DA];rfl
   .cases mH
 refine hM.acU (λ_ k=>if k=id2 then id else k) (λj b' hj=>?_) (λj b' g hj ho=>?_) (λj b' hj=>?_) (λj cs k hj hk=>?_) (λj st hj=>?_)
 .rcases iB hj with⟨rfl,rfl⟩|⟨h1,h2,c,hc,rfl⟩
  .show bw P μ (λk=>if k=j then oE (φ j) i off (φ id2).toNH else φ k) w j s et (es.set i q);refine bw.change (μ':=μ) (w':=w) (es':=es.set i q) hN ae (λi' e' h'=>?_) (by simp[oE]) (λ_ _=>rfl) (λi' e' j' p' g c T x' h' DA hg hc U0 hold=>?_)
   .rcases gg h' with⟨_,rfl⟩|⟨_,h'⟩
    .rw[hq,azm];exact hN.2.2.2.2.1 i e he
    .exact hN.2.2.2.2.1 i' e' h'
   .simp only[By];by_cases xH:i'=i/\j'=off
    .obtain⟨rfl,rfl⟩:=xH;rw[jI];have e1:e'=q:=by
      rcases gg h' with⟨_,h⟩|⟨h,_⟩
      .exact h
      .exact absurd rfl h
     subst e1;rw[hq]at DA;have e2:p'=.lJ s2 rs:=by
      rcases gg DA with⟨_,h⟩|⟨h,_⟩
      .exact h
      .exact absurd rfl h
     subst e2;have e3:x'=x:=by have:=hx g c _ hg hc;rw[U0]at this;simpa using this
     subst e3;exact⟨⟨Xz,hA2.up⟩,aay hv⟩
    .rw[kc _ _ xH];rcases gg h' with⟨rfl,rfl⟩|⟨hni,h'⟩
     .rw[hq]at DA;rcases gg DA with⟨rfl,_⟩|⟨hnj,DA⟩
      .exact absurd ⟨rfl,rfl⟩ xH
      .exact hold e p' he DA
     .exact hold e' p' h' DA
  .have hb:jF P μ φ w j (eZ id (jD id2 c)):=(hM.eE j c hc).kill.Ja;exact hb.acV h1 (by simp[oE]) λk hk=>by simp[hk]
 .rcases iB hj with⟨rfl,rfl⟩|⟨h1,h2,c,hc,rfl⟩
  .simp only[By]at ho;rcases ho with ho|⟨a,b,hr,ho⟩
   .exact⟨j,_,hm,.inl ho,λ_=>rfl,by simp[cO.symm]⟩
   .rcases qU a b hr with⟨rfl,rfl⟩|⟨Gi,xH⟩
    .rw[jI]at ho;exact⟨id2,_,dC,.inl ho,λ_=>rfl,ae⟩
    .rw[kc _ _ xH]at ho;exact⟨j,_,hm,.inr ⟨a,b,Gi,ho⟩,λ_=>rfl,by simp[cO.symm]⟩
  .simp only[h1,OF]at ho;exact⟨j,c,hc,iF.1 (vo.1 ho),λh=>by rw[JM,Is]at h;exact h,by simp[h2]⟩
 .rcases iB hj with⟨rfl,rfl⟩|⟨h1,h2,c,hc,rfl⟩
  .simp only[By];have JI:=hM.apart j _ hm;have new:∀g,(φ id2).g=U g->¬(cS.nest s et es).owns (φ j) g:=λg hg ho=>cO (hM.inj id2 j _ _ g dC hm (.inl hg) ho);intro a b g hr hg;rcases qU a b hr with⟨rfl,rfl⟩|⟨Gi,xH⟩
   .rw[jI]at hg;refine⟨λh=>new g hg (.inl h),λa' b' Tv U6=>?_⟩;rcases qU a' b' Tv with h|⟨hr3,aaz⟩
    .exact h
    .rw[kc _ _ aaz]at U6;exact absurd (.inr ⟨a',b',hr3,U6⟩) (new g hg)
   .rw[kc _ _ xH]at hg;have⟨h3,h4⟩:=JI a b g Gi hg;refine⟨h3,λa' b' Tv U6=>?_⟩;rcases qU a' b' Tv with⟨rfl,rfl⟩|⟨hr3,aaz⟩
    .rw[jI]at U6;exact absurd (.inr ⟨a,b,Gi,hg⟩) (new g U6)
    .rw[kc _ _ aaz]at U6;exact h4 a' b' hr3 U6
  .simp only[h1,OF];exact GC.2 (Ez.2 (hM.apart j c hc))
 .rcases iB hj with⟨rfl,hb⟩|⟨h1,h2,c,hc,hb⟩
  .cases hb
  .have W3:gR id (bO (b9 id2 m) id2) j=U (.box cs):=by rw[aN h1]at hj;exact hj
   have:=EA.hU j cs k W3 hk;by_cases e:k=id
   .subst e;simp
   .rw[aN e];exact this
 .rcases iB hj with⟨rfl,hb⟩|⟨h1,h2,c,hc,hb⟩
  .cases hb
  .cases c<;>first|(simp[eZ,jD]at hb;done)|skip
   simp only[eZ,jD,cS.loop.injEq]at hb;subst hb;exact⟨hc,by simp[h1]⟩
end
def sy(k:PV):List (PV×PV)->Option Nat
 |[]=>Z
 |(a,_)::r=>if cz k.cells a.cells then U 0 else(sy k r).map (·+1)
def nc(es:List (PV×PV)):List (PV×PV):=es.map λx=>(x.1,.bad)
def PZ(k:PV):∀es,sy k (nc es)=sy k es
 |[]=>rfl
 |(a,u)::r=>by simp only[nc,ayb,sy];rw[<-PZ k r];rfl
def OZ{k:PV}:∀{es:List (PV×PV)}{j:Nat},sy k es=U j->∃a u,es[j]?=U (a,u)/\cz k.cells a.cells=Y
 |(a,u)::r,j,h=>by
  simp only[sy]at h;split at h
  next hp=>simp only[tc]at h;subst h;simp_all
  .obtain⟨i,hi,rfl⟩:=asI.1 h;simpa using OZ hi
def sO(k v:PV):∀es,eu k v es=match sy k es with|some j=>es.set j (k,v)|none=>es++[(k,v)]
 |[]=>rfl
 |(a,u)::r=>by
  simp only[eu,sy];split
  .rfl
  .rw[sO k v r];cases sy k r<;>rfl
def DC(k:PV):∀es,Dr k es=match sy k es with|some j=>es.modify j λx=>(x.1,.bad)|none=>es
 |[]=>rfl
 |(a,u)::r=>by
  simp only[Dr,sy];split
  .rfl
  .rw[DC k r];cases sy k r<;>simp
def XA(sz:Nat)(k:PV):∀es,W9 sz k es=match sy k es with|some j=>(es[j]?).bind λx=>fZ sz x.2|none=>U []
 |[]=>rfl
 |(a,u)::r=>by
  simp only[W9,sy];split
  .simp
  .rw[XA sz k r];cases sy k r<;>simp
def Tw{k z:PV}{l:List (PV×PV)}{es:List MapEntry}{i:Nat}{r:Option (Nat×Value)}(h:Found k .nL z (nc l) es i r):(r=Z/\sy k l=Z)\/∃j e,r=U (i+j,e.val)/\es[j]?=U e/\sy k l=U j:=by
 cases h with
 |none h1 h2 h3=>
  refine .inl ⟨rfl,?_⟩;rw[sO]at h3;rw[<-PZ];cases hp:sy k (nc l)with
  |none=>rfl
  |some j=>rw[hp]at h3;have:=congrArg List.length h3;simp at this
 | @some j a u e h1 h2 h3 h4 h5 h6=>
  refine .inr ⟨j,e,rfl,h2,?_⟩;rw[sO]at h6;rw[<-PZ];have bX:j<(nc l).length:=(No.1 h1).1;cases hp:sy k (nc l)with
  |none=>rw[hp]at h6;have:=congrArg List.length h6;simp at this
  |some j'=>
   rw[hp]at h6;simp only at h6;have⟨a',u',W3,_⟩:=OZ hp;have avN:j'<(nc l).length:=(No.1 W3).1;have e1:((nc l).set j (k,.nL))[j']?=U (k,.nL):=by rw[<-h6];simp[avN]
   grind [nc,Option.map_eq_some_iff]
section
variable {P:Program} {G:Nat->Option (List PV)} {w0:bI} {μ μ':Ro} {φ φ':Nat->aT} {m m':Mem} {w w':World}
def P0(P:Program)(μ:Ro)(R:NH)(w:World)(e0:TypeId)(v:PV)(x:Value):Prop:=match v with
 |.lJ s rs=>ba P μ (λ_=>R.up) w 0 s e0 rs/\az P μ (λ_=>R.up) (.os 0) x
 |v=>aH P μ v x
variable{e0:TypeId}
def P0.pure{R:NH}{v:PV}{x:Value}(h:aH P μ v x):P0 P μ R w e0 v x:=by
 unfold P0;split
 .cases h
 omega
structure aaA(P:Program)(μ:Ro)(p:aT)(w:World)(kt e0:TypeId)(es:List (PV×PV))(g:Nat)(en:Array MapEntry)(clock:Nat)(kk:List Kd):Prop where
 pl:p.g=U g
 heap:w.heap[g]?=U (.map en clock)
 size:en.size=es.length
 LZ:BM P kt=U kk
 key:∀(i:Nat)k v,es[i]?=U (k,v)->FM P kt kk k=Y
 born:qT en clock
 rep:∀(i:Nat)k v e,es[i]?=U (k,v)->en[i]?=U e->aH P μ k e.key/\P0 P μ (p.row i 0) w e0 v e.val
variable{kt:TypeId}{es:List (PV×PV)}
def DD{id:Nat}:jF P μ φ w id (.gY kt e0 es)↔∃g en clock kk,aaA P μ (φ id) w kt e0 es g en clock kk:=by
 constructor
 .rintro⟨g,en,clock,kk,h1,h2,h3,h4,h5,h6,h7⟩;exact⟨g,en,clock,kk,h1,h2,h3,h4,h5,h6,λi k v e a b=>h7 i k v e a b⟩
 .rintro⟨g,en,clock,kk,h1,h2,h3,h4,h5,h6,h7⟩;exact⟨g,en,clock,kk,h1,h2,h3,h4,h5,h6,λi k v e a b=>h7 i k v e a b⟩
variable{en:Array MapEntry}
def aaA.ent{p:aT}{g:Nat}{clock:Nat}{kk:List Kd}(h:aaA P μ p w kt e0 es g en clock kk):GA P μ kt kk (nc es) en.toList:=by
 refine⟨by simp[nc,h.size],λi k v hi=>?_,λi k v e hi he=>?_⟩
 .simp only[nc,AT,asI]at hi;obtain⟨⟨a,u⟩,hq,hx⟩:=hi;simp only[aq4]at hx;obtain⟨rfl,rfl⟩:=hx;exact h.key i a u hq
 .simp only[nc,AT,asI]at hi;obtain⟨⟨a,u⟩,hq,hx⟩:=hi;simp only[aq4]at hx;obtain⟨rfl,rfl⟩:=hx;exact⟨(h.rep i a u e hq (by simpa using he)).1,.bad⟩
def P1{t et:TypeId}{ks:List Kd}{key:PV}{zv yi:Value}{g clock:Nat}{l:List (PV×PV)}(hu:P.underlying t=U (.map kt et))(hk:BM P kt=U ks)(xS:FM P kt ks key=Y)(hyi:aH P μ key yi)(hg:w.heap[g]?=U (.map en clock))(hE:GA P μ kt ks (nc l) en.toList)(hz:(zeroValue et).run P w=.ok zv w):(sy key l=Z/\(Instr.lookup t (.map (U g)) yi J).run P w=.ok zv w)\/∃j e,sy key l=U j/\en[j]?=U e/\(Instr.lookup t (.map (U g)) yi J).run P w=.ok e.val w:=by
 have hk8:=Iv hk;have⟨hc,hv⟩:=rW xS hyi;obtain⟨r,r1,r2⟩:=qu (v:=.nL) (z:=.bad) hk8 hc w hE;have h1:=kZ 8 kt ks hk8 9992 w en.isEmpty key.cells hc;have L3:=Go.MapKept.run_getObj_map (P:=P) hg;have h1':(Instr.checkKey en.isEmpty 10000 kt (gw P kt key.cells)).run P w=.ok () w:=h1;rw[hv];unfold Instr.lookup;simp only[Sem.run_bind,run_underlying hu,Result.andThen_ok,Sem.run_pure,L3];rcases Tw r2 with⟨rfl,h⟩|⟨j,e,rfl,he,h⟩
 .simp_all
 simp_all
end
section
variable {R:Type} {E:Env}
def aaB{t:TypeId}(h:zeroV E.P t=U .il)(w:World):(zeroValue t).run E.P w=.ok (.slice Z 0 0) w:=by unfold zeroV at h;have⟨c,hc,h⟩:=asI.1 h;have⟨i,hi,hz⟩:=IS.1 hc;have:=Dw (P:=E.P) (μ:=λ_=>Z) (φ:=λ_=>default) c;rw[h]at this;cases this;exact vQ hi hz
def ahg{site:Nat}{t:TypeId}{x ix:V}{m:Mem}{k:V->Mem->bS->Option R}{r:R}(h:Xd E site t x ix m k=U r):∃id b1 b2 m',m'=BN [(id,b1),(site,b2)] m/\k (.os site) m' [(Y,id),(Y,site)]=U r/\m site=Z/\b2.names=(λ_=>J)/\b1.names=(λ_=>J)/\(m id).isSome=Y/\(∀m2:Mem,m2 id=m id->m2 site=Z->∀(R':Type)(k':V->Mem->bS->Option R'),Xd E site t x ix m2 k'=k' (.os site) (BN [(id,b1),(site,b2)] m2) [(Y,id),(Y,site)])/\∀(G:Nat->Option (List PV))(w0:bI)(μ:Ro)(φ:Nat->aT)(w:World)(f:Fr)(ρ:Nat->Value)(y yi:Value),aR E.P G w0 μ φ m w->cR E.P μ φ m f ρ->az E.P μ φ x y->az E.P μ φ ix yi->∃u φ',(Instr.lookup t y yi J).run E.P w=.ok u w/\aR E.P G w0 μ φ' m' w/\cR E.P μ φ' m' f ρ/\az E.P μ φ' (.os site) u:=by
 unfold Xd at h;split at h
 .rename_i kt et hu;split at h
  .rename_i e hue;split at h
   .rename_i id hz;split at h
    .rename_i Gh e' es hm hs;split at h
     .rename_i hc;obtain⟨rfl,rfl,fa⟩:=hc;have⟨key,xS,h⟩:=IS.1 h;have⟨rs,hrs,h⟩:=IS.1 h;have⟨ks,k1,k2,k3⟩:=DB xS;have cO:site≠id:=λe=>av
      refine⟨id,.gY Gh e' (Dr key es),.arr (bq E.P e') e' rs,_,rfl,h,hs,rfl,rfl,by rw[hm];rfl,λm2 h1 h2 R' k'=>?_,λG w0 μ φ w f ρ y yi hM hF hx hi=>?_⟩
      .simp only[Xd,hu,hue,hz,h1,h2,hm,xS,hrs,ayg,fa,aBt,By];rfl
      .obtain⟨g,en,clock,kk,hN⟩:=DD.1 (hM.eE id _ hm);have Aa:=hN.LZ;rw[k1]at Aa;simp only[tc]at Aa;subst Aa;cases hx with
       |om dH=>
        rw[hN.pl]at dH;simp only[tc]at dH;subst dH;have Tx:=P1 hu k1 k2 (k3 μ φ yi hi) hN.heap hN.ent (aaB hz w);have aaC:∀i off,(cS.gY Gh e' (Dr key es)).rowAt i off=Y->(cS.gY Gh e' es).rowAt i off=Y/\sy key es≠U i:=by
         intro i off hr;rcases nQ hr with⟨_,_,_,_,_,_,hb,_⟩|⟨_,_,_,k0,s0,rs0,hb,rfl,he⟩
         .cases hb
         .simp only[cS.gY.injEq]at hb;obtain⟨rfl,rfl,rfl⟩:=hb;rw[DC]at he;cases hp:sy key es with
          |none=>rw[hp]at he;simp only at he;exact⟨by rw[nP he];rfl,ae⟩
          |some j=>
           rw[hp]at he;simp only[aAx]at he;split at he
           .simp_all
           .rename_i hji;have he:es[i]?=U (k0,PV.lJ s0 rs0):=by simpa using he
            exact⟨by rw[nP he];rfl,λh=>hji (by simpa using h)⟩
        have EA:aR E.P G w0 μ φ (aO m id (.gY Gh e' (Dr key es))) w:=by
         refine hM.write hm rfl hN.pl (ou.refl _ _) rfl (λ_ _=>rfl) (DD.2 ⟨g,en,clock,ks,hN.pl,hN.heap,?_,k1,λi k0 v0 h0=>?_,hN.born,λi k0 v0 e0 h0 Tu=>?_⟩) rfl gu (λst h=>by cases h) (λi off hr=>(aaC i off hr).1)
         .rw[hN.size,DC];grind
         .rw[DC]at h0;cases hp:sy key es with
          |none=>rw[hp]at h0;exact hN.key i k0 v0 h0
          |some j=>
           rw[hp]at h0;simp only[aAx]at h0;have⟨x0,hx0,hq⟩:=asI.1 h0;obtain⟨xa,xu⟩:=x0;split at hq
           .simp only[aq4]at hq;rw[<-hq.1];exact hN.key i xa xu hx0
           .simp only[id_eq,aq4]at hq;rw[<-hq.1];exact hN.key i xa xu hx0
         .rw[DC]at h0;cases hp:sy key es with
          |none=>rw[hp]at h0;exact hN.rep i k0 v0 e0 h0 Tu
          |some j=>
           rw[hp]at h0;simp only[aAx]at h0;have⟨x0,hx0,hq⟩:=asI.1 h0;obtain⟨xa,xu⟩:=x0;have⟨q1,q2⟩:=hN.rep i xa xu e0 hx0 Tu;split at hq
           .simp only[aq4]at hq;obtain⟨rfl,rfl⟩:=hq;exact⟨q1,.pure .bad⟩
           simp_all
        have Ss:∀(ph:aT)(u:Value),ba E.P μ (λ_=>ph) w 0 (bq E.P e') e' rs->az E.P μ (λ_=>ph) (.os 0) u->(∀g',ph.g=U g'->∃j,sy key es=U j/\(cS.gY Gh e' es).rowAt j 0=Y/\((φ id).row j 0).g=U g')->∃φ',aR E.P G w0 μ φ' (BN [(id,.gY Gh e' (Dr key es)),(site,.arr (bq E.P e') e' rs)] m) w/\cR E.P μ φ' (BN [(id,.gY Gh e' (Dr key es)),(site,.arr (bq E.P e') e' rs)] m) f ρ/\az E.P μ φ' (.os site) u:=by
         intro ph u hA hV L3;have Sq:∀j,(m j).isSome=Y->j≠site:=λj hj e=>av
         refine⟨λi=>if i=site then ph else φ i,?_,?_,?_⟩
         .refine EA.put (by rw[aN cO];omega) (ou.refl _ _) hM.ro (λ_ _ _ _ _=>rfl) (λg' dH=>?_) (zW vl) ?_ gu (λst h=>by cases h) (λk o h=>⟨(hM.hid k o h).1,λhk=>by have⟨j,hj,hr,hjg⟩:=L3 k (oA vl hk);exact(hM.hid k o h).2.2.2 id _ hm (.inr ⟨j,0,hr,hjg⟩)⟩)
          .have dH:=oA vl dH;have⟨j,hj,hr,hjg⟩:=L3 g' dH;obtain⟨o1,o2⟩:=hM.own id _ g' hm (.inr ⟨j,0,hr,hjg⟩);refine⟨o1,o2 rfl,λi b' hi ho=>?_⟩;by_cases hii:i=id
           .subst hii;rw[bV]at hi;simp only[tc]at hi;subst hi;obtain⟨a1,a2⟩:=hM.apart i _ hm j 0 g' hr hjg;rcases ho with ho|⟨i',Es,Gi,ho⟩
            .exact a1 ho
            grind
           .rw[aN hii]at hi;exact hii (hM.inj i id _ _ g' hi hm ho (.inr ⟨j,0,hr,hjg⟩))
          .exact ba.move (φ':=λi=>if i=site then ph else φ i) (j:=site) hA ae (λ_ _ h=>h)
         .refine hF.mono (λ_ _ h=>h) λj hj=>⟨by simp[Sq j hj],?_⟩;show(aO (aO m id _) site _ j).isSome=Y;rw[aN (Sq j hj)];by_cases hji:j=id
          .subst hji;simp
          .rw[aN hji];omega
         .cases hV with
          |BG h=>exact .BG (by simpa using h)
          | @os _ g0 h=>have:=az.os (P:=E.P) (μ:=μ) (φ:=λi=>if i=site then ph else φ i) (id:=site) (g:=g0) (by simpa using h);simpa using this
        rw[XA]at hrs;rcases Tx with⟨hp,xM⟩|⟨j,en0,hp,hen,xM⟩
        .rw[hp]at hrs;simp only[tc]at hrs;subst hrs;obtain⟨φ',a1,a2,a3⟩:=Ss (NI Z 0 0 (bq E.P e')) (.slice Z 0 0) ⟨rfl,rfl,rfl,fa,ae,by simp[maxLen],⟨rfl,rfl⟩⟩ (.BG rfl) (λg' dH=>by cases dH);grind
        .rw[hp]at hrs;have⟨x0,hx0,qU⟩:=IS.1 hrs;obtain⟨xa,xu⟩:=x0;have hxu:=Xq qU;simp only at hxu;subst hxu;obtain⟨_,q2⟩:=hN.rep j xa _ en0 hx0 hen;obtain⟨φ',a1,a2,a3⟩:=Ss ((φ id).row j 0).up en0.val q2.1 q2.2 (λg' dH=>⟨j,hp,by rw[nP hx0];rfl,dH⟩);grind
     .cases h
    .cases h
   .cases h
  .cases h
 .cases h
end
def P2{m:Mem}:∀{cs:List V}{j0:Nat}{ps:List PV}{tk:Option (Nat×Nat)},pM m j0 cs=U (ps,tk)->ps.length=cs.length/\(tk=Z->∀(i:Nat)p,ps[i]?=U p->∃v,cs[i]?=U v/\pg dW 1 v=U p)/\∀j id2,tk=U (j,id2)->∃l s2 Xz rs,cs[l]?=U (.os id2)/\m id2=U (.arr s2 Xz rs)/\ps[l]?=U (.lJ s2 rs)/\∀(i:Nat)p,i≠l->ps[i]?=U p->∃v,cs[i]?=U v/\pg dW 1 v=U p
 |[],j0,ps,tk,h=>by simp only[pM,tc,aq4]at h;grind
 |v::r,j0,ps,tk,h=>by
  have plain:∀{p:PV},pg dW 1 v=U p->(match pM m (j0+1) r with
   |some (ps,t)=>U (p::ps,t)
   |none=>Z)=U (ps,tk)->ps.length=(v::r).length/\
   (tk=Z->∀(i:Nat)p,ps[i]?=U p->∃u,(v::r)[i]?=U u/\pg dW 1 u=U p)/\
   ∀j id2,tk=U (j,id2)->∃l s2 Xz rs,(v::r)[l]?=U (.os id2)/\m id2=U (.arr s2 Xz rs)/\ps[l]?=U (.lJ s2 rs)/\∀(i:Nat)p,i≠l->ps[i]?=U p->∃u,(v::r)[i]?=U u/\pg dW 1 u=U p:=by
   intro p hp h
   split at h
   .rename_i ps' t ht;simp only[tc,aq4]at h;obtain⟨rfl,rfl⟩:=h;have⟨h1,h2,h3⟩:=P2 ht;refine⟨by simp[h1],λhn i q hq=>?_,λj id2 hj=>?_⟩
    .grind
    .obtain⟨l,s2,Xz,rs,a1,a2,a3,a4⟩:=h3 j id2 hj;refine⟨l+1,s2,Xz,rs,by simpa using a1,a2,by simpa using a3,λi q hi hq=>?_⟩;grind
   .cases h
  unfold pM at h;split at h
  next heq=>cases heq
  .rename_i j id r' heq;simp only[ayW]at heq;obtain⟨rfl,rfl⟩:=heq;split at h
   .rename_i s et es hm;split at h
    next ps' ht=>simp only[tc,aq4]at h;obtain⟨rfl,rfl⟩:=h;have⟨h1,h2,_⟩:=P2 ht;refine⟨by simp[h1],λhn=>(nomatch hn),λj id2 hj=>?_⟩;simp only[tc,aq4]at hj;obtain⟨rfl,rfl⟩:=hj;refine⟨0,s,et,es,rfl,hm,rfl,λi q hi hq=>?_⟩;grind
    .cases h
   .cases h
  grind
section
variable {P:Program} {G:Nat->Option (List PV)} {w0:bI} {μ μ':Ro} {φ φ':Nat->aT} {m m':Mem} {w w':World}
def P3{v:V}{n j id2:Nat}{cs:List V}{ps:List PV}(hc:toCells n v=U cs)(h:pM m 0 cs=U (ps,U (j,id2))):∃l s2 Xz rs,m id2=U (.arr s2 Xz rs)/\ps[l]?=U (.lJ s2 rs)/\ps.length=n/\v.has id2=Y/\∀(P:Program)(μ:Ro)(φ:Nat->aT)(x:Value),az P μ φ v x->x.cells.size=n/\(∀(i:Nat)(y:Value),x.cells[i]?=U y->y.oneCell'=Y)/\(∀(i:Nat)p y,i≠l->ps[i]?=U p->x.cells[i]?=U y->aH P μ p y)/\∃y,x.cells[l]?=U y/\az P μ φ (.os id2) y:=by
 have⟨t1,_,t3⟩:=P2 h;have⟨l,s2,Xz,rs,a1,a2,a3,a4⟩:=t3 j id2 rfl;obtain⟨n1,n2,n3⟩:=toCells_ok hc;refine⟨l,s2,Xz,rs,a2,a3,aa,n2 id2 (cq (awU a1) db),λP μ φ x hx=>?_⟩;have⟨x1,x2,x3⟩:=n3 P μ φ x hx;refine⟨x1,x3,λi p y hi hp hy=>?_,?_⟩
 .grind [Dz]
 .have hl:l<x.cells.size:=ao
  exact⟨x.cells[l],aq5 hl,x2 l _ _ a1 (aq5 hl)⟩
def NU{s off n:Nat}{e:PV}{ps:List PV}(hn:ps.length=n)(hb:off+n<=s)(h0:0<n)(ha:s=1->∀p,ps.head? =U p->∀cs,p≠.agg cs):(if s=1 then ps.headD .bad else PV.agg (cp (aX s e) off ps)).cells=cp (aX s e) off ps:=by
 split
 .rename_i h1;subst h1;have e1:off=0:=aa
  have e2:n=1:=aa
  subst e1;subst e2;match ps,hn with
  |[p],_=>
   have:=ha rfl p rfl;have hp:p.cells=[p]:=by cases p<;>first|rfl|exact absurd rfl (this _)
   simp only[List.headD_cons,hp,fo,aAb,azg,al6,are];rfl
 rfl
theorem P4{T:Type}{cs ps:List T}{off l:Nat}{x:T}(hl:l<ps.length)(hb:off+ps.length<=cs.length):cp cs off (ps.set l x)=(cp cs off ps).set (off+l) x:=by
 have hto:(cs.take off).length=off:=ah
 simp_all[fo,azm,ayt,List.set_append,IT,BY]
def P5{id id2:Nat}{B X:cS}(cO:id2≠id):aO (gR id (bO (b9 id2 (aO m id B)) id2)) id X=aO (gR id (bO (b9 id2 m) id2)) id X:=by
 funext t;by_cases h:t=id
 .subst h;simp
 .rw[aN h,aN h];unfold gR;by_cases h2:t=id2
  .subst h2;simp
  simp_all[jx,b9,aN]
end
section
variable {R:Type} {E:Env}
def ahh{t:TypeId}{v:V}{id i off s id2 j:Nat}{et:TypeId}{es ps:List PV}{cs:List V}{e:PV}{m:Mem}(hm:m id=U (.nest s et es))(hc:toCells (bq E.P t) v=U cs)(ht:pM m 0 cs=U (ps,U (j,id2)))(hb:off+bq E.P t<=s)(h0:0<bq E.P t)(cO:id2≠id)(he:es[i]?=U e){G:Nat->Option (List PV)}{w0:bI}{μ:Ro}{φ:Nat->aT}{w:World}{f:Fr}{ρ:Nat->Value}{ya yx:Value}(hM:aR E.P G w0 μ φ m w)(hF:cR E.P μ φ m f ρ)(ha:az E.P μ φ (.oe id i off) ya)(hx:az E.P μ φ v yx):∃w' φ',(Instr.storeAt t ya yx).run E.P w=.ok () w'/\aR E.P G w0 μ φ' (BN [(id,.nest s et (es.set i (if s=1 then ps.headD .bad else .agg (cp (aX s e) off ps))))] (km [(Y,id2),(J,id)] m)) w'/\cR E.P μ φ' (BN [(id,.nest s et (es.set i (if s=1 then ps.headD .bad else .agg (cp (aX s e) off ps))))] (km [(Y,id2),(J,id)] m)) (kf [(Y,id2),(J,id)] f) ρ:=by
 have⟨l,s2,Xz,rs,dC,qU,P6,avO,nI⟩:=P3 hc ht;have⟨x1,x2,x3,y,hy,hvy⟩:=nI E.P μ φ yx hx;have hll:l<ps.length:=(No.1 qU).1;have hN:bw E.P μ φ w id s et es:=hM.eE id _ hm;have PO:=hN.2.2.2.2.1 i e he;have OM:(aX s e).length=s:=bB _ _;have u9:ps=(ps.set l .bad).set l (.lJ s2 rs):=by rw[azl];apply ayI;grind
 have xP:∀(a:Nat)p,(ps.set l .bad)[a]?=U p->(a=l/\p=.bad)\/(a≠l/\ps[a]?=U p):=λa p h=>gg h;have hE:Cu E.P μ (bq E.P t) (.agg (ps.set l .bad)) yx:=by
  refine⟨by simp[PV.cells,P6],x1,λa p z hp hz=>?_,x2⟩;rcases xP a p (by simpa[PV.cells]using hp)with⟨_,rfl⟩|⟨h1,h2⟩
  .exact .bad
  grind
 have one:s=1->ps.length=1:=λh=>aa
 have hq:(if s=1 then ps.headD .bad else PV.agg (cp (aX s e) off ps)).cells=cp (aX s e) off ps:=NU P6 hb h0 λh1 p hp R9=>by grind [List.head?_eq_getElem?,Option.some.injEq]
 have Sa:(if s=1 then(ps.set l .bad).headD .bad else PV.agg (cp (aX s e) off (ps.set l .bad))).cells=cp (aX s e) off (ps.set l .bad):=NU (by simpa using P6) hb h0 λh1 p hp R9=>by
  have W0:l=0:=aa
  subst W0;rw[aAi,ayO,BY rfl,BY hll]at hp;grind
 generalize (if s=1 then ps.headD .bad else PV.agg (cp (aX s e) off ps))=q at hq⊢;generalize (if s=1 then(ps.set l .bad).headD .bad else PV.agg (cp (aX s e) off (ps.set l .bad)))=q' at Sa;cases ha with
 | @oe _ _ _ g hg=>
  obtain⟨c,T,hh,sN,JF,hrw⟩:=bw.set (q:=q') hN (hM.apart id _ hm) hg he hE hb (by rw[Sa];rfl);have sB:(φ id).sz=s:=hN.2.1;have hi:=oD (P:=E.P) (t:=t) aa;have EA:aR E.P G w0 μ φ (aO m id (.nest s et (es.set i q'))) (w.setRow g (cp c.toList (i*s+off) yx.cells.toList).toArray):=hM.write hm rfl hg (ou.setRow (ayd _)) setRow_size (λk hk=>cV hk) JF rfl (λj hj=>by simp[cS.names]at hj) (λst h=>by cases h) hrw;have NS:i<es.length:=(No.1 he).1;have ahi:q.cells=q'.cells.set (off+l) (.lJ s2 rs):=by grind [P4]
  have KT:q'.cells[off+l]?=U .bad:=by rw[Sa,P4 hll aa,ayO,BY rfl,BY];grind [dz]
  have xH:=aR.anR EA (id:=id) (id2:=id2) (i:=i) (off:=off+l) (e:=q') (q:=q) (x:=y) cO (bV _ _ _) (by rw[aN cO];exact dC) (by simp[NS]) KT (λg0 c0 _ hg0 hc0=>by
   rw[hg]at hg0;simp only[tc]at hg0;subst hg0;rw[setRow_heap w g c _ T (0,0) hh]at hc0;simp only[tc,Obj.cells.injEq]at hc0;obtain⟨rfl,_⟩:=hc0;rw[ayM,fo];have bX:(c.toList.take (i*s+off)).length=i*s+off:=ah
   have PL:l<yx.cells.toList.length:=ao
   rw[ayt,ay7 aa,bX,show i*s+(off+l)-(i*s+off)=l by omega,azb PL];simpa using hy) hvy ahi
  rw[azl,P5 cO]at xH;refine⟨_,_,by grind [jy],xH,?_⟩;have OO:cR E.P μ φ (aO m id (.nest s et (es.set i q'))) f ρ:=hF.sL (λ_ _ h=>h) .set;have hF2:=(OO.forget id2).EC id;refine hF2.amO (by simp[oE]) (λk hk=>by simp[hk]) λk hk=>?_;show(aO (gR id (bO (b9 id2 m) id2)) id _ k).isSome=Y;by_cases e1:k=id
  .subst e1;simp
  .rw[aN e1];rw[vS]at hk⊢;by_cases e2:k=id2
   .subst e2;simp at hk
   grind [jx,b9,aN]
end
section
variable {R:Type} {E:Env}
variable{e:TypeId}{id2:Nat}{G:Nat->Option (List PV)}{w0:bI}{φ:Nat->aT}{w:World}{ρ:Nat->Value}
def aeK{t:TypeId}{v:V}{j site:Nat}{cs:List V}{ps:List PV}{p:PV}{m:Mem}(hu:E.P.underlying t=U (.slice e))(hc:toCells (bq E.P e) v=U cs)(ht:pM m 0 cs=U (ps,U (j,id2)))(hs:m site=Z)(hp:elemOf (aS E.P e) ps=U p)(fa:0<bq E.P e)(Mr:bq E.P e<=16777216)(hz:(dO E e).isSome=Y){μ:Ro}{f:Fr}{yx:Value}(hM:aR E.P G w0 μ φ m w)(hF:cR E.P μ φ m f ρ)(hx:az E.P μ φ v yx):∃y w' φ',(Instr.buildSlice t 1 #[(0,yx)]).run E.P w=.ok y w'/\aR E.P G w0 μ φ' (BN [(site,.nest (bq E.P e) e [p])] (km [(Y,id2)] m)) w'/\cR E.P μ φ' (BN [(site,.nest (bq E.P e) e [p])] (km [(Y,id2)] m)) (kf [(Y,id2)] f) ρ/\az E.P μ φ' (.os site) y:=by
 have⟨l,s2,Xz,rs,dC,qU,P6,avO,nI⟩:=P3 hc ht;have⟨x1,x2,x3,z,hz1,hvz⟩:=nI E.P μ φ yx hx;have⟨zc,hzc⟩:=aym.1 hz;have⟨iz,zv,i1,i2,i3,_⟩:=eA hzc;have cO:id2≠site:=λe=>av
 have hpc:p.cells=ps:=by
  unfold elemOf at hp;split at hp
  .simp only[tc]at hp;subst hp;rfl
  .split at hp
   .rename_i q;simp only[tc]at hp;subst hp;have W0:l=0:=ao
    subst W0;simp only[ayR,tc]at qU;subst qU;rfl
   .cases hp
 have hA2:ba E.P μ φ w id2 s2 Xz rs:=hM.eE id2 _ dC;have axv:Instr.fill (λi=>U (i*bq E.P e,bq E.P e)) ((Array.range (1*bq E.P e)).map (zv.cells[·%zv.cells.size]!)) [(0,yx)]=U yx.cells:=by
  have St:((Array.range (1*bq E.P e)).map (zv.cells[·%zv.cells.size]!)).size=bq E.P e:=ae
  rw[Iu (off:=0) (size:=bq E.P e) ae x1 aa];simp only[Instr.fill,tc];apply azT;simp only[fo,aAb,azg,azf];simp_all
 have xM:=run_buildSlice (P:=E.P) w t e 1 #[(0,yx)] yx.cells iz zv hu i1 i2 aa aa (by rw[i3];omega);let q:aT:={g:=U w.heap.size,cap:=1,len:=1,sz:=bq E.P e,row:=λa b=>if a=0/\b=l then(φ id2).toNH else default};have Sq:∀k,(bO (b9 id2 m) id2 k).isSome=Y->k≠site:=λk hk e=>by simp_all[jx,Ne.symm,b9]
 have acW:∀a b,(cS.nest (bq E.P e) e [p]).rowAt a b=Y->a=0/\b=l:=by
  intro a b hr;rcases nQ hr with⟨_,_,_,e',s',rs',mH,h',DA⟩|⟨_,_,_,_,_,_,mH,_⟩
  .simp only[cS.nest.injEq]at mH;obtain⟨rfl,rfl,rfl⟩:=mH;cases a with
   |succ a=>simp at h'
   |zero=>
    simp only[ayR,tc]at h';subst h';rw[hpc]at DA;refine⟨rfl,?_⟩;by_cases Z3:b=l
    .exact Z3
    .exfalso;have bX:b<yx.cells.size:=by rw[x1,<-P6];exact(No.1 DA).1
     exact absurd (x3 b _ _ Z3 DA (aq5 bX)).OX (by simp[PV.isRow])
  .cases mH
 have EA:=hM.forget id2;have qX:aR E.P G w0 μ (λi=>if i=site then q else φ i) (aO (bO (b9 id2 m) id2) site (.nest (bq E.P e) e [p])) (w.alloc (.cells yx.cells e)):=by
  have hold:∀k,k<w.heap.size->(w.alloc (.cells yx.cells e)).heap[k]?=w.heap[k]?:=λk hk=>ou.heap_alloc w _ k hk;refine EA.put (by rw[jx (Ne.symm cO)];simp[b9,hs]) ((ou.refl _ w).alloc hM.below.size _) (λk o hk=>?_) (λid b' g hid hg=>hold g ((EA.eE id b' hid).ON hg)) (λg hg=>?_) ?_ ?_ gu (λst h=>by cases h) (λk o h=>(by
   have⟨h1,h2,h3,h4⟩:=hM.hid k o h;have bX:=(auA.1 h1).1;refine⟨by rw[hold k bX];exact h1,λhk=>?_⟩;rcases hk with hg|⟨a,b,hr,hg⟩
   .simp only[q,tc]at hg;omega
   .have xH:=acW a b hr;have hg:(φ id2).g=U k:=by simpa[q,xH]using hg
    exact h4 id2 _ dC (.inl hg)))
  .have:=hM.ro k o hk;rw[hold k (auA.1 this).1];exact this
  .rcases hg with hg|⟨a,b,hr,hg⟩
   .simp only[q,tc]at hg;subst hg;refine⟨hM.below.size,?_,λid b' hid ho=>?_⟩
    .cases hq:μ w.heap.size with
     |none=>rfl
     |some o'=>have:=hM.ro _ _ hq;simp at this
    .have:=(EA.eE id b' hid).ON ho;omega
   .have xH:=acW a b hr;have hg:(φ id2).g=U g:=by simpa[q,xH]using hg
    obtain⟨o1,o2⟩:=hM.own id2 _ g dC (.inl hg);refine⟨o1,o2 rfl,λid b' hid ho=>?_⟩;obtain⟨h1,b2,yO,rfl⟩:=iA hid;exact h1 (hM.inj id id2 _ _ g yO dC (iF.1 ho) (.inl hg))
  .intro a b g hr hg;have xH:=acW a b hr;have hg:(φ id2).g=U g:=by simpa[q,xH]using hg
   refine⟨λh=>?_,λa' b' Gi _=>by have:=acW a' b' Gi;omega⟩;simp only[q,tc]at h;have:=(hM.eE id2 _ dC).ON (.inl hg);omega
  .show bw E.P μ (λi=>if i=site then q else φ i) (w.alloc (.cells yx.cells e)) site (bq E.P e) e [p];unfold bw;simp only[By];refine⟨rfl,rfl,trivial,fa,λi e' Z4=>?_,by simp[q,maxLen],yx.cells,e,iG w _,by simp[q,x1],by simp[q],λi e' b p' x' Z4 DA U0=>?_,λi x' _ U0=>x2 i x' U0⟩
   .cases i with
    |zero=>simp at Z4;subst Z4;rw[hpc,P6]
    |succ i=>simp at Z4
   .cases i with
    |succ i=>simp at Z4
    |zero=>
     simp only[ayR,tc]at Z4;subst Z4;rw[hpc]at DA;rw[aBp,azf]at U0;by_cases Z3:b=l
     .subst Z3;rw[qU]at DA;simp only[tc]at DA;subst DA;rw[hz1]at U0;simp only[tc]at U0;subst U0;have:q.row 0 b=(φ id2).toNH:=by simp[q]
      rw[this];refine gv.dd ⟨⟨Xz,hA2.up⟩,aay hvz⟩ (λ_ _ h=>h) λg hg=>hold g ((hM.eE id2 _ dC).ON (.inl hg))
     .exact .pure (x3 b p' x' Z3 DA U0)
 refine⟨_,_,_,xM,qX,?_,?_⟩
 .exact(hF.forget id2).mono (λ_ _ h=>h) λk hk=>⟨by simp[Sq k hk],by show(aO (bO (b9 id2 m) id2) site _ k).isSome=Y;rw[aN (Sq k hk)];exact hk⟩
 .have:=az.os (P:=E.P) (μ:=μ) (φ:=λi=>if i=site then q else φ i) (id:=site) (g:=w.heap.size) (by simp[q]);simpa[q]using this
def ahj{k v v':PV}:∀{es:List (PV×PV)}{j:Nat},(eu k v es)[j]?=U (k,v)->(sy k es=U j\/(sy k es=Z/\j=es.length))->(eu k v es).set j (k,v')=eu k v' es:=by
 intro es j hj hp;rw[sO,sO];rcases hp with hp|⟨hp,rfl⟩
 .rw[hp];simp
 .rw[hp];simp
variable{es:List (PV×PV)}
def aR.akR{P:Program}{μ:Ro}{m:Mem}(hM:aR P G w0 μ φ m w){id i s2:Nat}{kt:TypeId}{k:PV}{rs:List PV}{x:Value}(cO:id2≠id)(hm:m id=U (.gY kt e es))(dC:m id2=U (.arr s2 e rs))(he:es[i]?=U (k,.bad))(hx:∀g en clock,(φ id).g=U g->w.heap[g]?=U (.map en clock)->∃e0,en[i]?=U e0/\e0.val=x)(hv:az P μ φ (.os id2) x):aR P G w0 μ (λj=>if j=id then oE (φ id) i 0 (φ id2).toNH else φ j) (aO (gR id (bO (b9 id2 m) id2)) id (.gY kt e (es.set i (k,.lJ s2 rs)))) w:=by
 have EA:=(hM.forget id2).EC id;obtain⟨g0,en,clock,kk,hN⟩:=DD.1 (hM.eE id _ hm);have hA2:ba P μ φ w id2 s2 e rs:=hM.eE id2 _ dC;have qU:∀a b,(cS.gY kt e (es.set i (k,.lJ s2 rs))).rowAt a b=Y->(a=i/\b=0)\/((cS.gY kt e es).rowAt a b=Y/\¬(a=i/\b=0)):=by
  intro a b hr;by_cases xH:a=i/\b=0
  .exact .inl xH
  .refine .inr ⟨?_,xH⟩;rcases nQ hr with⟨_,_,_,_,_,_,mH,_⟩|⟨_,_,_,k',s',rs',mH,rfl,h'⟩
   .cases mH
   .simp only[cS.gY.injEq]at mH;obtain⟨rfl,rfl,rfl⟩:=mH;rcases gg h' with⟨rfl,_⟩|⟨hni,h'⟩
    .exact absurd ⟨rfl,rfl⟩ xH
    .rw[nP h'];rfl
 refine hM.acU (λ_ k=>if k=id2 then id else k) (λj b' hj=>?_) (λj b' g hj ho=>?_) (λj b' hj=>?_) (λj cs k hj hk=>?_) (λj st hj=>?_)
 .rcases iB hj with⟨rfl,rfl⟩|⟨h1,h2,c,hc,rfl⟩
  .refine DD.2 ⟨g0,en,clock,kk,by simp[oE,hN.pl],hN.heap,by simp[hN.size],hN.LZ,λa k' v' h'=>?_,hN.born,λa k' v' e' h' Z4=>?_⟩
   .rcases gg h' with⟨rfl,hq⟩|⟨_,h'⟩
    .simp only[aq4]at hq;rw[hq.1];exact hN.key a k _ he
    .exact hN.key a k' v' h'
   .simp only[By];rcases gg h' with⟨rfl,hq⟩|⟨hni,h'⟩
    .simp only[aq4]at hq;obtain⟨rfl,rfl⟩:=hq;refine⟨(hN.rep a _ _ e' he Z4).1,?_⟩;rw[jI];have⟨e1,he1,hxe⟩:=hx g0 en clock hN.pl hN.heap;rw[Z4]at he1;simp only[tc]at he1;subst he1;rw[hxe];exact⟨hA2.up,aay hv⟩
    .rw[kc _ _ (λh=>hni h.1)];exact hN.rep a k' v' e' h' Z4
  .have hb:jF P μ φ w j (eZ id (jD id2 c)):=(hM.eE j c hc).kill.Ja;exact hb.acV h1 (by simp[oE]) λk hk=>by simp[hk]
 .rcases iB hj with⟨rfl,rfl⟩|⟨h1,h2,c,hc,rfl⟩
  .simp only[By]at ho;rcases ho with ho|⟨a,b,hr,ho⟩
   .exact⟨j,_,hm,.inl ho,λ_=>rfl,by simp[cO.symm]⟩
   .rcases qU a b hr with⟨rfl,rfl⟩|⟨Gi,xH⟩
    .rw[jI]at ho;exact⟨id2,_,dC,.inl ho,λ_=>rfl,ae⟩
    .rw[kc _ _ xH]at ho;exact⟨j,_,hm,.inr ⟨a,b,Gi,ho⟩,λ_=>rfl,by simp[cO.symm]⟩
  .simp only[h1,OF]at ho;exact⟨j,c,hc,iF.1 (vo.1 ho),λh=>by rw[JM,Is]at h;exact h,by simp[h2]⟩
 .rcases iB hj with⟨rfl,rfl⟩|⟨h1,h2,c,hc,rfl⟩
  .simp only[By];have JI:=hM.apart j _ hm;have new:∀g,(φ id2).g=U g->¬(cS.gY kt e es).owns (φ j) g:=λg hg ho=>cO (hM.inj id2 j _ _ g dC hm (.inl hg) ho);intro a b g hr hg;rcases qU a b hr with⟨rfl,rfl⟩|⟨Gi,xH⟩
   .rw[jI]at hg;refine⟨λh=>new g hg (.inl h),λa' b' Tv U6=>?_⟩;rcases qU a' b' Tv with h|⟨hr3,aaz⟩
    .exact h
    .rw[kc _ _ aaz]at U6;exact absurd (.inr ⟨a',b',hr3,U6⟩) (new g hg)
   .rw[kc _ _ xH]at hg;have⟨h3,h4⟩:=JI a b g Gi hg;refine⟨h3,λa' b' Tv U6=>?_⟩;rcases qU a' b' Tv with⟨rfl,rfl⟩|⟨hr3,aaz⟩
    .rw[jI]at U6;exact absurd (.inr ⟨a,b,Gi,hg⟩) (new g U6)
    .rw[kc _ _ aaz]at U6;exact h4 a' b' hr3 U6
  .simp only[h1,OF];exact GC.2 (Ez.2 (hM.apart j c hc))
 .rcases iB hj with⟨rfl,hb⟩|⟨h1,h2,c,hc,hb⟩
  .cases hb
  .have W3:gR id (bO (b9 id2 m) id2) j=U (.box cs):=by rw[aN h1]at hj;exact hj
   have:=EA.hU j cs k W3 hk;by_cases e:k=id
   .subst e;simp
   .rw[aN e];exact this
 .rcases iB hj with⟨rfl,hb⟩|⟨h1,h2,c,hc,hb⟩
  .cases hb
  .cases c<;>first|(simp[eZ,jD]at hb;done)|skip
   simp only[eZ,jD,cS.loop.injEq]at hb;subst hb;exact⟨hc,by simp[h1]⟩
def aeL{t kt et:TypeId}{xk:V}{id s:Nat}{key:PV}{rs:List PV}{m:Mem}(hu:E.P.underlying t=U (.map kt et))(hm:m id=U (.gY kt e es))(dC:m id2=U (.arr s e rs))(xS:keyOf E kt xk=U key){μ:Ro}{f:Fr}{ya yk yv:Value}(hM:aR E.P G w0 μ φ m w)(hF:cR E.P μ φ m f ρ)(ha:az E.P μ φ (.om id) ya)(hk:az E.P μ φ xk yk)(hv:az E.P μ φ (.os id2) yv):∃w' φ',(Instr.mapUpdate t ya yk yv).run E.P w=.ok () w'/\aR E.P G w0 μ φ' (BN [(id,.gY kt e (eu key (.lJ s rs) es))] (km [(Y,id2),(J,id)] m)) w'/\cR E.P μ φ' (BN [(id,.gY kt e (eu key (.lJ s rs) es))] (km [(Y,id2),(J,id)] m)) (kf [(Y,id2),(J,id)] f) ρ:=by
 have cO:id2≠id:=λh=>by subst h;rw[hm]at dC;cases dC
 have⟨ks,k1,k2,k3⟩:=DB xS;obtain⟨g,en,clock,kk,hN⟩:=DD.1 (hM.eE id _ hm);have Aa:=hN.LZ;rw[k1]at Aa;simp only[tc]at Aa;subst Aa;have hk8:=Iv k1;have hkr:=k3 μ φ yk hk;have⟨hc,hkv⟩:=rW k2 hkr;obtain⟨res,r1,r2⟩:=qu (v:=.nL) (z:=.bad) hk8 hc w hN.ent;have L3:=Go.MapKept.run_getObj_map (P:=E.P) hN.heap;have h1:(Instr.checkKey J 10000 kt yk).run E.P w=.ok () w:=by rw[hkv];exact kZ 8 kt ks hk8 9992 w J key.cells hc
 rw[<-hkv]at r1;have bX:g<w.heap.size:=(auA.1 hN.heap).1;cases ha with
 |om dH=>
  rw[hN.pl]at dH;simp only[tc]at dH;subst dH;have fin:∀(J10:Nat)(Z0:Array MapEntry)(xT:Nat),(sy key es=U J10\/(sy key es=Z/\J10=es.length))->(Instr.mapUpdate t (.map (U g)) yk yv).run E.P w=.ok () {w with heap:=w.heap.setIfInBounds g (.map Z0 xT)}->qT Z0 xT->Z0.size=(eu key .bad es).length->(∃e0,Z0[J10]?=U e0/\e0.key=yk/\e0.val=yv)->(∀i e0,i≠J10->Z0[i]?=U e0->en[i]?=U e0)->∃w' φ',(Instr.mapUpdate t (.map (U g)) yk yv).run E.P w=.ok () w'/\aR E.P G w0 μ φ' (BN [(id,.gY kt e (eu key (.lJ s rs) es))] (km [(Y,id2),(J,id)] m)) w'/\cR E.P μ φ' (BN [(id,.gY kt e (eu key (.lJ s rs) es))] (km [(Y,id2),(J,id)] m)) (kf [(Y,id2),(J,id)] f) ρ:=by
   intro J10 Z0 xT hJ hr Ik sB hJe IX;obtain⟨eJ,arP,avP,avQ⟩:=hJe;have qX:∀i k' v',(eu key .bad es)[i]?=U (k',v')->(i=J10/\k'=key/\v'=.bad)\/(i≠J10/\es[i]?=U (k',v')):=by
    intro i k' v' h;rw[sO]at h;rcases hJ with hJ|⟨hJ,rfl⟩
    .rw[hJ]at h;rcases gg h with⟨rfl,hq⟩|⟨hni,h⟩
     .simp only[aq4]at hq;exact .inl ⟨rfl,hq.1,hq.2⟩
     .exact .inr ⟨hni,h⟩
    .rw[hJ]at h;simp only at h;rw[ayJ]at h;split at h
     next bX=>exact .inr ⟨aa,h⟩
     .rename_i L4;cases hd:i-es.length with
      |zero=>rw[hd]at h;simp only[ayR,tc,aq4]at h;exact .inl ⟨aa,h.1.symm,h.2.symm⟩
      |succ n=>rw[hd]at h;simp at h
   have hJb:(eu key .bad es)[J10]?=U (key,.bad):=by
    rw[sO];rcases hJ with hJ|⟨hJ,rfl⟩
    .rw[hJ];have⟨a,u,hj,_⟩:=OZ hJ;simp[(No.1 hj).1]
    .rw[hJ];simp
   have EA:aR E.P G w0 μ φ (aO m id (.gY kt e (eu key .bad es))) {w with heap:=w.heap.setIfInBounds g (.map Z0 xT)}:=by
    refine hM.write hm rfl hN.pl ⟨⟨rfl,rfl,rfl,ae,λk hk=>by simp[azR (Nat.ne_of_gt hk)]⟩,λ_=>ayd _⟩ ae (λk hk=>by simp[azR (Ne.symm hk)]) (DD.2 ⟨g,Z0,xT,ks,hN.pl,by simp[bX],sB,k1,λi k' v' h=>?_,Ik,λi k' v' e0 h Tu=>?_⟩) rfl gu (λst h=>by cases h) λa b hr=>?_
    .rcases qX i k' v' h with⟨_,rfl,_⟩|⟨_,h⟩
     .exact k2
     .exact hN.key i k' v' h
    .rcases qX i k' v' h with⟨rfl,rfl,rfl⟩|⟨hni,h⟩
     .rw[arP]at Tu;simp only[tc]at Tu;subst Tu;exact⟨by rw[avP];exact hkr,.pure .bad⟩
     .obtain⟨q1,q2⟩:=hN.rep i k' v' e0 h (IX i e0 hni Tu);refine⟨q1,?_⟩;unfold P0 at q2⊢;split at q2
      .refine⟨q2.1.dd rfl (λ_ _ h=>h) λg' dH=>?_,q2.2⟩;have hr:(cS.gY kt e es).rowAt i 0=true:=by rw[nP h];rfl
       have:=(hM.apart id _ hm i 0 g' hr dH).1;rw[hN.pl]at this;simp only[aBg,tc]at this;simp[azR this]
      .exact q2
    .rcases nQ hr with⟨_,_,_,_,_,_,mH,_⟩|⟨_,_,_,k',s',rs',mH,rfl,h'⟩
     .cases mH
     .simp only[cS.gY.injEq]at mH;obtain⟨rfl,rfl,rfl⟩:=mH;rcases qX a k' _ h' with⟨_,_,h⟩|⟨_,h⟩
      .cases h
      .rw[nP h];rfl
   have xH:=aR.akR EA (id:=id) (id2:=id2) (i:=J10) (x:=yv) cO (bV _ _ _) (by rw[aN cO];exact dC) hJb (λg0 en0 avR hg0 hh0=>by
    rw[hN.pl]at hg0;simp only[tc]at hg0;subst hg0;have:(w.heap.setIfInBounds g (Obj.map Z0 xT))[g]?=U (.map Z0 xT):=by simp[bX]
    rw[this]at hh0;simp only[tc,Obj.map.injEq]at hh0;obtain⟨rfl,_⟩:=hh0;exact⟨eJ,arP,avQ⟩) hv
   rw[ahj hJb hJ,P5 cO]at xH;refine⟨_,_,hr,xH,?_⟩;have OO:cR E.P μ φ (aO m id (.gY kt e (eu key .bad es))) f ρ:=hF.sL (λ_ _ h=>h) .set;refine((OO.forget id2).EC id).amO (by simp[oE]) (λk hk=>by simp[hk]) λk hk=>?_;show(aO (gR id (bO (b9 id2 m) id2)) id _ k).isSome=Y;by_cases e1:k=id
   .subst e1;simp
   .rw[aN e1];rw[vS]at hk⊢;by_cases e2:k=id2
    .subst e2;simp at hk
    .rw[jx e2]at hk⊢;simp only[b9,aN e1]at hk⊢;exact hk
  rcases Tw r2 with⟨rfl,hp⟩|⟨j,e0,rfl,Tu,hp⟩
  .have hso:=Go.MapKept.run_setObj_map (P:=E.P) (.map (en.push {key:=yk,val:=yv,born:=clock}) (clock+1)) hN.heap;refine fin es.length _ _ (.inr ⟨hp,rfl⟩) (by simp only[Instr.mapUpdate,Sem.run_bind,run_underlying hu,L3,h1,r1,Result.andThen_ok];exact hso) hN.born.push (by rw[sO,hp];simp[hN.size]) ⟨{key:=yk,val:=yv,born:=clock},?_,rfl,rfl⟩ λi e0 hi h=>?_
   .rw[<-hN.size];simp
   .rw[aAC]at h;split at h
    next h'=>rw[hN.size]at h';exact absurd h' hi
    .exact h
  .have akS:en[j]?=U e0:=by simpa using Tu
   have⟨a,u,haj,hpq⟩:=OZ hp;have⟨hca,hva⟩:=rW (hN.key j a u haj) (hN.rep j a u e0 haj akS).1;have EB:=U2 hc hca hpq;have hsb:Instr.sameBits 10000 e0.key yk=true:=by rw[hva,hkv,<-EB];refine GB (n:=9999) hc (λha=>?_);rw[zb hc];exact(Iq hk8).2.1 ha
   have hso:=Go.MapKept.run_setObj_map (P:=E.P) (.map (en.modify j λe=>{e with key:=yk,val:=yv}) clock) hN.heap;have xQ:j<en.size:=(auA.1 akS).1;refine fin j _ _ (.inl hp) (by simp only[Instr.mapUpdate,Sem.run_bind,run_underlying hu,L3,h1,r1,Result.andThen_ok];simp only[azf,akS,IN,ayy,Instr.keyThatStays,hsb,By,Sem.run_pure,Result.andThen_ok];exact hso) (hN.born.modify (λe=>{e with key:=yk,val:=yv}) (λ_=>rfl) _) (by rw[sO,hp];simp[hN.size]) ⟨{e0 with key:=yk,val:=yv},by rw[azH,BY rfl,akS];rfl,rfl,rfl⟩ λi e1 hi h=>?_;rw[azH,IT (Ne.symm hi)]at h;exact h
end
section
variable {P:Program} {G:Nat->Option (List PV)} {w0:bI} {μ μ':Ro} {φ φ':Nat->aT} {m m':Mem} {w w':World}
structure pz(P:Program)(μ:Ro)(rows:Nat->Nat->NH)(w:World)(s:Nat)(es:List PV)(xs:List Value):Prop where
 len:xs.length=es.length*s
 each:∀(i:Nat)e,es[i]?=U e->e.cells.length=s
 rep:∀(i:Nat)e(j:Nat)p x,es[i]?=U e->e.cells[j]?=U p->xs[i*s+j]?=U x->fK P μ (rows i j) w p x
 one:∀(i:Nat)(x:Value),xs[i]?=U x->x.oneCell'=Y
variable{rows:Nat->Nat->NH}{es:List PV}{xs:List Value}
def pz.append{P7 ahk:Nat->Nat->NH}{s:Nat}{es':List PV}{xs':List Value}(h:pz P μ rows w s es xs)(h':pz P μ P7 w s es' xs')(h1:∀i j,i<es.length->ahk i j=rows i j)(h2:∀i j,es.length<=i->ahk i j=P7 (i-es.length) j):pz P μ ahk w s (es++es') (xs++xs'):=by
 refine⟨by simp[h.len,h'.len,ayX],λi e he=>?_,λi e j p x he hp hx=>?_,λi x hx=>?_⟩
 .rw[ayJ]at he;split at he
  .exact h.each i e he
  .exact h'.each _ e he
 .rw[ayJ]at he;split at he
  .rename_i hi;rw[h1 i j hi];have hj:j<s:=by rw[<-h.each i e he];grind
   rw[azb (by rw[h.len];exact PQ hi hj)]at hx;exact h.rep i e j p x he hp hx
  .rename_i hi;rw[h2 i j aa];have e1:i*s+j=es.length*s+((i-es.length)*s+j):=by
    have:i=es.length+(i-es.length):=aa
    grind
   rw[ay7 (by rw[h.len,e1];omega),h.len,show i*s+j-es.length*s=(i-es.length)*s+j by omega]at hx;exact h'.rep _ e j p x he hp hx
 .rw[ayJ]at hx;split at hx
  .exact h.one i x hx
  .exact h'.one _ x hx
def Cells.U7{s:Nat}(h:Cells P μ s es xs):pz P μ rows w s es xs:=⟨h.len,h.each,λi e j p x he hp hx=>.pure (h.rep i e j p x he hp hx),h.one⟩
def pz.dd{rows:Nat->Nat->NH}{s:Nat}{es:List PV}{xs:List Value}(h:pz P μ rows w s es xs)(hw:∀i e j p g,es[i]?=U e->e.cells[j]?=U p->p.isRow=Y->(rows i j).g=U g->w'.heap[g]?=w.heap[g]?):pz P μ rows w' s es xs:=⟨h.len,h.each,λi e j p x he hp hx=>(h.rep i e j p x he hp hx).dd (λ_ _ h=>h) λhr g hg=>hw i e j p g he hp hr hg,h.one⟩
def bw.U7{id sz:Nat}{et:TypeId}(h:bw P μ φ w id sz et es){g:Nat}(hg:(φ id).g=U g):∃(c:Array Value)(T:TypeId),w.heap[g]?=U (.cells c T (0,0))/\(φ id).cap*sz<=c.size/\es.length<=(φ id).cap/\pz P μ (φ id).row w sz es (c.toList.take (es.length*sz)):=by obtain⟨a1,a2,a3,a4,a5,a6,a7⟩:=h;rw[hg]at a7;obtain⟨c,T,c1,c2,c3,c4,c5⟩:=a7;have hle:es.length*sz<=c.size:=ayn (ax8 _ c3) c2;refine⟨c,T,c1,c2,c3,ah,a5,λi e j p x he hp hx=>c4 i e j p x he hp ao,λi x hx=>?_⟩;grind
def pz.nest{id g sz:Nat}{et T:TypeId}{c:Array Value}(hph:(φ id).toNH=⟨U g,(φ id).cap,es.length,sz⟩)(sB:sz=bq P et)(fa:0<sz)(za:(φ id).cap<=maxLen)(hh:w.heap[g]?=U (.cells c T (0,0)))(hc:(φ id).cap*sz<=c.size)(hle:es.length<=(φ id).cap)(hC:pz P μ (φ id).row w sz es (c.toList.take (es.length*sz))):bw P μ φ w id sz et es:=by
 have e1:(φ id).g=U g:=by rw[hph]
 refine⟨by rw[hph],by rw[hph],sB,fa,hC.each,za,?_⟩;rw[e1];have xQ:∀(i:Nat)e(j:Nat)p,es[i]?=U e->e.cells[j]?=U p->i*sz+j<es.length*sz:=λi e j p hi hj=>PQ (No.1 hi).1 (by rw[<-hC.each i e hi];grind);refine⟨c,T,hh,hc,hle,λi e j p x hi hj hx=>?_,λi x hi hx=>?_⟩
 .exact hC.rep i e j p x hi hj ao
 .exact hC.one i x ao
end
section
variable {R:Type} {E:Env}
def kmS(src:Option Nat)(m:Mem):Mem:=match src with|some id2=>bO (b9 id2 m) id2|none=>m
def kfS(src:Option Nat)(f:Fr):Fr:=match src with|some id2=>ga id2 f|none=>f
variable{src:Option Nat}
theorem ahl{m:Mem}{j:Nat}{b:cS}(h:kmS src m j=U b):src≠U j/\∃b',m j=U b'/\b.rowAt=b'.rowAt:=by
 cases src with
 |none=>exact⟨ae,b,h,rfl⟩
 |some id2=>obtain⟨h1,b',h2,rfl⟩:=iA h;grind [Ey]
def aeM{t e ty:TypeId}{x:V}{id s:Nat}{es new:List PV}{rd:bS}{m:Mem}(hu:E.P.underlying t=U (.slice e))(hm:m id=U (.nest s e es))(hs:s=bq E.P e)(hz:(dO E e).isSome=Y)(fa:0<bq E.P e)(hby:0<Sf E.P e)(bG:(es++new).length*Sf E.P e<=au)(IW:(∃id2,src=U id2/\id2≠id/\x=.os id2/\m id2=U (.nest s e new))\/(src=Z/\im m s x=U (new,rd))){G:Nat->Option (List PV)}{w0:bI}{μ:Ro}{φ:Nat->aT}{w:World}{f:Fr}{ρ:Nat->Value}{ys yx:Value}(hM:aR E.P G w0 μ φ m w)(hF:cR E.P μ φ m f ρ)(ha:az E.P μ φ (.os id) ys)(hx:az E.P μ φ x yx):∃w' y φ',(Builtin.append_ #[t,t] ty #[ys,yx]).run E.P w=.ok y w'/\aR E.P G w0 μ φ' (aO (bO (b9 id (kmS src m)) id) id (.nest s e (es++new))) w'/\cR E.P μ φ' (aO (bO (b9 id (kmS src m)) id) id (.nest s e (es++new))) (ga id (kfS src f)) ρ/\az E.P μ φ' (.os id) y:=by
 have⟨zc,hzc⟩:=aym.1 hz;have⟨i,zv,hi,hzv,his,_,hzs,_,_,_⟩:=eA hzc;have hN:bw E.P μ φ w id s e es:=hM.eE id _ hm;have hll:(es++new).length=es.length+new.length:=ae
 have sM:0<s:=aa
 obtain⟨P7,Gi⟩:∃P7:Nat->Nat->NH,P7=match src with|some id2=>(φ id2).row|none=>λ_ _=>default:=⟨_,rfl⟩
 obtain⟨os,hos,hC⟩:∃os,((ys=.slice Z 0 0/\es.length=0/\os=[])\/∃(g cap:Nat)(c:Array Value)(T:TypeId),ys=.slice (U ⟨g,0,Z⟩) es.length cap/\w.heap[g]?=U (.cells c T (0,0))/\cap*s<=c.size/\es.length<=cap/\cap<=maxLen/\os=c.toList.take (es.length*s))/\pz E.P μ (φ id).row w s es os:=by
  cases ha with
  |BG hg=>have a7:=hN.2.2.2.2.2.2;rw[hg]at a7;rw[a7.1];exact⟨[],.inl ⟨rfl,rfl,rfl⟩,ae,ae,λi e j p x he=>by simp at he,ae⟩
  | @os _ g hg=>have⟨c,T,c1,c2,c3,c4⟩:=hN.U7 hg;exact⟨_,.inr ⟨g,(φ id).cap,c,T,by rw[hN.1],c1,c2,c3,hN.2.2.2.2.2.1,rfl⟩,c4⟩
 obtain⟨xs,PN,hCx⟩:∃xs,((yx=.slice Z 0 0/\new.length=0/\xs=[])\/∃(a:Addr)(cx:Nat),yx=.slice (U a) new.length cx/\xs.length=new.length*s/\(∀(j:Nat)v,xs[j]?=U v->w.cell? (a.add j)=U v)/\(∀v∈xs,v.oneCell'=Y)/\new.length<=cx/\cx<=maxLen)/\pz E.P μ P7 w s new xs:=by
  rcases IW with⟨id2,rfl,cO,rfl,dC⟩|⟨rfl,PO⟩
  .have hN2:bw E.P μ φ w id2 s e new:=hM.eE id2 _ dC;simp only at Gi;subst Gi;cases hx with
   |BG hg=>have a7:=hN2.2.2.2.2.2.2;rw[hg]at a7;rw[a7.1];exact⟨[],.inl ⟨rfl,rfl,rfl⟩,ae,ae,λi e j p x he=>by simp at he,ae⟩
   | @os _ g hg=>
    have⟨c,_,c1,c2,c3,c4⟩:=hN2.U7 hg;refine⟨_,.inr ⟨⟨g,0,Z⟩,(φ id2).cap,by rw[hN2.1],c4.len,λj v hj=>?_,λv hv=>?_,c3,hN2.2.2.2.2.2.1⟩,c4⟩
    .grind [Addr.add_mid,ez,kX]
    .obtain⟨j,hj⟩:=ayV hv;exact c4.one j v hj
  .obtain⟨_,_,hsr⟩:=vn PO;have:=hsr _ _ _ _ _ _ _ hM hx;cases this with
   |none hn=>subst hn;exact⟨[],.inl ⟨rfl,rfl,rfl⟩,ae,ae,λi e j p x he=>by simp at he,ae⟩
   | @some a cx xs hC PN hcx hcm=>exact⟨xs,.inr ⟨a,cx,rfl,hC.len,PN,λu hu=>by have⟨j,hj⟩:=ayV hu;exact hC.one j u hj,hcx,hcm⟩,hC.U7⟩
 obtain⟨w',y,hr,Xu⟩:=PR (ty:=ty) hu hi hzv aa hs fa hby av hos PN;let yP:Nat->Nat->NH:=λa b=>if a<es.length then(φ id).row a b else P7 (a-es.length) b;have hCC:pz E.P μ yP w s (es++new) (os++xs):=hC.append hCx (λa b h=>ao) (λa b h=>ao);have qU:∀a b g,(cS.nest s e (es++new)).rowAt a b=Y->(yP a b).g=U g->(a<es.length/\(cS.nest s e es).rowAt a b=Y/\((φ id).row a b).g=U g)\/(es.length<=a/\∃id2,src=U id2/\id2≠id/\m id2=U (.nest s e new)/\(cS.nest s e new).rowAt (a-es.length) b=Y/\((φ id2).row (a-es.length) b).g=U g):=by
  intro a b g UX hg;rcases nQ UX with⟨_,_,_,e',s',rs',mH,h',DA⟩|⟨_,_,_,_,_,_,mH,_⟩
  .simp only[cS.nest.injEq]at mH;obtain⟨rfl,rfl,rfl⟩:=mH;by_cases bX:a<es.length
   .rw[azb bX]at h';exact .inl ⟨bX,by rw[eH h' DA];rfl,ao⟩
   .rw[ay7 aa]at h';simp only[yP,bX,OF]at hg;rcases IW with⟨id2,rfl,cO,rfl,dC⟩|⟨rfl,PO⟩
    .simp only at Gi;subst Gi;exact .inr ⟨aa,id2,rfl,cO,dC,by rw[eH h' DA];rfl,hg⟩
    .exfalso;have⟨_,_,hsr⟩:=vn PO;have h3:=hsr _ _ _ _ _ _ _ hM hx;cases h3 with
     |none hn=>subst hn;simp at h'
     | @some a2 cx xs2 hC2 axL hcx hcm=>
      have hj:(a-es.length)*s+b<xs2.length:=by rw[hC2.len];exact PQ (No.1 h').1 (by rw[<-hC2.each _ _ h'];grind)
      exact absurd (hC2.rep _ _ _ _ _ h' DA (ta hj)).OX (by simp[PV.isRow])
  .cases mH
 have anS:∀j,(bO (b9 id (kmS src m)) id j).isSome=Y->j≠id:=λj hj e=>by subst e;simp at hj
 have bt:∀j b',bO (b9 id (kmS src m)) id j=U b'->j≠id/\src≠U j/\∃b,m j=U b/\b'.rowAt=b.rowAt:=by intro j b' hj;obtain⟨h1,b1,h2,rfl⟩:=iA hj;grind [ahl,Ey]
 have aaD:∀{j b' b g},b'.rowAt=b.rowAt->cS.owns b' (φ j) g->cS.owns b (φ j) g:=λh ho=>PH
 have hM0:aR E.P G w0 μ φ (kmS src m) w:=by
  cases src with
  |none=>exact hM
  |some id2=>exact hM.forget id2
 have hF0:cR E.P μ φ (kmS src m) (kfS src f) ρ:=by
  cases src with
  |none=>exact hF
  |some id2=>exact hF.forget id2
 have EA:=hM0.forget id;have OO:=hF0.forget id;have akT:∀a b g,(cS.nest s e (es++new)).rowAt a b=Y->(yP a b).g=U g->w0.heap.size<=g/\μ g=Z/\g<w.heap.size/\∀j b',bO (b9 id (kmS src m)) id j=U b'->¬b'.owns (φ j) g:=by
  intro a b g UX hg;rcases qU a b g UX hg with⟨_,h2,h3⟩|⟨_,id2,rfl,cO,dC,h2,h3⟩
  .obtain⟨o1,o2⟩:=hM.own id _ g hm (.inr ⟨a,b,h2,h3⟩);refine⟨o1,o2 rfl,(hM.eE id _ hm).ON (.inr ⟨a,b,h2,h3⟩),λj b' hj ho=>?_⟩;have⟨k1,_,b2,k3,k4⟩:=bt j b' hj;exact k1 (hM.inj j id _ _ g k3 hm (aaD k4 ho) (.inr ⟨a,b,h2,h3⟩))
  .obtain⟨o1,o2⟩:=hM.own id2 _ g dC (.inr ⟨_,b,h2,h3⟩);refine⟨o1,o2 rfl,(hM.eE id2 _ dC).ON (.inr ⟨_,b,h2,h3⟩),λj b' hj ho=>?_⟩;have⟨_,k1,b2,k3,k4⟩:=bt j b' hj;exact k1 (by rw[hM.inj j id2 _ _ g k3 dC (aaD k4 ho) (.inr ⟨_,b,h2,h3⟩)])
 have arw:∀a b a' b' g,(cS.nest s e (es++new)).rowAt a b=Y->(yP a b).g=U g->(cS.nest s e (es++new)).rowAt a' b'=Y->(yP a' b').g=U g->a'=a/\b'=b:=by
  intro a b a' b' g h1 h2 h3 h4;rcases qU a b g h1 h2 with⟨u1,u2,u3⟩|⟨u1,i2,u0,une,um,u2,u3⟩<;>rcases qU a' b' g h3 h4 with⟨v1,v2,v3⟩|⟨v1,i3,v0,vne,vm,v2,v3⟩
  .exact(hM.apart id _ hm a b g u2 u3).2 a' b' v2 v3
  .exact absurd (hM.inj i3 id _ _ g vm hm (.inr ⟨_,_,v2,v3⟩) (.inr ⟨_,_,u2,u3⟩)) vne
  .exact absurd (hM.inj i2 id _ _ g um hm (.inr ⟨_,_,u2,u3⟩) (.inr ⟨_,_,v2,v3⟩)) une
  .rw[u0]at v0;simp only[tc]at v0;subst v0;obtain⟨h5,h6⟩:=(hM.apart i2 _ um (a-es.length) b g u2 u3).2 (a'-es.length) b' v2 v3;omega
 have fin:∀(q:aT)(w1:World),(∀g o,w0.hid g=U o->w1.heap[g]?=U o/\q.g≠U g)->q.row=yP->ou w0.heap.size w w1->(∀k o,μ k=U o->w1.heap[k]?=U o)->(∀j b' g,bO (b9 id (kmS src m)) id j=U b'->b'.owns (φ j) g->w1.heap[g]?=w.heap[g]?)->(∀g,q.g=U g->w0.heap.size<=g/\μ g=Z/\(∀j b',bO (b9 id (kmS src m)) id j=U b'->¬b'.owns (φ j) g)/\∀a b,(cS.nest s e (es++new)).rowAt a b=Y->(yP a b).g≠U g)->(bw E.P μ (λk=>if k=id then q else φ k) w1 id s e (es++new))->aR E.P G w0 μ (λk=>if k=id then q else φ k) (aO (bO (b9 id (kmS src m)) id) id (.nest s e (es++new))) w1/\cR E.P μ (λk=>if k=id then q else φ k) (aO (bO (b9 id (kmS src m)) id) id (.nest s e (es++new))) (ga id (kfS src f)) ρ:=by
  intro q w1 hqh hq aam xN hold JD nI;refine⟨EA.put ae aam xN hold (λg hg=>?_) (λa b g UX hg=>?_) nI gu (λst h=>by cases h) (λg o h=>⟨(hqh g o h).1,λhk=>(by
   rcases hk with hk|⟨a,b,UX,hg⟩
   .exact(hqh g o h).2 hk
   .rw[hq]at hg;rcases qU a b g UX hg with⟨_,h2,h3⟩|⟨_,id2,rfl,cO,dC,h2,h3⟩
    .exact(hM.hid g o h).2.2.2 id _ hm (.inr ⟨a,b,h2,h3⟩)
    .exact(hM.hid g o h).2.2.2 id2 _ dC (.inr ⟨_,b,h2,h3⟩))⟩),OO.mono (λ_ _ h=>h) λj hj=>⟨by simp[anS j hj],by grind [aN]⟩⟩
  .rcases hg with hg|⟨a,b,UX,hg⟩
   .grind
   grind
  grind
 rcases Xu with⟨rfl,rfl,h1,h2⟩|⟨g',OL,c',T',rfl,b1,b2,b3,b4,b5,b6⟩
 .have h1:es=[]:=ayh h1;have h2:new=[]:=ayh h2;obtain⟨k1,k2⟩:=fin {g:=Z,cap:=0,len:=0,sz:=s,row:=yP} w' (λg o h=>⟨(hM.hid g o h).1,ae⟩) rfl (ou.refl _ _) hM.ro (λ_ _ _ _ _=>rfl) (λg hg=>by cases hg) ⟨by simp[h1,h2],ae,hs,sM,by simp[h1,h2],by simp[maxLen],by simp[h1,h2]⟩;exact⟨w',_,_,hr,k1,k2,.BG ae⟩
 .have hq:∀(w1:World)(T:TypeId),w1.heap[g']?=U (.cells c' T (0,0))->pz E.P μ yP w1 s (es++new) (os++xs)->bw E.P μ (λk=>if k=id then({g:=U g',cap:=OL,len:=(es++new).length,sz:=s,row:=yP}:aT)else φ k) w1 id s e (es++new):=λw1 T hh hC1=>pz.nest (g:=g') (c:=c') ae hs sM (by simpa using b4) hh (by simpa using b2) (by simpa[hll]using b3) ao;have axw:az E.P μ (λk=>if k=id then({g:=U g',cap:=OL,len:=(es++new).length,sz:=s,row:=yP}:aT)else φ k) (.os id) (.slice (U ⟨g',0,Z⟩) (es.length+new.length) OL):=by have:=az.os (P:=E.P) (μ:=μ) (φ:=λk=>if k=id then({g:=U g',cap:=OL,len:=(es++new).length,sz:=s,row:=yP}:aT)else φ k) (id:=id) (g:=g') ae;grind
  rcases b6 with⟨akP,hys,b6,b7⟩|⟨rfl,rfl⟩
  .have dH:(φ id).g=U g':=by
    have key:∀z,az E.P μ φ (.os id) z->z=.slice (U ⟨g',0,Z⟩) es.length akP->(φ id).g=U g':=by
     intro z hz he;cases hz with
     |BG _=>cases he
     |os hg=>grind
    exact key _ ha hys
   obtain⟨o1,o2⟩:=hM.own id _ g' hm (.inl dH);have Ti:∀a b,(cS.nest s e (es++new)).rowAt a b=Y->(yP a b).g≠U g':=by
    intro a b UX hg;rcases qU a b g' UX hg with⟨u1,u2,u3⟩|⟨u1,i2,u0,une,um,u2,u3⟩
    .exact(hM.apart id _ hm a b g' u2 u3).1 dH
    .exact une (hM.inj i2 id _ _ g' um hm (.inr ⟨_,_,u2,u3⟩) (.inl dH))
   have IX:∀j b',bO (b9 id (kmS src m)) id j=U b'->¬b'.owns (φ j) g':=λj b' hj ho=>by have⟨k1,_,b2,k3,k4⟩:=bt j b' hj;exact k1 (hM.inj j id _ _ g' k3 hm (aaD k4 ho) (.inl dH))
   obtain⟨k1,k2⟩:=fin {g:=U g',cap:=OL,len:=(es++new).length,sz:=s,row:=yP} w' (λg o h=>(by
    have cO:g≠g':=λe=>by subst e;exact(hM.hid g o h).2.2.2 id _ hm (.inl dH)
    exact⟨(b7 g cO).trans (hM.hid g o h).1,λe=>by cases e;exact cO rfl⟩)) rfl (b6.mono o1) (λk o hk=>by rw[b7 k (λe=>by subst e;rw[o2 rfl]at hk;cases hk)];exact hM.ro k o hk)
    (λj b' g hj ho=>b7 g λe=>ao) (λg hg=>by simp only[tc]at hg;subst hg;exact⟨o1,o2 rfl,IX,Ti⟩)
    (hq w' _ b1 (hCC.dd λa e1 b p1 g he hp UX hg=>b7 g λe=>by grind [eH]))
   grind
  .have hold:∀k,k<w.heap.size->(w.drew.alloc (.cells c' e)).heap[k]?=w.heap[k]?:=λk hk=>ou.heap_alloc w.drew _ k hk;obtain⟨k1,k2⟩:=fin {g:=U w.heap.size,cap:=OL,len:=(es++new).length,sz:=s,row:=yP} (w.drew.alloc (.cells c' e)) (λg o h=>(by
    have⟨h1,_⟩:=hM.hid g o h;have bX:=(auA.1 h1).1;exact⟨by rw[hold g bX];exact h1,λe=>by cases e;omega⟩)) rfl ((ou.refl _ w).drew.alloc hM.below.size _) (λk o hk=>by have:=hM.ro k o hk;grind)
    (λj b' g hj ho=>hold g ((EA.eE j b' hj).ON ho)) (λg hg=>by
     simp only[tc]at hg;subst hg;refine⟨hM.below.size,?_,λj b' hj ho=>?_,λa b UX hg=>?_⟩
     .cases hq:μ w.heap.size with
      |none=>rfl
      |some o'=>have:=hM.ro _ _ hq;simp at this
     .have:=(EA.eE j b' hj).ON ho;omega
     grind)
    (hq _ _ b1 (hCC.dd λa e1 b p1 g he hp UX hg=>hold g (akT a b g (by rw[eH he hp];omega) hg).2.2.1))
   grind
theorem P8{m:Mem}:∀{cs:List V}{j0:Nat}{ps:List PV},pM m j0 cs=U (ps,Z)->∀m2:Mem,pM m2 j0 cs=U (ps,Z)
 |[],j0,ps,h,m2=>h
 |v::r,j0,ps,h,m2=>by
  unfold pM at h;split at h
  next heq=>cases heq
  .grind
  .rename_i j v' r' cO heq;simp only[ayW]at heq;obtain⟨rfl,rfl⟩:=heq;unfold pM;split
   next heq=>cases heq
   .simp_all
   .rename_i j v' r' cO heq;simp only[ayW]at heq;obtain⟨rfl,rfl⟩:=heq;split at h
    .rename_i p hp;split at h
     next ps' t ht=>simp only[tc,aq4]at h;obtain⟨rfl,rfl⟩:=h;rw[P8 ht m2]
     .cases h
    omega
def GD{m m2:Mem}{j id2:Nat}(hm:m2 id2=m id2):∀{cs:List V}{j0:Nat}{ps:List PV},pM m j0 cs=U (ps,U (j,id2))->pM m2 j0 cs=U (ps,U (j,id2))
 |[],j0,ps,h=>by simp[pM]at h
 |v::r,j0,ps,h=>by
  unfold pM at h;split at h
  next heq=>cases heq
  .rename_i j id r' heq;simp only[ayW]at heq;obtain⟨rfl,rfl⟩:=heq;split at h
   .rename_i s et es hmm;split at h
    next ps' ht=>simp only[tc,aq4]at h;obtain⟨rfl,rfl,rfl⟩:=h;grind [pM,P8]
    .cases h
   .cases h
  .rename_i j v' r' cO heq;simp only[ayW]at heq;obtain⟨rfl,rfl⟩:=heq;unfold pM;split
   next heq=>cases heq
   .simp_all
   .rename_i j v' r' cO heq;simp only[ayW]at heq;obtain⟨rfl,rfl⟩:=heq;split at h
    .rename_i p hp;split at h
     next ps' t ht=>simp only[tc,aq4]at h;obtain⟨rfl,rfl⟩:=h;rw[GD hm ht]
     .cases h
    omega
def aaE{site:Nat}{o:Oper}{f f2:Fr}{m m2:Mem}{sp:Sp}(h:Jy E site o f m=U sp)(hf:∀x∈o.op.operands,cd E f2 x=cd E f x)(hm:∀x∈(sp.info site).2,m2 x.2=m x.2):Jy E site o f2 m2=U sp:=by
 obtain⟨dst,op,type,pos,after,guard⟩:=o;unfold Jy at h⊢;cases op;case store t a x=>
  simp only at h⊢;rw[hf a cC,hf x cC];split at h
  .rename_i id i off ha;split at h
   .rename_i s et es hmm;split at h
    .rename_i cs hc;split at h
     .rename_i ps j id2 ht;split at h
      next pn=>simp only[tc]at h;subst h;have h1:m2 id=m id:=hm (Y,id) pw;have h2:m2 id2=m id2:=hm (Y,id2) pw;simp only[ha,h1,hmm,hc,GD h2 ht,pn,By]
      .cases h
     .cases h
    .cases h
   .cases h
  omega
 case buildSlice t len parts=>
  simp only at h⊢;have hpc:(parts.toList.map λ(x:Nat×Operand)=>(x.1,cd E f2 x.2))=parts.toList.map λ(x:Nat×Operand)=>(x.1,cd E f x.2):=ayE λx hx=>by rw[hf x.2 (by simp only[Op.operands,aAf,ayl];exact⟨x,hx,rfl⟩)]
  rw[hpc];split at h
  .rename_i e v hu hp;split at h
   .rename_i cs hc;split at h
    .rename_i ps j id2 ht hs;split at h
     .rename_i p XB;split at h
      next pn=>simp only[tc]at h;subst h;have h1:m2 site=m site:=hm (Y,site) pw;have h2:m2 id2=m id2:=hm (Y,id2) pw;simp only[hu,hp,hc,GD h2 ht,h1,hs,XB,pn,By]
      .cases h
     .cases h
    .cases h
   .cases h
  omega
 case call c=>
  obtain⟨callee,args,argTypes⟩:=c;simp only at h⊢;have Ae:args.toList.map (cd E f2)=args.toList.map (cd E f):=ayE λx hx=>hf x (by simp_all[Op.operands,Call.operands]);rw[Ae];split at h
  .rename_i id x t t' ha hty;split at h
   .rename_i e s et es hu hmm;split at h
    .rename_i pn;have plain:∀{new:List PV}{rd:bS},im m s x=U (new,rd)->x.has id=J->sp=.app id s et es new Z rd->im m2 s x=U (new,rd):=by grind [vn,Sp.info]
     split at h
     .rename_i BE;split at h
      .rename_i s' R8 new hm';split at h
       next Tc=>simp only[tc]at h;subst h;have h1:m2 id=m id:=hm (Y,id) pw;simp_all[Sp.info,By]
       .cases h
      .rename_i hnn;split at h
       .rename_i new rd PO;split at h
        .cases h
        .rename_i hxh;simp only[tc]at h;have ahm:=plain PO (by simpa using hxh) h.symm;subst h;have h1:m2 id=m id:=hm (Y,id) pw;simp only[ha,hty,hu,h1,hmm,pn,By,ahm];split
         next s' R8 axM dC=>exfalso;simp only[im,dC]at ahm;cases ahm
         .rw[IT hxh]
       .cases h
     .rename_i axN;split at h
      .rename_i new rd PO;split at h
       .cases h
       next hxh=>simp only[tc]at h;have ahm:=plain PO (by simpa using hxh) h.symm;subst h;have h1:m2 id=m id:=hm (Y,id) pw;simp only[ha,hty,hu,h1,hmm,pn,By,ahm];try rw[IT hxh]
      .cases h
    .cases h
   .cases h
  .cases h
 case mapUpdate t x key v=>
  simp only at h⊢;rw[hf x cC,hf key cC,hf v cC];split at h
  .rename_i kt et id id2 hu hx hv;split at h
   .rename_i Gh e es s e' rs kp h1 h2 hk;split at h
    next pn=>simp only[tc]at h;subst h;have h3:m2 id=m id:=hm (Y,id) pw;have h4:m2 id2=m id2:=hm (Y,id2) pw;simp only[hu,hx,hv,h3,h4,h1,h2,hk,pn,By]
    .cases h
   .cases h
  .cases h
 all_goals (cases h)
end
end Go.Ab
