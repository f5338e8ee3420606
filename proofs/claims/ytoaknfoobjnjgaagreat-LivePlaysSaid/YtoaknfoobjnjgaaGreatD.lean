import Derived.Test.YtoaknfoobjnjgaaGreatC
import Derived.KernelRfl
import Derived.WalkKit
import Derived.ProofKit
import Derived.OpenShut
import Derived.ShutString
import Derived.ChangeOld
import Derived.IntWalk
import Derived.Shelf.SlSortCmp.NoneTotal
set_option linter.all false
open Option renaming some→U,none→Z
open Bool renaming true→Y,false→J
open List renaming range→I
open Go.IntKind renaming wrap→C
namespace Go.Ab
open Go.RowKit (Below)
section
variable {E:Env} {w0:bI}
def Px(tmps:Array Value):ResultVar->Sem Value
 |.tmp t=>pure (tmps.getD t undef)
 |.cell a t=>do loadVar t (<-asAddr (tmps.getD a undef))
def Gt{R:Type}{f:Fr}{m:Mem}{μ:Ro}{φ:Nat->aT}{a:Act}{w:World}(hR:Rel E.P E.aQ E.fn.ntmps w0 μ φ f m a w):∀(rs:List ResultVar){k:List V->Option R}{r:R},KK E f m rs k=U r->∃(vs:List V)(xs:List Value),k vs=U r/\vs.length=rs.length/\(rs.mapM (Px a.tmps)).run E.P w=.ok xs w/\xs.length=rs.length/\(∀(i:Nat)v x,vs[i]?=U v->xs[i]?=U x->az E.P μ φ v x)/\∀id,cX id vs=Y->(m id).isSome=Y
 |[],k,r,h=>⟨[],[],h,rfl,ae,rfl,ae,λid hid=>by cases hid⟩
 |.tmp t::rs,k,r,h=>by
  simp only[KK]at h;have⟨vs,xs,h1,h2,h3,h4,h5,h6⟩:=Gt hR rs h;refine⟨cd E f (.tmp t)::vs,a.tmps.getD t undef::xs,h1,by simp[h2],?_,by simp[h4],λi v x hv hx=>?_,λid hid=>?_⟩
  .rw[aAN];simp only[Px,Sem.run_bind,Sem.run_pure,Result.andThen_ok,h3]
  .cases i with
   |zero=>simp only[ayR,tc]at hv hx;subst hv;subst hx;exact(aL hR (.tmp t)).1
   |succ i=>exact h5 i v x (by simpa using hv) (by simpa using hx)
  .simp only[cX,ayj]at hid;rcases hid with hid|hid
   .exact(aL hR (.tmp t)).2 id hid
   .exact h6 id hid
 |.cell b t::rs,k,r,h=>by
  simp only[KK]at h;have⟨v,ft,_,h,_,hl⟩:=Py h;have⟨vs,xs,h1,h2,h3,h4,h5,h6⟩:=Gt hR rs h;obtain⟨y,y1,y2,y3⟩:=hl E.aQ w0 μ φ w _ hR.toaR (aL hR (.tmp b)).1;have hld:(do loadVar t (<-asAddr (a.tmps.getD b undef)):Sem Value).run E.P w=.ok y w:=by
   have y1:(Instr.loadAt t (a.tmps.getD b undef)).run E.P w=.ok y w:=y1;generalize a.tmps.getD b undef=z at y1;unfold Instr.loadAt at y1;cases z<;>simp only[Instr.sureAddr]at y1<;>try (simp[stuck,Sem.run_bind]at y1;done)
   rename_i o;cases o with
   |none=>simp[stuck,Sem.run_bind]at y1
   |some ad=>exact y1
  refine⟨v::vs,y::xs,h1,by simp[h2],?_,by simp[h4],λi v' x hv hx=>?_,λid hid=>?_⟩
  .rw[aAN];have avD:(Px a.tmps (.cell b t)).run E.P w=.ok y w:=hld;simp only[Sem.run_bind,Sem.run_pure,Result.andThen_ok,avD,h3]
  .cases i with
   |zero=>simp at hv hx;subst hv;subst hx;exact y2
   |succ i=>exact h5 i v' x (by simpa using hv) (by simpa using hx)
  .simp only[cX,ayj]at hid;rcases hid with hid|hid
   .exact y3 id hid
   .exact h6 id hid
variable{w:World}
def Gu{a:Act}{xs:List Value}(h3:(E.fn.results.toList.mapM (Px a.tmps)).run E.P w=.ok xs w):(results E.fn a.tmps).run E.P w=.ok (if h:xs.toArray.size=1 then xs.toArray[0]else .tuple xs.toArray) w:=by show(do let vs<-E.fn.results.mapM (Px a.tmps);pure (if h:vs.size=1 then vs[0]else .tuple vs):Sem Value).run E.P w=_;simp_all[Array.mapM_eq_mapM_toList]
variable{φ:Nat->aT}
def akB{f:Fr}{m:Mem}{μ:Ro}{a:Act}(hR:Rel E.P E.aQ E.fn.ntmps w0 μ φ f m a w){p:PV}(h:agU E E.fn.results.toList f m=U p):∃y,(results E.fn a.tmps).run E.P w=.ok y w/\aH E.P (dc w0.mu w0.w w) p y:=by
 unfold agU at h;obtain⟨vs,xs,h1,h2,h3,h4,h5,h6⟩:=Gt hR _ h;have hν:∀b o,μ b=U o->dc w0.mu w0.w w b=U o:=λb o hb=>by
  unfold dc;split
  next bX=>exact hR.base b o hb bX
  .exact hR.ro b o hb
 have JD:∀id b g,m id=U b->b.owns (φ id) g->dc w0.mu w0.w w g=w.heap[g]?:=λid b g hb hg=>by have:=(hR.own id b g hb hg).1;simp_all[dc,IT]
 have xM:=Gu h3;refine⟨_,xM,?_⟩;split at h1
 .rename_i v;have hx:∃x,xs=[x]:=by
   match xs,h4,h2 with
   |[x],_,_=>simp
   |[],h4,h2=>grind
   |_::_::_,h4,h2=>simp_all
  obtain⟨x,rfl⟩:=hx;simp only[azd,al6,are,azf,dite_true];exact Dv hR.toaR hν JD _ h1 (h5 0 v x rfl rfl)
 .rename_i cO;have⟨ps,u9,h1⟩:=IS.1 h1;simp only[tc]at h1;subst h1;have⟨p1,p2⟩:=jE u9;have sB:¬xs.toArray.size=1:=λh=>by
   have:vs.length=1:=by simp at h;omega
   match vs,this with
   |[v],_=>exact cO v rfl
  rw[dif_neg sB];refine .b8 ah λi q x hq hx=>?_;have⟨v,hv,hf⟩:=p2 i q hq;exact Dv hR.toaR hν JD _ hf (h5 i v x hv (by simpa using hx))
variable{R:Type}
def SZ{t:TypeId}{p:PV}{k:PV->Option R}{r:R}(h:US E t p k=U r):∃q,k q=U r/\∀(P:Program)(μ:Ro)x,aH P μ p x->aH P μ q x:=by
 have ld:j9 E t p k=U r->∃q,k q=U r/\∀(P:Program)(μ:Ro)x,aH P μ p x->aH P μ q x:=λh=>by grind [qp]
 unfold US at h;split at h
 .exact ld h
 .exact ld h
 .exact ld h
 .exact ld h
 .exact ld h
 .exact ld h
 .grind
def JE{R:Type}:∀{ts:List TypeId}{ps:List PV}{k:List PV->Option R}{r:R},yY E ts ps k=U r->∃qs,k qs=U r/\qs.length=ps.length/\∀(P:Program)(μ:Ro)(i:Nat)p q x,ps[i]?=U p->qs[i]?=U q->aH P μ p x->aH P μ q x
 |[],ps,k,r,h=>⟨ps,by simpa[yY]using h,rfl,λP μ i p q x hp hq hx=>av⟩
 |t::ts,[],k,r,h=>⟨[],by simpa[yY]using h,rfl,ae⟩
 |t::ts,p::ps,k,r,h=>by
  simp only[yY]at h;have⟨q,h1,h2⟩:=SZ h;have⟨qs,h3,h4,h5⟩:=JE h1;refine⟨q::qs,h3,by simp[h4],λP μ i p' q' x hp hq hx=>?_⟩;cases i with
  |zero=>simp at hp hq;subst hp;subst hq;exact h2 P μ x hx
  |succ i=>exact h5 P μ i p' q' x (by simpa using hp) (by simpa using hq) hx
def agX{t:TypeId}{p:PV}{k:PV->Option R}{r:R}(h:agV E t p k=U r):∃q,k q=U r/\∀(P:Program)(μ:Ro)x,aH P μ p x->aH P μ q x:=by
 have agg:((asAgg (bq E.P t) p).bind λ_=>match Pp E.P 8 t with|some ts=>yY E ts (aX (bq E.P t) p) λcs=>k (.agg cs)|none=>Z)=U r->∃q,k q=U r/\∀(P:Program)(μ:Ro)x,aH P μ p x->aH P μ q x:=λh=>by
  have⟨_,ha,h⟩:=IS.1 h;split at h
  .rename_i ts _;have⟨qs,h1,h2,h3⟩:=JE h;refine⟨.agg qs,h1,λP μ x hx=>?_⟩;have hp:∃cs,p=.agg cs/\cs.length=bq E.P t:=by cases p<;>simp[asAgg]at ha;exact⟨_,rfl,ha⟩
   obtain⟨cs,rfl,ha⟩:=hp;rw[bB]at h2;cases hx with
   | @agg _ xs a1 a2 a3=>
    refine .agg aa (λi q y hq hy=>?_) a3;have bX:i<cs.length:=ao
    have he:(aX (bq E.P t) (.agg cs))[i]?=U cs[i]:=by
     have hl:i<(aX (bq E.P t) (.agg cs)).length:=by rw[bB];omega
     have h5:=ta hl;have⟨_,h6⟩:=pN h5;simp_all[cell,PV.cells,List.getD]
    grind
  .cases h
 unfold agV at h;split at h
 .exact agg h
 .exact agg h
 .rename_i e _;unfold mZ at h;split at h
  .grind
  .rename_i cs;split at h
   .rename_i hn;split at h
    .rename_i ts _;have⟨qs,h1,h2,h3⟩:=JE h;rw[bB]at h2;refine⟨.rp qs,h1,λP μ x hx=>?_⟩;cases hx with
     | @rp _ b o X a1 a2 a3=>
      have hc:∀i,i<qs.length->cs[i]?=U (cell (.agg cs) i):=λi hi=>by grind [List.getElem?_eq_getElem,cell,PV.cells,List.getD]
      refine .rp X (λi q hq=>a1 i _ (hc i (No.1 hq).1)) (λi q hq=>?_) (λi hi=>a3 i aa);grind [aX,bq,bB,List.getElem?_eq_getElem,pN]
    .cases h
   .cases h
  .cases h
 .exact SZ h
def Ml{R:Type}:∀{ts:List TypeId}{ps:List PV}{k:List PV->Option R}{r:R},JC E ts ps k=U r->∃qs,k qs=U r/\qs.length=ps.length/\∀(P:Program)(μ:Ro)(i:Nat)p q x,ps[i]?=U p->qs[i]?=U q->aH P μ p x->aH P μ q x
 |[],ps,k,r,h=>⟨ps,by simpa[JC]using h,rfl,λP μ i p q x hp hq hx=>av⟩
 |t::ts,[],k,r,h=>⟨[],by simpa[JC]using h,rfl,ae⟩
 |t::ts,p::ps,k,r,h=>by
  simp only[JC]at h;have⟨q,h1,h2⟩:=agX h;have⟨qs,h3,h4,h5⟩:=Ml h1;refine⟨q::qs,h3,by simp[h4],λP μ i p' q' x hp hq hx=>?_⟩;cases i with
  |zero=>simp at hp hq;subst hp;subst hq;exact h2 P μ x hx
  |succ i=>exact h5 P μ i p' q' x (by simpa using hp) (by simpa using hq) hx
def arA{μ:Ro}{xs:Array Value}{ps:List PV}(xN:∀b o,μ b=U o->w.heap[b]?=U o)(hgl:∀g cs,E.aQ g=U cs->I8 E.P μ g cs)(hlen:ps.length=xs.size)(nI:∀(i:Nat)p x,ps[i]?=U p->xs[i]?=U x->aH E.P μ p x)(hnt:ps.length<=E.fn.ntmps):Rel E.P E.aQ E.fn.ntmps {w:=w,mu:=μ,sv:=λ_=>undef} μ (λ_=>default) (Pw (ps.map .pv)) (λ_=>Z) {tmps:=xs++Array.replicate (E.fn.ntmps-xs.size) undef,defers:=[]} w:=by
 have Et:∀t,az E.P μ (λ_=>default) (Pw (ps.map .pv) t) (cE E.fn.ntmps {w:=w,mu:=μ,sv:=λ_=>undef} {tmps:=xs++Array.replicate (E.fn.ntmps-xs.size) undef,defers:=[]} t):=λt=>by
  simp only[Pw];by_cases ht:t<ps.length
  .have h1:(ps.map V.pv).getD t .top=.pv ps[t]:=by simp[List.getD,ht]
   have hxt:t<xs.size:=aa
   have h2:(xs++Array.replicate (E.fn.ntmps-xs.size) undef).getD t undef=xs[t]:=by rw[awW,azi hxt,aq5 hxt];rfl
   rw[h1,wW aa,h2];exact .pv (nI t _ _ (ta ht) (aq5 hxt))
  .have h1:(ps.map V.pv).getD t .top=.top:=by simp[List.getD,ht]
   rw[h1];exact .top
 have NG:∀t id,(Pw (ps.map .pv) t).has id=Y->((λ_=>Z:Mem) id).isSome=true:=λt id hid=>by
  simp only[Pw]at hid;by_cases ht:t<ps.length
  .simp_all
  simp_all
 exact{below:=ou.refl _ _,ro:=xN,aQ:=hgl,eE:=(λid b h=>by cases h),own:=(λid b g h=>by cases h),inj:=(λ_ _ _ _ _ h=>ae),apart:=(λ_ _ h=>by cases h),hU:=(λ_ _ _ h=>by cases h),base:=λ_ _ h _=>h,eF:=(λ_ _ h=>by cases h),L2:=(λ_ _ h=>by cases h),hid:=(λ_ _ h=>by cases h),size:=ah,defers:=.nil _ _ _,ow:=(λ_ _ h=>aa),fr:=Et,live:=NG}
variable{g:FuncId}
def aeq(hE:mn E)(hyl:E.yl=Jx)(hf:E.P.funcs[g]?=U E.fn)(hn:(E.fn.name== "runtime.NumGoroutine")=J){c:Code}(hb:E.fn.body=U c):Gv E.P E.aQ g (gT E):=by
 refine⟨⟨E.fn,c,hf,hb,hn⟩,λps r h w μ xs xN hgl hlen nI=>?_⟩;unfold gT at h;rw[hb]at h;simp only at h;split at h
 .rename_i hnt;have⟨qs,h,hql,hqr⟩:=Ml h;have nI:∀(i:Nat)p x,qs[i]?=U p->xs[i]?=U x->aH E.P μ p x:=λi q x hq hx=>ao
  have hlen:qs.length=xs.size:=aa
  have hnt:qs.length<=E.fn.ntmps:=aa
  clear hql hqr;revert qs;intro ps h nI hlen hnt;have hR:=arA (E:=E) xN hgl hlen nI hnt;refine Cq hE (by rw[hyl];exact KL _ _ _ _) (λ_ _ h=>aa) hf hb h hR λe f' m' μ' φ' tmps w' hk mo=>?_;have fin:agU E E.fn.results.toList f' m'=U r->∃v,(results E.fn tmps).run E.P w'=.ok v w'/\∃y,Ending.returned v=.returned y/\ou w.heap.size w w'/\aH E.P (dc μ w w') r y:=λhk=>by have⟨y,y1,y2⟩:=akB mo hk;exact⟨y,y1,y,rfl,mo.below,y2⟩
  grind
 .cases h
def yZ.arB{P:Program}{G:Nat->Option (List PV)}{nt:Nat}{yl:YL}{w0:bI}{o:Ro}(h:yZ P G nt yl w0):yZ P G nt yl {w0 with ow:=o}:=λH R site id args f m k r hy μ φ ρ w xs hM hF hρ hl hr UT g hg=>
  let⟨fn,tmps,assign,body,y1,y2⟩:=h H R site id args f m k r hy μ φ ρ w xs (hM.Gw rfl rfl hM.eF λ_ _ _=>rfl) hF hρ hl hr UT g hg
  ⟨fn,tmps,assign,body,y1,y2.mono λe w'⟨v,f',m',y,μ',φ',a1,a2,a3,a4,a5⟩=>⟨v,f',m',y,μ',φ',a1,a2,a3,a4.Gw rfl rfl a4.eF λ_ _ _=>rfl,a5⟩⟩
def anF(hE:mn E)(hf:E.P.funcs[g]?=U E.fn)(hn:(E.fn.name== "runtime.NumGoroutine")=J){args:List V}{f:Fr}{m:Mem}{k:V->Fr->Mem->Option R}{r:R}(h:OW E args f m k=U r):aaj E.P E.aQ g E.yl args f m k r:=by
 unfold OW at h;split at h
 .rename_i c hb;split at h
  .rename_i hnt;refine⟨E.fn,c,hf,hb,hn,λw0 μ φ ρ w xs hM hF hlen nI NG hY=>?_⟩;have fG:∀t,t<args.length->∃v,args[t]?=U v/\args.getD t .top=v:=λt ht=>⟨args[t],ta ht,by simp[List.getD,ht]⟩;have hR:Rel E.P E.aQ E.fn.ntmps {w0 with sv:=λt=>ρ (t-E.fn.ntmps),ow:=w0.eF} μ φ (FO E.fn.ntmps args f) m {tmps:=xs++Array.replicate (E.fn.ntmps-xs.size) undef,defers:=[]} w:=
    {toaR:=hM.Gw rfl rfl hM.eF λ_ _ _=>rfl,size:=ah,defers:=.nil _ _ _,ow:=λ_ _ h=>h,fr:=λt=>by
      unfold FO cE;by_cases ht:t<E.fn.ntmps
      .rw[show Nat.blt t E.fn.ntmps=Y by simp_all,BY ht];show az E.P μ φ (args.getD t .top) _;by_cases ha:t<args.length
       .obtain⟨v,h1,h2⟩:=fG t ha;have hxt:t<xs.size:=aa
        rw[h2];have h3:(xs++Array.replicate (E.fn.ntmps-xs.size) undef).getD t undef=xs[t]:=av
        rw[h3];exact nI t v _ h1 (aq5 hxt)
       .have h1:args.getD t .top=.top:=by simp[List.getD,ha]
        rw[h1];exact .top
      .rw[show Nat.blt t E.fn.ntmps=J by rw[<-ay1,azt];omega,IT ht];exact hF.fr _,
     live:=λt id hid=>by
      unfold FO at hid;cases e:Nat.blt t E.fn.ntmps with
      |true=>
       rw[e]at hid;have hid:(args.getD t .top).has id=true:=hid;by_cases ha:t<args.length
       .obtain⟨v,h1,h2⟩:=fG t ha;rw[h2]at hid;exact NG id (dF.2 ⟨v,awU h1,hid⟩)
       simp_all
      |false=>rw[e]at hid;exact hF.live _ id hid}
   refine Cq hE hY.arB (λ_ _ h=>h) hf hb h hR λe f' m' μ' φ' tmps w' hk mo=>?_;have hF':cR E.P μ' φ' m' (Gp E.fn.ntmps f') ρ:=by refine⟨λt=>?_,λt id hid=>mo.live _ id hid⟩;have:=mo.fr (t+E.fn.ntmps);unfold cE at this;rw[IT aa]at this;simp only[azs]at this;exact this
   have fin:(KK E f' m' E.fn.results.toList λvs=>match vs with
    |[v]=>k v (Gp E.fn.ntmps f') m'
    |vs=>k (.b8 vs) (Gp E.fn.ntmps f') m')=U r->∃v,(results E.fn tmps).run E.P w'=.ok v w'/\
    ∃v1 f1 m1 y μ1 φ1,k v1 f1 m1=U r/\Ending.returned v=.returned y/\aR E.P E.aQ w0 μ1 φ1 m1 w'/\cR E.P μ1 φ1 m1 f1 ρ/\az E.P μ1 φ1 v1 y/\∀id,v1.has id=Y->(m1 id).isSome=true:=λhk=>by
    obtain⟨vs,ys,h1,h2,h3,h4,h5,h6⟩:=Gt mo _ hk
    refine⟨_,Gu h3,?_⟩
    have hM0:aR E.P E.aQ w0 μ' φ' m' w':=mo.toaR.Gw rfl rfl mo.eF λ_ _ _=>rfl
    split at h1
    .rename_i v;have hx:∃y,ys=[y]:=by
      match ys,h4,h2 with
      |[y],_,_=>simp
      |[],h4,h2=>grind
      |_::_::_,h4,h2=>simp_all
     obtain⟨y,rfl⟩:=hx;refine⟨v,_,_,y,μ',φ',h1,ae,hM0,hF',h5 0 v y rfl rfl,λid hid=>h6 id (by simp[cX,hid])⟩
    .rename_i cO;have sB:¬ys.toArray.size=1:=λh=>by
      have:vs.length=1:=by simp at h;omega
      match vs,this with
      |[v],_=>exact cO v rfl
     rw[dif_neg sB];exact⟨.b8 vs,_,_,_,μ',φ',h1,rfl,hM0,hF',.b8 ah (λi q x hq hx=>h5 i q x hq (by simpa using hx)),λid hid=>h6 id (by simpa only[V.has]using hid)⟩
   grind
  .cases h
 .cases h
def akC{μ:Ro}{d len s:Nat}{et:TypeId}{es:List PV}{x:Value}(hA:ba E.P μ φ w d s et es)(hx:az E.P μ φ (.iJ d 0 len) x):∃ph:aT,ph.g=(φ d).g/\ba E.P μ (λ_=>ph) w 0 s et (es.take len)/\∀μ',az E.P μ' (λ_=>ph) (.os 0) x:=by
 obtain⟨h1,h2,h3,h4,h5,h6,h7⟩:=hA;cases hx with
 |zR hg=>refine⟨φ d,rfl,?_,λμ'=>.BG hg⟩;rw[hg]at h7;obtain⟨rfl,h7⟩:=h7;refine⟨h1,h2,h3,h4,ae,h6,?_⟩;simp_all
 | @iJ _ _ _ cap g ad hg hl ha hc hc'=>
  rw[hg]at h7;obtain⟨q,Tq,q1,q2,q3,q4,q5⟩:=h7;have hlen:(es.take len).length=len:=av
  have had:ad=⟨g,0,Z⟩:=av
  subst had;refine⟨{φ d with cap:=cap,len:=len},rfl,⟨by simp[hlen],h2,h3,h4,λi e he=>h5 i e (lT he).1,ah,?_⟩,λμ'=>?_⟩
  .simp only[hg];refine⟨q,Tq,q1,ayn (ax8 _ aa) q2,aa,λi e j p x he hp hx=>q4 i e j p x (lT he).1 hp hx,λi x hi hx=>q5 i x (Nat.lt_of_lt_of_le hi (ax8 _ aa)) hx⟩
  .exact az.os (P:=E.P) (μ:=μ') (φ:=λ_=>{φ d with cap:=cap,len:=len}) (id:=0) (g:=g) hg
def aer(hE:mn E)(hyl:E.yl=Jx)(hf:E.P.funcs[g]?=U E.fn)(hn:(E.fn.name== "runtime.NumGoroutine")=J){c:Code}(hb:E.fn.body=U c):Mm E.P E.aQ g (qo E):=by
 refine⟨⟨E.fn,c,hf,hb,hn⟩,λfn t el hfn ht hu ps r h w μ xs xN hgl hlen nI=>?_⟩;rw[hf]at hfn;cases hfn;unfold qo at h;rw[hb]at h;simp only at h;split at h
 .rename_i hnt;have⟨qs,h,hql,hqr⟩:=Ml h;have nI:∀(i:Nat)p x,qs[i]?=U p->xs[i]?=U x->aH E.P μ p x:=λi q x hq hx=>ao
  have hlen:qs.length=xs.size:=aa
  have hnt:qs.length<=E.fn.ntmps:=aa
  clear hql hqr;revert qs;intro ps h nI hlen hnt;refine Cq hE (by rw[hyl];exact KL _ _ _ _) (λ_ _ h=>aa) hf hb h (arA xN hgl hlen nI hnt) λe f' m' μ' φ' tmps w' hk mo=>?_;have fin:anE E f' m'=U r->∃v,(results E.fn tmps).run E.P w'=.ok v w'/\∃(y:Value)(ph:aT)(es:List PV),Ending.returned v=.returned y/\ou w.heap.size w w'/\r=.rs (bq E.P el) es/\(∀g,ph.g=U g->w.heap.size<=g)/\ba E.P (rU (dc μ w w') ph.g) (λ_=>ph) w' 0 (bq E.P el) el es/\az E.P μ (λ_=>ph) (.os 0) y:=λhk=>by
   unfold anE at hk;rw[ht]at hk;simp only[hu]at hk;obtain⟨vs,ys,h1,h2,h3,h4,h5,h6⟩:=Gt mo _ hk;refine⟨_,Gu h3,?_⟩;split at h1
   .rename_i id;split at h1
    .rename_i sz et es hm;split at h1
     .rename_i hs;obtain⟨rfl,rfl⟩:=hs;simp only[tc]at h1;have hx:∃y,ys=[y]:=by
       match ys,h4,h2 with
       |[y],_,_=>simp
       |[],h4,h2=>grind
       |_::_::_,h4,h2=>simp_all
      obtain⟨y,rfl⟩:=hx;have hA:=mo.eE id _ hm;refine⟨y,φ' id,es,ae,mo.below,h1.symm,λg hg=>(mo.own id _ g hm (.inl hg)).1,?_,?_⟩
      .refine ba.move (μ:=μ') hA rfl λb o Ik=>?_;unfold rU;rw[IT λe=>by have:=(mo.own id _ b hm (.inl e)).2 rfl;simp_all];unfold dc;split
       next bX=>exact mo.base b o Ik bX
       .exact mo.ro b o Ik
      .have:=h5 0 _ y rfl rfl;cases this with
       |BG h=>exact .BG h
       |os h=>exact .os (id:=0) (φ:=λ_=>φ' id) h
     .cases h1
    .cases h1
   .rename_i id len;split at h1
    .rename_i sz et es hm;split at h1
     .rename_i hs;obtain⟨rfl,rfl⟩:=hs;simp only[tc]at h1;have hx:∃y,ys=[y]:=by
       match ys,h4,h2 with
       |[y],_,_=>simp
       |[],h4,h2=>grind
       |_::_::_,h4,h2=>simp_all
      obtain⟨y,rfl⟩:=hx;obtain⟨ph,p1,p2,p3⟩:=akC (mo.eE id _ hm) (h5 0 _ y rfl rfl);refine⟨y,ph,es.take len,ae,mo.below,h1.symm,λg hg=>(mo.own id _ g hm (.inl (by rw[<-p1];omega))).1,?_,(p3 _:)⟩;refine ba.move (μ:=μ') (φ:=λ_=>ph) (i:=0) p2 rfl λb o Ik=>?_;unfold rU;rw[IT λe=>by have:=(mo.own id _ b hm (.inl (by rw[<-p1];omega))).2 rfl;simp_all];unfold dc;split
      next bX=>exact mo.base b o Ik bX
      .exact mo.ro b o Ik
     .cases h1
    .cases h1
   .cases h1
  grind
 .cases h
end
end Go.Ab
namespace Go.Ab
structure BH where
 P:Program
 aQ:Nat->Option (List PV)
 hint:Nat->Nat->List SU
 fnr:FuncId->Option FS:=λ_=>Z
 aaP:FuncId->Option ((R:Type)->List V->Fr->Mem->(V->Fr->Mem->Option R)->Option R):=λ_=>Z
 Ma:Nat->Bool:=λ_=>J
abbrev vV:=List (Nat×(List PV->Option PV))
def look:vV->Nat->Option (List PV->Option PV)
 |[],_=>Z
 |x::r,g=>bif Nat.beq g x.1 then U x.2 else look r g
def rounds:Nat:=18446744073709551616
def cD:aY:=⟨λbody s=>bT body rounds s,λn=>Nat.ble n 9223372036854775807,λn h=>by have h1:=Nat.le_of_ble_eq_true h;have h2:IntKind.i64.max=9223372036854775807:=rfl;omega⟩
noncomputable def BH.aaQ(S:BH)(L:aY)(xg lY:vV):Nat->(R:Type)->FuncId->Nat->YL->List V->Fr->Mem->(V->Fr->Mem->Option R)->Option R
 |0=>λ_ _ _ _ _ _ _ _=>Z
 |n+1=>λ_ g Z1 yl args f m k=>match S.P.funcs[g]? with
  |some fn=>OW {P:=S.P,ctx:=look xg,aQ:=S.aQ,fid:=Z1,fn,lp:=L,hint:=S.hint,u:=64,own:=look lY,inl:=λR g Z1 args f m k=>match S.aaP g with
   |some h=>h R args f m k
   |none=>BH.aaQ S L xg lY n R g Z1 Jx args f m k,rng:=BH.aaQ S L xg lY n,yl,fnr:=S.fnr,Ma:=S.Ma} args f m k
  |none=>Z
noncomputable def BH.aog(S:BH)(L:aY)(xg lY:vV)(n fid:Nat)(fn:Func)(yl:YL):Env:=
 {P:=S.P,ctx:=look xg,aQ:=S.aQ,fid,fn,lp:=L,hint:=S.hint,u:=64,own:=look lY,inl:=λR g Z1 args f m k=>match S.aaP g with
  |some h=>h R args f m k
  |none=>BH.aaQ S L xg lY n R g Z1 Jx args f m k,rng:=S.aaQ L xg lY n,yl,fnr:=S.fnr,Ma:=S.Ma}
noncomputable def BH.ase(S:BH)(L:aY)(xg lY:vV)(n fid:Nat)(fn:Func):Env:=S.aog L xg lY n fid fn Jx
noncomputable def BH.env(S:BH)(L:aY)(xg lY:vV)(fid:Nat)(fn:Func):Env:=S.ase L xg lY 8 fid fn
def an(S:BH)(xg:vV):Prop:=∀x∈xg,Gv S.P S.aQ x.1 x.2
def fC(S:BH)(xg:vV):Prop:=∀x∈xg,Mm S.P S.aQ x.1 x.2
structure qZ(S:BH):Prop where
 mixed:S.P.follows .mixedOrders=Y
 aaP:∀g h,S.aaP g=U h->∀(R:Type)args f m(k:V->Fr->Mem->Option R)r,h R args f m k=U r->U3 S.P S.aQ g args f m k r
 names:(S.P.funcs.all λfn=> !(fn.name== "runtime.NumGoroutine"))=Y
def GN{M:List PV->Option PV}{g:Nat}:∀{xg:vV},look xg g=U M->(g,M)∈xg
 |[],h=>by cases h
 |x::r,h=>by
  simp only[look]at h;cases e:Nat.beq g x.1 with
  |true=>rw[e]at h;simp only[cond,tc]at h;have:=T0 e;subst this;subst h;exact List.mem_cons_self
  |false=>rw[e]at h;exact az6 _ (GN h)
def an.nil(S:BH):an S []:=by intro x hx;cases hx
variable{G:Nat->Option (List PV)}{M M':List PV->Option PV}
def Gv.weaken{P:Program}{g:FuncId}(h:Gv P G g M)(hM:∀ps r,M' ps=U r->M ps=U r):Gv P G g M':=⟨h.1,λps r hr=>h.2 ps r (hM ps r hr)⟩
def fC.nil(S:BH):fC S []:=by intro x hx;cases hx
def Mm.weaken{P:Program}{g:FuncId}(h:Mm P G g M)(hM:∀ps r,M' ps=U r->M ps=U r):Mm P G g M':=⟨h.1,λfn t e h1 h2 h3 ps r hr=>h.2 fn t e h1 h2 h3 ps r (hM ps r hr)⟩
variable{g:Nat}{S:BH}{fn:Func}
def qZ.name(h:qZ S)(hf:S.P.funcs[g]?=U fn):(fn.name== "runtime.NumGoroutine")=false:=by have:=Array.all_eq_true_iff_forall_mem.1 h.names fn (aA7 hf);simpa using this
def adf{S:BH}{xg lY:vV}(hs:qZ S)(h:an S xg)(ho:fC S lY):∀(n fid:Nat)(fn:Func)(yl:YL),mn (S.aog cD xg lY n fid fn yl)
 |n,fid,fn,yl=>by
  have hr:∀(R:Type)g Z1 yl args f m(k:V->Fr->Mem->Option R)r,S.aaQ cD xg lY n R g Z1 yl args f m k=U r->aaj S.P S.aQ g yl args f m k r:=by
   intro R g Z1 yl args f m k r hk;cases n with
   |zero=>simp[BH.aaQ]at hk
   |succ n=>
    have hk:(match S.P.funcs[g]? with
     |some fn=>OW (S.aog cD xg lY n Z1 fn yl) args f m k
     |none=>Z)=U r:=hk
    split at hk
    next fn' hf=>exact anF (adf hs h ho n Z1 fn' yl) hf (hs.name hf) hk
    .cases hk
  refine⟨hs.mixed,λ_ _ body s r h=>⟨rounds,h⟩,λg' M' hM'=>h _ (GN hM'),λg' M' hM'=>ho _ (GN hM'),λR g Z1 args f m k r hk=>?_,hr⟩
  have hk:(match S.aaP g with
   |some h=>h R args f m k
   |none=>BH.aaQ S cD xg lY n R g Z1 Jx args f m k)=U r:=hk
  split at hk
  next h' hh=>exact hs.aaP g h' hh R args f m k r hk
  .obtain⟨fn',c,h1,h2,h3,h4⟩:=hr _ _ _ _ _ _ _ _ _ hk;exact⟨⟨fn',c,h1,h2,h3⟩,λw0 μ φ ρ w xs hM hF hlen nI NG=>h4 w0 μ φ ρ w xs hM hF hlen nI NG (KL _ _ _ _)⟩
variable{xg lY:vV}
def adg(hs:qZ S)(h:an S xg)(ho:fC S lY)(n fid:Nat)(fn:Func):mn (S.ase cD xg lY n fid fn):=adf hs h ho n fid fn Jx
def an.step(hs:qZ S)(h:an S xg)(ho:fC S lY)(hf:S.P.funcs[g]?=U fn)(hb:fn.body.isSome=Y)(he:∀ps r,M ps=U r->gT (S.env cD xg lY g fn) ps=U r):an S ((g,M)::xg):=by
 intro x hx;rcases aye.1 hx with rfl|hx
 .obtain⟨c,hc⟩:=aym.1 hb;exact(aeq (adg hs h ho 8 g fn) rfl (g:=g) hf (hs.name hf) hc).weaken he
 .exact h x hx
def fC.step(hs:qZ S)(h:an S xg)(ho:fC S lY)(hf:S.P.funcs[g]?=U fn)(hb:fn.body.isSome=Y)(he:∀ps r,M ps=U r->qo (S.env cD xg lY g fn) ps=U r):fC S ((g,M)::lY):=by
 intro x hx;rcases aye.1 hx with rfl|hx
 .obtain⟨c,hc⟩:=aym.1 hb;exact(aer (adg hs h ho 8 g fn) rfl (g:=g) hf (hs.name hf) hc).weaken he
 .exact ho x hx
def an.go(h:an S xg)(hs:qZ S)(ho:fC S lY)(hf:S.P.funcs[g]?=U fn)(hb:fn.body.isSome=Y)(he:∀ps r,M ps=U r->gT (S.env cD xg lY g fn) ps=U r):an S ((g,M)::xg):=an.step hs h ho hf hb he
def an.s1(hs:qZ S)(h:an S xg)(ho:fC S lY)(hf:S.P.funcs[g]?=U fn)(F:aY->PV->Option PV)(hb:fn.body.isSome=true:=by kernel_rfl)(he:∀L a,gT (S.env L xg lY g fn) [a]=F L a:=by intros;kernel_rfl):an S ((g,λl=>match l with|[a]=>F cD a|_=>Z)::xg):=h.go hs ho hf hb λps r hp=>by
 split at hp
 .rw[he];exact hp
 .cases hp
def an.s2(hs:qZ S)(h:an S xg)(ho:fC S lY)(hf:S.P.funcs[g]?=U fn)(F:aY->PV->PV->Option PV)(hb:fn.body.isSome=true:=by kernel_rfl)(he:∀L a b,gT (S.env L xg lY g fn) [a,b]=F L a b:=by intros;kernel_rfl):an S ((g,λl=>match l with|[a,b]=>F cD a b|_=>Z)::xg):=h.go hs ho hf hb λps r hp=>by
 split at hp
 .rw[he];exact hp
 .cases hp
def an.s3(hs:qZ S)(h:an S xg)(ho:fC S lY)(hf:S.P.funcs[g]?=U fn)(F:aY->PV->PV->PV->Option PV)(hb:fn.body.isSome=true:=by kernel_rfl)(he:∀L a b c,gT (S.env L xg lY g fn) [a,b,c]=F L a b c:=by intros;kernel_rfl):an S ((g,λl=>match l with|[a,b,c]=>F cD a b c|_=>Z)::xg):=h.go hs ho hf hb λps r hp=>by
 split at hp
 .rw[he];exact hp
 .cases hp
def an.s4(hs:qZ S)(h:an S xg)(ho:fC S lY)(hf:S.P.funcs[g]?=U fn)(F:aY->PV->PV->PV->PV->Option PV)(hb:fn.body.isSome=true:=by kernel_rfl)(he:∀L a b c d,gT (S.env L xg lY g fn) [a,b,c,d]=F L a b c d:=by intros;kernel_rfl):an S ((g,λl=>match l with|[a,b,c,d]=>F cD a b c d|_=>Z)::xg):=h.go hs ho hf hb λps r hp=>by
 split at hp
 .rw[he];exact hp
 .cases hp
def an.s5(hs:qZ S)(h:an S xg)(ho:fC S lY)(hf:S.P.funcs[g]?=U fn)(F:aY->PV->PV->PV->PV->PV->Option PV)(hb:fn.body.isSome=true:=by kernel_rfl)(he:∀L a b c d e,gT (S.env L xg lY g fn) [a,b,c,d,e]=F L a b c d e:=by intros;kernel_rfl):an S ((g,λl=>match l with|[a,b,c,d,e]=>F cD a b c d e|_=>Z)::xg):=h.go hs ho hf hb λps r hp=>by
 split at hp
 .rw[he];exact hp
 .cases hp
def an.s6(hs:qZ S)(h:an S xg)(ho:fC S lY)(hf:S.P.funcs[g]?=U fn)(F:aY->PV->PV->PV->PV->PV->PV->Option PV)(hb:fn.body.isSome=true:=by kernel_rfl)(he:∀L a b c d e f,gT (S.env L xg lY g fn) [a,b,c,d,e,f]=F L a b c d e f:=by intros;kernel_rfl):an S ((g,λl=>match l with|[a,b,c,d,e,f]=>F cD a b c d e f|_=>Z)::xg):=h.go hs ho hf hb λps r hp=>by
 split at hp
 .rw[he];exact hp
 .cases hp
def fb{P:Prop}(h:P:=by unfold rounds;omega):P:=h
end Go.Ab
namespace Go.Ab
open Go.RowKit (Below)
def KA(agg:Bool)(qs:List PV):PV:=match agg with
 |true=>.agg qs
 |false=>qs.getD 0 .bad
def Am(P:Program)(ok:TypeId->Bool)(size:Nat):List Field->Nat->Bool
 |[],off=>Nat.beq off size
 |f::r,off=>Nat.beq f.offset off&&ok f.type&&Am P ok size r (off+bq P f.type)
def An(P:Program):Nat->TypeId->Bool
 |0,_=>J
 |d+1,t=>match P.underlying t with
  |some .bool=>Y
  |some (.int _)=>Y
  |some .string=>Y
  |some (.slice e)=>An P d e&&Nat.blt 0 (bq P e)&&(aS P e||Nat.beq (bq P e) 1)
  |some (.struct fs)=>Am P (An P d) (bq P t) fs.toList 0
  |some (.array n e)=>An P d e&&Nat.beq (n*bq P e) (bq P t)
  |_=>J
def DM(P:Program)(shp:TypeId->List PV->Prop):List Field->List PV->Prop
 |[],ps=>ps=[]
 |f::r,ps=>∃a b,ps=a++b/\a.length=bq P f.type/\shp f.type a/\DM P shp r b
def ahX(shp:List PV->Prop)(c:Nat):Nat->List PV->Prop
 |0,ps=>ps=[]
 |n+1,ps=>∃a b,ps=a++b/\a.length=c/\shp a/\ahX shp c n b
mutual
def eE{H:Type}:DataW H->Nat
 |.lit (.string b)=>b.length+1
 |.slice es _=>XZ es+1
 |.agg ps=>XZ ps+1
 |_=>1
def XZ{H:Type}:List (DataW H)->Nat
 |[]=>0
 |d::r=>eE d+XZ r
end
def alb{H:Type}(d:DataW H):1<=eE d:=by
 cases d with
 |lit l=>cases l<;>simp[eE]
 |_=>simp[eE]
def Lb{H:Type}:∀{l:List (DataW H)}{d:DataW H},d∈l->eE d<=XZ l
 |x::r,d,h=>by
  simp only[XZ];rcases aye.1 h with rfl|h
  .omega
  .have:=Lb h;omega
def X0{H:Type}:∀(l:List (DataW H)),l.length<=XZ l
 |[]=>by simp[XZ]
 |x::r=>by have:=X0 r;have:=alb x;simp only[XZ,al6];omega
def gU(M:Nat)(P:Program):Nat->TypeId->List PV->Prop
 |0,_,_=>False
 |d+1,t,ps=>match P.underlying t with
  |some .bool=>∃b,ps=[.bool b]
  |some (.int k)=>∃n,ps=[.int k n]/\(Lit.int k n).wf=Y
  |some .string=>∃s:Bytes,ps=[.str s]/\s.length<=M
  |some (.slice e)=>∃es,ps=[.rs (bq P e) es]/\es.length<=M/\∀x∈es,∃qs,x=KA (aS P e) qs/\qs.length=bq P e/\gU M P d e qs
  |some (.struct fs)=>DM P (gU M P d) fs.toList ps
  |some (.array n e)=>ahX (gU M P d e) (bq P e) n ps
  |_=>False
abbrev Shp(P:Program):Nat->TypeId->List PV->Prop:=gU maxLen P
def MA(P:Program)(w:World)(ps:List PV)(cs:List Value):Prop:=∀(i:Nat)p v,ps[i]?=U p->cs[i]?=U v->aH P (nO w) p v/\v.oneCell'=Y
variable{P:Program}
def MA.one{w:World}{p:PV}{v:Value}(h:aH P (nO w) p v)(h1:v.oneCell'=Y):MA P w [p] [v]:=by intro i q u hq hu;grind
def MA.append{w:World}{a b:List PV}{cs:List Value}{n:Nat}(ha:MA P w a (cs.take n))(hb:MA P w b (cs.drop n))(hl:a.length=n):MA P w (a++b) cs:=by
 intro i p v hp hv;rw[ayJ]at hp;split at hp
 next h=>exact ha i p v hp av
 next h=>exact hb (i-a.length) p v hp av
def ae4{M d:Nat}{e:TypeId}{qs:List PV}(ha:aS P e=Y\/bq P e=1)(h:gU M P d e qs)(hl:qs.length=bq P e):(KA (aS P e) qs).cells=qs:=by
 cases X1:aS P e with
 |true=>rfl
 |false=>
  have h1:bq P e=1:=ha.resolve_left (by simp[X1]);cases d with
  |zero=>exact h.elim
  |succ d=>
   unfold gU at h;unfold aS at X1;split at h
   .obtain⟨b,rfl⟩:=h;rfl
   .obtain⟨n,rfl,_⟩:=h;rfl
   .obtain⟨s,rfl,_⟩:=h;rfl
   .obtain⟨es,rfl,_⟩:=h;rfl
   .simp_all
   .simp_all
   .exact h.elim
section
variable {P:Program} {w:World} {H:Type} {enc:TypeId×Value->H} {spare:Nat->Bool} {held:Bool}
def N1{ok:TypeId->Bool}{size:Nat}:∀{fs:List Field}{off:Nat},Am P ok size fs off=Y->off<=size
 |[],off,h=>by simp_all[Am,T0]
 |f::r,off,h=>by simp only[Am,T1]at h;have:=N1 h.2;omega
def ae5{base:Nat}{a:Addr}{n:Nat}{cs:List Value}(h:w.cells? base a n=U cs):cs.length=n/\∀i v,cs[i]?=U v->w.cell? (a.add i)=U v:=by
 unfold World.cells? at h;split at h
 .have key:∀(l:List Nat)(cs:List Value),l.mapM (λi=>w.cell? (a.add i))=U cs->cs.length=l.length/\∀(i:Nat)(v:Value)(k:Nat),cs[i]?=U v->l[i]?=U k->w.cell? (a.add k)=U v:=by
   intro l;induction l with
   |nil=>simp
   |cons x l ih=>
    intro cs h;rw[aAN]at h;simp only[Option.pure_def,Option.bind_eq_bind,IS]at h;obtain⟨v,hv,vs,hvs,h⟩:=h;simp only[tc]at h;subst h;have⟨h1,h2⟩:=ih vs hvs;refine⟨by simp[h1],λi u k hi hk=>?_⟩;cases i with
    |zero=>simp at hi hk;subst hi;subst hk;exact hv
    |succ i=>exact h2 i u k (by simpa using hi) (by simpa using hk)
  obtain⟨h1,h2⟩:=key _ _ h;simp at h1;refine⟨h1,λi v hi=>h2 i v i hi ?_⟩;exact azz (by have:=(No.1 hi).1;omega)
 .cases h
variable{v:Value}
def OQ{a:Addr}(h:w.cell? a=U v):cellAt (nO w) a.block a.off=U v:=by
 unfold World.cell? at h;unfold cellAt nO;split at h
 .rename_i hb;split at h
  .cases h
  .rw[hb];exact h
 .cases h
def ahY{M:Nat}:∀(d:Nat)(t:TypeId)(cs:List Value)(fuel:Nat)(x:DataW H×List MemPlace),An P d t=Y->DataW.trod enc P w 0 spare held fuel t cs=U x->(M=maxLen\/eE x.1<=M)->∃ps,ps.length=cs.length/\gU M P d t ps/\MA P w ps cs:=by
 intro d;induction d with
 |zero=>intro t cs fuel x h;cases h
 |succ d ih=>
  intro t cs fuel x hp h hB;unfold An at hp;split at hp
  next hu=>obtain⟨b,rfl,_⟩:=DataW.trod_bool hu h;exact⟨[.bool b],rfl,by unfold gU;rw[hu];exact⟨b,rfl⟩,.one .bool rfl⟩
  next k hu=>obtain⟨n,rfl,_,hw⟩:=DataW.trod_int hu h;exact⟨[.int k n],rfl,by unfold gU;rw[hu];exact⟨n,rfl,hw⟩,.one (.int hw) rfl⟩
  .rename_i hu;obtain⟨s,rfl,hx,hw⟩:=DataW.trod_string hu h;have hlen:s.data.toList.length<=M:=by
    rcases hB with hB|hB
    .subst hB;simpa using hw
    .rw[hx]at hB;simp only[eE]at hB;omega
   refine⟨[.str s.data.toList],rfl,by unfold gU;rw[hu];exact⟨_,rfl,hlen⟩,.one ?_ rfl⟩;exact aH.str (P:=P) (μ:=nO w) (s:=s.data.toList) (by simpa using hw)
  .rename_i e hu;simp only[T1,ayj]at hp;obtain⟨⟨XB,fa⟩,X1⟩:=hp;rw[azt]at fa;have X1:aS P e=Y\/bq P e=1:=X1.imp id T0;rcases DataW.trod_slice hu h with⟨rfl,_⟩|⟨a,len,cap,elems,rest,n,_,rfl,hx,_,hlc,hcm,PO,fG,_⟩
   .exact⟨[.rs (bq P e) []],rfl,by unfold gU;rw[hu];exact⟨[],rfl,ae,ae⟩,.one .pj rfl⟩
   .have each:∀i,i<len->∃qs ci,ci.length=bq P e/\(∀j v,ci[j]?=U v->w.cell? ((a.add (i*bq P e)).add j)=U v)/\qs.length=bq P e/\gU M P d e qs/\MA P w qs ci:=by intro i hi;have h1:=fG i hi;rw[ta aa]at h1;have⟨ci,hci,htr⟩:=IS.1 h1;have⟨c1,c2⟩:=ae5 hci;obtain⟨qs,q1,q2,q3⟩:=ih e ci n _ XB htr (hB.imp id λhb=>by rw[hx]at hb;simp only[eE]at hb;have:=Lb (ayl.2 ⟨_,alx (aa:i<elems.length),rfl⟩:(elems[i]'(aa)).1∈elems.map (·.1));omega);exact⟨qs,ci,c1,c2,by rw[q1,c1];rfl,q2,q3⟩
    have hch:∃f:Nat->List PV×List Value,∀i,i<len->(f i).2.length=bq P e/\(∀j v,(f i).2[j]?=U v->w.cell? ((a.add (i*bq P e)).add j)=U v)/\(f i).1.length=bq P e/\gU M P d e (f i).1/\MA P w (f i).1 (f i).2:=by refine⟨λi=>if h:i<len then((each i h).choose,(each i h).choose_spec.choose)else([],[]),λi hi=>?_⟩;simp only[aBu hi];exact(each i hi).choose_spec.choose_spec
    obtain⟨f,hf⟩:=hch;have W2:∀i x,((I len).map λi=>KA (aS P e) (f i).1)[i]?=U x->i<len/\x=KA (aS P e) (f i).1:=λi x hx=>by
     rw[AT]at hx;obtain⟨k,hk,rfl⟩:=asI.1 hx;have bX:i<len:=by have:=(No.1 hk).1;simpa using this
     rw[azz bX]at hk;simp at hk;subst hk;exact⟨bX,rfl⟩
    have hlen:((I len).map λi=>KA (aS P e) (f i).1).length=len:=ae
    refine⟨[.rs (bq P e) ((I len).map λi=>KA (aS P e) (f i).1)],rfl,?_,.one ?_ rfl⟩
    .unfold gU;rw[hu];refine⟨_,rfl,by
      rw[hlen];rcases hB with hB|hB
      .omega
      .rw[hx]at hB;simp only[eE]at hB;have:=X0 (elems.map (·.1));rw[te]at this;omega,λx hx=>?_⟩
     have⟨i,hi⟩:=ayV hx;obtain⟨bX,rfl⟩:=W2 i x hi;exact⟨_,rfl,(hf i bX).2.2.1,(hf i bX).2.2.2.1⟩
    .by_cases h0:len=0
     .subst h0;exact aH.WW (P:=P) (μ:=nO w) hcm
     .have am2:a.spot=none:=by have⟨c1,c2,c3,_⟩:=hf 0 aa;have h1:(f 0).2[0]?=U ((f 0).2[0]'(aa)):=ta aa;have:=World.cell?_spot (c2 0 _ h1);simpa[Addr.add]using this
      obtain⟨b,o,sp⟩:=a;simp only at am2;subst am2;have EB:∀i x,((I len).map λi=>KA (aS P e) (f i).1)[i]?=U x->i<len/\x.cells=(f i).1:=λi x hx=>by obtain⟨bX,rfl⟩:=W2 i x hx;exact⟨bX,ae4 X1 (hf i bX).2.2.2.1 (hf i bX).2.2.1⟩
      have hX:∀i x j p,((I len).map λi=>KA (aS P e) (f i).1)[i]?=U x->x.cells[j]?=U p->(f i).1[j]?=U p/\(f i).2[j]?=U ((f i).2.getD j undef):=λi x j p hx hj=>by
       have⟨bX,hc⟩:=EB i x hx;rw[hc]at hj;refine⟨hj,?_⟩;have⟨c1,c2,c3,_⟩:=hf i bX;have:j<(f i).2.length:=by have:=(No.1 hj).1;omega
       rw[ta this];simp[List.getD,this]
      have:=aH.rs (P:=P) (μ:=nO w) (sz:=bq P e) (es:=(I len).map λi=>KA (aS P e) (f i).1) (b:=b) (o:=o) (cap:=cap) (λi j=>(f i).2.getD j undef) (by rw[hlen];exact hlc) hcm (λi x hx=>by have⟨bX,hc⟩:=EB i x hx;rw[hc];exact(hf i bX).2.2.1) (λi x j p hx hj=>by
        have⟨h1,h2⟩:=hX i x j p hx hj;have h3:=(hf i (EB i x hx).1).2.1 j _ h2;have h4:=OQ h3;rw[Addr.add_mid,Addr.add_mid]at h4;exact h4)
       (λi x j p hx hj=>by have⟨h1,h2⟩:=hX i x j p hx hj;exact((hf i (EB i x hx).1).2.2.2.2 j p _ h1 h2).1)
       (λi x j p hx hj=>by have⟨h1,h2⟩:=hX i x j p hx hj;exact((hf i (EB i x hx).1).2.2.2.2 j p _ h1 h2).2)
      rw[hlen]at this;exact this
  .rename_i fs hu;obtain⟨xs,n,_,hx,vR,PL,hfs⟩:=DataW.trod_struct hu h;have vR:cs.length=bq P t:=vR;have key:∀(l:List Field)(off:Nat),(∀f∈l,∃y,DataW.trod enc P w 0 spare held n f.type ((cs.drop f.offset).take (bq P f.type))=U y/\(M=maxLen\/eE y.1<=M))->Am P (An P d) (bq P t) l off=Y->∃ps,ps.length=cs.length-off/\DM P (gU M P d) l ps/\MA P w ps (cs.drop off):=by
    intro l;induction l with
    |nil=>intro off _ gW;have:=T0 gW;exact⟨[],ah,rfl,by intro i p v hp;simp at hp⟩
    |cons f l ihl=>
     intro off hf gW;simp only[Am,T1]at gW;obtain⟨⟨aes,hpf⟩,gW⟩:=gW;have aes:=T0 aes;have⟨y,hy,hyB⟩:=hf f ae;rw[aes]at hy;have hle:=N1 gW;obtain⟨a,a1,a2,a3⟩:=ih f.type _ n y hpf hy hyB;obtain⟨b,b1,b2,b3⟩:=ihl _ (λg hg=>hf g (by simp[hg])) gW;have OY:a.length=bq P f.type:=by rw[a1];simp;omega
     refine⟨a++b,by simp[OY,b1];omega,⟨a,b,rfl,OY,a2,b2⟩,MA.append (n:=bq P f.type) a3 (by rw[azN];exact b3) OY⟩
   obtain⟨ps,p1,p2,p3⟩:=key fs.toList 0 (λf hf=>by
    have⟨i,hi⟩:=ayV hf;have sC:fs[i]?=U f:=by rw[<-ayQ];exact hi
    have h1:=hfs i f sC;have bX:i<xs.length:=by have:=(auA.1 sC).1;omega
    rw[ta bX]at h1;exact⟨_,h1,hB.imp id λhb=>by rw[hx]at hb;simp only[eE]at hb;have:=Lb (ayl.2 ⟨_,alx bX,rfl⟩:(xs[i]).1∈xs.map (·.1));omega⟩) hp
   exact⟨ps,by simpa using p1,by unfold gU;rw[hu];exact p2,by simpa using p3⟩
  .rename_i n e hu;simp only[T1]at hp;obtain⟨XB,sB⟩:=hp;have sB:=T0 sB;obtain⟨xs,m,_,hx,vR,PL,hfs⟩:=DataW.trod_array hu h;have vR:cs.length=bq P t:=vR;have key:∀(k i:Nat),i+k=n->∃ps,ps.length=cs.length-i*bq P e/\ahX (gU M P d e) (bq P e) k ps/\MA P w ps (cs.drop (i*bq P e)):=by
    intro k;induction k with
    |zero=>
     intro i hi;have:i=n:=aa
     subst this;exact⟨[],ah,rfl,by intro i p v hp;simp at hp⟩
    |succ k ihk=>
     intro i hi;have h1:=hfs i aa;rw[ta aa]at h1;obtain⟨a,a1,a2,a3⟩:=ih e _ m _ XB h1 (hB.imp id λhb=>by rw[hx]at hb;simp only[eE]at hb;have:=Lb (ayl.2 ⟨_,alx (aa:i<xs.length),rfl⟩:(xs[i]'(aa)).1∈xs.map (·.1));omega);have⟨b,b1,b2,b3⟩:=ihk (i+1) aa;have FT:i*bq P e+bq P e<=cs.length:=by rw[vR,<-sB];have:(i+1)*bq P e<=n*bq P e:=ax8 _ aa;rw[ayX]at this;omega
     have OY:a.length=bq P e:=by rw[a1];show((cs.drop (i*bq P e)).take (bq P e)).length=bq P e;simp;omega
     refine⟨a++b,by simp[OY,b1,ayX];omega,⟨a,b,rfl,OY,a2,b2⟩,MA.append (n:=bq P e) a3 ?_ OY⟩;rw[azN];rw[ayX,Nat.one_mul]at b3;exact b3
   have⟨ps,p1,p2,p3⟩:=key n 0 aa;exact⟨ps,by simpa using p1,by unfold gU;rw[hu];exact p2,by simpa using p3⟩
  .cases hp
variable{places:List MemPlace}
def ahZ{M d:Nat}{t:TypeId}{y:DataW H}{r:Reach}{b0:Nat}(hp:An P (d+1) t=Y)(gW:Value.okWide P w r b0 t v)(h:DataW.Trod enc P w 0 spare held t v y places)(hB:M=maxLen\/eE y<=M):∃ps,gU M P (d+1) t ps/\aH P (nO w) (KA (aS P t) ps) v:=by
 obtain⟨fuel,hf⟩:=h;obtain⟨ps,p1,p2,p3⟩:=ahY (M:=M) (d+1) t _ fuel _ hp hf hB;refine⟨ps,p2,?_⟩;have agg:aS P t=Y->(∃cs,v=.agg cs)->aH P (nO w) (KA (aS P t) ps) v:=by
  rintro ha ⟨cs,rfl⟩;rw[ha];simp only[Value.cells]at p1 p3;exact .agg (by simpa using p1) (λi p x hi hx=>(p3 i p x hi (by rw[ayQ];exact hx)).1) λi x hx=>by
   have bX:i<ps.length:=by have:=(auA.1 hx).1;simp at p1;omega
   exact(p3 i _ x (ta bX) (by rw[ayQ];exact hx)).2
 have one:aS P t=J->v.cells= #[v]->(∃p,ps=[p])->aH P (nO w) (KA (aS P t) ps) v:=by rintro ha hv ⟨p,rfl⟩;rw[ha];exact(p3 0 p v rfl (by rw[hv];rfl)).1
 unfold An at hp;unfold gU at p2;split at hp
 next hu=>rw[hu]at p2;obtain⟨b,hb⟩:=WideShapes.okWide_bool hu gW;subst hb;obtain⟨b',mH⟩:=p2;exact one (by simp[aS,hu]) rfl ⟨_,mH⟩
 next k hu=>rw[hu]at p2;obtain⟨b,hb⟩:=WideShapes.okWide_int hu gW;subst hb;obtain⟨b',mH,_⟩:=p2;exact one (by simp[aS,hu]) rfl ⟨_,mH⟩
 next hu=>rw[hu]at p2;obtain⟨b,hb⟩:=WideShapes.okWide_string hu gW;subst hb;obtain⟨b',mH,_⟩:=p2;exact one (by simp[aS,hu]) rfl ⟨_,mH⟩
 next e hu=>rw[hu]at p2;obtain⟨a,len,cap,hb⟩:=WideShapes.okWide_slice hu gW;subst hb;obtain⟨b',mH,_⟩:=p2;exact one (by simp[aS,hu]) rfl ⟨_,mH⟩
 next fs hu=>refine agg (by simp[aS,hu]) ?_;simp only[Value.okWide,hu]at gW;obtain⟨cs,St,_⟩:=gW;exact⟨cs,St⟩
 next n e hu=>refine agg (by simp[aS,hu]) ?_;simp only[Value.okWide,hu]at gW;obtain⟨cs,St,_⟩:=gW;exact⟨cs,St⟩
 .cases hp
def adh{d:Nat}{t:TypeId}{y:DataW H}{r:Reach}{b0:Nat}(hp:An P (d+1) t=Y)(gW:Value.okWide P w r b0 t v)(h:DataW.Trod enc P w 0 spare held t v y places):∃ps,Shp P (d+1) t ps/\aH P (nO w) (KA (aS P t) ps) v:=ahZ hp gW h (.inl rfl)
end
end Go.Ab
namespace Go.Ab
theorem ab{A B:Type}(a:A)(f:A->Option B):(U a).bind f=f a:=by
 have h:∀o:Option A,o=U a->o.bind f=f a:=λo ho=>by subst ho;rfl
 exact h _ rfl
variable{S R:Type}
theorem kC(body:S->(S->Option R)->Option R)(s:S):cD.run body s=bT body rounds s:=rfl
def agY{body:S->(S->Option R)->Option R}(st:Nat->S)(n:Nat){r:Option R}(wX:∀k,k<n->∀rec,body (st k) rec=rec (st (k+1)))(sx:∀rec,body (st n) rec=r):∀(j N:Nat),j<=n->n<N+j->bT body N (st j)=r:=by
 intro j N;induction N generalizing j with
 |zero=>intro h1 h2;omega
 |succ N ih=>
  intro h1 h2;simp only[bT];by_cases h:j=n
  .subst h;exact sx _
  .rw[wX j aa];exact ih (j+1) aa aa
def aM{body:S->(S->Option R)->Option R}(st:Nat->S)(n:Nat){r:Option R}(wX:∀k,k<n->∀rec,body (st k) rec=rec (st (k+1)))(sx:∀rec,body (st n) rec=r)(hn:n<rounds){s0:S}(h0:st 0=s0):cD.run body s0=r:=by rw[<-h0];exact agY st n wX sx 0 rounds aa aa
def af(es:List PV)(k:Nat):uW es (k:Int)=es[k]?:=by simp[uW]
theorem bJ{x:Int}(h1: -9223372036854775808<=x)(h2:x<=9223372036854775807):C .i64 x=x:=IntWalk.i64_in _ ⟨h1,h2⟩
theorem ag{k:Nat}(h:k<9223372036854775807):C .i64 ((k:Int)+1)=((k+1:Nat):Int):=by rw[bJ aa aa];omega
theorem ax:maxLen<=9223372036854775807:=bj
theorem aP:maxLen+1<rounds:=bj
def S1{body:S->(S->Option R)->Option R}(st:Nat->S)(n:Nat)(bad:Nat->Option (Option R)){fin:Option R}(h:∀k,k<n->∀rec,body (st k) rec=match bad k with|some r=>r|none=>rec (st (k+1)))(sx:∀rec,body (st n) rec=fin)(hn:n<rounds){s0:S}(h0:st 0=s0):cD.run body s0=match(I n).findSome? bad with|some r=>r|none=>fin:=by
 have key:∀(m j N:Nat),j+m=n->m<N->bT body N (st j)=match(List.range' j m).findSome? bad with|some r=>r|none=>fin:=by
  intro m;induction m with
  |zero=>
   intro j N hj hN;cases N with
   |zero=>omega
   |succ N=>
    simp only[bT,List.range'_zero,aAK];have:j=n:=aa
    subst this;exact sx _
  |succ m ih=>
   intro j N hj hN;cases N with
   |zero=>omega
   |succ N=>
    simp only[bT,aAc,ay5];rw[h j aa];cases hb:bad j with
    |some r=>rfl
    |none=>exact ih (j+1) N aa aa
 rw[<-h0,kC,key n 0 rounds aa hn,az5]
def Pz{A B:Type}(f:A->Option B):∀(l:List A),(I l.length).findSome? (λk=>(l[k]?).bind f)=l.findSome? f:=by
 have key:∀(l pre:List A),(List.range' pre.length l.length).findSome? (λk=>((pre++l)[k]?).bind f)=l.findSome? f:=by
  intro l;induction l with
  |nil=>intro pre;rfl
  |cons x l ih=>
   intro pre;simp only[al6,aAc,ay5];have h1:(pre++x::l)[pre.length]?=U x:=ae
   rw[h1];simp only[ayg];cases f x with
   |some b=>rfl
   |none=>have:=ih (pre++[x]);simpa using this
 intro l;have:=key l [];rw[az5];simpa using this
def nN{P:Prop}(h:P:=by have:=aP;omega):P:=h
def sH{P:Prop}(h:P:=by grind [bJ]):P:=h
end Go.Ab
namespace Go.Ab
def ints(ns:List Int):List PV:=ns.map (.int .i64)
structure Qx(xh:List PV->PV->PV->Option PV)(ns XW:List Int)(cf:Int->Int->Int):Prop where
 perm:XW.Perm ns
 reads:∀c:List Int,c.length=ns.length->(∀x∈c,x∈ns)->∀a∈ns,∀b∈ns,xh (ints c) (.int .i64 a) (.int .i64 b)=U (.int .i64 (cf a b))
 irrefl:∀a∈ns,¬cf a a<0
 trans:∀a∈ns,∀b∈ns,∀c∈ns,cf a b<0->cf b c<0->cf a c<0
 total:∀a∈ns,∀b∈ns,¬cf a b<0->¬cf b a<0->a=b
 sorted:XW.Pairwise λa b=>¬cf b a<0
def Qx.unique{xh:List PV->PV->PV->Option PV}{ns n1 n2:List Int}{c1 c2:Int->Int->Int}(h1:Qx xh ns n1 c1)(h2:Qx xh ns n2 c2):n1=n2:=by
 have hc:∀a∈ns,∀b∈ns,c1 a b=c2 a b:=λa ha b hb=>by have e1:=h1.reads ns rfl (λ_ h=>h) a ha b hb;have e2:=h2.reads ns rfl (λ_ h=>h) a ha b hb;rw[e1]at e2;simpa using e2
 refine aAQ (le:=λa b=>¬c1 b a<0) (λa b ha hb h h'=>?_) h1.sorted ?_ (h1.perm.trans h2.perm.symm)
 .exact h1.total a (h1.perm.mem_iff.1 ha) b (h2.perm.mem_iff.1 hb) h' h
 .refine h2.sorted.imp_of_mem λ{a b}ha hb h=>?_;rw[hc b (h2.perm.mem_iff.1 hb) a (h2.perm.mem_iff.1 ha)];exact h
end Go.Ab
namespace Go.Ab
def am1:PV->Bool
 |.int _ _=>Y
 |.bool _=>Y
 |.str _=>Y
 |_=>J
def IZ(r:List PV):PV:=.agg r
def gx(ns:List (List PV)):List PV:=ns.map IZ
structure oG(k:Nat)(xh:List PV->PV->PV->Option PV)(ns XW:List (List PV))(cf:List PV->List PV->Int):Prop where
 len:∀a∈ns,a.length=k
 aeD:∀a∈ns,∀p∈a,am1 p=Y
 perm:XW.Perm ns
 reads:∀c:List (List PV),c.length=ns.length->(∀x∈c,x∈ns)->∀a∈ns,∀b∈ns,xh (gx c) (IZ a) (IZ b)=U (.int .i64 (cf a b))
 irrefl:∀a∈ns,¬cf a a<0
 trans:∀a∈ns,∀b∈ns,∀c∈ns,cf a b<0->cf b c<0->cf a c<0
 total:∀a∈ns,∀b∈ns,¬cf a b<0->¬cf b a<0->a=b
 sorted:XW.Pairwise λa b=>¬cf b a<0
variable{xh:List PV->PV->PV->Option PV}{ns:List (List PV)}
def oG.unique{k:Nat}{n1 n2:List (List PV)}{c1 c2:List PV->List PV->Int}(h1:oG k xh ns n1 c1)(h2:oG k xh ns n2 c2):n1=n2:=by
 have hc:∀a∈ns,∀b∈ns,c1 a b=c2 a b:=λa ha b hb=>by have e1:=h1.reads ns rfl (λ_ h=>h) a ha b hb;have e2:=h2.reads ns rfl (λ_ h=>h) a ha b hb;rw[e1]at e2;simpa using e2
 refine aAQ (le:=λa b=>¬c1 b a<0) (λa b ha hb h h'=>?_) h1.sorted ?_ (h1.perm.trans h2.perm.symm)
 .exact h1.total a (h1.perm.mem_iff.1 ha) b (h2.perm.mem_iff.1 hb) h' h
 .refine h2.sorted.imp_of_mem λ{a b}ha hb h=>?_;rw[hc b (h2.perm.mem_iff.1 hb) a (h2.perm.mem_iff.1 ha)];exact h
noncomputable def GO(k:Nat)(xh:List PV->PV->PV->Option PV)(es:List PV):Option (List PV):=if es.isEmpty=Y then U []else @dite _ (∃ns XW,es=gx ns/\∃cf,oG k xh ns XW cf) (Classical.propDecidable _) (λh=>U (gx (Classical.choose (Classical.choose_spec h)))) λ_=>Z
def TM{k:Nat}{es es':List PV}(h:GO k xh es=U es'):∃ns XW cf,es=gx ns/\es'=gx XW/\oG k xh ns XW cf:=by
 unfold GO at h;split at h
 .rename_i he;cases h;have he:es=[]:=by simpa using he
  subst he;exact⟨[],[],λ_ _=>0,rfl,rfl,{len:=λa ha=>(by cases ha),aeD:=λa ha=>(by cases ha),perm:=List.Perm.refl _,reads:=λ_ _ _ a ha=>(by cases ha),irrefl:=λa ha=>(by cases ha),trans:=λa ha=>(by cases ha),total:=λa ha=>(by cases ha),sorted:=List.Pairwise.nil}⟩
 split at h
 next hh=>obtain⟨e,cf,hf⟩:=Classical.choose_spec (Classical.choose_spec hh);simp only[tc]at h;exact⟨_,_,cf,e,h.symm,hf⟩
 .cases h
def TN:∀{a b:List (List PV)},gx a=gx b->a=b
 |[],[],_=>rfl
 |[],_::_,h=>by simp[gx]at h
 |_::_,[],h=>by simp[gx]at h
 |x::a,y::b,h=>by simp only[gx,IZ,ayb,ayW,PV.agg.injEq]at h;rw[h.1,TN h.2]
def ae3{k:Nat}{XW:List (List PV)}{cf:List PV->List PV->Int}(h:oG k xh ns XW cf):GO k xh (gx ns)=U (gx XW):=by
 have hh:∃n n',gx ns=gx n/\∃cf,oG k xh n n' cf:=⟨ns,XW,rfl,cf,h⟩;cases hs:GO k xh (gx ns)with
 |none=>
  exfalso;unfold GO at hs;split at hs
  .cases hs
  simp[hh]at hs
 |some es'=>have⟨n,n',c,e1,e2,hf⟩:=TM hs;have e1:=TN e1;subst e1;subst e2;rw[hf.unique h]
noncomputable def Iy(kk:Nat)(clo:FuncId->Option (List PV->Option PV)):(R:Type)->List V->Fr->Mem->(V->Fr->Mem->Option R)->Option R:=
 λ_ args f m k=>match args with
 |[.os id,.fn g caps]=>match m id with
  |some (.arr sz et es)=>match clo g with
   |some M=>if sz=kk/\es.length<=au/\Nat.blt g Pg=Y then(GO kk (λc a b=>(xK (pg (aO m id (.arr kk et c)) gr) caps).bind λps=>M (a::b::ps)) es).bind λes'=>k (.b8 []) f (aO m id (.arr kk et es'))else Z
   |none=>Z
  |_=>Z
 |_=>Z
end Go.Ab
namespace Go.Ab
open Go.Proofs Go.Shelf
set_option maxRecDepth 100000
section
variable {P:Program} {G:Nat->Option (List PV)} {w0:bI} {μ:Ro} {φ:Nat->aT} {m:Mem} {w w':World}
def ahW(h:ou w.heap.size w w'):∃q os',w'=Go.Sort.grow (w.drewN q) os':=by refine⟨w'.drawn-w.drawn,w'.heap.extract w.heap.size w'.heap.size,?_⟩;have hd:=h.drawn rfl;have hs:=h.size;obtain⟨h1,t1,d1,o1,u1⟩:=w;obtain⟨h2,t2,d2,o2,u2⟩:=w';have e1:=h.os;have e2:=h.tape;have e3:=h.output;have e4:=h.block;simp only at hd hs e1 e2 e3 e4;subst e1;subst e2;subst e3;unfold Go.Sort.grow World.drewN;simp only[World.mk.injEq,aBn,true_and];grind
def aR.later(hM:aR P G w0 μ φ m w)(hb:ou w.heap.size w w'):aR P G w0 μ φ m w':=by
 refine⟨hM.below.trans (hb.mono hM.below.size),λb o h=>?_,hM.aQ,λid b h=>?_,hM.own,hM.inj,hM.apart,hM.hU,hM.base,hM.eF,λid st h=>?_,λk o h=>⟨by rw[hb.block k (auA.1 (hM.hid k o h).1).1];exact(hM.hid k o h).1,(hM.hid k o h).2⟩⟩
 rotate_right
 .obtain⟨g,rc,h1,h2,h3⟩:=hM.L2 id st h;exact⟨g,rc,h1,h2,by rw[hb.block g (auA.1 h3).1];omega⟩
 .have:=hM.ro b o h;rw[hb.block b (auA.1 this).1];omega
 .have hR:=hM.eE id b h;exact hR.dd (λ_ _=>rfl) rfl (λ_ _ h=>h) (λg hg=>hb.block g (hR.ON hg))
def aR.row{α:Type}[Inhabited α](enc:α->Value)(val:α->Int)(aoh:∀x,enc x=.int .i64 (val x))(Tb:∀x,(Lit.int .i64 (val x)).wf=Y)(hM:aR P G w0 μ φ m w){id g:Nat}{et:TypeId}{es:List PV}(hm:m id=U (.arr 1 et es))(hg:(φ id).g=U g)(mm:Nat)(os:Array Obj)(dk:Array α)(hd:dk.size=es.length):aR P G w0 μ φ (aO m id (.arr 1 et (ints (dk.toList.map val)))) (sortWorld enc w g 0 mm dk os):=by
 have hA:=hM.eE id _ hm;have hA:ba P μ φ w id 1 et es:=hA;obtain⟨a1,a2,a3,a4,a5,a6,a7⟩:=hA;rw[hg]at a7;obtain⟨c,T,c1,c2,c3,c4,c5⟩:=a7;have awl:g<w.heap.size:=(auA.1 c1).1;have XX:∀k,(Go.Sort.putRow enc (Go.Sort.ahead w mm) g 0 dk).heap[k]?=if k=g then U (.cells (Go.Sort.putCells enc 0 dk c) T (0,0))else w.heap[k]?:=λk=>by
  unfold Go.Sort.putRow Go.Sort.mapBlock Go.Sort.ahead;simp only[azH];by_cases e:g=k
  .simp_all[Go.Sort.onCells]
  grind
 have St:(Go.Sort.putCells enc 0 dk c).size=c.size:=by simp[Go.Sort.putCells]
 have KT:∀k,k<dk.size->(Go.Sort.putCells enc 0 dk c)[k]?=U (enc dk[k]!):=λk hk=>by grind [Go.Sort.putCells,Array.getElem?_eq_getElem]
 have hlen:(ints (dk.toList.map val)).length=es.length:=by simp[ints,hd]
 have fG:∀(i:Nat)e,(ints (dk.toList.map val))[i]?=U e->i<dk.size/\e=.int .i64 (val dk[i]!):=λi e he=>by simp only[ints,azI,AT,asI]at he;grind
 have h1:aR P G w0 μ φ (aO m id (.arr 1 et (ints (dk.toList.map val)))) (Go.Sort.putRow enc (Go.Sort.ahead w mm) g 0 dk):=by
  refine hM.write hm rfl hg ⟨⟨rfl,rfl,rfl,?_,λk hk=>?_⟩,?_⟩ ?_ (λk hk=>?_) ?_ rfl gu
  .simp_all
  .grind
  .simp_all
  .simp_all
  .rw[XX k,IT hk]
  .show ba P μ φ _ id 1 et _;refine⟨aa,a2,a3,a4,λi e he=>?_,a6,?_⟩
   .obtain⟨_,rfl⟩:=fG i e he;rfl
   .rw[hg];refine⟨_,T,by rw[XX g,BY rfl],aa,aa,λi e j p x he hp hx=>?_,λi x hi hx=>?_⟩
    .obtain⟨hi,rfl⟩:=fG i e he;have hj:j=0/\p=.int .i64 (val dk[i]!):=by
      cases j with
      |zero=>simp[PV.cells]at hp;exact⟨rfl,hp.symm⟩
      |succ j=>simp[PV.cells]at hp
     obtain⟨rfl,rfl⟩:=hj;rw[Nat.mul_one,az4,KT i hi]at hx;simp only[tc]at hx;subst hx;rw[aoh];exact .int (Tb _)
    .rw[hlen,Nat.mul_one]at hi;rw[KT i aa]at hx;simp only[tc]at hx;subst hx;rw[aoh];rfl
 refine h1.later ?_;refine⟨⟨rfl,rfl,rfl,?_,λk hk=>?_⟩,λ_=>ayd _⟩
 .simp[sortWorld,Go.Sort.grow]
 simp_all[sortWorld,Go.Sort.grow,azi]
end
def XY{m:Mem}{id:Nat}{b:cS}(h:m id=U b):aO m id b=m:=by funext j;grind [id,bV,aN]
end Go.Ab
namespace Go.Ab
open Go.Proofs Go.Shelf
set_option maxRecDepth 100000
section
variable {P:Program} {G:Nat->Option (List PV)} {w0:bI} {μ:Ro} {φ:Nat->aT} {m:Mem} {w w':World}
def Al:PV->Value
 |.int k n=>.int k n
 |.bool b=>.bool b
 |.str s=>.string ⟨s.toArray⟩
 |_=>.bool J
def ahV{p:PV}{x:Value}(h:aH P μ p x)(hs:am1 p=Y):x=Al p/\(∀μ',aH P μ' p (Al p))/\(Al p).oneCell'=true:=by
 cases h<;>first|(cases hs;done)|skip
 .exact⟨rfl,λ_=>.int ‹_›,rfl⟩
 .exact⟨rfl,λ_=>.bool,rfl⟩
 .exact⟨rfl,λ_=>.str ‹_›,rfl⟩
def aR.awk{α:Type}[Inhabited α](kk:Nat)(hk0:0<kk)(enc:α->List Value)(val:α->List PV)(aoh:∀x,enc x=(val x).map Al)(Tx:∀x,(val x).length=kk)(Tb:∀x,∀p∈val x,aH P μ p (Al p)/\(Al p).oneCell'=Y)(hM:aR P G w0 μ φ m w){id g:Nat}{et:TypeId}{es:List PV}(hm:m id=U (.arr kk et es))(hg:(φ id).g=U g)(mm:Nat)(os:Array Obj)(dk:Array α)(hd:dk.size=es.length):aR P G w0 μ φ (aO m id (.arr kk et (gx (dk.toList.map val)))) (sortWorldK enc kk w g 0 mm dk os):=by
 have hA:=hM.eE id _ hm;have hA:ba P μ φ w id kk et es:=hA;obtain⟨a1,a2,a3,a4,a5,a6,a7⟩:=hA;rw[hg]at a7;obtain⟨c,T,c1,c2,c3,c4,c5⟩:=a7;have awl:g<w.heap.size:=(auA.1 c1).1;obtain⟨F,hF⟩:∃F,F=Go.Sort.flatK enc kk dk:=⟨_,rfl⟩;have hFs:F.size=dk.size*kk:=by rw[hF];simp
 have XX:∀k,(Go.Sort.putRow _root_.id (Go.Sort.ahead w mm) g 0 F).heap[k]?=if k=g then U (.cells (Go.Sort.putCells _root_.id 0 F c) T (0,0))else w.heap[k]?:=λk=>by
  unfold Go.Sort.putRow Go.Sort.mapBlock Go.Sort.ahead;simp only[azH];by_cases e:g=k
  .simp_all[Go.Sort.onCells]
  grind
 have St:(Go.Sort.putCells _root_.id 0 F c).size=c.size:=by simp[Go.Sort.putCells]
 have za:dk.size*kk<=c.size:=ayn (ax8 _ aa) c2;have KT:∀k,k<dk.size*kk->(Go.Sort.putCells _root_.id 0 F c)[k]?=U ((enc dk[k/kk]!)[k%kk]!):=λk hk=>by
  unfold Go.Sort.putCells;rw[Array.getElem?_mapIdx];have hkc:k<c.size:=aa
  rw[aq5 hkc];simp only[IN,aAk,azf,true_and,hFs,hk,By,aBo,_root_.id_eq];grind [Go.Sort.get_flatK]
 have hlen:(gx (dk.toList.map val)).length=es.length:=by simp[gx,hd]
 have fG:∀(i:Nat)e,(gx (dk.toList.map val))[i]?=U e->i<dk.size/\e=IZ (val dk[i]!):=λi e he=>by simp only[gx,azI,AT,asI]at he;grind
 have hec:∀x:α,∀j,j<kk->∃n,(enc x)[j]! =Al n/\(val x)[j]?=U n/\n∈val x:=λx j hj=>by
  have W3:j<(val x).length:=by rw[Tx];omega
  refine⟨(val x)[j],?_,ta W3,alx W3⟩;simp_all
 have h1:aR P G w0 μ φ (aO m id (.arr kk et (gx (dk.toList.map val)))) (Go.Sort.putRow _root_.id (Go.Sort.ahead w mm) g 0 F):=by
  refine hM.write hm rfl hg ⟨⟨rfl,rfl,rfl,?_,λk hk=>?_⟩,?_⟩ ?_ (λk hk=>?_) ?_ rfl gu
  .simp[Go.Sort.putRow,Go.Sort.mapBlock,Go.Sort.ahead]
  .grind
  .simp[Go.Sort.putRow,Go.Sort.mapBlock,Go.Sort.ahead]
  .simp[Go.Sort.putRow,Go.Sort.mapBlock,Go.Sort.ahead]
  .rw[XX k,IT hk]
  .show ba P μ φ _ id kk et _;refine⟨aa,a2,a3,a4,λi e he=>?_,a6,?_⟩
   .obtain⟨_,rfl⟩:=fG i e he;simp[IZ,PV.cells,Tx]
   .rw[hg];refine⟨_,T,by rw[XX g,BY rfl],aa,aa,λi e j p x he hp hx=>?_,λi x hi hx=>?_⟩
    .obtain⟨hi,rfl⟩:=fG i e he;simp only[IZ,PV.cells]at hp;have hn:=hp;have hj:j<kk:=ao
     have bX:i*kk+j<dk.size*kk:=by have:(i+1)*kk<=dk.size*kk:=ax8 _ aa;grind
     rw[KT _ bX]at hx;have e1:(i*kk+j)/kk=i:=by rw[aAt,Nat.mul_add_div hk0,Nat.div_eq_of_lt hj,az4]
     grind [Nat.mul_comm,Nat.mul_add_mod,Nat.mod_eq_of_lt,Option.some.injEq]
    grind [Option.some.injEq,Nat.mod_lt]
 have h2:aR P G w0 μ φ (aO m id (.arr kk et (gx (dk.toList.map val)))) (Go.Sort.grow (Go.Sort.putRow _root_.id (Go.Sort.ahead w mm) g 0 F) os):=by
  refine h1.later ?_;refine⟨⟨rfl,rfl,rfl,?_,λk hk=>?_⟩,λ_=>ayd _⟩
  .simp[Go.Sort.grow]
  grind [Go.Sort.grow,Array.getElem?_append_left]
 rw[hF]at h2;exact h2
def Vo{P:Program}{G:Nat->Option (List PV)}{ρr:Ren}(L:SlLaysF0.n6 P ρr){gs:FuncId}(hgs:ρr.f 6=gs)(awm:∃fn c,P.funcs[gs]?=U fn/\fn.body=U c/\(fn.name== "runtime.NumGoroutine")=J){kk:Nat}(aE:∀w,(isAgg (ρr.t 24)).run P w=.ok Y w)(zE:∀w,(Go.sizeOf (ρr.t 24)).run P w=.ok kk w){clo:FuncId->Option (List PV->Option PV)}(awn:∀g M,clo g=U M->Gv P G g M){R:Type}{args:List V}{f:Fr}{m:Mem}{k:V->Fr->Mem->Option R}{r:R}(h:Iy kk clo R args f m k=U r):U3 P G gs args f m k r:=by
 unfold Iy at h;split at h
 .rename_i id gc caps;split at h
  .rename_i sz et es hm;split at h
   .rename_i M hM;split at h
    .rename_i sB;obtain⟨rfl,bG,hgb⟩:=sB;have⟨es',hs,hk⟩:=IS.1 h;have⟨ns,XW,cf,e1,e2,hf⟩:=TM hs;have⟨⟨fc,cc,fc1,fc2,fc3⟩,hMs⟩:=awn gc M hM;refine⟨awm,λw0 μ φ ρ w xs hR hF hlen nI NG=>?_⟩;have hx0:∃x0 x1,xs= #[x0,x1]:=by
      obtain⟨l⟩:=xs;match l,hlen with
      |[x0,x1],_=>simp
      |[],h=>simp at h
      |[_],h=>simp at h
      |_::_::_::_,h=>simp at h
     obtain⟨x0,x1,rfl⟩:=hx0;have r0:=nI 0 _ x0 rfl rfl;have r1:=nI 1 _ x1 rfl rfl;have hA:ba P μ φ w id sz et es:=hR.eE id _ hm;have nothing:es=[]->∀p c,x0=.slice p 0 c->Calls P gs #[x0,x1] w λe w'=>∃v f' m' y μ' φ',k v f' m'=U r/\e=.returned y/\aR P G w0 μ' φ' m' w'/\cR P μ' φ' m' f' ρ/\az P μ' φ' v y/\∀id,v.has id=Y->(m' id).isSome=true:=by
      intro he p c hx;subst hx;have Sq:ns=[]:=by simp_all[gx]
      have awo:XW=[]:=by have:=hf.perm;simp_all
      rw[e2,awo]at hk;have hme:aO m id (.arr sz et (gx []))=m:=XY (by rw[hm,he];rfl);rw[hme]at hk;rw[<-hgs];refine(AnyF.slices_SortFunc_none L p c x1 w).mono ?_;rintro e w' ⟨rfl,rfl⟩;exact⟨_,_,_,_,μ,φ,hk,rfl,hR,hF,.b8 rfl ae,λid hid=>by simp[V.has,cX]at hid⟩
     cases r0 with
     |BG hg=>obtain⟨a1,a2,a3,a4,a5,a6,a7⟩:=hA;simp_all
     | @os _ g hg=>
      have JF:=hA;obtain⟨a1,a2,a3,a4,a5,a6,a7⟩:=hA;rw[hg]at a7;obtain⟨c,T,c1,c2,c3,c4,c5⟩:=a7;by_cases W2:es=[]
      .simp_all
      have cO:ns≠[]:=λh=>W2 (by rw[e1,h];rfl);obtain⟨n0,hn0⟩:=List.exists_mem_of_ne_nil ns cO;cases r1 with
      | @fn _ _ cb axU Qy=>
       rw[zS hgb];let α:={n:List PV//n∈ns};let _:Inhabited α:=⟨⟨n0,hn0⟩⟩;let enc:α->List Value:=λx=>x.1.map Al;let cf':α->α->Int:=λx y=>cf x.1 y.1;let d:Array α:=ns.attach.toArray;have hdn:d.size=ns.length:=ao
       have hdv:d.toList.map (λx:α=>x.1)=ns:=by grind [List.attach_map_subtype_val]
       have hds:d.size=es.length:=by rw[e1,hdn];simp[gx]
       have Tx:∀x:α,x.1.length=sz:=λx=>hf.len _ x.2;have axV:ns.length*sz<=c.size:=ayn (ax8 _ aa) c2;have O1:∀(i:Nat)(r:List PV),ns[i]?=U r->∀(j:Nat)n,r[j]?=U n->i*sz+j<c.size/\c[i*sz+j]?=U (Al n)/\(∀μ',aH P μ' n (Al n))/\(Al n).oneCell'=true:=λi r hi j n hj=>by
        have hie:es[i]?=U (IZ r):=by rw[e1];simp[gx,hi]
        have NS:i<ns.length:=(No.1 hi).1;have xQ:j<sz:=ao
        have bX:i*sz+j<c.size:=by have:(i+1)*sz<=ns.length*sz:=ax8 _ aa;grind
        have:=c4 i _ j n c[i*sz+j] hie (by simp[IZ,PV.cells,hj]) (aq5 bX);rw[aq5 bX];obtain⟨v1,v2,v3⟩:=ahV this (hf.aeD _ (awU hi) _ (awU hj));grind
       have Tb:∀x:α,∀n∈x.1,(∀μ',aH P μ' n (Al n))/\(Al n).oneCell'=true:=λx n hn=>by grind [List.getElem?_of_mem]
       have hH:Go.Sort.HoldsK enc sz w g 0 d:=λt ht=>by
        have ht:t<d.size*sz:=by simpa using ht
        have hti:t/sz<d.size:=Nat.div_lt_of_lt_mul ao;have htj:t%sz<sz:=aBe _ a4;have hdj:ns[t/sz]?=U d[t/sz]!.1:=ao
        have xQ:t%sz<d[t/sz]!.1.length:=by rw[Tx];omega
        obtain⟨h1,h2,h3⟩:=O1 _ _ hdj _ _ (ta xQ);have het:t/sz*sz+t%sz=t:=by simp[aAt,Nat.div_add_mod]
        rw[het]at h1 h2;have OP:(Go.Sort.flatK enc sz d)[t]! =Al (d[t/sz]!.1[t%sz]):=by grind [Go.Sort.get_flatK,Al]
        refine⟨?_,?_⟩
        .rw[OP];simp only[World.cell?,c1,azf,h2,azp,AI,OF,_root_.id_eq]
        .simp only[World.frozen?,c1,azf];simp
       have hO:Go.Sort.SWO (ltOf cf'):=by
        refine⟨λx=>?_,λx y z h1 h2=>?_,λx y z h1 h2=>?_⟩
        .simp only[ltOf,ayv];exact hf.irrefl x.1 x.2
        .simp only[ltOf,tb]at h1 h2⊢;exact hf.trans _ x.2 _ y.2 _ z.2 h1 h2
        .simp only[ltOf,ayv]at h1 h2⊢;intro h3;by_cases h4:cf y.1 x.1<0
         .exact h2 (hf.trans _ y.2 _ x.2 _ z.2 h4 h3)
         .have:=hf.total _ x.2 _ y.2 h1 h4;grind
       have qU:=λ(mm:Nat)(os:Array Obj)(dk:Array α)(hd:dk.size=d.size)=>aR.awk sz a4 enc (λx=>x.1) (λ_=>rfl) Tx (λx p hp=>⟨(Tb x p hp).1 _,(Tb x p hp).2⟩) hR hm hg mm os dk aa;have hrp:∀x:α,aH P (λ_=>Z) (IZ x.1) (.agg (enc x).toArray):=λx=>by
        refine .agg (by simp[enc]) (λi p y hp hy=>?_) (λi y hy=>?_)
        .grind
        grind
       have awp:CmpLays P gc cb enc sz cf' g 0 d.size w:=by
        intro mm os dk hd x y;have hW:=qU mm os dk hd;have hr:=hf.reads (dk.toList.map λx=>x.1) av (λz hz=>ao) x.1 x.2 y.1 y.2;have⟨ps,u9,hMp⟩:=IS.1 hr;have⟨p1,p2⟩:=jE u9;refine(hMs _ _ hMp _ (nO _) _ (λ_ _ h=>h) (λg cs hg=>(hW.aQ g cs hg).mono hW.Ip) ah (λi q z hq hz=>?_)).mono ?_
        .match i with
         |0=>
          rw[azi ae]at hz;have e3:q=IZ x.1:=by simpa using hq.symm
          have e4:z=.agg (enc x).toArray:=by simpa using hz.symm
          rw[e3,e4];exact(hrp x).mono (λ_ _ h=>by cases h)
         |1=>
          rw[azi ae]at hz;have e3:q=IZ y.1:=by simpa using hq.symm
          have e4:z=.agg (enc y).toArray:=by simpa using hz.symm
          rw[e3,e4];exact(hrp y).mono (λ_ _ h=>by cases h)
         |i+2=>
          simp only[azV]at hq;have⟨u,hu,Et⟩:=p2 i q hq;have hz':cb[i]?=U z:=by rw[Array.getElem?_append_right ae]at hz;simpa using hz
          exact Dv hW hW.Ip (λ_ _ _ _ _=>rfl) _ Et (Qy i u z hu hz')
        .rintro e w' ⟨v,rfl,hb,hv⟩;cases hv with
         |int _=>exact⟨rfl,ahW hb⟩
       have hgl:g<w.heap.size:=(auA.1 c1).1;have acN:d.size<4611686018427387904:=W8
       have Dy:∀x:α,∀v∈enc x,v.oneCell'=true:=λx v hv=>ao
       have fO:=AnyQ.slices_SortFunc L sz aE zE enc (λx=>by simp[enc,Tx]) Dy cf' hO gc cb g 0 (φ id).cap d w (λa W=>Iw fc1 fc3 fc2) awp hH hgl acN;rw[hgs]at fO;have hx0:Value.slice (U ⟨g,0,Z⟩) (φ id).len (φ id).cap=Value.slice (U ⟨g,0,Z⟩) d.size (φ id).cap:=by rw[a1,hds]
       rw[hx0];refine fO.mono ?_;rintro e w' ⟨rfl,d',n,os,hp,hso,rfl⟩;have hW:=qU n os d' hp.1;have asf:(d'.toList.map λx=>x.1).Perm ns:=by
        have h3:=hp.2.2;have e3:d'.extract 0 d.size=d':=by rw[<-hp.1];simp
        grind
       have awq:(d'.toList.map λx=>x.1).Pairwise λa b=>¬cf b a<0:=by
        rw[aAP,ayL];intro i j hi hj hij;have sC:i<d'.size:=aa
        have W3:j<d'.size:=aa
        have:=hso i j (aAk _) hij (by rw[<-hp.1];omega);grind [ltOf,decide_eq_false_iff_not]
       have heq:(d'.toList.map λx=>x.1)=XW:=oG.unique (c1:=cf) (c2:=cf) ⟨hf.len,hf.aeD,asf,hf.reads,hf.irrefl,hf.trans,hf.total,awq⟩ hf;rw[heq,<-e2]at hW;exact⟨_,_,_,_,μ,φ,hk,rfl,hW,hF.sL (λ_ _ h=>h) (.set),.b8 rfl ae,λid hid=>by simp[V.has,cX]at hid⟩
    .cases h
   .cases h
  .cases h
 .cases h
end
end Go.Ab
