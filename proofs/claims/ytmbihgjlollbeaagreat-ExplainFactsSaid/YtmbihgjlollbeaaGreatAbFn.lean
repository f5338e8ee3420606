import Derived.Test.YtmbihgjlollbeaaGreatAbP8
set_option linter.all false
namespace Go.Ab
open Go.RowKit (Below)
section
variable {E:Env} {w0:bO}
def KG(tmps:Array Value):ResultVar→Sem Value
 |.tmp t=>pure (tmps.getD t undef)
 |.cell a t=>do loadVar t (←asAddr (tmps.getD a undef))
theorem CD{R:Type}{f:Fr}{m:Mem}{μ:Ro}{φ:Nat→aP}{a:Act}{w:World}(hR:Rel E.P E.aW E.fn.ntmps w0 μ φ f m a w):∀(rs:List ResultVar){k:List V→Option R}{r:R},GK E f m rs k=some r→∃(vs:List V)(xs:List Value),k vs=some r∧vs.length=rs.length∧(rs.mapM (KG a.tmps)).run E.P w=.ok xs w∧xs.length=rs.length∧(∀(i:Nat)v x,vs[i]?=some v→xs[i]?=some x→au E.P μ φ v x)∧∀id,cA id vs=true→(m id).isSome=true
 |[],k,r,h=>⟨[],[],h,rfl,by simp,rfl,by simp,fun id hid=>by cases hid⟩
 |.tmp t::rs,k,r,h=>by
  simp only[GK]at h;obtain⟨vs,xs,h1,h2,h3,h4,h5,h6⟩:=CD hR rs h;refine⟨bQ E f (.tmp t)::vs,a.tmps.getD t undef::xs,h1,by simp[h2],?_,by simp[h4],fun i v x hv hx=>?_,fun id hid=>?_⟩
  ·rw[auJ];simp only[KG,Sem.run_bind,Sem.run_pure,Result.andThen_ok,h3]
  ·cases i with
   |zero=>simp only[asF,cO]at hv hx;subst hv;subst hx;exact(aA hR (.tmp t)).1
   |succ i=>exact h5 i v x (by simpa using hv) (by simpa using hx)
  ·simp only[cA,asu]at hid;rcases hid with hid|hid
   ·exact(aA hR (.tmp t)).2 id hid
   ·exact h6 id hid
 |.cell b t::rs,k,r,h=>by
  simp only[GK]at h;obtain⟨v,ft,_,h,_,hl⟩:=Q6 h;obtain⟨vs,xs,h1,h2,h3,h4,h5,h6⟩:=CD hR rs h;obtain⟨y,y1,y2,y3⟩:=hl E.aW w0 μ φ w _ hR.toaL (aA hR (.tmp b)).1;have hld:(do loadVar t (←asAddr (a.tmps.getD b undef)):Sem Value).run E.P w=.ok y w:=by
   have y1:(Instr.loadAt t (a.tmps.getD b undef)).run E.P w=.ok y w:=y1;generalize a.tmps.getD b undef=z at y1;unfold Instr.loadAt at y1;cases z<;>simp only[Instr.sureAddr]at y1<;>try (simp[stuck,Sem.run_bind]at y1;done)
   rename_i o;cases o with
   |none=>simp[stuck,Sem.run_bind]at y1
   |some ad=>exact y1
  refine⟨v::vs,y::xs,h1,by simp[h2],?_,by simp[h4],fun i v' x hv hx=>?_,fun id hid=>?_⟩
  ·rw[auJ];have apE:(KG a.tmps (.cell b t)).run E.P w=.ok y w:=hld;simp only[Sem.run_bind,Sem.run_pure,Result.andThen_ok,apE,h3]
  ·cases i with
   |zero=>simp at hv hx;subst hv;subst hx;exact y2
   |succ i=>exact h5 i v' x (by simpa using hv) (by simpa using hx)
  ·simp only[cA,asu]at hid;rcases hid with hid|hid
   ·exact y3 id hid
   ·exact h6 id hid
variable{w:World}
theorem CE{a:Act}{xs:List Value}(h3:(E.fn.results.toList.mapM (KG a.tmps)).run E.P w=.ok xs w):(results E.fn a.tmps).run E.P w=.ok (if h:xs.toArray.size=1 then xs.toArray[0]else .tuple xs.toArray) w:=by show(do let vs←E.fn.results.mapM (KG a.tmps);pure (if h:vs.size=1 then vs[0]else .tuple vs):Sem Value).run E.P w=_;simp_all[Array.mapM_eq_mapM_toList]
variable{φ:Nat→aP}
theorem ago{f:Fr}{m:Mem}{μ:Ro}{a:Act}(hR:Rel E.P E.aW E.fn.ntmps w0 μ φ f m a w){p:PV}(h:abR E E.fn.results.toList f m=some p):∃y,(results E.fn a.tmps).run E.P w=.ok y w∧av E.P (cH w0.mu w0.w w) p y:=by
 unfold abR at h;obtain⟨vs,xs,h1,h2,h3,h4,h5,h6⟩:=CD hR _ h;have hν:∀b o,μ b=some o→cH w0.mu w0.w w b=some o:=fun b o hb=>by
  unfold cH;split
  ·rename_i cd;exact hR.base b o hb cd
  ·exact hR.ro b o hb
 have H2:∀id b g,m id=some b→b.owns (φ id) g→cH w0.mu w0.w w g=w.heap[g]?:=fun id b g hb hg=>by have:=(hR.own id b g hb hg).1;simp_all[cH,IT]
 have y7:=CE h3;refine⟨_,y7,?_⟩;split at h1
 ·rename_i v;have hx:∃x,xs=[x]:=by
   match xs,h4,h2 with
   |[x],_,_=>simp
   |[],h4,h2=>grind
   |_::_::_,h4,h2=>simp_all
  obtain⟨x,rfl⟩:=hx;simp only[ati,aqP,ase,asZ,dite_true];exact Aa hR.toaL hν H2 _ h1 (h5 0 v x rfl rfl)
 ·rename_i cU;obtain⟨ps,tP,h1⟩:=By.1 h1;simp only[cO]at h1;subst h1;obtain⟨p1,p2⟩:=iX tP;have rS:¬xs.toArray.size=1:=fun h=>by
   have:vs.length=1:=by simp at h;omega
   match vs,this with
   |[v],_=>exact cU v rfl
  rw[dif_neg rS];refine .aG (by simp;omega) fun i q x hq hx=>?_;obtain⟨v,hv,hf⟩:=p2 i q hq;exact Aa hR.toaL hν H2 _ hf (h5 i v x hv (by simpa using hx))
variable{R:Type}
theorem NO{t:TypeId}{p:PV}{k:PV→Option R}{r:R}(h:Pj E t p k=some r):∃q,k q=some r∧∀(P:Program)(μ:Ro)x,av P μ p x→av P μ q x:=by
 have ld:jD E t p k=some r→∃q,k q=some r∧∀(P:Program)(μ:Ro)x,av P μ p x→av P μ q x:=fun h=>by grind [nZ]
 grind [Pj]
theorem FB{R:Type}:∀{ts:List TypeId}{ps:List PV}{k:List PV→Option R}{r:R},uU E ts ps k=some r→∃qs,k qs=some r∧qs.length=ps.length∧∀(P:Program)(μ:Ro)(i:Nat)p q x,ps[i]?=some p→qs[i]?=some q→av P μ p x→av P μ q x
 |[],ps,k,r,h=>⟨ps,by simpa[uU]using h,rfl,fun P μ i p q x hp hq hx=>by simp_all⟩
 |t::ts,[],k,r,h=>⟨[],by simpa[uU]using h,rfl,by simp⟩
 |t::ts,p::ps,k,r,h=>by
  simp only[uU]at h;obtain⟨q,h1,h2⟩:=NO h;obtain⟨qs,h3,h4,h5⟩:=FB h1;refine⟨q::qs,h3,by simp[h4],fun P μ i p' q' x hp hq hx=>?_⟩;cases i with
  |zero=>simp at hp hq;subst hp;subst hq;exact h2 P μ x hx
  |succ i=>exact h5 P μ i p' q' x (by simpa using hp) (by simpa using hq) hx
theorem abT{t:TypeId}{p:PV}{k:PV→Option R}{r:R}(h:abS E t p k=some r):∃q,k q=some r∧∀(P:Program)(μ:Ro)x,av P μ p x→av P μ q x:=by
 have agg:((asAgg (bj E.P t) p).bind fun _=>match Kz E.P 8 t with|some ts=>uU E ts (aQ (bj E.P t) p) fun cs=>k (.agg cs)|none=>none)=some r→∃q,k q=some r∧∀(P:Program)(μ:Ro)x,av P μ p x→av P μ q x:=fun h=>by
  obtain⟨_,ha,h⟩:=By.1 h;split at h
  ·rename_i ts _;obtain⟨qs,h1,h2,h3⟩:=FB h;refine⟨.agg qs,h1,fun P μ x hx=>?_⟩;have hp:∃cs,p=.agg cs∧cs.length=bj E.P t:=by cases p<;>simp[asAgg]at ha;exact⟨_,rfl,ha⟩
   obtain⟨cs,rfl,ha⟩:=hp;rw[bt]at h2;cases hx with
   | @agg _ xs a1 a2 a3=>
    refine .agg (by omega) (fun i q y hq hy=>?_) a3;have cd:i<cs.length:=by grind
    have he:(aQ (bj E.P t) (.agg cs))[i]?=some cs[i]:=by
     have hl:i<(aQ (bj E.P t) (.agg cs)).length:=by rw[bt];omega
     have h5:=cN hl;obtain⟨_,h6⟩:=sx h5;simp_all[cell,PV.cells,List.getD]
    grind
  ·cases h
 unfold abS at h;split at h
 ·exact agg h
 ·exact agg h
 ·rename_i e _;unfold J7 at h;split at h
  ·grind
  ·rename_i cs;split at h
   ·rename_i hn;split at h
    ·rename_i ts _;obtain⟨qs,h1,h2,h3⟩:=FB h;rw[bt]at h2;refine⟨.rp qs,h1,fun P μ x hx=>?_⟩;cases hx with
     | @rp _ b o X a1 a2 a3=>
      have hc:∀i,i<qs.length→cs[i]?=some (cell (.agg cs) i):=fun i hi=>by grind [List.getElem?_eq_getElem,cell,PV.cells,List.getD]
      refine .rp X (fun i q hq=>a1 i _ (hc i (Qs.1 hq).1)) (fun i q hq=>?_) (fun i hi=>a3 i (by omega));grind [aQ,bj,bt,List.getElem?_eq_getElem,sx]
    ·cases h
   ·cases h
  ·cases h
 ·exact NO h
theorem H3{R:Type}:∀{ts:List TypeId}{ps:List PV}{k:List PV→Option R}{r:R},FA E ts ps k=some r→∃qs,k qs=some r∧qs.length=ps.length∧∀(P:Program)(μ:Ro)(i:Nat)p q x,ps[i]?=some p→qs[i]?=some q→av P μ p x→av P μ q x
 |[],ps,k,r,h=>⟨ps,by simpa[FA]using h,rfl,fun P μ i p q x hp hq hx=>by simp_all⟩
 |t::ts,[],k,r,h=>⟨[],by simpa[FA]using h,rfl,by simp⟩
 |t::ts,p::ps,k,r,h=>by
  simp only[FA]at h;obtain⟨q,h1,h2⟩:=abT h;obtain⟨qs,h3,h4,h5⟩:=H3 h1;refine⟨q::qs,h3,by simp[h4],fun P μ i p' q' x hp hq hx=>?_⟩;cases i with
  |zero=>simp at hp hq;subst hp;subst hq;exact h2 P μ x hx
  |succ i=>exact h5 P μ i p' q' x (by simpa using hp) (by simpa using hq) hx
theorem ams{μ:Ro}{xs:Array Value}{ps:List PV}(B0:∀b o,μ b=some o→w.heap[b]?=some o)(hgl:∀g cs,E.aW g=some cs→EY E.P μ g cs)(hlen:ps.length=xs.size)(nB:∀(i:Nat)p x,ps[i]?=some p→xs[i]?=some x→av E.P μ p x)(hnt:ps.length≤E.fn.ntmps):Rel E.P E.aW E.fn.ntmps {w:=w,mu:=μ,sv:=fun _=>undef} μ (fun _=>default) (KF (ps.map .pv)) (fun _=>none) {tmps:=xs++Array.replicate (E.fn.ntmps-xs.size) undef,defers:=[]} w:=by
 have Ca:∀t,au E.P μ (fun _=>default) (KF (ps.map .pv) t) (ck E.fn.ntmps {w:=w,mu:=μ,sv:=fun _=>undef} {tmps:=xs++Array.replicate (E.fn.ntmps-xs.size) undef,defers:=[]} t):=fun t=>by
  simp only[KF];by_cases ht:t<ps.length
  ·have h1:(ps.map V.pv).getD t .top=.pv ps[t]:=by simp[List.getD,ht]
   have hxt:t<xs.size:=by omega
   have h2:(xs++Array.replicate (E.fn.ntmps-xs.size) undef).getD t undef=xs[t]:=by rw[asp,atm hxt,ame hxt];rfl
   rw[h1,vU (by omega),h2];exact .pv (nB t _ _ (cN ht) (ame hxt))
  ·have h1:(ps.map V.pv).getD t .top=.top:=by simp[List.getD,ht]
   rw[h1];exact .top
 have Ja:∀t id,(KF (ps.map .pv) t).has id=true→((fun _=>none:Mem) id).isSome=true:=fun t id hid=>by
  simp only[KF]at hid;by_cases ht:t<ps.length
  ·simp_all
  simp_all
 exact{below:=nC.refl _ _,ro:=B0,aW:=hgl,dW:=(fun id b h=>by cases h),own:=(fun id b g h=>by cases h),inj:=(fun _ _ _ _ _ h=>by simp),apart:=(fun _ _ h=>by cases h),gy:=(fun _ _ _ h=>by cases h),base:=fun _ _ h _=>h,dX:=(fun _ _ h=>by cases h),Jb:=(fun _ _ h=>by cases h),size:=by simp;omega,defers:=.nil _ _ _,px:=(fun _ _ h=>by omega),fr:=Ca,live:=Ja}
variable{g:FuncId}
theorem ZC(hE:ma E)(hyl:E.yl=HS)(hf:E.P.funcs[g]?=some E.fn)(hn:(E.fn.name== "runtime.NumGoroutine")=false){c:Code}(hb:E.fn.body=some c):AX E.P E.aW g (eP E):=by
 refine⟨⟨E.fn,c,hf,hb,hn⟩,fun ps r h w μ xs B0 hgl hlen nB=>?_⟩;unfold eP at h;rw[hb]at h;simp only at h;split at h
 ·rename_i hnt;obtain⟨qs,h,hql,hqr⟩:=H3 h;have nB:∀(i:Nat)p x,qs[i]?=some p→xs[i]?=some x→av E.P μ p x:=fun i q x hq hx=>by grind
  have hlen:qs.length=xs.size:=by omega
  have hnt:qs.length≤E.fn.ntmps:=by omega
  clear hql hqr;revert qs;intro ps h nB hlen hnt;have hR:=ams (E:=E) B0 hgl hlen nB hnt;refine y8 hE (by rw[hyl];exact GL _ _ _ _) (fun _ _ h=>by omega) hf hb h hR fun e f' m' μ' φ' tmps w' hk l6=>?_;have fin:abR E E.fn.results.toList f' m'=some r→∃v,(results E.fn tmps).run E.P w'=.ok v w'∧∃y,Ending.returned v=.returned y∧nC w.heap.size w w'∧av E.P (cH μ w w') r y:=fun hk=>by obtain⟨y,y1,y2⟩:=ago l6 hk;exact⟨y,y1,y,rfl,l6.below,y2⟩
  grind
 ·cases h
theorem Ac.amt{P:Program}{G:Nat→Option (List PV)}{nt:Nat}{yl:YL}{w0:bO}{o:Ro}(h:Ac P G nt yl w0):Ac P G nt yl {w0 with px:=o}:=fun R site id args f m k r hy μ φ ρ w xs hM hF hρ hl hr Pl g hg=>
  let⟨fn,tmps,assign,body,y1,y2⟩:=h R site id args f m k r hy μ φ ρ w xs (hM.CF rfl rfl hM.dX fun _ _ _=>rfl) hF hρ hl hr Pl g hg
  ⟨fn,tmps,assign,body,y1,y2.mono fun e w'⟨v,f',m',y,μ',φ',a1,a2,a3,a4,a5⟩=>⟨v,f',m',y,μ',φ',a1,a2,a3,a4.CF rfl rfl a4.dX fun _ _ _=>rfl,a5⟩⟩
theorem aiN(hE:ma E)(hf:E.P.funcs[g]?=some E.fn)(hn:(E.fn.name== "runtime.NumGoroutine")=false){args:List V}{f:Fr}{m:Mem}{k:V→Fr→Mem→Option R}{r:R}(h:J8 E args f m k=some r):TR E.P E.aW g E.yl args f m k r:=by
 unfold J8 at h;split at h
 ·rename_i c hb;split at h
  ·rename_i hnt;refine⟨E.fn,c,hf,hb,hn,fun w0 μ φ ρ w xs hM hF hlen nB Ja hY=>?_⟩;have eQ:∀t,t<args.length→∃v,args[t]?=some v∧args.getD t .top=v:=fun t ht=>⟨args[t],cN ht,by simp[List.getD,ht]⟩;have hR:Rel E.P E.aW E.fn.ntmps {w0 with sv:=fun t=>ρ (t-E.fn.ntmps),px:=w0.dX} μ φ (BX E.fn.ntmps args f) m {tmps:=xs++Array.replicate (E.fn.ntmps-xs.size) undef,defers:=[]} w:=
    {toaL:=hM.CF rfl rfl hM.dX fun _ _ _=>rfl,size:=by simp;omega,defers:=.nil _ _ _,px:=fun _ _ h=>h,fr:=fun t=>by
      unfold BX ck;by_cases ht:t<E.fn.ntmps
      ·rw[show Nat.blt t E.fn.ntmps=true by simp_all,IN ht];show au E.P μ φ (args.getD t .top) _;by_cases ha:t<args.length
       ·obtain⟨v,h1,h2⟩:=eQ t ha;have hxt:t<xs.size:=by omega
        rw[h2];have h3:(xs++Array.replicate (E.fn.ntmps-xs.size) undef).getD t undef=xs[t]:=by simp_all
        rw[h3];exact nB t v _ h1 (ame hxt)
       ·have h1:args.getD t .top=.top:=by simp[List.getD,ha]
        rw[h1];exact .top
      ·rw[show Nat.blt t E.fn.ntmps=false by rw[←atf,ath];omega,IT ht];exact hF.fr _,
     live:=fun t id hid=>by
      unfold BX at hid;cases e:Nat.blt t E.fn.ntmps with
      |true=>
       rw[e]at hid;have hid:(args.getD t .top).has id=true:=hid;by_cases ha:t<args.length
       ·obtain⟨v,h1,h2⟩:=eQ t ha;rw[h2]at hid;exact Ja id (cV.2 ⟨v,asb h1,hid⟩)
       simp_all
      |false=>rw[e]at hid;exact hF.live _ id hid}
   refine y8 hE hY.amt (fun _ _ h=>h) hf hb h hR fun e f' m' μ' φ' tmps w' hk l6=>?_;have hF':cp E.P μ' φ' m' (CA E.fn.ntmps f') ρ:=by refine⟨fun t=>?_,fun t id hid=>l6.live _ id hid⟩;have:=l6.fr (t+E.fn.ntmps);unfold ck at this;rw[IT (by omega)]at this;simp only[atr]at this;exact this
   have fin:(GK E f' m' E.fn.results.toList fun vs=>match vs with
    |[v]=>k v (CA E.fn.ntmps f') m'
    |vs=>k (.aG vs) (CA E.fn.ntmps f') m')=some r→∃v,(results E.fn tmps).run E.P w'=.ok v w'∧
    ∃v1 f1 m1 y μ1 φ1,k v1 f1 m1=some r∧Ending.returned v=.returned y∧aL E.P E.aW w0 μ1 φ1 m1 w'∧cp E.P μ1 φ1 m1 f1 ρ∧au E.P μ1 φ1 v1 y∧∀id,v1.has id=true→(m1 id).isSome=true:=fun hk=>by
    obtain⟨vs,ys,h1,h2,h3,h4,h5,h6⟩:=CD l6 _ hk
    refine⟨_,CE h3,?_⟩
    have hM0:aL E.P E.aW w0 μ' φ' m' w':=l6.toaL.CF rfl rfl l6.dX fun _ _ _=>rfl
    split at h1
    ·rename_i v;have hx:∃y,ys=[y]:=by
      match ys,h4,h2 with
      |[y],_,_=>simp
      |[],h4,h2=>grind
      |_::_::_,h4,h2=>simp_all
     obtain⟨y,rfl⟩:=hx;refine⟨v,_,_,y,μ',φ',h1,by simp,hM0,hF',h5 0 v y rfl rfl,fun id hid=>h6 id (by simp[cA,hid])⟩
    ·rename_i cU;have rS:¬ys.toArray.size=1:=fun h=>by
      have:vs.length=1:=by simp at h;omega
      match vs,this with
      |[v],_=>exact cU v rfl
     rw[dif_neg rS];exact⟨.aG vs,_,_,_,μ',φ',h1,rfl,hM0,hF',.aG (by simp;omega) (fun i q x hq hx=>h5 i q x hq (by simpa using hx)),fun id hid=>h6 id (by simpa only[V.has]using hid)⟩
   grind
  ·cases h
 ·cases h
theorem agp{μ:Ro}{d len s:Nat}{et:TypeId}{es:List PV}{x:Value}(hA:aX E.P μ φ w d s et es)(hx:au E.P μ φ (.gw d 0 len) x):∃ph:aP,ph.g=(φ d).g∧aX E.P μ (fun _=>ph) w 0 s et (es.take len)∧∀μ',au E.P μ' (fun _=>ph) (.os 0) x:=by
 obtain⟨h1,h2,h3,h4,h5,h6,h7⟩:=hA;cases hx with
 |vV hg=>refine⟨φ d,rfl,?_,fun μ'=>.yg hg⟩;rw[hg]at h7;obtain⟨rfl,h7⟩:=h7;refine⟨h1,h2,h3,h4,by simp,h6,?_⟩;simp_all
 | @gw _ _ _ cap g ad hg hl ha hc hc'=>
  rw[hg]at h7;obtain⟨q,Tq,q1,q2,q3,q4,q5⟩:=h7;have hlen:(es.take len).length=len:=by simp_all
  have had:ad=⟨g,0,none⟩:=by simp_all
  subst had;refine⟨{φ d with cap:=cap,len:=len},rfl,⟨by simp[hlen],h2,h3,h4,fun i e he=>h5 i e (j9 he).1,by simp;omega,?_⟩,fun μ'=>?_⟩
  ·simp only[hg];refine⟨q,Tq,q1,asT (asd _ (by omega)) q2,by omega,fun i e j p x he hp hx=>q4 i e j p x (j9 he).1 hp hx,fun i x hi hx=>q5 i x (Nat.lt_of_lt_of_le hi (asd _ (by omega))) hx⟩
  ·exact au.os (P:=E.P) (μ:=μ') (φ:=fun _=>{φ d with cap:=cap,len:=len}) (id:=0) (g:=g) hg
theorem ZD(hE:ma E)(hyl:E.yl=HS)(hf:E.P.funcs[g]?=some E.fn)(hn:(E.fn.name== "runtime.NumGoroutine")=false){c:Code}(hb:E.fn.body=some c):H4 E.P E.aW g (Pk E):=by
 refine⟨⟨E.fn,c,hf,hb,hn⟩,fun fn t el hfn ht hu ps r h w μ xs B0 hgl hlen nB=>?_⟩;rw[hf]at hfn;cases hfn;unfold Pk at h;rw[hb]at h;simp only at h;split at h
 ·rename_i hnt;obtain⟨qs,h,hql,hqr⟩:=H3 h;have nB:∀(i:Nat)p x,qs[i]?=some p→xs[i]?=some x→av E.P μ p x:=fun i q x hq hx=>by grind
  have hlen:qs.length=xs.size:=by omega
  have hnt:qs.length≤E.fn.ntmps:=by omega
  clear hql hqr;revert qs;intro ps h nB hlen hnt;refine y8 hE (by rw[hyl];exact GL _ _ _ _) (fun _ _ h=>by omega) hf hb h (ams B0 hgl hlen nB hnt) fun e f' m' μ' φ' tmps w' hk l6=>?_;have fin:aiM E f' m'=some r→∃v,(results E.fn tmps).run E.P w'=.ok v w'∧∃(y:Value)(ph:aP)(es:List PV),Ending.returned v=.returned y∧nC w.heap.size w w'∧r=.rs (bj E.P el) es∧(∀g,ph.g=some g→w.heap.size≤g)∧aX E.P (pK (cH μ w w') ph.g) (fun _=>ph) w' 0 (bj E.P el) el es∧au E.P μ (fun _=>ph) (.os 0) y:=fun hk=>by
   unfold aiM at hk;rw[ht]at hk;simp only[hu]at hk;obtain⟨vs,ys,h1,h2,h3,h4,h5,h6⟩:=CD l6 _ hk;refine⟨_,CE h3,?_⟩;split at h1
   ·rename_i id;split at h1
    ·rename_i sz et es hm;split at h1
     ·rename_i hs;obtain⟨rfl,rfl⟩:=hs;simp only[cO]at h1;have hx:∃y,ys=[y]:=by
       match ys,h4,h2 with
       |[y],_,_=>simp
       |[],h4,h2=>grind
       |_::_::_,h4,h2=>simp_all
      obtain⟨y,rfl⟩:=hx;have hA:=l6.dW id _ hm;refine⟨y,φ' id,es,by simp,l6.below,h1.symm,fun g hg=>(l6.own id _ g hm (.inl hg)).1,?_,?_⟩
      ·refine aX.move (μ:=μ') hA rfl fun b o Cu=>?_;unfold pK;rw[IT fun e=>by have:=(l6.own id _ b hm (.inl e)).2 rfl;simp_all];unfold cH;split
       ·rename_i cd;exact l6.base b o Cu cd
       ·exact l6.ro b o Cu
      ·have:=h5 0 _ y rfl rfl;cases this with
       |yg h=>exact .yg h
       |os h=>exact .os (id:=0) (φ:=fun _=>φ' id) h
     ·cases h1
    ·cases h1
   ·rename_i id len;split at h1
    ·rename_i sz et es hm;split at h1
     ·rename_i hs;obtain⟨rfl,rfl⟩:=hs;simp only[cO]at h1;have hx:∃y,ys=[y]:=by
       match ys,h4,h2 with
       |[y],_,_=>simp
       |[],h4,h2=>grind
       |_::_::_,h4,h2=>simp_all
      obtain⟨y,rfl⟩:=hx;obtain⟨ph,p1,p2,p3⟩:=agp (l6.dW id _ hm) (h5 0 _ y rfl rfl);refine⟨y,ph,es.take len,by simp,l6.below,h1.symm,fun g hg=>(l6.own id _ g hm (.inl (by rw[←p1];omega))).1,?_,(p3 _:)⟩;refine aX.move (μ:=μ') (φ:=fun _=>ph) (i:=0) p2 rfl fun b o Cu=>?_;unfold pK;rw[IT fun e=>by have:=(l6.own id _ b hm (.inl (by rw[←p1];omega))).2 rfl;simp_all];unfold cH;split
      ·rename_i cd;exact l6.base b o Cu cd
      ·exact l6.ro b o Cu
     ·cases h1
    ·cases h1
   ·cases h1
  grind
 ·cases h
end
end Go.Ab
