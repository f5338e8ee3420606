import Derived.Test.YtmbihgjlollbeaaGreatAbP8
set_option linter.all false
namespace Go.Ab
open Go.RowKit (Below)
section
variable {E:Env} {w0:bO}
def KP(tmps:Array Value):ResultVar→Sem Value
 |.tmp t=>pure (tmps.getD t undef)
 |.cell a t=>do loadVar t (←asAddr (tmps.getD a undef))
theorem CI{R:Type}{f:Fr}{m:Mem}{μ:Ro}{φ:Nat→aP}{a:Act}{w:World}(hR:Rel E.P E.aW E.fn.ntmps w0 μ φ f m a w):∀(rs:List ResultVar){k:List V→Option R}{r:R},GP E f m rs k=some r→∃(vs:List V)(xs:List Value),k vs=some r∧vs.length=rs.length∧(rs.mapM (KP a.tmps)).run E.P w=.ok xs w∧xs.length=rs.length∧(∀(i:Nat)v x,vs[i]?=some v→xs[i]?=some x→au E.P μ φ v x)∧∀id,cA id vs=true→(m id).isSome=true
 |[],k,r,h=>⟨[],[],h,rfl,by simp,rfl,by simp,fun id hid=>by cases hid⟩
 |.tmp t::rs,k,r,h=>by
  simp only[GP]at h;obtain⟨vs,xs,h1,h2,h3,h4,h5,h6⟩:=CI hR rs h;refine⟨bR E f (.tmp t)::vs,a.tmps.getD t undef::xs,h1,by simp[h2],?_,by simp[h4],fun i v x hv hx=>?_,fun id hid=>?_⟩
  ·rw[auQ];simp only[KP,Sem.run_bind,Sem.run_pure,Result.andThen_ok,h3]
  ·cases i with
   |zero=>simp only[asL,cO]at hv hx;subst hv;subst hx;exact(aA hR (.tmp t)).1
   |succ i=>exact h5 i v x (by simpa using hv) (by simpa using hx)
  ·simp only[cA,asz]at hid;rcases hid with hid|hid
   ·exact(aA hR (.tmp t)).2 id hid
   ·exact h6 id hid
 |.cell b t::rs,k,r,h=>by
  simp only[GP]at h;obtain⟨v,ft,_,h,_,hl⟩:=Rc h;obtain⟨vs,xs,h1,h2,h3,h4,h5,h6⟩:=CI hR rs h;obtain⟨y,y1,y2,y3⟩:=hl E.aW w0 μ φ w _ hR.toaL (aA hR (.tmp b)).1;have hld:(do loadVar t (←asAddr (a.tmps.getD b undef)):Sem Value).run E.P w=.ok y w:=by
   have y1:(Instr.loadAt t (a.tmps.getD b undef)).run E.P w=.ok y w:=y1;generalize a.tmps.getD b undef=z at y1;unfold Instr.loadAt at y1;cases z<;>simp only[Instr.sureAddr]at y1<;>try (simp[stuck,Sem.run_bind]at y1;done)
   rename_i o;cases o with
   |none=>simp[stuck,Sem.run_bind]at y1
   |some ad=>exact y1
  refine⟨v::vs,y::xs,h1,by simp[h2],?_,by simp[h4],fun i v' x hv hx=>?_,fun id hid=>?_⟩
  ·rw[auQ];have apM:(KP a.tmps (.cell b t)).run E.P w=.ok y w:=hld;simp only[Sem.run_bind,Sem.run_pure,Result.andThen_ok,apM,h3]
  ·cases i with
   |zero=>simp at hv hx;subst hv;subst hx;exact y2
   |succ i=>exact h5 i v' x (by simpa using hv) (by simpa using hx)
  ·simp only[cA,asz]at hid;rcases hid with hid|hid
   ·exact y3 id hid
   ·exact h6 id hid
variable{w:World}
theorem CJ{a:Act}{xs:List Value}(h3:(E.fn.results.toList.mapM (KP a.tmps)).run E.P w=.ok xs w):(results E.fn a.tmps).run E.P w=.ok (if h:xs.toArray.size=1 then xs.toArray[0]else .tuple xs.toArray) w:=by show(do let vs←E.fn.results.mapM (KP a.tmps);pure (if h:vs.size=1 then vs[0]else .tuple vs):Sem Value).run E.P w=_;simp_all[Array.mapM_eq_mapM_toList]
variable{φ:Nat→aP}
theorem agE{f:Fr}{m:Mem}{μ:Ro}{a:Act}(hR:Rel E.P E.aW E.fn.ntmps w0 μ φ f m a w){p:PV}(h:abZ E E.fn.results.toList f m=some p):∃y,(results E.fn a.tmps).run E.P w=.ok y w∧av E.P (cH w0.mu w0.w w) p y:=by
 unfold abZ at h;obtain⟨vs,xs,h1,h2,h3,h4,h5,h6⟩:=CI hR _ h;have hν:∀b o,μ b=some o→cH w0.mu w0.w w b=some o:=fun b o hb=>by
  unfold cH;split
  ·rename_i cd;exact hR.base b o hb cd
  ·exact hR.ro b o hb
 have H7:∀id b g,m id=some b→b.owns (φ id) g→cH w0.mu w0.w w g=w.heap[g]?:=fun id b g hb hg=>by have:=(hR.own id b g hb hg).1;simp_all[cH,IS]
 have zd:=CJ h3;refine⟨_,zd,?_⟩;split at h1
 ·rename_i v;have hx:∃x,xs=[x]:=by
   match xs,h4,h2 with
   |[x],_,_=>simp
   |[],h4,h2=>grind
   |_::_::_,h4,h2=>simp_all
  obtain⟨x,rfl⟩:=hx;simp only[atn,amo,asi,as5,dite_true];exact Ap hR.toaL hν H7 _ h1 (h5 0 v x rfl rfl)
 ·rename_i cV;obtain⟨ps,tU,h1⟩:=By.1 h1;simp only[cO]at h1;subst h1;obtain⟨p1,p2⟩:=iZ tU;have rW:¬xs.toArray.size=1:=fun h=>by
   have:vs.length=1:=by simp at h;omega
   match vs,this with
   |[v],_=>exact cV v rfl
  rw[dif_neg rW];refine .aG (by simp;omega) fun i q x hq hx=>?_;obtain⟨v,hv,hf⟩:=p2 i q hq;exact Ap hR.toaL hν H7 _ hf (h5 i v x hv (by simpa using hx))
variable{R:Type}
theorem NS{t:TypeId}{p:PV}{k:PV→Option R}{r:R}(h:Pq E t p k=some r):∃q,k q=some r∧∀(P:Program)(μ:Ro)x,av P μ p x→av P μ q x:=by
 have ld:jE E t p k=some r→∃q,k q=some r∧∀(P:Program)(μ:Ro)x,av P μ p x→av P μ q x:=fun h=>by grind [nZ]
 grind [Pq]
theorem FF{R:Type}:∀{ts:List TypeId}{ps:List PV}{k:List PV→Option R}{r:R},va E ts ps k=some r→∃qs,k qs=some r∧qs.length=ps.length∧∀(P:Program)(μ:Ro)(i:Nat)p q x,ps[i]?=some p→qs[i]?=some q→av P μ p x→av P μ q x
 |[],ps,k,r,h=>⟨ps,by simpa[va]using h,rfl,fun P μ i p q x hp hq hx=>by simp_all⟩
 |t::ts,[],k,r,h=>⟨[],by simpa[va]using h,rfl,by simp⟩
 |t::ts,p::ps,k,r,h=>by
  simp only[va]at h;obtain⟨q,h1,h2⟩:=NS h;obtain⟨qs,h3,h4,h5⟩:=FF h1;refine⟨q::qs,h3,by simp[h4],fun P μ i p' q' x hp hq hx=>?_⟩;cases i with
  |zero=>simp at hp hq;subst hp;subst hq;exact h2 P μ x hx
  |succ i=>exact h5 P μ i p' q' x (by simpa using hp) (by simpa using hq) hx
theorem ab1{t:TypeId}{p:PV}{k:PV→Option R}{r:R}(h:ab0 E t p k=some r):∃q,k q=some r∧∀(P:Program)(μ:Ro)x,av P μ p x→av P μ q x:=by
 have agg:((asAgg (bj E.P t) p).bind fun _=>match KI E.P 8 t with|some ts=>va E ts (aQ (bj E.P t) p) fun cs=>k (.agg cs)|none=>none)=some r→∃q,k q=some r∧∀(P:Program)(μ:Ro)x,av P μ p x→av P μ q x:=fun h=>by
  obtain⟨_,ha,h⟩:=By.1 h;split at h
  ·rename_i ts _;obtain⟨qs,h1,h2,h3⟩:=FF h;refine⟨.agg qs,h1,fun P μ x hx=>?_⟩;have hp:∃cs,p=.agg cs∧cs.length=bj E.P t:=by cases p<;>simp[asAgg]at ha;exact⟨_,rfl,ha⟩
   obtain⟨cs,rfl,ha⟩:=hp;rw[bt]at h2;cases hx with
   | @agg _ xs a1 a2 a3=>
    refine .agg (by omega) (fun i q y hq hy=>?_) a3;have cd:i<cs.length:=by grind
    have he:(aQ (bj E.P t) (.agg cs))[i]?=some cs[i]:=by
     have hl:i<(aQ (bj E.P t) (.agg cs)).length:=by rw[bt];omega
     have h5:=cN hl;obtain⟨_,h6⟩:=sB h5;simp_all[cell,PV.cells,List.getD]
    grind
  ·cases h
 unfold ab0 at h;split at h
 ·exact agg h
 ·exact agg h
 ·rename_i e _;unfold Kg at h;split at h
  ·grind
  ·rename_i cs;split at h
   ·rename_i hn;split at h
    ·rename_i ts _;obtain⟨qs,h1,h2,h3⟩:=FF h;rw[bt]at h2;refine⟨.rp qs,h1,fun P μ x hx=>?_⟩;cases hx with
     | @rp _ b o X a1 a2 a3=>
      have hc:∀i,i<qs.length→cs[i]?=some (cell (.agg cs) i):=fun i hi=>by grind [List.getElem?_eq_getElem,cell,PV.cells,List.getD]
      refine .rp X (fun i q hq=>a1 i _ (hc i (OF.1 hq).1)) (fun i q hq=>?_) (fun i hi=>a3 i (by omega));grind [aQ,bj,bt,List.getElem?_eq_getElem,sB]
    ·cases h
   ·cases h
  ·cases h
 ·exact NS h
theorem H8{R:Type}:∀{ts:List TypeId}{ps:List PV}{k:List PV→Option R}{r:R},FE E ts ps k=some r→∃qs,k qs=some r∧qs.length=ps.length∧∀(P:Program)(μ:Ro)(i:Nat)p q x,ps[i]?=some p→qs[i]?=some q→av P μ p x→av P μ q x
 |[],ps,k,r,h=>⟨ps,by simpa[FE]using h,rfl,fun P μ i p q x hp hq hx=>by simp_all⟩
 |t::ts,[],k,r,h=>⟨[],by simpa[FE]using h,rfl,by simp⟩
 |t::ts,p::ps,k,r,h=>by
  simp only[FE]at h;obtain⟨q,h1,h2⟩:=ab1 h;obtain⟨qs,h3,h4,h5⟩:=H8 h1;refine⟨q::qs,h3,by simp[h4],fun P μ i p' q' x hp hq hx=>?_⟩;cases i with
  |zero=>simp at hp hq;subst hp;subst hq;exact h2 P μ x hx
  |succ i=>exact h5 P μ i p' q' x (by simpa using hp) (by simpa using hq) hx
theorem amC{μ:Ro}{xs:Array Value}{ps:List PV}(B4:∀b o,μ b=some o→w.heap[b]?=some o)(hgl:∀g cs,E.aW g=some cs→E2 E.P μ g cs)(hlen:ps.length=xs.size)(nC:∀(i:Nat)p x,ps[i]?=some p→xs[i]?=some x→av E.P μ p x)(hnt:ps.length≤E.fn.ntmps):Rel E.P E.aW E.fn.ntmps {w:=w,mu:=μ,sv:=fun _=>undef} μ (fun _=>default) (KO (ps.map .pv)) (fun _=>none) {tmps:=xs++Array.replicate (E.fn.ntmps-xs.size) undef,defers:=[]} w:=by
 have Ce:∀t,au E.P μ (fun _=>default) (KO (ps.map .pv) t) (cj E.fn.ntmps {w:=w,mu:=μ,sv:=fun _=>undef} {tmps:=xs++Array.replicate (E.fn.ntmps-xs.size) undef,defers:=[]} t):=fun t=>by
  simp only[KO];by_cases ht:t<ps.length
  ·have h1:(ps.map V.pv).getD t .top=.pv ps[t]:=by simp[List.getD,ht]
   have hxt:t<xs.size:=by omega
   have h2:(xs++Array.replicate (E.fn.ntmps-xs.size) undef).getD t undef=xs[t]:=by rw[asu,atr hxt,aiX hxt];rfl
   rw[h1,vZ (by omega),h2];exact .pv (nC t _ _ (cN ht) (aiX hxt))
  ·have h1:(ps.map V.pv).getD t .top=.top:=by simp[List.getD,ht]
   rw[h1];exact .top
 have Ji:∀t id,(KO (ps.map .pv) t).has id=true→((fun _=>none:Mem) id).isSome=true:=fun t id hid=>by
  simp only[KO]at hid;by_cases ht:t<ps.length
  ·simp_all
  simp_all
 exact{below:=nD.refl _ _,ro:=B4,aW:=hgl,dX:=(fun id b h=>by cases h),own:=(fun id b g h=>by cases h),inj:=(fun _ _ _ _ _ h=>by simp),apart:=(fun _ _ h=>by cases h),gz:=(fun _ _ _ h=>by cases h),base:=fun _ _ h _=>h,dY:=(fun _ _ h=>by cases h),Jj:=(fun _ _ h=>by cases h),size:=by simp;omega,defers:=.nil _ _ _,py:=(fun _ _ h=>by omega),fr:=Ce,live:=Ji}
variable{g:FuncId}
theorem ZM(hE:mb E)(hyl:E.yl=HX)(hf:E.P.funcs[g]?=some E.fn)(hn:(E.fn.name== "runtime.NumGoroutine")=false){c:Code}(hb:E.fn.body=some c):Bb E.P E.aW g (eQ E):=by
 refine⟨⟨E.fn,c,hf,hb,hn⟩,fun ps r h w μ xs B4 hgl hlen nC=>?_⟩;unfold eQ at h;rw[hb]at h;simp only at h;split at h
 ·rename_i hnt;obtain⟨qs,h,hql,hqr⟩:=H8 h;have nC:∀(i:Nat)p x,qs[i]?=some p→xs[i]?=some x→av E.P μ p x:=fun i q x hq hx=>by grind
  have hlen:qs.length=xs.size:=by omega
  have hnt:qs.length≤E.fn.ntmps:=by omega
  clear hql hqr;revert qs;intro ps h nC hlen hnt;have hR:=amC (E:=E) B4 hgl hlen nC hnt;refine ze hE (by rw[hyl];exact GQ _ _ _ _) (fun _ _ h=>by omega) hf hb h hR fun e f' m' μ' φ' tmps w' hk l7=>?_;have fin:abZ E E.fn.results.toList f' m'=some r→∃v,(results E.fn tmps).run E.P w'=.ok v w'∧∃y,Ending.returned v=.returned y∧nD w.heap.size w w'∧av E.P (cH μ w w') r y:=fun hk=>by obtain⟨y,y1,y2⟩:=agE l7 hk;exact⟨y,y1,y,rfl,l7.below,y2⟩
  grind
 ·cases h
theorem Aq.amD{P:Program}{G:Nat→Option (List PV)}{nt:Nat}{yl:YL}{w0:bO}{o:Ro}(h:Aq P G nt yl w0):Aq P G nt yl {w0 with py:=o}:=fun R site id args f m k r hy μ φ ρ w xs hM hF hρ hl hr Ps g hg=>
  let⟨fn,tmps,assign,body,y1,y2⟩:=h R site id args f m k r hy μ φ ρ w xs (hM.CK rfl rfl hM.dY fun _ _ _=>rfl) hF hρ hl hr Ps g hg
  ⟨fn,tmps,assign,body,y1,y2.mono fun e w'⟨v,f',m',y,μ',φ',a1,a2,a3,a4,a5⟩=>⟨v,f',m',y,μ',φ',a1,a2,a3,a4.CK rfl rfl a4.dY fun _ _ _=>rfl,a5⟩⟩
theorem ai2(hE:mb E)(hf:E.P.funcs[g]?=some E.fn)(hn:(E.fn.name== "runtime.NumGoroutine")=false){args:List V}{f:Fr}{m:Mem}{k:V→Fr→Mem→Option R}{r:R}(h:Kh E args f m k=some r):TZ E.P E.aW g E.yl args f m k r:=by
 unfold Kh at h;split at h
 ·rename_i c hb;split at h
  ·rename_i hnt;refine⟨E.fn,c,hf,hb,hn,fun w0 μ φ ρ w xs hM hF hlen nC Ji hY=>?_⟩;have eR:∀t,t<args.length→∃v,args[t]?=some v∧args.getD t .top=v:=fun t ht=>⟨args[t],cN ht,by simp[List.getD,ht]⟩;have hR:Rel E.P E.aW E.fn.ntmps {w0 with sv:=fun t=>ρ (t-E.fn.ntmps),py:=w0.dY} μ φ (B2 E.fn.ntmps args f) m {tmps:=xs++Array.replicate (E.fn.ntmps-xs.size) undef,defers:=[]} w:=
    {toaL:=hM.CK rfl rfl hM.dY fun _ _ _=>rfl,size:=by simp;omega,defers:=.nil _ _ _,py:=fun _ _ h=>h,fr:=fun t=>by
      unfold B2 cj;by_cases ht:t<E.fn.ntmps
      ·rw[show Nat.blt t E.fn.ntmps=true by simp_all,IN ht];show au E.P μ φ (args.getD t .top) _;by_cases ha:t<args.length
       ·obtain⟨v,h1,h2⟩:=eR t ha;have hxt:t<xs.size:=by omega
        rw[h2];have h3:(xs++Array.replicate (E.fn.ntmps-xs.size) undef).getD t undef=xs[t]:=by simp_all
        rw[h3];exact nC t v _ h1 (aiX hxt)
       ·have h1:args.getD t .top=.top:=by simp[List.getD,ha]
        rw[h1];exact .top
      ·rw[show Nat.blt t E.fn.ntmps=false by rw[←atj,atl];omega,IS ht];exact hF.fr _,
     live:=fun t id hid=>by
      unfold B2 at hid;cases e:Nat.blt t E.fn.ntmps with
      |true=>
       rw[e]at hid;have hid:(args.getD t .top).has id=true:=hid;by_cases ha:t<args.length
       ·obtain⟨v,h1,h2⟩:=eR t ha;rw[h2]at hid;exact Ji id (cW.2 ⟨v,aqY h1,hid⟩)
       simp_all
      |false=>rw[e]at hid;exact hF.live _ id hid}
   refine ze hE hY.amD (fun _ _ h=>h) hf hb h hR fun e f' m' μ' φ' tmps w' hk l7=>?_;have hF':cp E.P μ' φ' m' (CF E.fn.ntmps f') ρ:=by refine⟨fun t=>?_,fun t id hid=>l7.live _ id hid⟩;have:=l7.fr (t+E.fn.ntmps);unfold cj at this;rw[IS (by omega)]at this;simp only[atw]at this;exact this
   have fin:(GP E f' m' E.fn.results.toList fun vs=>match vs with
    |[v]=>k v (CF E.fn.ntmps f') m'
    |vs=>k (.aG vs) (CF E.fn.ntmps f') m')=some r→∃v,(results E.fn tmps).run E.P w'=.ok v w'∧
    ∃v1 f1 m1 y μ1 φ1,k v1 f1 m1=some r∧Ending.returned v=.returned y∧aL E.P E.aW w0 μ1 φ1 m1 w'∧cp E.P μ1 φ1 m1 f1 ρ∧au E.P μ1 φ1 v1 y∧∀id,v1.has id=true→(m1 id).isSome=true:=fun hk=>by
    obtain⟨vs,ys,h1,h2,h3,h4,h5,h6⟩:=CI l7 _ hk
    refine⟨_,CJ h3,?_⟩
    have hM0:aL E.P E.aW w0 μ' φ' m' w':=l7.toaL.CK rfl rfl l7.dY fun _ _ _=>rfl
    split at h1
    ·rename_i v;have hx:∃y,ys=[y]:=by
      match ys,h4,h2 with
      |[y],_,_=>simp
      |[],h4,h2=>grind
      |_::_::_,h4,h2=>simp_all
     obtain⟨y,rfl⟩:=hx;refine⟨v,_,_,y,μ',φ',h1,by simp,hM0,hF',h5 0 v y rfl rfl,fun id hid=>h6 id (by simp[cA,hid])⟩
    ·rename_i cV;have rW:¬ys.toArray.size=1:=fun h=>by
      have:vs.length=1:=by simp at h;omega
      match vs,this with
      |[v],_=>exact cV v rfl
     rw[dif_neg rW];exact⟨.aG vs,_,_,_,μ',φ',h1,rfl,hM0,hF',.aG (by simp;omega) (fun i q x hq hx=>h5 i q x hq (by simpa using hx)),fun id hid=>h6 id (by simpa only[V.has]using hid)⟩
   grind
  ·cases h
 ·cases h
theorem agF{μ:Ro}{d len s:Nat}{et:TypeId}{es:List PV}{x:Value}(hA:aX E.P μ φ w d s et es)(hx:au E.P μ φ (.gx d 0 len) x):∃ph:aP,ph.g=(φ d).g∧aX E.P μ (fun _=>ph) w 0 s et (es.take len)∧∀μ',au E.P μ' (fun _=>ph) (.os 0) x:=by
 obtain⟨h1,h2,h3,h4,h5,h6,h7⟩:=hA;cases hx with
 |wa hg=>refine⟨φ d,rfl,?_,fun μ'=>.yp hg⟩;rw[hg]at h7;obtain⟨rfl,h7⟩:=h7;refine⟨h1,h2,h3,h4,by simp,h6,?_⟩;simp_all
 | @gx _ _ _ cap g ad hg hl ha hc hc'=>
  rw[hg]at h7;obtain⟨q,Tq,q1,q2,q3,q4,q5⟩:=h7;have hlen:(es.take len).length=len:=by simp_all
  have had:ad=⟨g,0,none⟩:=by simp_all
  subst had;refine⟨{φ d with cap:=cap,len:=len},rfl,⟨by simp[hlen],h2,h3,h4,fun i e he=>h5 i e (kc he).1,by simp;omega,?_⟩,fun μ'=>?_⟩
  ·simp only[hg];refine⟨q,Tq,q1,asZ (asj _ (by omega)) q2,by omega,fun i e j p x he hp hx=>q4 i e j p x (kc he).1 hp hx,fun i x hi hx=>q5 i x (Nat.lt_of_lt_of_le hi (asj _ (by omega))) hx⟩
  ·exact au.os (P:=E.P) (μ:=μ') (φ:=fun _=>{φ d with cap:=cap,len:=len}) (id:=0) (g:=g) hg
theorem ZN(hE:mb E)(hyl:E.yl=HX)(hf:E.P.funcs[g]?=some E.fn)(hn:(E.fn.name== "runtime.NumGoroutine")=false){c:Code}(hb:E.fn.body=some c):H9 E.P E.aW g (Pr E):=by
 refine⟨⟨E.fn,c,hf,hb,hn⟩,fun fn t el hfn ht hu ps r h w μ xs B4 hgl hlen nC=>?_⟩;rw[hf]at hfn;cases hfn;unfold Pr at h;rw[hb]at h;simp only at h;split at h
 ·rename_i hnt;obtain⟨qs,h,hql,hqr⟩:=H8 h;have nC:∀(i:Nat)p x,qs[i]?=some p→xs[i]?=some x→av E.P μ p x:=fun i q x hq hx=>by grind
  have hlen:qs.length=xs.size:=by omega
  have hnt:qs.length≤E.fn.ntmps:=by omega
  clear hql hqr;revert qs;intro ps h nC hlen hnt;refine ze hE (by rw[hyl];exact GQ _ _ _ _) (fun _ _ h=>by omega) hf hb h (amC B4 hgl hlen nC hnt) fun e f' m' μ' φ' tmps w' hk l7=>?_;have fin:ai1 E f' m'=some r→∃v,(results E.fn tmps).run E.P w'=.ok v w'∧∃(y:Value)(ph:aP)(es:List PV),Ending.returned v=.returned y∧nD w.heap.size w w'∧r=.rs (bj E.P el) es∧(∀g,ph.g=some g→w.heap.size≤g)∧aX E.P (pL (cH μ w w') ph.g) (fun _=>ph) w' 0 (bj E.P el) el es∧au E.P μ (fun _=>ph) (.os 0) y:=fun hk=>by
   unfold ai1 at hk;rw[ht]at hk;simp only[hu]at hk;obtain⟨vs,ys,h1,h2,h3,h4,h5,h6⟩:=CI l7 _ hk;refine⟨_,CJ h3,?_⟩;split at h1
   ·rename_i id;split at h1
    ·rename_i sz et es hm;split at h1
     ·rename_i hs;obtain⟨rfl,rfl⟩:=hs;simp only[cO]at h1;have hx:∃y,ys=[y]:=by
       match ys,h4,h2 with
       |[y],_,_=>simp
       |[],h4,h2=>grind
       |_::_::_,h4,h2=>simp_all
      obtain⟨y,rfl⟩:=hx;have hA:=l7.dX id _ hm;refine⟨y,φ' id,es,by simp,l7.below,h1.symm,fun g hg=>(l7.own id _ g hm (.inl hg)).1,?_,?_⟩
      ·refine aX.move (μ:=μ') hA rfl fun b o Cy=>?_;unfold pL;rw[IS fun e=>by have:=(l7.own id _ b hm (.inl e)).2 rfl;simp_all];unfold cH;split
       ·rename_i cd;exact l7.base b o Cy cd
       ·exact l7.ro b o Cy
      ·have:=h5 0 _ y rfl rfl;cases this with
       |yp h=>exact .yp h
       |os h=>exact .os (id:=0) (φ:=fun _=>φ' id) h
     ·cases h1
    ·cases h1
   ·rename_i id len;split at h1
    ·rename_i sz et es hm;split at h1
     ·rename_i hs;obtain⟨rfl,rfl⟩:=hs;simp only[cO]at h1;have hx:∃y,ys=[y]:=by
       match ys,h4,h2 with
       |[y],_,_=>simp
       |[],h4,h2=>grind
       |_::_::_,h4,h2=>simp_all
      obtain⟨y,rfl⟩:=hx;obtain⟨ph,p1,p2,p3⟩:=agF (l7.dX id _ hm) (h5 0 _ y rfl rfl);refine⟨y,ph,es.take len,by simp,l7.below,h1.symm,fun g hg=>(l7.own id _ g hm (.inl (by rw[←p1];omega))).1,?_,(p3 _:)⟩;refine aX.move (μ:=μ') (φ:=fun _=>ph) (i:=0) p2 rfl fun b o Cy=>?_;unfold pL;rw[IS fun e=>by have:=(l7.own id _ b hm (.inl (by rw[←p1];omega))).2 rfl;simp_all];unfold cH;split
      ·rename_i cd;exact l7.base b o Cy cd
      ·exact l7.ro b o Cy
     ·cases h1
    ·cases h1
   ·cases h1
  grind
 ·cases h
end
end Go.Ab
