import Derived.Test.YtanikidijjaohaaGreatAbP8
set_option linter.unusedVariables false
set_option linter.unusedSimpArgs false
namespace Go.Ab
open Go.RowKit (Below)
section
variable {E:Env} {w0:bu}
def Cy(tmps:Array Value):ResultVar→Sem Value
 |.tmp t=>pure (tmps.getD t undef)
 |.cell a t=>do loadVar t (←asAddr (tmps.getD a undef))
theorem uL{R:Type}{f:Fr}{m:Mem}{μ:Ro}{φ:Nat→aA}{a:Act}{w:World}(hR:Rel E.P E.aH E.fn.ntmps w0 μ φ f m a w):∀(rs:List ResultVar){k:List V→Option R}{r:R},yS E f m rs k=some r→∃(vs:List V)(xs:List Value),k vs=some r∧vs.length=rs.length∧(rs.mapM (Cy a.tmps)).run E.P w=.ok xs w∧xs.length=rs.length∧(∀(i:Nat)v x,vs[i]?=some v→xs[i]?=some x→ae E.P μ φ v x)∧∀id,ck id vs=true→(m id).isSome=true
 |[],k,r,h=>⟨[],[],h,rfl,by simp,rfl,by simp,fun id an=>by cases an⟩
 |.tmp t::rs,k,r,h=>by
  simp only[yS]at h;obtain⟨vs,xs,h1,h2,h3,h4,h5,h6⟩:=uL hR rs h;refine⟨bA E f (.tmp t)::vs,a.tmps.getD t undef::xs,h1,by simp[h2],?_,by simp[h4],fun i v x hv hx=>?_,fun id an=>?_⟩
  ·rw[ajf];simp only[Cy,Sem.run_bind,Sem.run_pure,Result.andThen_ok,h3]
  ·cases i with
   |zero=>simp only[ahd,AI]at hv hx;subst hv;subst hx;exact(ak hR (.tmp t)).1
   |succ i=>exact h5 i v x (by simpa using hv) (by simpa using hx)
  ·simp only[ck,afk]at an;rcases an with an|an
   ·exact(ak hR (.tmp t)).2 id an
   ·exact h6 id an
 |.cell b t::rs,k,r,h=>by
  simp only[yS]at h;obtain⟨v,ft,_,h,_,hl⟩:=Ir h;obtain⟨vs,xs,h1,h2,h3,h4,h5,h6⟩:=uL hR rs h;obtain⟨y,y1,y2,y3⟩:=hl E.aH w0 μ φ w _ hR.toaw (ak hR (.tmp b)).1;have hld:(do loadVar t (←asAddr (a.tmps.getD b undef)):Sem Value).run E.P w=.ok y w:=by
   have y1:(Instr.loadAt t (a.tmps.getD b undef)).run E.P w=.ok y w:=y1;generalize a.tmps.getD b undef=z at y1;unfold Instr.loadAt at y1;cases z<;>simp only[Instr.sureAddr]at y1<;>try (simp[stuck,Sem.run_bind]at y1;done)
   rename_i o;cases o with
   |none=>simp[stuck,Sem.run_bind]at y1
   |some ad=>exact y1
  refine⟨v::vs,y::xs,h1,by simp[h2],?_,by simp[h4],fun i v' x hv hx=>?_,fun id an=>?_⟩
  ·rw[ajf];have ael:(Cy a.tmps (.cell b t)).run E.P w=.ok y w:=hld;simp only[Sem.run_bind,Sem.run_pure,Result.andThen_ok,ael,h3]
  ·cases i with
   |zero=>simp at hv hx;subst hv;subst hx;exact y2
   |succ i=>exact h5 i v' x (by simpa using hv) (by simpa using hx)
  ·simp only[ck,afk]at an;rcases an with an|an
   ·exact y3 id an
   ·exact h6 id an
variable{w:World}
theorem uM{a:Act}{xs:List Value}(h3:(E.fn.results.toList.mapM (Cy a.tmps)).run E.P w=.ok xs w):(results E.fn a.tmps).run E.P w=.ok (if h:xs.toArray.size=1 then xs.toArray[0]else .tuple xs.toArray) w:=by show(do let vs←E.fn.results.mapM (Cy a.tmps);pure (if h:vs.size=1 then vs[0]else .tuple vs):Sem Value).run E.P w=_;simp_all[Array.mapM_eq_mapM_toList]
variable{φ:Nat→aA}
theorem VQ{f:Fr}{m:Mem}{μ:Ro}{a:Act}(hR:Rel E.P E.aH E.fn.ntmps w0 μ φ f m a w){p:PV}(h:SC E E.fn.results.toList f m=some p):∃y,(results E.fn a.tmps).run E.P w=.ok y w∧af E.P (cu w0.mu w0.w w) p y:=by
 unfold SC at h;obtain⟨vs,xs,h1,h2,h3,h4,h5,h6⟩:=uL hR _ h;have hν:∀b o,μ b=some o→cu w0.mu w0.w w b=some o:=fun b o hb=>by
  unfold cu;split
  ·rename_i bS;exact hR.base b o hb bS
  ·exact hR.ro b o hb
 have uN:∀id b g,m id=some b→b.dU (φ id) g→cu w0.mu w0.w w g=w.heap[g]?:=fun id b g hb hg=>by have:=(hR.own id b g hb hg).1;simp_all[cu,IN]
 have ow:=uM h3;refine⟨_,ow,?_⟩;split at h1
 ·rename_i v;have hx:∃x,xs=[x]:=by
   match xs,h4,h2 with
   |[x],_,_=>simp
   |[],h4,h2=>grind
   |_::_::_,h4,h2=>simp_all
  obtain⟨x,rfl⟩:=hx;simp only[ahr,agU,ahg,ahp,dite_true];exact su hR.toaw hν uN _ h1 (h5 0 v x rfl rfl)
 ·rename_i cL;obtain⟨ps,ou,h1⟩:=By.1 h1;simp only[AI]at h1;subst h1;obtain⟨p1,p2⟩:=gz ou;have mP:¬xs.toArray.size=1:=fun h=>by
   have:vs.length=1:=by simp at h;omega
   match vs,this with
   |[v],_=>exact cL v rfl
  rw[dif_neg mP];refine .bn (by simp;omega) fun i q x hq hx=>?_;obtain⟨v,hv,hf⟩:=p2 i q hq;exact su hR.toaw hν uN _ hf (h5 i v x hv (by simpa using hx))
variable{R:Type}
theorem E2{t:TypeId}{p:PV}{k:PV→Option R}{r:R}(h:GF E t p k=some r):∃q,k q=some r∧∀(P:Program)(μ:Ro)x,af P μ p x→af P μ q x:=by
 have ld:ga E t p k=some r→∃q,k q=some r∧∀(P:Program)(μ:Ro)x,af P μ p x→af P μ q x:=fun h=>by grind [k8]
 grind [GF]
theorem xF{R:Type}:∀{ts:List TypeId}{ps:List PV}{k:List PV→Option R}{r:R},pf E ts ps k=some r→∃qs,k qs=some r∧qs.length=ps.length∧∀(P:Program)(μ:Ro)(i:Nat)p q x,ps[i]?=some p→qs[i]?=some q→af P μ p x→af P μ q x
 |[],ps,k,r,h=>⟨ps,by simpa[pf]using h,rfl,fun P μ i p q x hp hq hx=>by simp_all⟩
 |t::ts,[],k,r,h=>⟨[],by simpa[pf]using h,rfl,by simp⟩
 |t::ts,p::ps,k,r,h=>by
  simp only[pf]at h;obtain⟨q,h1,h2⟩:=E2 h;obtain⟨qs,h3,h4,h5⟩:=xF h1;refine⟨q::qs,h3,by simp[h4],fun P μ i p' q' x hp hq hx=>?_⟩;cases i with
  |zero=>simp at hp hq;subst hp;subst hq;exact h2 P μ x hx
  |succ i=>exact h5 P μ i p' q' x (by simpa using hp) (by simpa using hq) hx
theorem SE{t:TypeId}{p:PV}{k:PV→Option R}{r:R}(h:SD E t p k=some r):∃q,k q=some r∧∀(P:Program)(μ:Ro)x,af P μ p x→af P μ q x:=by
 have agg:((asAgg (aR E.P t) p).bind fun _=>match Cr E.P 8 t with|some ts=>pf E ts (aC (aR E.P t) p) fun cs=>k (.agg cs)|none=>none)=some r→∃q,k q=some r∧∀(P:Program)(μ:Ro)x,af P μ p x→af P μ q x:=fun h=>by
  obtain⟨_,ha,h⟩:=By.1 h;split at h
  ·rename_i ts _;obtain⟨qs,h1,h2,h3⟩:=xF h;refine⟨.agg qs,h1,fun P μ x hx=>?_⟩;have hp:∃cs,p=.agg cs∧cs.length=aR E.P t:=by cases p<;>simp[asAgg]at ha;exact⟨_,rfl,ha⟩
   obtain⟨cs,rfl,ha⟩:=hp;rw[aW]at h2;cases hx with
   | @agg _ xs a1 a2 a3=>
    refine .agg (by omega) (fun i q y hq hy=>?_) a3;have bS:i<cs.length:=by grind
    have he:(aC (aR E.P t) (.agg cs))[i]?=some cs[i]:=by
     have hl:i<(aC (aR E.P t) (.agg cs)).length:=by rw[aW];omega
     have h5:=AS hl;obtain⟨_,h6⟩:=nE h5;simp_all[cell,PV.cells,List.getD]
    grind
  ·cases h
 unfold SD at h;split at h
 ·exact agg h
 ·exact agg h
 ·rename_i e _;unfold Pf at h;split at h
  ·grind
  ·rename_i cs;split at h
   ·rename_i hn;split at h
    ·rename_i ts _;obtain⟨qs,h1,h2,h3⟩:=xF h;rw[aW]at h2;refine⟨.rp qs,h1,fun P μ x hx=>?_⟩;cases hx with
     | @rp _ b o X a1 a2 a3=>
      have hc:∀i,i<qs.length→cs[i]?=some (cell (.agg cs) i):=fun i hi=>by grind [List.getElem?_eq_getElem,cell,PV.cells,List.getD]
      refine .rp X (fun i q hq=>a1 i _ (hc i (HO.1 hq).1)) (fun i q hq=>?_) (fun i hi=>a3 i (by omega));grind [aC,aR,aW,List.getElem?_eq_getElem,nE]
    ·cases h
   ·cases h
  ·cases h
 ·exact E2 h
theorem zX{R:Type}:∀{ts:List TypeId}{ps:List PV}{k:List PV→Option R}{r:R},xE E ts ps k=some r→∃qs,k qs=some r∧qs.length=ps.length∧∀(P:Program)(μ:Ro)(i:Nat)p q x,ps[i]?=some p→qs[i]?=some q→af P μ p x→af P μ q x
 |[],ps,k,r,h=>⟨ps,by simpa[xE]using h,rfl,fun P μ i p q x hp hq hx=>by simp_all⟩
 |t::ts,[],k,r,h=>⟨[],by simpa[xE]using h,rfl,by simp⟩
 |t::ts,p::ps,k,r,h=>by
  simp only[xE]at h;obtain⟨q,h1,h2⟩:=SE h;obtain⟨qs,h3,h4,h5⟩:=zX h1;refine⟨q::qs,h3,by simp[h4],fun P μ i p' q' x hp hq hx=>?_⟩;cases i with
  |zero=>simp at hp hq;subst hp;subst hq;exact h2 P μ x hx
  |succ i=>exact h5 P μ i p' q' x (by simpa using hp) (by simpa using hq) hx
theorem aa5{μ:Ro}{xs:Array Value}{ps:List PV}(tq:∀b o,μ b=some o→w.heap[b]?=some o)(Y0:∀g cs,E.aH g=some cs→w7 E.P μ g cs)(hlen:ps.length=xs.size)(jI:∀(i:Nat)p x,ps[i]?=some p→xs[i]?=some x→af E.P μ p x)(SF:ps.length≤E.fn.ntmps):Rel E.P E.aH E.fn.ntmps {w:=w,mu:=μ,sv:=fun _=>undef} μ (fun _=>default) (Cx (ps.map .pv)) (fun _=>none) {tmps:=xs++Array.replicate (E.fn.ntmps-xs.size) undef,defers:=[]} w:=by
 have uA:∀t,ae E.P μ (fun _=>default) (Cx (ps.map .pv) t) (ax E.fn.ntmps {w:=w,mu:=μ,sv:=fun _=>undef} {tmps:=xs++Array.replicate (E.fn.ntmps-xs.size) undef,defers:=[]} t):=fun t=>by
  simp only[Cx];by_cases ht:t<ps.length
  ·have h1:(ps.map V.pv).getD t .top=.pv ps[t]:=by simp[List.getD,ht]
   have hxt:t<xs.size:=by omega
   have h2:(xs++Array.replicate (E.fn.ntmps-xs.size) undef).getD t undef=xs[t]:=by rw[agN,ahO hxt,OF hxt];rfl
   rw[h1,pN (by omega),h2];exact .pv (jI t _ _ (AS ht) (OF hxt))
  ·have h1:(ps.map V.pv).getD t .top=.top:=by simp[List.getD,ht]
   rw[h1];exact .top
 have A4:∀t id,(Cx (ps.map .pv) t).has id=true→((fun _=>none:Mem) id).isSome=true:=fun t id an=>by
  simp only[Cx]at an;by_cases ht:t<ps.length
  ·simp_all
  simp_all
 exact{below:=kv.refl _ _,ro:=tq,aH:=Y0,du:=(fun id b h=>by cases h),own:=(fun id b g h=>by cases h),inj:=(fun _ _ _ _ _ h=>by simp),apart:=(fun _ _ h=>by cases h),fy:=(fun _ _ _ h=>by cases h),base:=fun _ _ h _=>h,dx:=(fun _ _ h=>by cases h),A5:=(fun _ _ h=>by cases h),size:=by simp;omega,defers:=.nil _ _ _,lR:=(fun _ _ h=>by omega),fr:=uA,live:=A4}
variable{g:FuncId}
theorem Qz(hE:jJ E)(XL:E.yl=zN)(hf:E.P.funcs[g]?=some E.fn)(hn:(E.fn.name== "runtime.NumGoroutine")=false){c:Code}(hb:E.fn.body=some c):tr E.P E.aH g (aq E):=by
 refine⟨⟨E.fn,c,hf,hb,hn⟩,fun ps r h w μ xs tq Y0 hlen jI=>?_⟩;unfold aq at h;rw[hb]at h;simp only at h;split at h
 ·rename_i SF;obtain⟨qs,h,Y1,hqr⟩:=zX h;have jI:∀(i:Nat)p x,qs[i]?=some p→xs[i]?=some x→af E.P μ p x:=fun i q x hq hx=>by grind
  have hlen:qs.length=xs.size:=by omega
  have SF:qs.length≤E.fn.ntmps:=by omega
  clear Y1 hqr;revert qs;intro ps h jI hlen SF;have hR:=aa5 (E:=E) tq Y0 hlen jI SF;refine rI hE (by rw[XL];exact yT _ _ _ _) (fun _ _ h=>by omega) hf hb h hR fun e f' m' μ' φ' tmps w' hk jf=>?_;have fin:SC E E.fn.results.toList f' m'=some r→∃v,(results E.fn tmps).run E.P w'=.ok v w'∧∃y,Ending.returned v=.returned y∧kv w.heap.size w w'∧af E.P (cu μ w w') r y:=fun hk=>by obtain⟨y,y1,y2⟩:=VQ jf hk;exact⟨y,y1,y,rfl,jf.below,y2⟩
  grind
 ·cases h
theorem sw.aa6{P:Program}{G:Nat→Option (List PV)}{nt:Nat}{yl:YL}{w0:bu}{o:Ro}(h:sw P G nt yl w0):sw P G nt yl {w0 with lR:=o}:=fun R site id args f m k r hy μ φ ρ w xs hM hF hρ hl hr GH g hg=>
  let⟨fn,tmps,assign,body,y1,y2⟩:=h R site id args f m k r hy μ φ ρ w xs (hM.uO rfl rfl hM.dx fun _ _ _=>rfl) hF hρ hl hr GH g hg
  ⟨fn,tmps,assign,body,y1,y2.mono fun e w'⟨v,f',m',y,μ',φ',a1,a2,a3,a4,a5⟩=>⟨v,f',m',y,μ',φ',a1,a2,a3,a4.uO rfl rfl a4.dx fun _ _ _=>rfl,a5⟩⟩
theorem Y2(hE:jJ E)(hf:E.P.funcs[g]?=some E.fn)(hn:(E.fn.name== "runtime.NumGoroutine")=false){args:List V}{f:Fr}{m:Mem}{k:V→Fr→Mem→Option R}{r:R}(h:B1 E args f m k=some r):Lg E.P E.aH g E.yl args f m k r:=by
 unfold B1 at h;split at h
 ·rename_i c hb;split at h
  ·rename_i SF;refine⟨E.fn,c,hf,hb,hn,fun w0 μ φ ρ w xs hM hF hlen jI A4 hY=>?_⟩;have eH:∀t,t<args.length→∃v,args[t]?=some v∧args.getD t .top=v:=fun t ht=>⟨args[t],AS ht,by simp[List.getD,ht]⟩;have hR:Rel E.P E.aH E.fn.ntmps {w0 with sv:=fun t=>ρ (t-E.fn.ntmps),lR:=w0.dx} μ φ (uj E.fn.ntmps args f) m {tmps:=xs++Array.replicate (E.fn.ntmps-xs.size) undef,defers:=[]} w:=
    {toaw:=hM.uO rfl rfl hM.dx fun _ _ _=>rfl,size:=by simp;omega,defers:=.nil _ _ _,lR:=fun _ _ h=>h,fr:=fun t=>by
      unfold uj ax;by_cases ht:t<E.fn.ntmps
      ·rw[show Nat.blt t E.fn.ntmps=true by simp_all,BY ht];show ae E.P μ φ (args.getD t .top) _;by_cases ha:t<args.length
       ·obtain⟨v,h1,h2⟩:=eH t ha;have hxt:t<xs.size:=by omega
        rw[h2];have h3:(xs++Array.replicate (E.fn.ntmps-xs.size) undef).getD t undef=xs[t]:=by simp_all
        rw[h3];exact jI t v _ h1 (OF hxt)
       ·have h1:args.getD t .top=.top:=by simp[List.getD,ha]
        rw[h1];exact .top
      ·rw[show Nat.blt t E.fn.ntmps=false by rw[←ahM,ahC];omega,IN ht];exact hF.fr _,
     live:=fun t id an=>by
      unfold uj at an;cases e:Nat.blt t E.fn.ntmps with
      |true=>
       rw[e]at an;have an:(args.getD t .top).has id=true:=an;by_cases ha:t<args.length
       ·obtain⟨v,h1,h2⟩:=eH t ha;rw[h2]at an;exact A4 id (cF.2 ⟨v,aaQ h1,an⟩)
       simp_all
      |false=>rw[e]at an;exact hF.live _ id an}
   refine rI hE hY.aa6 (fun _ _ h=>h) hf hb h hR fun e f' m' μ' φ' tmps w' hk jf=>?_;have hF':bX E.P μ' φ' m' (uI E.fn.ntmps f') ρ:=by refine⟨fun t=>?_,fun t id an=>jf.live _ id an⟩;have:=jf.fr (t+E.fn.ntmps);unfold ax at this;rw[IN (by omega)]at this;simp only[ah1]at this;exact this
   have fin:(yS E f' m' E.fn.results.toList fun vs=>match vs with
    |[v]=>k v (uI E.fn.ntmps f') m'
    |vs=>k (.bn vs) (uI E.fn.ntmps f') m')=some r→∃v,(results E.fn tmps).run E.P w'=.ok v w'∧
    ∃v1 f1 m1 y μ1 φ1,k v1 f1 m1=some r∧Ending.returned v=.returned y∧aw E.P E.aH w0 μ1 φ1 m1 w'∧bX E.P μ1 φ1 m1 f1 ρ∧ae E.P μ1 φ1 v1 y∧∀id,v1.has id=true→(m1 id).isSome=true:=fun hk=>by
    obtain⟨vs,ys,h1,h2,h3,h4,h5,h6⟩:=uL jf _ hk
    refine⟨_,uM h3,?_⟩
    have hM0:aw E.P E.aH w0 μ' φ' m' w':=jf.toaw.uO rfl rfl jf.dx fun _ _ _=>rfl
    split at h1
    ·rename_i v;have hx:∃y,ys=[y]:=by
      match ys,h4,h2 with
      |[y],_,_=>simp
      |[],h4,h2=>grind
      |_::_::_,h4,h2=>simp_all
     obtain⟨y,rfl⟩:=hx;refine⟨v,_,_,y,μ',φ',h1,by simp,hM0,hF',h5 0 v y rfl rfl,fun id an=>h6 id (by simp[ck,an])⟩
    ·rename_i cL;have mP:¬ys.toArray.size=1:=fun h=>by
      have:vs.length=1:=by simp at h;omega
      match vs,this with
      |[v],_=>exact cL v rfl
     rw[dif_neg mP];exact⟨.bn vs,_,_,_,μ',φ',h1,rfl,hM0,hF',.bn (by simp;omega) (fun i q x hq hx=>h5 i q x hq (by simpa using hx)),fun id an=>h6 id (by simpa only[V.has]using an)⟩
   grind
  ·cases h
 ·cases h
theorem VR{μ:Ro}{d len s:Nat}{et:TypeId}{es:List PV}{x:Value}(hA:aK E.P μ φ w d s et es)(hx:ae E.P μ φ (.fx d 0 len) x):∃ph:aA,ph.g=(φ d).g∧aK E.P μ (fun _=>ph) w 0 s et (es.take len)∧∀μ',ae E.P μ' (fun _=>ph) (.os 0) x:=by
 obtain⟨h1,h2,h3,h4,h5,h6,h7⟩:=hA;cases hx with
 |pO hg=>refine⟨φ d,rfl,?_,fun μ'=>.q6 hg⟩;rw[hg]at h7;obtain⟨rfl,h7⟩:=h7;refine⟨h1,h2,h3,h4,by simp,h6,?_⟩;simp_all
 | @fx _ _ _ cap g ad hg hl ha hc Y3=>
  rw[hg]at h7;obtain⟨q,Tq,q1,q2,q3,q4,q5⟩:=h7;have hlen:(es.take len).length=len:=by simp_all
  have had:ad=⟨g,0,none⟩:=by simp_all
  subst had;refine⟨{φ d with cap:=cap,len:=len},rfl,⟨by simp[hlen],h2,h3,h4,fun i e he=>h5 i e (il he).1,by simp;omega,?_⟩,fun μ'=>?_⟩
  ·simp only[hg];refine⟨q,Tq,q1,ahl (aaP _ (by omega)) q2,by omega,fun i e j p x he hp hx=>q4 i e j p x (il he).1 hp hx,fun i x hi hx=>q5 i x (Nat.lt_of_lt_of_le hi (aaP _ (by omega))) hx⟩
  ·exact ae.os (P:=E.P) (μ:=μ') (φ:=fun _=>{φ d with cap:=cap,len:=len}) (id:=0) (g:=g) hg
theorem QA(hE:jJ E)(XL:E.yl=zN)(hf:E.P.funcs[g]?=some E.fn)(hn:(E.fn.name== "runtime.NumGoroutine")=false){c:Code}(hb:E.fn.body=some c):zY E.P E.aH g (GG E):=by
 refine⟨⟨E.fn,c,hf,hb,hn⟩,fun fn t el Sa ht hu ps r h w μ xs tq Y0 hlen jI=>?_⟩;rw[hf]at Sa;cases Sa;unfold GG at h;rw[hb]at h;simp only at h;split at h
 ·rename_i SF;obtain⟨qs,h,Y1,hqr⟩:=zX h;have jI:∀(i:Nat)p x,qs[i]?=some p→xs[i]?=some x→af E.P μ p x:=fun i q x hq hx=>by grind
  have hlen:qs.length=xs.size:=by omega
  have SF:qs.length≤E.fn.ntmps:=by omega
  clear Y1 hqr;revert qs;intro ps h jI hlen SF;refine rI hE (by rw[XL];exact yT _ _ _ _) (fun _ _ h=>by omega) hf hb h (aa5 tq Y0 hlen jI SF) fun e f' m' μ' φ' tmps w' hk jf=>?_;have fin:YZ E f' m'=some r→∃v,(results E.fn tmps).run E.P w'=.ok v w'∧∃(y:Value)(ph:aA)(es:List PV),Ending.returned v=.returned y∧kv w.heap.size w w'∧r=.rs (aR E.P el) es∧(∀g,ph.g=some g→w.heap.size≤g)∧aK E.P (lW (cu μ w w') ph.g) (fun _=>ph) w' 0 (aR E.P el) el es∧ae E.P μ (fun _=>ph) (.os 0) y:=fun hk=>by
   unfold YZ at hk;rw[ht]at hk;simp only[hu]at hk;obtain⟨vs,ys,h1,h2,h3,h4,h5,h6⟩:=uL jf _ hk;refine⟨_,uM h3,?_⟩;split at h1
   ·rename_i id;split at h1
    ·rename_i sz et es hm;split at h1
     ·rename_i hs;obtain⟨rfl,rfl⟩:=hs;simp only[AI]at h1;have hx:∃y,ys=[y]:=by
       match ys,h4,h2 with
       |[y],_,_=>simp
       |[],h4,h2=>grind
       |_::_::_,h4,h2=>simp_all
      obtain⟨y,rfl⟩:=hx;have hA:=jf.du id _ hm;refine⟨y,φ' id,es,by simp,jf.below,h1.symm,fun g hg=>(jf.own id _ g hm (.inl hg)).1,?_,?_⟩
      ·refine aK.move (μ:=μ') hA rfl fun b o wx=>?_;unfold lW;rw[IN fun e=>by have:=(jf.own id _ b hm (.inl e)).2 rfl;simp_all];unfold cu;split
       ·rename_i bS;exact jf.base b o wx bS
       ·exact jf.ro b o wx
      ·have:=h5 0 _ y rfl rfl;cases this with
       |q6 h=>exact .q6 h
       |os h=>exact .os (id:=0) (φ:=fun _=>φ' id) h
     ·cases h1
    ·cases h1
   ·rename_i id len;split at h1
    ·rename_i sz et es hm;split at h1
     ·rename_i hs;obtain⟨rfl,rfl⟩:=hs;simp only[AI]at h1;have hx:∃y,ys=[y]:=by
       match ys,h4,h2 with
       |[y],_,_=>simp
       |[],h4,h2=>grind
       |_::_::_,h4,h2=>simp_all
      obtain⟨y,rfl⟩:=hx;obtain⟨ph,p1,p2,p3⟩:=VR (jf.du id _ hm) (h5 0 _ y rfl rfl);refine⟨y,ph,es.take len,by simp,jf.below,h1.symm,fun g hg=>(jf.own id _ g hm (.inl (by rw[←p1];omega))).1,?_,(p3 _:)⟩;refine aK.move (μ:=μ') (φ:=fun _=>ph) (i:=0) p2 rfl fun b o wx=>?_;unfold lW;rw[IN fun e=>by have:=(jf.own id _ b hm (.inl (by rw[←p1];omega))).2 rfl;simp_all];unfold cu;split
      ·rename_i bS;exact jf.base b o wx bS
      ·exact jf.ro b o wx
     ·cases h1
    ·cases h1
   ·cases h1
  grind
 ·cases h
end
end Go.Ab
