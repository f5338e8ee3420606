import Derived.Test.YtanikidijjaohaaGreatAbP8
set_option linter.unusedVariables false
set_option linter.unusedSimpArgs false
namespace Go.Ab
open Go.RowKit (Below)
section
variable {E:Env} {w0:bI}
def ES(tmps:Array Value):ResultVar→Sem Value
 |.tmp t=>pure (tmps.getD t undef)
 |.cell a t=>do loadVar t (←asAddr (tmps.getD a undef))
theorem wX{R:Type}{f:Fr}{m:Mem}{μ:Ro}{φ:Nat→aH}{a:Act}{w:World}(hR:Rel E.P E.aM E.fn.ntmps w0 μ φ f m a w):∀(rs:List ResultVar){k:List V→Option R}{r:R},AU E f m rs k=some r→∃(vs:List V)(xs:List Value),k vs=some r∧vs.length=rs.length∧(rs.mapM (ES a.tmps)).run E.P w=.ok xs w∧xs.length=rs.length∧(∀(i:Nat)v x,vs[i]?=some v→xs[i]?=some x→ah E.P μ φ v x)∧∀id,cD id vs=true→(m id).isSome=true
 |[],k,r,h=>⟨[],[],h,rfl,by simp,rfl,by simp,fun id av=>by cases av⟩
 |.tmp t::rs,k,r,h=>by
  simp only[AU]at h;obtain⟨vs,xs,h1,h2,h3,h4,h5,h6⟩:=wX hR rs h;refine⟨bL E f (.tmp t)::vs,a.tmps.getD t undef::xs,h1,by simp[h2],?_,by simp[h4],fun i v x hv hx=>?_,fun id av=>?_⟩
  ·rw[amo];simp only[ES,Sem.run_bind,Sem.run_pure,Result.andThen_ok,h3]
  ·cases i with
   |zero=>simp only[akb,AT]at hv hx;subst hv;subst hx;exact(an hR (.tmp t)).1
   |succ i=>exact h5 i v x (by simpa using hv) (by simpa using hx)
  ·simp only[cD,ajA]at av;rcases av with av|av
   ·exact(an hR (.tmp t)).2 id av
   ·exact h6 id av
 |.cell b t::rs,k,r,h=>by
  simp only[AU]at h;obtain⟨v,ft,_,h,_,hl⟩:=Lg h;obtain⟨vs,xs,h1,h2,h3,h4,h5,h6⟩:=wX hR rs h;obtain⟨y,y1,y2,y3⟩:=hl E.aM w0 μ φ w _ hR.toaz (an hR (.tmp b)).1;have hld:(do loadVar t (←asAddr (a.tmps.getD b undef)):Sem Value).run E.P w=.ok y w:=by
   have y1:(Instr.loadAt t (a.tmps.getD b undef)).run E.P w=.ok y w:=y1;generalize a.tmps.getD b undef=z at y1;unfold Instr.loadAt at y1;cases z<;>simp only[Instr.sureAddr]at y1<;>try (simp[stuck,Sem.run_bind]at y1;done)
   rename_i o;cases o with
   |none=>simp[stuck,Sem.run_bind]at y1
   |some ad=>exact y1
  refine⟨v::vs,y::xs,h1,by simp[h2],?_,by simp[h4],fun i v' x hv hx=>?_,fun id av=>?_⟩
  ·rw[amo];have ag2:(ES a.tmps (.cell b t)).run E.P w=.ok y w:=hld;simp only[Sem.run_bind,Sem.run_pure,Result.andThen_ok,ag2,h3]
  ·cases i with
   |zero=>simp at hv hx;subst hv;subst hx;exact y2
   |succ i=>exact h5 i v' x (by simpa using hv) (by simpa using hx)
  ·simp only[cD,ajA]at av;rcases av with av|av
   ·exact y3 id av
   ·exact h6 id av
variable{w:World}
theorem wY{a:Act}{xs:List Value}(h3:(E.fn.results.toList.mapM (ES a.tmps)).run E.P w=.ok xs w):(results E.fn a.tmps).run E.P w=.ok (if h:xs.toArray.size=1 then xs.toArray[0]else .tuple xs.toArray) w:=by show(do let vs←E.fn.results.mapM (ES a.tmps);pure (if h:vs.size=1 then vs[0]else .tuple vs):Sem Value).run E.P w=_;simp_all[Array.mapM_eq_mapM_toList]
variable{φ:Nat→aH}
theorem Zv{f:Fr}{m:Mem}{μ:Ro}{a:Act}(hR:Rel E.P E.aM E.fn.ntmps w0 μ φ f m a w){p:PV}(h:V9 E E.fn.results.toList f m=some p):∃y,(results E.fn a.tmps).run E.P w=.ok y w∧ai E.P (cN w0.mu w0.w w) p y:=by
 unfold V9 at h;obtain⟨vs,xs,h1,h2,h3,h4,h5,h6⟩:=wX hR _ h;have hν:∀b o,μ b=some o→cN w0.mu w0.w w b=some o:=fun b o hb=>by
  unfold cN;split
  ·rename_i cd;exact hR.base b o hb cd
  ·exact hR.ro b o hb
 have wZ:∀id b g,m id=some b→b.ev (φ id) g→cN w0.mu w0.w w g=w.heap[g]?:=fun id b g hb hg=>by have:=(hR.own id b g hb hg).1;simp_all[cN,IN]
 have pZ:=wY h3;refine⟨_,pZ,?_⟩;split at h1
 ·rename_i v;have hx:∃x,xs=[x]:=by
   match xs,h4,h2 with
   |[x],_,_=>simp
   |[],h4,h2=>grind
   |_::_::_,h4,h2=>simp_all
  obtain⟨x,rfl⟩:=hx;simp only[akr,ajv,ajQ,ako,dite_true];exact uq hR.toaz hν wZ _ h1 (h5 0 v x rfl rfl)
 ·rename_i cY;obtain⟨ps,pX,h1⟩:=BY.1 h1;simp only[AT]at h1;subst h1;obtain⟨p1,p2⟩:=iE pX;have oh:¬xs.toArray.size=1:=fun h=>by
   have:vs.length=1:=by simp at h;omega
   match vs,this with
   |[v],_=>exact cY v rfl
  rw[dif_neg oh];refine .bu (by simp;omega) fun i q x hq hx=>?_;obtain⟨v,hv,hf⟩:=p2 i q hq;exact uq hR.toaz hν wZ _ hf (h5 i v x hv (by simpa using hx))
variable{R:Type}
theorem HD{t:TypeId}{p:PV}{k:PV→Option R}{r:R}(h:Ji E t p k=some r):∃q,k q=some r∧∀(P:Program)(μ:Ro)x,ai P μ p x→ai P μ q x:=by
 have ld:gQ E t p k=some r→∃q,k q=some r∧∀(P:Program)(μ:Ro)x,ai P μ p x→ai P μ q x:=fun h=>by grind [mh]
 grind [Ji]
theorem zM{R:Type}:∀{ts:List TypeId}{ps:List PV}{k:List PV→Option R}{r:R},qX E ts ps k=some r→∃qs,k qs=some r∧qs.length=ps.length∧∀(P:Program)(μ:Ro)(i:Nat)p q x,ps[i]?=some p→qs[i]?=some q→ai P μ p x→ai P μ q x
 |[],ps,k,r,h=>⟨ps,by simpa[qX]using h,rfl,fun P μ i p q x hp hq hx=>by simp_all⟩
 |t::ts,[],k,r,h=>⟨[],by simpa[qX]using h,rfl,by simp⟩
 |t::ts,p::ps,k,r,h=>by
  simp only[qX]at h;obtain⟨q,h1,h2⟩:=HD h;obtain⟨qs,h3,h4,h5⟩:=zM h1;refine⟨q::qs,h3,by simp[h4],fun P μ i p' q' x hp hq hx=>?_⟩;cases i with
  |zero=>simp at hp hq;subst hp;subst hq;exact h2 P μ x hx
  |succ i=>exact h5 P μ i p' q' x (by simpa using hp) (by simpa using hq) hx
theorem Wb{t:TypeId}{p:PV}{k:PV→Option R}{r:R}(h:Wa E t p k=some r):∃q,k q=some r∧∀(P:Program)(μ:Ro)x,ai P μ p x→ai P μ q x:=by
 have agg:((asAgg (aV E.P t) p).bind fun _=>match EK E.P 8 t with|some ts=>qX E ts (aJ (aV E.P t) p) fun cs=>k (.agg cs)|none=>none)=some r→∃q,k q=some r∧∀(P:Program)(μ:Ro)x,ai P μ p x→ai P μ q x:=fun h=>by
  obtain⟨_,ha,h⟩:=BY.1 h;split at h
  ·rename_i ts _;obtain⟨qs,h1,h2,h3⟩:=zM h;refine⟨.agg qs,h1,fun P μ x hx=>?_⟩;have hp:∃cs,p=.agg cs∧cs.length=aV E.P t:=by cases p<;>simp[asAgg]at ha;exact⟨_,rfl,ha⟩
   obtain⟨cs,rfl,ha⟩:=hp;rw[aZ]at h2;cases hx with
   | @agg _ xs a1 a2 a3=>
    refine .agg (by omega) (fun i q y hq hy=>?_) a3;have cd:i<cs.length:=by grind
    have he:(aJ (aV E.P t) (.agg cs))[i]?=some cs[i]:=by
     have hl:i<(aJ (aV E.P t) (.agg cs)).length:=by rw[aZ];omega
     have h5:=AI hl;obtain⟨_,h6⟩:=pe h5;simp_all[cell,PV.cells,List.getD]
    grind
  ·cases h
 unfold Wa at h;split at h
 ·exact agg h
 ·exact agg h
 ·rename_i e _;unfold Sk at h;split at h
  ·grind
  ·rename_i cs;split at h
   ·rename_i hn;split at h
    ·rename_i ts _;obtain⟨qs,h1,h2,h3⟩:=zM h;rw[aZ]at h2;refine⟨.rp qs,h1,fun P μ x hx=>?_⟩;cases hx with
     | @rp _ b o X a1 a2 a3=>
      have hc:∀i,i<qs.length→cs[i]?=some (cell (.agg cs) i):=fun i hi=>by grind [List.getElem?_eq_getElem,cell,PV.cells,List.getD]
      refine .rp X (fun i q hq=>a1 i _ (hc i (IS.1 hq).1)) (fun i q hq=>?_) (fun i hi=>a3 i (by omega));grind [aJ,aV,aZ,List.getElem?_eq_getElem,pe]
    ·cases h
   ·cases h
  ·cases h
 ·exact HD h
theorem B4{R:Type}:∀{ts:List TypeId}{ps:List PV}{k:List PV→Option R}{r:R},zL E ts ps k=some r→∃qs,k qs=some r∧qs.length=ps.length∧∀(P:Program)(μ:Ro)(i:Nat)p q x,ps[i]?=some p→qs[i]?=some q→ai P μ p x→ai P μ q x
 |[],ps,k,r,h=>⟨ps,by simpa[zL]using h,rfl,fun P μ i p q x hp hq hx=>by simp_all⟩
 |t::ts,[],k,r,h=>⟨[],by simpa[zL]using h,rfl,by simp⟩
 |t::ts,p::ps,k,r,h=>by
  simp only[zL]at h;obtain⟨q,h1,h2⟩:=Wb h;obtain⟨qs,h3,h4,h5⟩:=B4 h1;refine⟨q::qs,h3,by simp[h4],fun P μ i p' q' x hp hq hx=>?_⟩;cases i with
  |zero=>simp at hp hq;subst hp;subst hq;exact h2 P μ x hx
  |succ i=>exact h5 P μ i p' q' x (by simpa using hp) (by simpa using hq) hx
theorem adJ{μ:Ro}{xs:Array Value}{ps:List PV}(vo:∀b o,μ b=some o→w.heap[b]?=some o)(hgl:∀g cs,E.aM g=some cs→ze E.P μ g cs)(hlen:ps.length=xs.size)(ku:∀(i:Nat)p x,ps[i]?=some p→xs[i]?=some x→ai E.P μ p x)(Wc:ps.length≤E.fn.ntmps):Rel E.P E.aM E.fn.ntmps {w:=w,mu:=μ,sv:=fun _=>undef} μ (fun _=>default) (ER (ps.map .pv)) (fun _=>none) {tmps:=xs++Array.replicate (E.fn.ntmps-xs.size) undef,defers:=[]} w:=by
 have wM:∀t,ah E.P μ (fun _=>default) (ER (ps.map .pv) t) (ax E.fn.ntmps {w:=w,mu:=μ,sv:=fun _=>undef} {tmps:=xs++Array.replicate (E.fn.ntmps-xs.size) undef,defers:=[]} t):=fun t=>by
  simp only[ER];by_cases ht:t<ps.length
  ·have h1:(ps.map V.pv).getD t .top=.pv ps[t]:=by simp[List.getD,ht]
   have hxt:t<xs.size:=by omega
   have h2:(xs++Array.replicate (E.fn.ntmps-xs.size) undef).getD t undef=xs[t]:=by rw[ajG,akT hxt,T0 hxt];rfl
   rw[h1,rI (by omega),h2];exact .pv (ku t _ _ (AI ht) (T0 hxt))
  ·have h1:(ps.map V.pv).getD t .top=.top:=by simp[List.getD,ht]
   rw[h1];exact .top
 have Db:∀t id,(ER (ps.map .pv) t).has id=true→((fun _=>none:Mem) id).isSome=true:=fun t id av=>by
  simp only[ER]at av;by_cases ht:t<ps.length
  ·simp_all
  simp_all
 exact{below:=lA.refl _ _,ro:=vo,aM:=hgl,dH:=(fun id b h=>by cases h),own:=(fun id b g h=>by cases h),inj:=(fun _ _ _ _ _ h=>by simp),apart:=(fun _ _ h=>by cases h),fY:=(fun _ _ _ h=>by cases h),base:=fun _ _ h _=>h,dJ:=(fun _ _ h=>by cases h),Dc:=(fun _ _ h=>by cases h),size:=by simp;omega,defers:=.nil _ _ _,mY:=(fun _ _ h=>by omega),fr:=wM,live:=Db}
variable{g:FuncId}
theorem TP(hE:kv E)(hyl:E.yl=BT)(hf:E.P.funcs[g]?=some E.fn)(hn:(E.fn.name== "runtime.NumGoroutine")=false){c:Code}(hb:E.fn.body=some c):vp E.P E.aM g (al E):=by
 refine⟨⟨E.fn,c,hf,hb,hn⟩,fun ps r h w μ xs vo hgl hlen ku=>?_⟩;unfold al at h;rw[hb]at h;simp only at h;split at h
 ·rename_i Wc;obtain⟨qs,h,hql,hqr⟩:=B4 h;have ku:∀(i:Nat)p x,qs[i]?=some p→xs[i]?=some x→ai E.P μ p x:=fun i q x hq hx=>by grind
  have hlen:qs.length=xs.size:=by omega
  have Wc:qs.length≤E.fn.ntmps:=by omega
  clear hql hqr;revert qs;intro ps h ku hlen Wc;have hR:=adJ (E:=E) vo hgl hlen ku Wc;refine tD hE (by rw[hyl];exact AV _ _ _ _) (fun _ _ h=>by omega) hf hb h hR fun e f' m' μ' φ' tmps w' hk j6=>?_;have fin:V9 E E.fn.results.toList f' m'=some r→∃v,(results E.fn tmps).run E.P w'=.ok v w'∧∃y,Ending.returned v=.returned y∧lA w.heap.size w w'∧ai E.P (cN μ w w') r y:=fun hk=>by obtain⟨y,y1,y2⟩:=Zv j6 hk;exact⟨y,y1,y,rfl,j6.below,y2⟩
  grind
 ·cases h
theorem ur.adK{P:Program}{G:Nat→Option (List PV)}{nt:Nat}{yl:YL}{w0:bI}{o:Ro}(h:ur P G nt yl w0):ur P G nt yl {w0 with mY:=o}:=fun R site id args f m k r hy μ φ ρ w xs hM hF hρ hl hr Jj g hg=>
  let⟨fn,tmps,assign,body,y1,y2⟩:=h R site id args f m k r hy μ φ ρ w xs (hM.w7 rfl rfl hM.dJ fun _ _ _=>rfl) hF hρ hl hr Jj g hg
  ⟨fn,tmps,assign,body,y1,y2.mono fun e w'⟨v,f',m',y,μ',φ',a1,a2,a3,a4,a5⟩=>⟨v,f',m',y,μ',φ',a1,a2,a3,a4.w7 rfl rfl a4.dJ fun _ _ _=>rfl,a5⟩⟩
theorem abN(hE:kv E)(hf:E.P.funcs[g]?=some E.fn)(hn:(E.fn.name== "runtime.NumGoroutine")=false){args:List V}{f:Fr}{m:Mem}{k:V→Fr→Mem→Option R}{r:R}(h:Eg E args f m k=some r):On E.P E.aM g E.yl args f m k r:=by
 unfold Eg at h;split at h
 ·rename_i c hb;split at h
  ·rename_i Wc;refine⟨E.fn,c,hf,hb,hn,fun w0 μ φ ρ w xs hM hF hlen ku Db hY=>?_⟩;have ec:∀t,t<args.length→∃v,args[t]?=some v∧args.getD t .top=v:=fun t ht=>⟨args[t],AI ht,by simp[List.getD,ht]⟩;have hR:Rel E.P E.aM E.fn.ntmps {w0 with sv:=fun t=>ρ (t-E.fn.ntmps),mY:=w0.dJ} μ φ (wA E.fn.ntmps args f) m {tmps:=xs++Array.replicate (E.fn.ntmps-xs.size) undef,defers:=[]} w:=
    {toaz:=hM.w7 rfl rfl hM.dJ fun _ _ _=>rfl,size:=by simp;omega,defers:=.nil _ _ _,mY:=fun _ _ h=>h,fr:=fun t=>by
      unfold wA ax;by_cases ht:t<E.fn.ntmps
      ·rw[show Nat.blt t E.fn.ntmps=true by simp_all,BK ht];show ah E.P μ φ (args.getD t .top) _;by_cases ha:t<args.length
       ·obtain⟨v,h1,h2⟩:=ec t ha;have hxt:t<xs.size:=by omega
        rw[h2];have h3:(xs++Array.replicate (E.fn.ntmps-xs.size) undef).getD t undef=xs[t]:=by simp_all
        rw[h3];exact ku t v _ h1 (T0 hxt)
       ·have h1:args.getD t .top=.top:=by simp[List.getD,ha]
        rw[h1];exact .top
      ·rw[show Nat.blt t E.fn.ntmps=false by rw[←akQ,akH];omega,IN ht];exact hF.fr _,
     live:=fun t id av=>by
      unfold wA at av;cases e:Nat.blt t E.fn.ntmps with
      |true=>
       rw[e]at av;have av:(args.getD t .top).has id=true:=av;by_cases ha:t<args.length
       ·obtain⟨v,h1,h2⟩:=ec t ha;rw[h2]at av;exact Db id (cW.2 ⟨v,ah3 h1,av⟩)
       simp_all
      |false=>rw[e]at av;exact hF.live _ id av}
   refine tD hE hY.adK (fun _ _ h=>h) hf hb h hR fun e f' m' μ' φ' tmps w' hk j6=>?_;have hF':cu E.P μ' φ' m' (wU E.fn.ntmps f') ρ:=by refine⟨fun t=>?_,fun t id av=>j6.live _ id av⟩;have:=j6.fr (t+E.fn.ntmps);unfold ax at this;rw[IN (by omega)]at this;simp only[ak3]at this;exact this
   have fin:(AU E f' m' E.fn.results.toList fun vs=>match vs with
    |[v]=>k v (wU E.fn.ntmps f') m'
    |vs=>k (.bu vs) (wU E.fn.ntmps f') m')=some r→∃v,(results E.fn tmps).run E.P w'=.ok v w'∧
    ∃v1 f1 m1 y μ1 φ1,k v1 f1 m1=some r∧Ending.returned v=.returned y∧az E.P E.aM w0 μ1 φ1 m1 w'∧cu E.P μ1 φ1 m1 f1 ρ∧ah E.P μ1 φ1 v1 y∧∀id,v1.has id=true→(m1 id).isSome=true:=fun hk=>by
    obtain⟨vs,ys,h1,h2,h3,h4,h5,h6⟩:=wX j6 _ hk
    refine⟨_,wY h3,?_⟩
    have hM0:az E.P E.aM w0 μ' φ' m' w':=j6.toaz.w7 rfl rfl j6.dJ fun _ _ _=>rfl
    split at h1
    ·rename_i v;have hx:∃y,ys=[y]:=by
      match ys,h4,h2 with
      |[y],_,_=>simp
      |[],h4,h2=>grind
      |_::_::_,h4,h2=>simp_all
     obtain⟨y,rfl⟩:=hx;refine⟨v,_,_,y,μ',φ',h1,by simp,hM0,hF',h5 0 v y rfl rfl,fun id av=>h6 id (by simp[cD,av])⟩
    ·rename_i cY;have oh:¬ys.toArray.size=1:=fun h=>by
      have:vs.length=1:=by simp at h;omega
      match vs,this with
      |[v],_=>exact cY v rfl
     rw[dif_neg oh];exact⟨.bu vs,_,_,_,μ',φ',h1,rfl,hM0,hF',.bu (by simp;omega) (fun i q x hq hx=>h5 i q x hq (by simpa using hx)),fun id av=>h6 id (by simpa only[V.has]using av)⟩
   grind
  ·cases h
 ·cases h
theorem Zw{μ:Ro}{d len s:Nat}{et:TypeId}{es:List PV}{x:Value}(hA:aN E.P μ φ w d s et es)(hx:ah E.P μ φ (.fX d 0 len) x):∃ph:aH,ph.g=(φ d).g∧aN E.P μ (fun _=>ph) w 0 s et (es.take len)∧∀μ',ah E.P μ' (fun _=>ph) (.os 0) x:=by
 obtain⟨h1,h2,h3,h4,h5,h6,h7⟩:=hA;cases hx with
 |rJ hg=>refine⟨φ d,rfl,?_,fun μ'=>.s9 hg⟩;rw[hg]at h7;obtain⟨rfl,h7⟩:=h7;refine⟨h1,h2,h3,h4,by simp,h6,?_⟩;simp_all
 | @fX _ _ _ cap g ad hg hl ha hc hc'=>
  rw[hg]at h7;obtain⟨q,Tq,q1,q2,q3,q4,q5⟩:=h7;have hlen:(es.take len).length=len:=by simp_all
  have had:ad=⟨g,0,none⟩:=by simp_all
  subst had;refine⟨{φ d with cap:=cap,len:=len},rfl,⟨by simp[hlen],h2,h3,h4,fun i e he=>h5 i e (jr he).1,by simp;omega,?_⟩,fun μ'=>?_⟩
  ·simp only[hg];refine⟨q,Tq,q1,ajP (adq _ (by omega)) q2,by omega,fun i e j p x he hp hx=>q4 i e j p x (jr he).1 hp hx,fun i x hi hx=>q5 i x (Nat.lt_of_lt_of_le hi (adq _ (by omega))) hx⟩
  ·exact ah.os (P:=E.P) (μ:=μ') (φ:=fun _=>{φ d with cap:=cap,len:=len}) (id:=0) (g:=g) hg
theorem TQ(hE:kv E)(hyl:E.yl=BT)(hf:E.P.funcs[g]?=some E.fn)(hn:(E.fn.name== "runtime.NumGoroutine")=false){c:Code}(hb:E.fn.body=some c):B5 E.P E.aM g (Eh E):=by
 refine⟨⟨E.fn,c,hf,hb,hn⟩,fun fn t el VG ht hu ps r h w μ xs vo hgl hlen ku=>?_⟩;rw[hf]at VG;cases VG;unfold Eh at h;rw[hb]at h;simp only at h;split at h
 ·rename_i Wc;obtain⟨qs,h,hql,hqr⟩:=B4 h;have ku:∀(i:Nat)p x,qs[i]?=some p→xs[i]?=some x→ai E.P μ p x:=fun i q x hq hx=>by grind
  have hlen:qs.length=xs.size:=by omega
  have Wc:qs.length≤E.fn.ntmps:=by omega
  clear hql hqr;revert qs;intro ps h ku hlen Wc;refine tD hE (by rw[hyl];exact AV _ _ _ _) (fun _ _ h=>by omega) hf hb h (adJ vo hgl hlen ku Wc) fun e f' m' μ' φ' tmps w' hk j6=>?_;have fin:abM E f' m'=some r→∃v,(results E.fn tmps).run E.P w'=.ok v w'∧∃(y:Value)(ph:aH)(es:List PV),Ending.returned v=.returned y∧lA w.heap.size w w'∧r=.rs (aV E.P el) es∧(∀g,ph.g=some g→w.heap.size≤g)∧aN E.P (nd (cN μ w w') ph.g) (fun _=>ph) w' 0 (aV E.P el) el es∧ah E.P μ (fun _=>ph) (.os 0) y:=fun hk=>by
   unfold abM at hk;rw[ht]at hk;simp only[hu]at hk;obtain⟨vs,ys,h1,h2,h3,h4,h5,h6⟩:=wX j6 _ hk;refine⟨_,wY h3,?_⟩;split at h1
   ·rename_i id;split at h1
    ·rename_i sz et es hm;split at h1
     ·rename_i hs;obtain⟨rfl,rfl⟩:=hs;simp only[AT]at h1;have hx:∃y,ys=[y]:=by
       match ys,h4,h2 with
       |[y],_,_=>simp
       |[],h4,h2=>grind
       |_::_::_,h4,h2=>simp_all
      obtain⟨y,rfl⟩:=hx;have hA:=j6.dH id _ hm;refine⟨y,φ' id,es,by simp,j6.below,h1.symm,fun g hg=>(j6.own id _ g hm (.inl hg)).1,?_,?_⟩
      ·refine aN.move (μ:=μ') hA rfl fun b o yE=>?_;unfold nd;rw[IN fun e=>by have:=(j6.own id _ b hm (.inl e)).2 rfl;simp_all];unfold cN;split
       ·rename_i cd;exact j6.base b o yE cd
       ·exact j6.ro b o yE
      ·have:=h5 0 _ y rfl rfl;cases this with
       |s9 h=>exact .s9 h
       |os h=>exact .os (id:=0) (φ:=fun _=>φ' id) h
     ·cases h1
    ·cases h1
   ·rename_i id len;split at h1
    ·rename_i sz et es hm;split at h1
     ·rename_i hs;obtain⟨rfl,rfl⟩:=hs;simp only[AT]at h1;have hx:∃y,ys=[y]:=by
       match ys,h4,h2 with
       |[y],_,_=>simp
       |[],h4,h2=>grind
       |_::_::_,h4,h2=>simp_all
      obtain⟨y,rfl⟩:=hx;obtain⟨ph,p1,p2,p3⟩:=Zw (j6.dH id _ hm) (h5 0 _ y rfl rfl);refine⟨y,ph,es.take len,by simp,j6.below,h1.symm,fun g hg=>(j6.own id _ g hm (.inl (by rw[←p1];omega))).1,?_,(p3 _:)⟩;refine aN.move (μ:=μ') (φ:=fun _=>ph) (i:=0) p2 rfl fun b o yE=>?_;unfold nd;rw[IN fun e=>by have:=(j6.own id _ b hm (.inl (by rw[←p1];omega))).2 rfl;simp_all];unfold cN;split
      ·rename_i cd;exact j6.base b o yE cd
      ·exact j6.ro b o yE
     ·cases h1
    ·cases h1
   ·cases h1
  grind
 ·cases h
end
end Go.Ab
