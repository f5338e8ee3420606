import Derived.Test.YtanikidijjaohaaGreatAbP8
set_option linter.unusedVariables false
namespace Go.Ab
open Go.RowKit (Below)
section
variable {E:Env} {w0:br}
def Dd(tmps:Array Value):ResultVar→Sem Value
 |.tmp t=>pure (tmps.getD t undef)
 |.cell a t=>do loadVar t (←asAddr (tmps.getD a undef))
theorem vw{R:Type}{f:Fr}{m:Mem}{μ:Ro}{φ:Nat→aA}{a:Act}{w:World}(hR:Rel E.P E.aD E.fn.ntmps w0 μ φ f m a w):∀(rs:List ResultVar){k:List V→Option R}{r:R},zf E f m rs k=some r→∃(vs:List V)(xs:List Value),k vs=some r∧vs.length=rs.length∧(rs.mapM (Dd a.tmps)).run E.P w=.ok xs w∧xs.length=rs.length∧(∀(i:Nat)v x,vs[i]?=some v→xs[i]?=some x→ae E.P μ φ v x)∧∀id,cm id vs=true→(m id).isSome=true
 |[],k,r,h=>⟨[],[],h,rfl,by simp,rfl,by simp,fun id hid=>by cases hid⟩
 |.tmp t::rs,k,r,h=>by
  simp only[zf]at h;obtain⟨vs,xs,h1,h2,h3,h4,h5,h6⟩:=vw hR rs h;refine⟨bw E f (.tmp t)::vs,a.tmps.getD t undef::xs,h1,by simp[h2],?_,by simp[h4],fun i v x hv hx=>?_,fun id hid=>?_⟩
  ·rw[List.mapM_cons];simp only[Dd,Sem.run_bind,Sem.run_pure,Result.andThen_ok,h3]
  ·cases i with
   |zero=>simp only[List.getElem?_cons_zero,Option.some.injEq]at hv hx;subst hv;subst hx;exact(aj hR (.tmp t)).1
   |succ i=>exact h5 i v x (by simpa using hv) (by simpa using hx)
  ·simp only[cm,Bool.or_eq_true]at hid;rcases hid with hid|hid
   ·exact(aj hR (.tmp t)).2 id hid
   ·exact h6 id hid
 |.cell b t::rs,k,r,h=>by
  simp only[zf]at h;obtain⟨v,ft,_,h,_,hl⟩:=Jj h;obtain⟨vs,xs,h1,h2,h3,h4,h5,h6⟩:=vw hR rs h;obtain⟨y,y1,y2,y3⟩:=hl E.aD w0 μ φ w _ hR.toav (aj hR (.tmp b)).1;have hld:(do loadVar t (←asAddr (a.tmps.getD b undef)):Sem Value).run E.P w=.ok y w:=by
   have y1:(Instr.loadAt t (a.tmps.getD b undef)).run E.P w=.ok y w:=y1;generalize a.tmps.getD b undef=z at y1;unfold Instr.loadAt at y1;cases z<;>simp only[Instr.sureAddr]at y1<;>try (simp[stuck,Sem.run_bind]at y1;done)
   rename_i o;cases o with
   |none=>simp[stuck,Sem.run_bind]at y1
   |some ad=>exact y1
  refine⟨v::vs,y::xs,h1,by simp[h2],?_,by simp[h4],fun i v' x hv hx=>?_,fun id hid=>?_⟩
  ·rw[List.mapM_cons];have ae6:(Dd a.tmps (.cell b t)).run E.P w=.ok y w:=hld;simp only[Sem.run_bind,Sem.run_pure,Result.andThen_ok,ae6,h3]
  ·cases i with
   |zero=>simp at hv hx;subst hv;subst hx;exact y2
   |succ i=>exact h5 i v' x (by simpa using hv) (by simpa using hx)
  ·simp only[cm,Bool.or_eq_true]at hid;rcases hid with hid|hid
   ·exact y3 id hid
   ·exact h6 id hid
variable{w:World}
theorem vz{a:Act}{xs:List Value}(h3:(E.fn.results.toList.mapM (Dd a.tmps)).run E.P w=.ok xs w):(results E.fn a.tmps).run E.P w=.ok (if h:xs.toArray.size=1 then xs.toArray[0]else .tuple xs.toArray) w:=by show(do let vs←E.fn.results.mapM (Dd a.tmps);pure (if h:vs.size=1 then vs[0]else .tuple vs):Sem Value).run E.P w=_;rw[Array.mapM_eq_mapM_toList];simp[h3]
variable{φ:Nat→aA}
theorem WW{f:Fr}{m:Mem}{μ:Ro}{a:Act}(hR:Rel E.P E.aD E.fn.ntmps w0 μ φ f m a w){p:PV}(h:TF E E.fn.results.toList f m=some p):∃y,(results E.fn a.tmps).run E.P w=.ok y w∧af E.P (cF w0.mu w0.w w) p y:=by
 unfold TF at h;obtain⟨vs,xs,h1,h2,h3,h4,h5,h6⟩:=vw hR _ h;have hν:∀b o,μ b=some o→cF w0.mu w0.w w b=some o:=fun b o hb=>by
  unfold cF;split
  ·rename_i bm;exact hR.base b o hb bm
  ·exact hR.ro b o hb
 have tW:∀id b g,m id=some b→b.owns (φ id) g→cF w0.mu w0.w w g=w.heap[g]?:=fun id b g hb hg=>by have:=(hR.own id b g hb hg).1;unfold cF;rw[if_neg (by show¬g<w0.heap.size;omega)]
 have nu:=vz h3;refine⟨_,nu,?_⟩;split at h1
 ·rename_i v;have hx:∃x,xs=[x]:=by
   match xs,h4,h2 with
   |[x],_,_=>exact⟨x,rfl⟩
   |[],h4,h2=>rw[←h4]at h2;simp at h2
   |_::_::_,h4,h2=>rw[←h4]at h2;simp at h2
  obtain⟨x,rfl⟩:=hx;simp only[List.size_toArray,List.length_cons,List.length_nil,Nat.zero_add,dite_true];exact sU hR.toav hν tW _ h1 (h5 0 v x rfl rfl)
 ·rename_i cB;obtain⟨ps,nd,h1⟩:=Option.bind_eq_some_iff.1 h1;simp only[Option.some.injEq]at h1;subst h1;obtain⟨p1,p2⟩:=gV nd;have l0:¬xs.toArray.size=1:=fun h=>by
   have:vs.length=1:=by simp at h;omega
   match vs,this with
   |[v],_=>exact cB v rfl
  rw[dif_neg l0];refine .bt (by simp;omega) fun i q x hq hx=>?_;obtain⟨v,hv,hf⟩:=p2 i q hq;exact sU hR.toav hν tW _ hf (h5 i v x hv (by simpa using hx))
variable{R:Type}
theorem FQ{t:TypeId}{p:PV}{k:PV→Option R}{r:R}(h:Hm E t p k=some r):∃q,k q=some r∧∀(P:Program)(μ:Ro)x,af P μ p x→af P μ q x:=by
 have ld:gr E t p k=some r→∃q,k q=some r∧∀(P:Program)(μ:Ro)x,af P μ p x→af P μ q x:=fun h=>by obtain⟨q,_,h1,h2,_⟩:=lq h;exact⟨q,h1,h2⟩
 unfold Hm at h;split at h
 ·exact ld h
 ·exact ld h
 ·exact ld h
 ·exact ld h
 ·exact ld h
 ·exact⟨p,h,fun _ _ _ h=>h⟩
theorem xY{R:Type}:∀{ts:List TypeId}{ps:List PV}{k:List PV→Option R}{r:R},pJ E ts ps k=some r→∃qs,k qs=some r∧qs.length=ps.length∧∀(P:Program)(μ:Ro)(i:Nat)p q x,ps[i]?=some p→qs[i]?=some q→af P μ p x→af P μ q x
 |[],ps,k,r,h=>⟨ps,by simpa[pJ]using h,rfl,fun P μ i p q x hp hq hx=>by rw[hp]at hq;cases hq;exact hx⟩
 |t::ts,[],k,r,h=>⟨[],by simpa[pJ]using h,rfl,by simp⟩
 |t::ts,p::ps,k,r,h=>by
  simp only[pJ]at h;obtain⟨q,h1,h2⟩:=FQ h;obtain⟨qs,h3,h4,h5⟩:=xY h1;refine⟨q::qs,h3,by simp[h4],fun P μ i p' q' x hp hq hx=>?_⟩;cases i with
  |zero=>simp at hp hq;subst hp;subst hq;exact h2 P μ x hx
  |succ i=>exact h5 P μ i p' q' x (by simpa using hp) (by simpa using hq) hx
theorem TH{t:TypeId}{p:PV}{k:PV→Option R}{r:R}(h:TG E t p k=some r):∃q,k q=some r∧∀(P:Program)(μ:Ro)x,af P μ p x→af P μ q x:=by
 have agg:((asAgg (aP E.P t) p).bind fun _=>match C6 E.P 8 t with|some ts=>pJ E ts (aC (aP E.P t) p) fun cs=>k (.agg cs)|none=>none)=some r→∃q,k q=some r∧∀(P:Program)(μ:Ro)x,af P μ p x→af P μ q x:=fun h=>by
  obtain⟨_,ha,h⟩:=Option.bind_eq_some_iff.1 h;split at h
  ·rename_i ts _;obtain⟨qs,h1,h2,h3⟩:=xY h;refine⟨.agg qs,h1,fun P μ x hx=>?_⟩;have hp:∃cs,p=.agg cs∧cs.length=aP E.P t:=by cases p<;>simp[asAgg]at ha;exact⟨_,rfl,ha⟩
   obtain⟨cs,rfl,ha⟩:=hp;rw[aT]at h2;cases hx with
   | @agg _ xs a1 a2 a3=>
    refine .agg (by omega) (fun i q y hq hy=>?_) a3;have bm:i<cs.length:=by have:=(Array.getElem?_eq_some_iff.1 hy).1;omega
    have he:(aC (aP E.P t) (.agg cs))[i]?=some cs[i]:=by
     have hl:i<(aC (aP E.P t) (.agg cs)).length:=by rw[aT];omega
     have h5:=List.getElem?_eq_getElem hl;obtain⟨_,h6⟩:=nW h5;rw[h5,h6];simp[cell,PV.cells,List.getD,bm]
    exact h3 P μ i _ q y he hq (a2 i _ y (List.getElem?_eq_getElem bm) hy)
  ·cases h
 unfold TG at h;split at h
 ·exact agg h
 ·exact agg h
 ·rename_i e _;unfold PT at h;split at h
  ·exact⟨_,h,fun _ _ _ h=>h⟩
  ·rename_i cs;split at h
   ·rename_i hn;split at h
    ·rename_i ts _;obtain⟨qs,h1,h2,h3⟩:=xY h;rw[aT]at h2;refine⟨.rp qs,h1,fun P μ x hx=>?_⟩;cases hx with
     | @rp _ b o X a1 a2 a3=>
      have hc:∀i,i<qs.length→cs[i]?=some (cell (.agg cs) i):=fun i hi=>by
       have:i<cs.length:=by omega
       rw[List.getElem?_eq_getElem this];simp[cell,PV.cells,List.getD,this]
      refine .rp X (fun i q hq=>a1 i _ (hc i (List.getElem?_eq_some_iff.1 hq).1)) (fun i q hq=>?_) (fun i hi=>a3 i (by omega));have hi:=(List.getElem?_eq_some_iff.1 hq).1;have hl:i<(aC (aP E.P e) (.agg cs)).length:=by rw[aT];omega
      have h5:=List.getElem?_eq_getElem hl;obtain⟨_,h6⟩:=nW h5;rw[h6]at h5;exact h3 P μ i _ q _ h5 hq (a2 i _ (hc i hi))
    ·cases h
   ·cases h
  ·cases h
 ·exact FQ h
theorem AA{R:Type}:∀{ts:List TypeId}{ps:List PV}{k:List PV→Option R}{r:R},xX E ts ps k=some r→∃qs,k qs=some r∧qs.length=ps.length∧∀(P:Program)(μ:Ro)(i:Nat)p q x,ps[i]?=some p→qs[i]?=some q→af P μ p x→af P μ q x
 |[],ps,k,r,h=>⟨ps,by simpa[xX]using h,rfl,fun P μ i p q x hp hq hx=>by rw[hp]at hq;cases hq;exact hx⟩
 |t::ts,[],k,r,h=>⟨[],by simpa[xX]using h,rfl,by simp⟩
 |t::ts,p::ps,k,r,h=>by
  simp only[xX]at h;obtain⟨q,h1,h2⟩:=TH h;obtain⟨qs,h3,h4,h5⟩:=AA h1;refine⟨q::qs,h3,by simp[h4],fun P μ i p' q' x hp hq hx=>?_⟩;cases i with
  |zero=>simp at hp hq;subst hp;subst hq;exact h2 P μ x hx
  |succ i=>exact h5 P μ i p' q' x (by simpa using hp) (by simpa using hq) hx
theorem aby{μ:Ro}{xs:Array Value}{ps:List PV}(sO:∀b o,μ b=some o→w.heap[b]?=some o)(Z3:∀g cs,E.aD g=some cs→xq E.P μ g cs)(hlen:ps.length=xs.size)(jd:∀(i:Nat)p x,ps[i]?=some p→xs[i]?=some x→af E.P μ p x)(TI:ps.length≤E.fn.ntmps):Rel E.P E.aD E.fn.ntmps {w:=w,mu:=μ,sv:=fun _=>undef} μ (fun _=>default) (Dc (ps.map .pv)) (fun _=>none) {tmps:=xs++Array.replicate (E.fn.ntmps-xs.size) undef,defers:=[]} w:=by
 have vi:∀t,ae E.P μ (fun _=>default) (Dc (ps.map .pv) t) (az E.fn.ntmps {w:=w,mu:=μ,sv:=fun _=>undef} {tmps:=xs++Array.replicate (E.fn.ntmps-xs.size) undef,defers:=[]} t):=fun t=>by
  simp only[Dc];by_cases ht:t<ps.length
  ·have h1:(ps.map V.pv).getD t .top=.pv ps[t]:=by simp[List.getD,ht]
   have Z4:t<xs.size:=by omega
   have h2:(xs++Array.replicate (E.fn.ntmps-xs.size) undef).getD t undef=xs[t]:=by rw[Array.getD_eq_getD_getElem?,Array.getElem?_append_left Z4,Array.getElem?_eq_getElem Z4];rfl
   rw[h1,qm (by omega),h2];exact .pv (jd t _ _ (List.getElem?_eq_getElem ht) (Array.getElem?_eq_getElem Z4))
  ·have h1:(ps.map V.pv).getD t .top=.top:=by simp[List.getD,ht]
   rw[h1];exact .top
 have BC:∀t id,(Dc (ps.map .pv) t).has id=true→((fun _=>none:Mem) id).isSome=true:=fun t id hid=>by
  simp only[Dc]at hid;by_cases ht:t<ps.length
  ·have h1:(ps.map V.pv).getD t .top=.pv ps[t]:=by simp[List.getD,ht]
   rw[h1]at hid;cases hid
  ·have h1:(ps.map V.pv).getD t .top=.top:=by simp[List.getD,ht]
   rw[h1]at hid;cases hid
 exact{below:=kG.refl _ _,ro:=sO,aD:=Z3,dy:=(fun id b h=>by cases h),own:=(fun id b g h=>by cases h),inj:=(fun _ _ _ _ _ h=>by cases h),apart:=(fun _ _ h=>by cases h),fJ:=(fun _ _ _ h=>by cases h),base:=fun _ _ h _=>h,dA:=(fun _ _ h=>by cases h),BD:=(fun _ _ h=>by cases h),size:=by simp;omega,defers:=.nil _ _ _,l5:=(fun _ _ h=>by cases h),fr:=vi,live:=BC}
variable{g:FuncId}
theorem Rq(hE:jS E)(Th:E.yl=Aq)(hf:E.P.funcs[g]?=some E.fn)(hn:(E.fn.name== "runtime.NumGoroutine")=false){c:Code}(hb:E.fn.body=some c):tX E.P E.aD g (aq E):=by
 refine⟨⟨E.fn,c,hf,hb,hn⟩,fun ps r h w μ xs sO Z3 hlen jd=>?_⟩;unfold aq at h;rw[hb]at h;simp only at h;split at h
 ·rename_i TI;obtain⟨qs,h,WX,hqr⟩:=AA h;have jd:∀(i:Nat)p x,qs[i]?=some p→xs[i]?=some x→af E.P μ p x:=fun i q x hq hx=>by
   have hi:i<ps.length:=by have:=(List.getElem?_eq_some_iff.1 hq).1;omega
   exact hqr E.P μ i _ q x (List.getElem?_eq_getElem hi) hq (jd i _ x (List.getElem?_eq_getElem hi) hx)
  have hlen:qs.length=xs.size:=by omega
  have TI:qs.length≤E.fn.ntmps:=by omega
  clear WX hqr;revert qs;intro ps h jd hlen TI;have hR:=aby (E:=E) sO Z3 hlen jd TI;refine sj hE (by rw[Th];exact zg _ _ _ _) (fun _ _ h=>by cases h) hf hb h hR fun e f' m' μ' φ' tmps w' hk jC=>?_;have fin:TF E E.fn.results.toList f' m'=some r→∃v,(results E.fn tmps).run E.P w'=.ok v w'∧∃y,Ending.returned v=.returned y∧kG w.heap.size w w'∧af E.P (cF μ w w') r y:=fun hk=>by obtain⟨y,y1,y2⟩:=WW jC hk;exact⟨y,y1,y,rfl,jC.below,y2⟩
  cases e with
  |normal=>exact⟨by simp,fin hk⟩
  |exit id=>cases hk
  |ret=>exact⟨by simp,fin hk⟩
 ·cases h
theorem sV.abz{P:Program}{G:Nat→Option (List PV)}{nt:Nat}{yl:YL}{w0:br}{o:Ro}(h:sV P G nt yl w0):sV P G nt yl {w0 with l5:=o}:=fun R site id args f m k r hy μ φ ρ w xs hM hF hρ hl hr Ho g hg=>
  let⟨fn,tmps,assign,body,y1,y2⟩:=h R site id args f m k r hy μ φ ρ w xs (hM.vA rfl rfl hM.dA fun _ _ _=>rfl) hF hρ hl hr Ho g hg
  ⟨fn,tmps,assign,body,y1,y2.mono fun e w'⟨v,f',m',y,μ',φ',a1,a2,a3,a4,a5⟩=>⟨v,f',m',y,μ',φ',a1,a2,a3,a4.vA rfl rfl a4.dA fun _ _ _=>rfl,a5⟩⟩
theorem Z5(hE:jS E)(hf:E.P.funcs[g]?=some E.fn)(hn:(E.fn.name== "runtime.NumGoroutine")=false){args:List V}{f:Fr}{m:Mem}{k:V→Fr→Mem→Option R}{r:R}(h:CF E args f m k=some r):L4 E.P E.aD g E.yl args f m k r:=by
 unfold CF at h;split at h
 ·rename_i c hb;split at h
  ·rename_i TI;refine⟨E.fn,c,hf,hb,hn,fun w0 μ φ ρ w xs hM hF hlen jd BC hY=>?_⟩;have er:∀t,t<args.length→∃v,args[t]?=some v∧args.getD t .top=v:=fun t ht=>⟨args[t],List.getElem?_eq_getElem ht,by simp[List.getD,ht]⟩;have hR:Rel E.P E.aD E.fn.ntmps {w0 with sv:=fun t=>ρ (t-E.fn.ntmps),l5:=w0.dA} μ φ (uU E.fn.ntmps args f) m {tmps:=xs++Array.replicate (E.fn.ntmps-xs.size) undef,defers:=[]} w:=
    {toav:=hM.vA rfl rfl hM.dA fun _ _ _=>rfl,size:=by simp;omega,defers:=.nil _ _ _,l5:=fun _ _ h=>h,fr:=fun t=>by
      unfold uU az;by_cases ht:t<E.fn.ntmps
      ·rw[show Nat.blt t E.fn.ntmps=true by rw[Nat.blt_eq];exact ht,if_pos ht];show ae E.P μ φ (args.getD t .top) _;by_cases ha:t<args.length
       ·obtain⟨v,h1,h2⟩:=er t ha;have Z4:t<xs.size:=by omega
        rw[h2];have h3:(xs++Array.replicate (E.fn.ntmps-xs.size) undef).getD t undef=xs[t]:=by rw[Array.getD_eq_getD_getElem?,Array.getElem?_append_left Z4,Array.getElem?_eq_getElem Z4];rfl
        rw[h3];exact jd t v _ h1 (Array.getElem?_eq_getElem Z4)
       ·have h1:args.getD t .top=.top:=by simp[List.getD,ha]
        rw[h1];exact .top
      ·rw[show Nat.blt t E.fn.ntmps=false by rw[←Bool.not_eq_true,Nat.blt_eq];exact ht,if_neg ht];exact hF.fr _,
     live:=fun t id hid=>by
      unfold uU at hid;cases e:Nat.blt t E.fn.ntmps with
      |true=>
       rw[e]at hid;have hid:(args.getD t .top).has id=true:=hid;by_cases ha:t<args.length
       ·obtain⟨v,h1,h2⟩:=er t ha;rw[h2]at hid;exact BC id (cL.2 ⟨v,List.mem_of_getElem? h1,hid⟩)
       ·have h1:args.getD t .top=.top:=by simp[List.getD,ha]
        rw[h1]at hid;cases hid
      |false=>rw[e]at hid;exact hF.live _ id hid}
   refine sj hE hY.abz (fun _ _ h=>h) hf hb h hR fun e f' m' μ' φ' tmps w' hk jC=>?_;have hF':bZ E.P μ' φ' m' (vt E.fn.ntmps f') ρ:=by refine⟨fun t=>?_,fun t id hid=>jC.live _ id hid⟩;have:=jC.fr (t+E.fn.ntmps);unfold az at this;rw[if_neg (by omega)]at this;simp only[Nat.add_sub_cancel]at this;exact this
   have fin:(zf E f' m' E.fn.results.toList fun vs=>match vs with
    |[v]=>k v (vt E.fn.ntmps f') m'
    |vs=>k (.bt vs) (vt E.fn.ntmps f') m')=some r→∃v,(results E.fn tmps).run E.P w'=.ok v w'∧
    ∃v1 f1 m1 y μ1 φ1,k v1 f1 m1=some r∧Ending.returned v=.returned y∧av E.P E.aD w0 μ1 φ1 m1 w'∧bZ E.P μ1 φ1 m1 f1 ρ∧ae E.P μ1 φ1 v1 y∧∀id,v1.has id=true→(m1 id).isSome=true:=fun hk=>by
    obtain⟨vs,ys,h1,h2,h3,h4,h5,h6⟩:=vw jC _ hk
    refine⟨_,vz h3,?_⟩
    have hM0:av E.P E.aD w0 μ' φ' m' w':=jC.toav.vA rfl rfl jC.dA fun _ _ _=>rfl
    split at h1
    ·rename_i v;have hx:∃y,ys=[y]:=by
      match ys,h4,h2 with
      |[y],_,_=>exact⟨y,rfl⟩
      |[],h4,h2=>rw[←h4]at h2;simp at h2
      |_::_::_,h4,h2=>rw[←h4]at h2;simp at h2
     obtain⟨y,rfl⟩:=hx;refine⟨v,_,_,y,μ',φ',h1,by simp,hM0,hF',h5 0 v y rfl rfl,fun id hid=>h6 id (by simp[cm,hid])⟩
    ·rename_i cB;have l0:¬ys.toArray.size=1:=fun h=>by
      have:vs.length=1:=by simp at h;omega
      match vs,this with
      |[v],_=>exact cB v rfl
     rw[dif_neg l0];exact⟨.bt vs,_,_,_,μ',φ',h1,rfl,hM0,hF',.bt (by simp;omega) (fun i q x hq hx=>h5 i q x hq (by simpa using hx)),fun id hid=>h6 id (by simpa only[V.has]using hid)⟩
   cases e with
   |normal=>exact⟨by simp,fin hk⟩
   |exit id=>cases hk
   |ret=>exact⟨by simp,fin hk⟩
  ·cases h
 ·cases h
theorem WY{μ:Ro}{d len s:Nat}{et:TypeId}{es:List PV}{x:Value}(hA:aF E.P μ φ w d s et es)(hx:ae E.P μ φ (.fH d 0 len) x):∃ph:aA,ph.g=(φ d).g∧aF E.P μ (fun _=>ph) w 0 s et (es.take len)∧∀μ',ae E.P μ' (fun _=>ph) (.os 0) x:=by
 obtain⟨h1,h2,h3,h4,h5,h6,h7⟩:=hA;cases hx with
 |qn hg=>refine⟨φ d,rfl,?_,fun μ'=>.rL hg⟩;rw[hg]at h7;obtain⟨rfl,h7⟩:=h7;refine⟨h1,h2,h3,h4,by simp,h6,?_⟩;simp only[hg];exact⟨rfl,h7⟩
 | @fH _ _ _ cap g ad hg hl ha hc WZ=>
  rw[hg]at h7;obtain⟨q,Tq,q1,q2,q3,q4,q5⟩:=h7;have hlen:(es.take len).length=len:=by rw[List.length_take];omega
  have had:ad=⟨g,0,none⟩:=by
   rcases ha with ha|⟨_,ha⟩
   ·rw[ha];simp
   ·omega
  subst had;refine⟨{φ d with cap:=cap,len:=len},rfl,⟨by simp[hlen],h2,h3,h4,fun i e he=>h5 i e (iK he).1,by simp;omega,?_⟩,fun μ'=>?_⟩
  ·simp only[hg];refine⟨q,Tq,q1,Nat.le_trans (Nat.mul_le_mul_right _ (by omega)) q2,by rw[hlen];exact hc,fun i e j p x he hp hx=>q4 i e j p x (iK he).1 hp hx,fun i x hi hx=>q5 i x (Nat.lt_of_lt_of_le hi (Nat.mul_le_mul_right _ (by rw[hlen];omega))) hx⟩
  ·exact ae.os (P:=E.P) (μ:=μ') (φ:=fun _=>{φ d with cap:=cap,len:=len}) (id:=0) (g:=g) hg
theorem Rr(hE:jS E)(Th:E.yl=Aq)(hf:E.P.funcs[g]?=some E.fn)(hn:(E.fn.name== "runtime.NumGoroutine")=false){c:Code}(hb:E.fn.body=some c):AB E.P E.aD g (Hn E):=by
 refine⟨⟨E.fn,c,hf,hb,hn⟩,fun fn t el Ti ht hu ps r h w μ xs sO Z3 hlen jd=>?_⟩;rw[hf]at Ti;cases Ti;unfold Hn at h;rw[hb]at h;simp only at h;split at h
 ·rename_i TI;obtain⟨qs,h,WX,hqr⟩:=AA h;have jd:∀(i:Nat)p x,qs[i]?=some p→xs[i]?=some x→af E.P μ p x:=fun i q x hq hx=>by
   have hi:i<ps.length:=by have:=(List.getElem?_eq_some_iff.1 hq).1;omega
   exact hqr E.P μ i _ q x (List.getElem?_eq_getElem hi) hq (jd i _ x (List.getElem?_eq_getElem hi) hx)
  have hlen:qs.length=xs.size:=by omega
  have TI:qs.length≤E.fn.ntmps:=by omega
  clear WX hqr;revert qs;intro ps h jd hlen TI;refine sj hE (by rw[Th];exact zg _ _ _ _) (fun _ _ h=>by cases h) hf hb h (aby sO Z3 hlen jd TI) fun e f' m' μ' φ' tmps w' hk jC=>?_;have fin:Z2 E f' m'=some r→∃v,(results E.fn tmps).run E.P w'=.ok v w'∧∃(y:Value)(ph:aA)(es:List PV),Ending.returned v=.returned y∧kG w.heap.size w w'∧r=.rs (aP E.P el) es∧(∀g,ph.g=some g→w.heap.size≤g)∧aF E.P (me (cF μ w w') ph.g) (fun _=>ph) w' 0 (aP E.P el) el es∧ae E.P μ (fun _=>ph) (.os 0) y:=fun hk=>by
   unfold Z2 at hk;rw[ht]at hk;simp only[hu]at hk;obtain⟨vs,ys,h1,h2,h3,h4,h5,h6⟩:=vw jC _ hk;refine⟨_,vz h3,?_⟩;split at h1
   ·rename_i id;split at h1
    ·rename_i sz et es hm;split at h1
     ·rename_i hs;obtain⟨rfl,rfl⟩:=hs;simp only[Option.some.injEq]at h1;have hx:∃y,ys=[y]:=by
       match ys,h4,h2 with
       |[y],_,_=>exact⟨y,rfl⟩
       |[],h4,h2=>rw[←h4]at h2;simp at h2
       |_::_::_,h4,h2=>rw[←h4]at h2;simp at h2
      obtain⟨y,rfl⟩:=hx;have hA:=jC.dy id _ hm;refine⟨y,φ' id,es,by simp,jC.below,h1.symm,fun g hg=>(jC.own id _ g hm (.inl hg)).1,?_,?_⟩
      ·refine aF.move (μ:=μ') hA rfl fun b o uW=>?_;unfold me;rw[if_neg fun e=>by have:=(jC.own id _ b hm (.inl e)).2 rfl;rw[this]at uW;cases uW];unfold cF;split
       ·rename_i bm;exact jC.base b o uW bm
       ·exact jC.ro b o uW
      ·have:=h5 0 _ y rfl rfl;cases this with
       |rL h=>exact .rL h
       |os h=>exact .os (id:=0) (φ:=fun _=>φ' id) h
     ·cases h1
    ·cases h1
   ·rename_i id len;split at h1
    ·rename_i sz et es hm;split at h1
     ·rename_i hs;obtain⟨rfl,rfl⟩:=hs;simp only[Option.some.injEq]at h1;have hx:∃y,ys=[y]:=by
       match ys,h4,h2 with
       |[y],_,_=>exact⟨y,rfl⟩
       |[],h4,h2=>rw[←h4]at h2;simp at h2
       |_::_::_,h4,h2=>rw[←h4]at h2;simp at h2
      obtain⟨y,rfl⟩:=hx;obtain⟨ph,p1,p2,p3⟩:=WY (jC.dy id _ hm) (h5 0 _ y rfl rfl);refine⟨y,ph,es.take len,by simp,jC.below,h1.symm,fun g hg=>(jC.own id _ g hm (.inl (by rw[←p1];exact hg))).1,?_,(p3 _:)⟩;refine aF.move (μ:=μ') (φ:=fun _=>ph) (i:=0) p2 rfl fun b o uW=>?_;unfold me;rw[if_neg fun e=>by have:=(jC.own id _ b hm (.inl (by rw[←p1];exact e))).2 rfl;rw[this]at uW;cases uW];unfold cF;split
      ·rename_i bm;exact jC.base b o uW bm
      ·exact jC.ro b o uW
     ·cases h1
    ·cases h1
   ·cases h1
  cases e with
  |normal=>exact⟨by simp,fin hk⟩
  |exit id=>cases hk
  |ret=>exact⟨by simp,fin hk⟩
 ·cases h
end
end Go.Ab
