import Derived.Test.YtcmhmlnkhmefbaaAbP8
set_option linter.unusedVariables false
namespace Go.Ab
open Go.RowKit (Below)
section
variable {E:Env} {w0:bg}
def yt(tmps:Array Value):ResultVar→Sem Value
 |.tmp t=>pure (tmps.getD t undef)
 |.cell a t=>do loadVar t (←asAddr (tmps.getD a undef))
theorem qI{R:Type}{f:Fr}{m:Mem}{μ:Ro}{φ:Nat→aw}{a:Act}{w:World}(hR:Rel E.P E.ax E.fn.ntmps w0 μ φ f m a w):∀(rs:List ResultVar){k:List V→Option R}{r:R},tY E f m rs k=some r→∃(vs:List V)(xs:List Value),k vs=some r∧vs.length=rs.length∧(rs.mapM (yt a.tmps)).run E.P w=.ok xs w∧xs.length=rs.length∧(∀(i:Nat)v x,vs[i]?=some v→xs[i]?=some x→ab E.P μ φ v x)∧∀id,bO id vs=true→(m id).isSome=true
 |[],k,r,h=>⟨[],[],h,rfl,by simp,rfl,by simp,fun id hid=>by cases hid⟩
 |.tmp t::rs,k,r,h=>by
  simp only[tY]at h;obtain⟨vs,xs,h1,h2,h3,h4,h5,h6⟩:=qI hR rs h;refine⟨bh E f (.tmp t)::vs,a.tmps.getD t undef::xs,h1,by simp[h2],?_,by simp[h4],fun i v x hv hx=>?_,fun id hid=>?_⟩
  ·rw[List.mapM_cons];simp only[yt,Sem.run_bind,Sem.run_pure,Result.andThen_ok,h3]
  ·cases i with
   |zero=>simp only[List.getElem?_cons_zero,Option.some.injEq]at hv hx;subst hv;subst hx;exact(ah hR (.tmp t)).1
   |succ i=>exact h5 i v x (by simpa using hv) (by simpa using hx)
  ·simp only[bO,Bool.or_eq_true]at hid;rcases hid with hid|hid
   ·exact(ah hR (.tmp t)).2 id hid
   ·exact h6 id hid
 |.cell b t::rs,k,r,h=>by
  simp only[tY]at h;obtain⟨v,ft,_,h,_,hl⟩:=DB h;obtain⟨vs,xs,h1,h2,h3,h4,h5,h6⟩:=qI hR rs h;obtain⟨y,y1,y2,y3⟩:=hl E.ax w0 μ φ w _ hR.toal (ah hR (.tmp b)).1;have hld:(do loadVar t (←asAddr (a.tmps.getD b undef)):Sem Value).run E.P w=.ok y w:=by
   have y1:(Instr.loadAt t (a.tmps.getD b undef)).run E.P w=.ok y w:=y1;generalize a.tmps.getD b undef=z at y1;unfold Instr.loadAt at y1;cases z<;>simp only[Instr.sureAddr]at y1<;>try (simp[stuck,Sem.run_bind]at y1;done)
   rename_i o;cases o with
   |none=>simp[stuck,Sem.run_bind]at y1
   |some ad=>exact y1
  refine⟨v::vs,y::xs,h1,by simp[h2],?_,by simp[h4],fun i v' x hv hx=>?_,fun id hid=>?_⟩
  ·rw[List.mapM_cons];have aab:(yt a.tmps (.cell b t)).run E.P w=.ok y w:=hld;simp only[Sem.run_bind,Sem.run_pure,Result.andThen_ok,aab,h3]
  ·cases i with
   |zero=>simp at hv hx;subst hv;subst hx;exact y2
   |succ i=>exact h5 i v' x (by simpa using hv) (by simpa using hx)
  ·simp only[bO,Bool.or_eq_true]at hid;rcases hid with hid|hid
   ·exact y3 id hid
   ·exact h6 id hid
variable{w:World}
theorem qJ{a:Act}{xs:List Value}(h3:(E.fn.results.toList.mapM (yt a.tmps)).run E.P w=.ok xs w):(results E.fn a.tmps).run E.P w=.ok (if h:xs.toArray.size=1 then xs.toArray[0]else .tuple xs.toArray) w:=by show(do let vs←E.fn.results.mapM (yt a.tmps);pure (if h:vs.size=1 then vs[0]else .tuple vs):Sem Value).run E.P w=_;rw[Array.mapM_eq_mapM_toList];simp[h3]
variable{φ:Nat→aw}
theorem PL{f:Fr}{m:Mem}{μ:Ro}{a:Act}(hR:Rel E.P E.ax E.fn.ntmps w0 μ φ f m a w){p:PV}(h:Mo E E.fn.results.toList f m=some p):∃y,(results E.fn a.tmps).run E.P w=.ok y w∧af E.P (cn w0.mu w0.w w) p y:=by
 unfold Mo at h;obtain⟨vs,xs,h1,h2,h3,h4,h5,h6⟩:=qI hR _ h;have hν:∀b o,μ b=some o→cn w0.mu w0.w w b=some o:=fun b o hb=>by
  unfold cn;split
  ·rename_i ba;exact hR.base b o hb ba
  ·exact hR.ro b o hb
 have pk:∀id b g,m id=some b→b.owns (φ id) g→cn w0.mu w0.w w g=w.heap[g]?:=fun id b g hb hg=>by have:=(hR.own id b g hb hg).1;unfold cn;rw[if_neg (by show¬g<w0.heap.size;omega)]
 have lC:=qJ h3;refine⟨_,lC,?_⟩;split at h1
 ·rename_i v;have hx:∃x,xs=[x]:=by
   match xs,h4,h2 with
   |[x],_,_=>exact⟨x,rfl⟩
   |[],h4,h2=>rw[←h4]at h2;simp at h2
   |_::_::_,h4,h2=>rw[←h4]at h2;simp at h2
  obtain⟨x,rfl⟩:=hx;simp only[List.size_toArray,List.length_cons,List.length_nil,Nat.zero_add,dite_true];exact oL hR.toal hν pk _ h1 (h5 0 v x rfl rfl)
 ·rename_i cq;obtain⟨ps,kx,h1⟩:=Option.bind_eq_some_iff.1 h1;simp only[Option.some.injEq]at h1;subst h1;obtain⟨p1,p2⟩:=fB kx;have jF:¬xs.toArray.size=1:=fun h=>by
   have:vs.length=1:=by simp at h;omega
   match vs,this with
   |[v],_=>exact cq v rfl
  rw[dif_neg jF];refine .bA (by simp;omega) fun i q x hq hx=>?_;obtain⟨v,hv,hf⟩:=p2 i q hq;exact oL hR.toal hν pk _ hf (h5 i v x hv (by simpa using hx))
variable{R:Type}
theorem AR{t:TypeId}{p:PV}{k:PV→Option R}{r:R}(h:Cg E t p k=some r):∃q,k q=some r∧∀(P:Program)(μ:Ro)x,af P μ p x→af P μ q x:=by
 have ld:fg E t p k=some r→∃q,k q=some r∧∀(P:Program)(μ:Ro)x,af P μ p x→af P μ q x:=fun h=>by obtain⟨q,_,h1,h2,_⟩:=iV h;exact⟨q,h1,h2⟩
 unfold Cg at h;split at h
 ·exact ld h
 ·exact ld h
 ·exact ld h
 ·exact ld h
 ·exact ld h
 ·exact⟨p,h,fun _ _ _ h=>h⟩
theorem tc{R:Type}:∀{ts:List TypeId}{ps:List PV}{k:List PV→Option R}{r:R},lV E ts ps k=some r→∃qs,k qs=some r∧qs.length=ps.length∧∀(P:Program)(μ:Ro)(i:Nat)p q x,ps[i]?=some p→qs[i]?=some q→af P μ p x→af P μ q x
 |[],ps,k,r,h=>⟨ps,by simpa[lV]using h,rfl,fun P μ i p q x hp hq hx=>by rw[hp]at hq;cases hq;exact hx⟩
 |t::ts,[],k,r,h=>⟨[],by simpa[lV]using h,rfl,by simp⟩
 |t::ts,p::ps,k,r,h=>by
  simp only[lV]at h;obtain⟨q,h1,h2⟩:=AR h;obtain⟨qs,h3,h4,h5⟩:=tc h1;refine⟨q::qs,h3,by simp[h4],fun P μ i p' q' x hp hq hx=>?_⟩;cases i with
  |zero=>simp at hp hq;subst hp;subst hq;exact h2 P μ x hx
  |succ i=>exact h5 P μ i p' q' x (by simpa using hp) (by simpa using hq) hx
theorem Mq{t:TypeId}{p:PV}{k:PV→Option R}{r:R}(h:Mp E t p k=some r):∃q,k q=some r∧∀(P:Program)(μ:Ro)x,af P μ p x→af P μ q x:=by
 have agg:((asAgg (aH E.P t) p).bind fun _=>match yg E.P 8 t with|some ts=>lV E ts (aA (aH E.P t) p) fun cs=>k (.agg cs)|none=>none)=some r→∃q,k q=some r∧∀(P:Program)(μ:Ro)x,af P μ p x→af P μ q x:=fun h=>by
  obtain⟨_,ha,h⟩:=Option.bind_eq_some_iff.1 h;split at h
  ·rename_i ts _;obtain⟨qs,h1,h2,h3⟩:=tc h;refine⟨.agg qs,h1,fun P μ x hx=>?_⟩;have hp:∃cs,p=.agg cs∧cs.length=aH E.P t:=by cases p<;>simp[asAgg]at ha;exact⟨_,rfl,ha⟩
   obtain⟨cs,rfl,ha⟩:=hp;rw[aN]at h2;cases hx with
   | @agg _ xs a1 a2 a3=>
    refine .agg (by omega) (fun i q y hq hy=>?_) a3;have ba:i<cs.length:=by have:=(Array.getElem?_eq_some_iff.1 hy).1;omega
    have he:(aA (aH E.P t) (.agg cs))[i]?=some cs[i]:=by
     have hl:i<(aA (aH E.P t) (.agg cs)).length:=by rw[aN];omega
     have h5:=List.getElem?_eq_getElem hl;obtain⟨_,h6⟩:=kT h5;rw[h5,h6];simp[cell,PV.cells,List.getD,ba]
    exact h3 P μ i _ q y he hq (a2 i _ y (List.getElem?_eq_getElem ba) hy)
  ·cases h
 unfold Mp at h;split at h
 ·exact agg h
 ·exact agg h
 ·rename_i e _;unfold IM at h;split at h
  ·exact⟨_,h,fun _ _ _ h=>h⟩
  ·rename_i cs;split at h
   ·rename_i hn;split at h
    ·rename_i ts _;obtain⟨qs,h1,h2,h3⟩:=tc h;rw[aN]at h2;refine⟨.rp qs,h1,fun P μ x hx=>?_⟩;cases hx with
     | @rp _ b o X a1 a2 a3=>
      have hc:∀i,i<qs.length→cs[i]?=some (cell (.agg cs) i):=fun i hi=>by
       have:i<cs.length:=by omega
       rw[List.getElem?_eq_getElem this];simp[cell,PV.cells,List.getD,this]
      refine .rp X (fun i q hq=>a1 i _ (hc i (List.getElem?_eq_some_iff.1 hq).1)) (fun i q hq=>?_) (fun i hi=>a3 i (by omega));have hi:=(List.getElem?_eq_some_iff.1 hq).1;have hl:i<(aA (aH E.P e) (.agg cs)).length:=by rw[aN];omega
      have h5:=List.getElem?_eq_getElem hl;obtain⟨_,h6⟩:=kT h5;rw[h6]at h5;exact h3 P μ i _ q _ h5 hq (a2 i _ (hc i hi))
    ·cases h
   ·cases h
  ·cases h
 ·exact AR h
theorem vn{R:Type}:∀{ts:List TypeId}{ps:List PV}{k:List PV→Option R}{r:R},tb E ts ps k=some r→∃qs,k qs=some r∧qs.length=ps.length∧∀(P:Program)(μ:Ro)(i:Nat)p q x,ps[i]?=some p→qs[i]?=some q→af P μ p x→af P μ q x
 |[],ps,k,r,h=>⟨ps,by simpa[tb]using h,rfl,fun P μ i p q x hp hq hx=>by rw[hp]at hq;cases hq;exact hx⟩
 |t::ts,[],k,r,h=>⟨[],by simpa[tb]using h,rfl,by simp⟩
 |t::ts,p::ps,k,r,h=>by
  simp only[tb]at h;obtain⟨q,h1,h2⟩:=Mq h;obtain⟨qs,h3,h4,h5⟩:=vn h1;refine⟨q::qs,h3,by simp[h4],fun P μ i p' q' x hp hq hx=>?_⟩;cases i with
  |zero=>simp at hp hq;subst hp;subst hq;exact h2 P μ x hx
  |succ i=>exact h5 P μ i p' q' x (by simpa using hp) (by simpa using hq) hx
theorem Vl{μ:Ro}{xs:Array Value}{ps:List PV}(kU:∀b o,μ b=some o→w.heap[b]?=some o)(SP:∀g cs,E.ax g=some cs→sE E.P μ g cs)(hlen:ps.length=xs.size)(ib:∀(i:Nat)p x,ps[i]?=some p→xs[i]?=some x→af E.P μ p x)(Mr:ps.length≤E.fn.ntmps):Rel E.P E.ax E.fn.ntmps {w:=w,mu:=μ,sv:=fun _=>undef} μ (fun _=>default) (yr (ps.map .pv)) (fun _=>none) {tmps:=xs++Array.replicate (E.fn.ntmps-xs.size) undef,defers:=[]} w:=by
 have qq:∀t,ab E.P μ (fun _=>default) (yr (ps.map .pv) t) (aG E.fn.ntmps {w:=w,mu:=μ,sv:=fun _=>undef} {tmps:=xs++Array.replicate (E.fn.ntmps-xs.size) undef,defers:=[]} t):=fun t=>by
  simp only[yr];by_cases ht:t<ps.length
  ·have h1:(ps.map V.pv).getD t .top=.pv ps[t]:=by simp[List.getD,ht]
   have SQ:t<xs.size:=by omega
   have h2:(xs++Array.replicate (E.fn.ntmps-xs.size) undef).getD t undef=xs[t]:=by rw[Array.getD_eq_getD_getElem?,Array.getElem?_append_left SQ,Array.getElem?_eq_getElem SQ];rfl
   rw[h1,mw (by omega),h2];exact .pv (ib t _ _ (List.getElem?_eq_getElem ht) (Array.getElem?_eq_getElem SQ))
  ·have h1:(ps.map V.pv).getD t .top=.top:=by simp[List.getD,ht]
   rw[h1];exact .top
 have wA:∀t id,(yr (ps.map .pv) t).has id=true→((fun _=>none:Mem) id).isSome=true:=fun t id hid=>by
  simp only[yr]at hid;by_cases ht:t<ps.length
  ·have h1:(ps.map V.pv).getD t .top=.pv ps[t]:=by simp[List.getD,ht]
   rw[h1]at hid;cases hid
  ·have h1:(ps.map V.pv).getD t .top=.top:=by simp[List.getD,ht]
   rw[h1]at hid;cases hid
 exact{below:=iJ.refl _ _,ro:=kU,ax:=SP,dq:=(fun id b h=>by cases h),own:=(fun id b g h=>by cases h),inj:=(fun _ _ _ _ _ h=>by cases h),apart:=(fun _ _ h=>by cases h),eT:=(fun _ _ _ h=>by cases h),base:=fun _ _ h _=>h,dt:=(fun _ _ h=>by cases h),wB:=(fun _ _ h=>by cases h),size:=by simp;omega,defers:=.nil _ _ _,jG:=(fun _ _ h=>by cases h),fr:=qq,live:=wA}
variable{g:FuncId}
theorem Kb(hE:gP E)(LQ:E.yl=vd)(hf:E.P.funcs[g]?=some E.fn)(hn:(E.fn.name== "runtime.NumGoroutine")=false){c:Code}(hb:E.fn.body=some c):qK E.P E.ax g (aS E):=by
 refine⟨⟨E.fn,c,hf,hb,hn⟩,fun ps r h w μ xs kU SP hlen ib=>?_⟩;unfold aS at h;rw[hb]at h;simp only at h;split at h
 ·rename_i Mr;obtain⟨qs,h,PM,Vm⟩:=vn h;have ib:∀(i:Nat)p x,qs[i]?=some p→xs[i]?=some x→af E.P μ p x:=fun i q x hq hx=>by
   have hi:i<ps.length:=by have:=(List.getElem?_eq_some_iff.1 hq).1;omega
   exact Vm E.P μ i _ q x (List.getElem?_eq_getElem hi) hq (ib i _ x (List.getElem?_eq_getElem hi) hx)
  have hlen:qs.length=xs.size:=by omega
  have Mr:qs.length≤E.fn.ntmps:=by omega
  clear PM Vm;revert qs;intro ps h ib hlen Mr;have hR:=Vl (E:=E) kU SP hlen ib Mr;refine nT hE (by rw[LQ];exact tZ _ _ _ _) (fun _ _ h=>by cases h) hf hb h hR fun e f' m' μ' φ' tmps w' hk gE=>?_;have fin:Mo E E.fn.results.toList f' m'=some r→∃v,(results E.fn tmps).run E.P w'=.ok v w'∧∃y,Ending.returned v=.returned y∧iJ w.heap.size w w'∧af E.P (cn μ w w') r y:=fun hk=>by obtain⟨y,y1,y2⟩:=PL gE hk;exact⟨y,y1,y,rfl,gE.below,y2⟩
  cases e with
  |normal=>exact⟨by simp,fin hk⟩
  |exit id=>cases hk
  |ret=>exact⟨by simp,fin hk⟩
 ·cases h
theorem oM.Vn{P:Program}{G:Nat→Option (List PV)}{nt:Nat}{yl:YL}{w0:bg}{o:Ro}(h:oM P G nt yl w0):oM P G nt yl {w0 with jG:=o}:=fun R site id args f m k r hy μ φ ρ w xs hM hF hρ hl hr Ch g hg=>
  let⟨fn,tmps,assign,body,y1,y2⟩:=h R site id args f m k r hy μ φ ρ w xs (hM.qL rfl rfl hM.dt fun _ _ _=>rfl) hF hρ hl hr Ch g hg
  ⟨fn,tmps,assign,body,y1,y2.mono fun e w'⟨v,f',m',y,μ',φ',a1,a2,a3,a4,a5⟩=>⟨v,f',m',y,μ',φ',a1,a2,a3,a4.qL rfl rfl a4.dt fun _ _ _=>rfl,a5⟩⟩
theorem SR(hE:gP E)(hf:E.P.funcs[g]?=some E.fn)(hn:(E.fn.name== "runtime.NumGoroutine")=false){args:List V}{f:Fr}{m:Mem}{k:V→Fr→Mem→Option R}{r:R}(h:xJ E args f m k=some r):FH E.P E.ax g E.yl args f m k r:=by
 unfold xJ at h;split at h
 ·rename_i c hb;split at h
  ·rename_i Mr;refine⟨E.fn,c,hf,hb,hn,fun w0 μ φ ρ w xs hM hF hlen ib wA hY=>?_⟩;have ep:∀t,t<args.length→∃v,args[t]?=some v∧args.getD t .top=v:=fun t ht=>⟨args[t],List.getElem?_eq_getElem ht,by simp[List.getD,ht]⟩;have hR:Rel E.P E.ax E.fn.ntmps {w0 with sv:=fun t=>ρ (t-E.fn.ntmps),jG:=w0.dt} μ φ (pW E.fn.ntmps args f) m {tmps:=xs++Array.replicate (E.fn.ntmps-xs.size) undef,defers:=[]} w:=
    {toal:=hM.qL rfl rfl hM.dt fun _ _ _=>rfl,size:=by simp;omega,defers:=.nil _ _ _,jG:=fun _ _ h=>h,fr:=fun t=>by
      unfold pW aG;by_cases ht:t<E.fn.ntmps
      ·rw[show Nat.blt t E.fn.ntmps=true by rw[Nat.blt_eq];exact ht,if_pos ht];show ab E.P μ φ (args.getD t .top) _;by_cases ha:t<args.length
       ·obtain⟨v,h1,h2⟩:=ep t ha;have SQ:t<xs.size:=by omega
        rw[h2];have h3:(xs++Array.replicate (E.fn.ntmps-xs.size) undef).getD t undef=xs[t]:=by rw[Array.getD_eq_getD_getElem?,Array.getElem?_append_left SQ,Array.getElem?_eq_getElem SQ];rfl
        rw[h3];exact ib t v _ h1 (Array.getElem?_eq_getElem SQ)
       ·have h1:args.getD t .top=.top:=by simp[List.getD,ha]
        rw[h1];exact .top
      ·rw[show Nat.blt t E.fn.ntmps=false by rw[←Bool.not_eq_true,Nat.blt_eq];exact ht,if_neg ht];exact hF.fr _,
     live:=fun t id hid=>by
      unfold pW at hid;cases e:Nat.blt t E.fn.ntmps with
      |true=>
       rw[e]at hid;have hid:(args.getD t .top).has id=true:=hid;by_cases ha:t<args.length
       ·obtain⟨v,h1,h2⟩:=ep t ha;rw[h2]at hid;exact wA id (cw.2 ⟨v,List.mem_of_getElem? h1,hid⟩)
       ·have h1:args.getD t .top=.top:=by simp[List.getD,ha]
        rw[h1]at hid;cases hid
      |false=>rw[e]at hid;exact hF.live _ id hid}
   refine nT hE hY.Vn (fun _ _ h=>h) hf hb h hR fun e f' m' μ' φ' tmps w' hk gE=>?_;have Vo:bJ E.P μ' φ' m' (qF E.fn.ntmps f') ρ:=by refine⟨fun t=>?_,fun t id hid=>gE.live _ id hid⟩;have:=gE.fr (t+E.fn.ntmps);unfold aG at this;rw[if_neg (by omega)]at this;simp only[Nat.add_sub_cancel]at this;exact this
   have fin:(tY E f' m' E.fn.results.toList fun vs=>match vs with
    |[v]=>k v (qF E.fn.ntmps f') m'
    |vs=>k (.bA vs) (qF E.fn.ntmps f') m')=some r→∃v,(results E.fn tmps).run E.P w'=.ok v w'∧
    ∃v1 f1 m1 y μ1 φ1,k v1 f1 m1=some r∧Ending.returned v=.returned y∧al E.P E.ax w0 μ1 φ1 m1 w'∧bJ E.P μ1 φ1 m1 f1 ρ∧ab E.P μ1 φ1 v1 y∧∀id,v1.has id=true→(m1 id).isSome=true:=fun hk=>by
    obtain⟨vs,ys,h1,h2,h3,h4,h5,h6⟩:=qI gE _ hk
    refine⟨_,qJ h3,?_⟩
    have ZV:al E.P E.ax w0 μ' φ' m' w':=gE.toal.qL rfl rfl gE.dt fun _ _ _=>rfl
    split at h1
    ·rename_i v;have hx:∃y,ys=[y]:=by
      match ys,h4,h2 with
      |[y],_,_=>exact⟨y,rfl⟩
      |[],h4,h2=>rw[←h4]at h2;simp at h2
      |_::_::_,h4,h2=>rw[←h4]at h2;simp at h2
     obtain⟨y,rfl⟩:=hx;refine⟨v,_,_,y,μ',φ',h1,by simp,ZV,Vo,h5 0 v y rfl rfl,fun id hid=>h6 id (by simp[bO,hid])⟩
    ·rename_i cq;have jF:¬ys.toArray.size=1:=fun h=>by
      have:vs.length=1:=by simp at h;omega
      match vs,this with
      |[v],_=>exact cq v rfl
     rw[dif_neg jF];exact⟨.bA vs,_,_,_,μ',φ',h1,rfl,ZV,Vo,.bA (by simp;omega) (fun i q x hq hx=>h5 i q x hq (by simpa using hx)),fun id hid=>h6 id (by simpa only[V.has]using hid)⟩
   cases e with
   |normal=>exact⟨by simp,fin hk⟩
   |exit id=>cases hk
   |ret=>exact⟨by simp,fin hk⟩
  ·cases h
 ·cases h
theorem PN{μ:Ro}{d len s:Nat}{et:TypeId}{es:List PV}{x:Value}(hA:ay E.P μ φ w d s et es)(hx:ab E.P μ φ (.eR d 0 len) x):∃ph:aw,ph.g=(φ d).g∧ay E.P μ (fun _=>ph) w 0 s et (es.take len)∧∀μ',ab E.P μ' (fun _=>ph) (.os 0) x:=by
 obtain⟨h1,h2,h3,h4,h5,h6,h7⟩:=hA;cases hx with
 |my hg=>refine⟨φ d,rfl,?_,fun μ'=>.np hg⟩;rw[hg]at h7;obtain⟨rfl,h7⟩:=h7;refine⟨h1,h2,h3,h4,by simp,h6,?_⟩;simp only[hg];exact⟨rfl,h7⟩
 | @eR _ _ _ cap g ad hg hl ha hc Ms=>
  rw[hg]at h7;obtain⟨q,Tq,q1,q2,q3,q4,q5⟩:=h7;have hlen:(es.take len).length=len:=by rw[List.length_take];omega
  have had:ad=⟨g,0,none⟩:=by
   rcases ha with ha|⟨_,ha⟩
   ·rw[ha];simp
   ·omega
  subst had;refine⟨{φ d with cap:=cap,len:=len},rfl,⟨by simp[hlen],h2,h3,h4,fun i e he=>h5 i e (fV he).1,by simp;omega,?_⟩,fun μ'=>?_⟩
  ·simp only[hg];refine⟨q,Tq,q1,Nat.le_trans (Nat.mul_le_mul_right _ (by omega)) q2,by rw[hlen];exact hc,fun i e j p x he hp hx=>q4 i e j p x (fV he).1 hp hx,fun i x hi hx=>q5 i x (Nat.lt_of_lt_of_le hi (Nat.mul_le_mul_right _ (by rw[hlen];omega))) hx⟩
  ·exact ab.os (P:=E.P) (μ:=μ') (φ:=fun _=>{φ d with cap:=cap,len:=len}) (id:=0) (g:=g) hg
theorem Kc(hE:gP E)(LQ:E.yl=vd)(hf:E.P.funcs[g]?=some E.fn)(hn:(E.fn.name== "runtime.NumGoroutine")=false){c:Code}(hb:E.fn.body=some c):vo E.P E.ax g (jL E):=by
 refine⟨⟨E.fn,c,hf,hb,hn⟩,fun fn t el LR ht hu ps r h w μ xs kU SP hlen ib=>?_⟩;rw[hf]at LR;cases LR;unfold jL at h;rw[hb]at h;simp only at h;split at h
 ·rename_i Mr;obtain⟨qs,h,PM,Vm⟩:=vn h;have ib:∀(i:Nat)p x,qs[i]?=some p→xs[i]?=some x→af E.P μ p x:=fun i q x hq hx=>by
   have hi:i<ps.length:=by have:=(List.getElem?_eq_some_iff.1 hq).1;omega
   exact Vm E.P μ i _ q x (List.getElem?_eq_getElem hi) hq (ib i _ x (List.getElem?_eq_getElem hi) hx)
  have hlen:qs.length=xs.size:=by omega
  have Mr:qs.length≤E.fn.ntmps:=by omega
  clear PM Vm;revert qs;intro ps h ib hlen Mr;refine nT hE (by rw[LQ];exact tZ _ _ _ _) (fun _ _ h=>by cases h) hf hb h (Vl kU SP hlen ib Mr) fun e f' m' μ' φ' tmps w' hk gE=>?_;have fin:SO E f' m'=some r→∃v,(results E.fn tmps).run E.P w'=.ok v w'∧∃(y:Value)(ph:aw)(es:List PV),Ending.returned v=.returned y∧iJ w.heap.size w w'∧r=.rs (aH E.P el) es∧(∀g,ph.g=some g→w.heap.size≤g)∧ay E.P (jM (cn μ w w') ph.g) (fun _=>ph) w' 0 (aH E.P el) el es∧ab E.P μ (fun _=>ph) (.os 0) y:=fun hk=>by
   unfold SO at hk;rw[ht]at hk;simp only[hu]at hk;obtain⟨vs,ys,h1,h2,h3,h4,h5,h6⟩:=qI gE _ hk;refine⟨_,qJ h3,?_⟩;split at h1
   ·rename_i id;split at h1
    ·rename_i sz et es hm;split at h1
     ·rename_i hs;obtain⟨rfl,rfl⟩:=hs;simp only[Option.some.injEq]at h1;have hx:∃y,ys=[y]:=by
       match ys,h4,h2 with
       |[y],_,_=>exact⟨y,rfl⟩
       |[],h4,h2=>rw[←h4]at h2;simp at h2
       |_::_::_,h4,h2=>rw[←h4]at h2;simp at h2
      obtain⟨y,rfl⟩:=hx;have hA:=gE.dq id _ hm;refine⟨y,φ' id,es,by simp,gE.below,h1.symm,fun g hg=>(gE.own id _ g hm (.inl hg)).1,?_,?_⟩
      ·refine ay.move (μ:=μ') hA rfl fun b o pY=>?_;unfold jM;rw[if_neg fun e=>by have:=(gE.own id _ b hm (.inl e)).2 rfl;rw[this]at pY;cases pY];unfold cn;split
       ·rename_i ba;exact gE.base b o pY ba
       ·exact gE.ro b o pY
      ·have:=h5 0 _ y rfl rfl;cases this with
       |np h=>exact .np h
       |os h=>exact .os (id:=0) (φ:=fun _=>φ' id) h
     ·cases h1
    ·cases h1
   ·rename_i id len;split at h1
    ·rename_i sz et es hm;split at h1
     ·rename_i hs;obtain⟨rfl,rfl⟩:=hs;simp only[Option.some.injEq]at h1;have hx:∃y,ys=[y]:=by
       match ys,h4,h2 with
       |[y],_,_=>exact⟨y,rfl⟩
       |[],h4,h2=>rw[←h4]at h2;simp at h2
       |_::_::_,h4,h2=>rw[←h4]at h2;simp at h2
      obtain⟨y,rfl⟩:=hx;obtain⟨ph,p1,p2,p3⟩:=PN (gE.dq id _ hm) (h5 0 _ y rfl rfl);refine⟨y,ph,es.take len,by simp,gE.below,h1.symm,fun g hg=>(gE.own id _ g hm (.inl (by rw[←p1];exact hg))).1,?_,(p3 _:)⟩;refine ay.move (μ:=μ') (φ:=fun _=>ph) (i:=0) p2 rfl fun b o pY=>?_;unfold jM;rw[if_neg fun e=>by have:=(gE.own id _ b hm (.inl (by rw[←p1];exact e))).2 rfl;rw[this]at pY;cases pY];unfold cn;split
      ·rename_i ba;exact gE.base b o pY ba
      ·exact gE.ro b o pY
     ·cases h1
    ·cases h1
   ·cases h1
  cases e with
  |normal=>exact⟨by simp,fin hk⟩
  |exit id=>cases hk
  |ret=>exact⟨by simp,fin hk⟩
 ·cases h
end
end Go.Ab
