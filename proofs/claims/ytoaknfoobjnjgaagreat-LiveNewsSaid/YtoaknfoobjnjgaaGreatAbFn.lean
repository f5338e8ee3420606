import Derived.Test.YtoaknfoobjnjgaaGreatAbP8
set_option linter.all false
namespace Go.Ab
open Go.RowKit (Below)
section
variable {E:Env} {w0:bu}
def Iv(tmps:Array Value):ResultVar→Sem Value
 |.tmp t=>pure (tmps.getD t undef)
 |.cell a t=>do loadVar t (←asAddr (tmps.getD a undef))
theorem AO{R:Type}{f:Fr}{m:Mem}{μ:Ro}{φ:Nat→aH}{a:Act}{w:World}(hR:Rel E.P E.az E.fn.ntmps w0 μ φ f m a w):∀(rs:List ResultVar){k:List V→Option R}{r:R},Eo E f m rs k=some r→∃(vs:List V)(xs:List Value),k vs=some r∧vs.length=rs.length∧(rs.mapM (Iv a.tmps)).run E.P w=.ok xs w∧xs.length=rs.length∧(∀(i:Nat)v x,vs[i]?=some v→xs[i]?=some x→an E.P μ φ v x)∧∀id,cp id vs=true→(m id).isSome=true
 |[],k,r,h=>⟨[],[],h,rfl,by simp,rfl,by simp,fun id hid=>by cases hid⟩
 |.tmp t::rs,k,r,h=>by
  simp only[Eo]at h;obtain⟨vs,xs,h1,h2,h3,h4,h5,h6⟩:=AO hR rs h;refine⟨bJ E f (.tmp t)::vs,a.tmps.getD t undef::xs,h1,by simp[h2],?_,by simp[h4],fun i v x hv hx=>?_,fun id hid=>?_⟩
  ·rw[aqF];simp only[Iv,Sem.run_bind,Sem.run_pure,Result.andThen_ok,h3]
  ·cases i with
   |zero=>simp only[aoR,tb]at hv hx;subst hv;subst hx;exact(au hR (.tmp t)).1
   |succ i=>exact h5 i v x (by simpa using hv) (by simpa using hx)
  ·simp only[cp,aon]at hid;rcases hid with hid|hid
   ·exact(au hR (.tmp t)).2 id hid
   ·exact h6 id hid
 |.cell b t::rs,k,r,h=>by
  simp only[Eo]at h;obtain⟨v,ft,_,h,_,hl⟩:=Iw h;obtain⟨vs,xs,h1,h2,h3,h4,h5,h6⟩:=AO hR rs h;obtain⟨y,y1,y2,y3⟩:=hl E.az w0 μ φ w _ hR.toaA (au hR (.tmp b)).1;have hld:(do loadVar t (←asAddr (a.tmps.getD b undef)):Sem Value).run E.P w=.ok y w:=by
   have y1:(Instr.loadAt t (a.tmps.getD b undef)).run E.P w=.ok y w:=y1;generalize a.tmps.getD b undef=z at y1;unfold Instr.loadAt at y1;cases z<;>simp only[Instr.sureAddr]at y1<;>try (simp[stuck,Sem.run_bind]at y1;done)
   rename_i o;cases o with
   |none=>simp[stuck,Sem.run_bind]at y1
   |some ad=>exact y1
  refine⟨v::vs,y::xs,h1,by simp[h2],?_,by simp[h4],fun i v' x hv hx=>?_,fun id hid=>?_⟩
  ·rw[aqF];have al3:(Iv a.tmps (.cell b t)).run E.P w=.ok y w:=hld;simp only[Sem.run_bind,Sem.run_pure,Result.andThen_ok,al3,h3]
  ·cases i with
   |zero=>simp at hv hx;subst hv;subst hx;exact y2
   |succ i=>exact h5 i v' x (by simpa using hv) (by simpa using hx)
  ·simp only[cp,aon]at hid;rcases hid with hid|hid
   ·exact y3 id hid
   ·exact h6 id hid
variable{w:World}
theorem AP{a:Act}{xs:List Value}(h3:(E.fn.results.toList.mapM (Iv a.tmps)).run E.P w=.ok xs w):(results E.fn a.tmps).run E.P w=.ok (if h:xs.toArray.size=1 then xs.toArray[0]else .tuple xs.toArray) w:=by show(do let vs←E.fn.results.mapM (Iv a.tmps);pure (if h:vs.size=1 then vs[0]else .tuple vs):Sem Value).run E.P w=_;simp_all[Array.mapM_eq_mapM_toList]
variable{φ:Nat→aH}
theorem adm{f:Fr}{m:Mem}{μ:Ro}{a:Act}(hR:Rel E.P E.az E.fn.ntmps w0 μ φ f m a w){p:PV}(h:Y4 E E.fn.results.toList f m=some p):∃y,(results E.fn a.tmps).run E.P w=.ok y w∧aq E.P (cu w0.mu w0.w w) p y:=by
 unfold Y4 at h;obtain⟨vs,xs,h1,h2,h3,h4,h5,h6⟩:=AO hR _ h;have hν:∀b o,μ b=some o→cu w0.mu w0.w w b=some o:=fun b o hb=>by
  unfold cu;split
  ·rename_i bF;exact hR.base b o hb bF
  ·exact hR.ro b o hb
 have AQ:∀id b g,m id=some b→b.owns (φ id) g→cu w0.mu w0.w w g=w.heap[g]?:=fun id b g hb hg=>by have:=(hR.own id b g hb hg).1;simp_all[cu,QU]
 have xZ:=AP h3;refine⟨_,xZ,?_⟩;split at h1
 ·rename_i v;have hx:∃x,xs=[x]:=by
   match xs,h4,h2 with
   |[x],_,_=>simp
   |[],h4,h2=>grind
   |_::_::_,h4,h2=>simp_all
  obtain⟨x,rfl⟩:=hx;simp only[apb,alx,an5,apa,dite_true];exact yb hR.toaA hν AQ _ h1 (h5 0 v x rfl rfl)
 ·rename_i bU;obtain⟨ps,qk,h1⟩:=By.1 h1;simp only[tb]at h1;subst h1;obtain⟨p1,p2⟩:=gL qk;have ou:¬xs.toArray.size=1:=fun h=>by
   have:vs.length=1:=by simp at h;omega
   match vs,this with
   |[v],_=>exact bU v rfl
  rw[dif_neg ou];refine .aI (by simp;omega) fun i q x hq hx=>?_;obtain⟨v,hv,hf⟩:=p2 i q hq;exact yb hR.toaA hν AQ _ hf (h5 i v x hv (by simpa using hx))
variable{R:Type}
theorem Lj{t:TypeId}{p:PV}{k:PV→Option R}{r:R}(h:MT E t p k=some r):∃q,k q=some r∧∀(P:Program)(μ:Ro)x,aq P μ p x→aq P μ q x:=by
 have ld:ij E t p k=some r→∃q,k q=some r∧∀(P:Program)(μ:Ro)x,aq P μ p x→aq P μ q x:=fun h=>by grind [mK]
 unfold MT at h;split at h
 ·exact ld h
 ·exact ld h
 ·exact ld h
 ·exact ld h
 ·exact ld h
 ·exact ld h
 ·grind
theorem Dp{R:Type}:∀{ts:List TypeId}{ps:List PV}{k:List PV→Option R}{r:R},tz E ts ps k=some r→∃qs,k qs=some r∧qs.length=ps.length∧∀(P:Program)(μ:Ro)(i:Nat)p q x,ps[i]?=some p→qs[i]?=some q→aq P μ p x→aq P μ q x
 |[],ps,k,r,h=>⟨ps,by simpa[tz]using h,rfl,fun P μ i p q x hp hq hx=>by simp_all⟩
 |t::ts,[],k,r,h=>⟨[],by simpa[tz]using h,rfl,by simp⟩
 |t::ts,p::ps,k,r,h=>by
  simp only[tz]at h;obtain⟨q,h1,h2⟩:=Lj h;obtain⟨qs,h3,h4,h5⟩:=Dp h1;refine⟨q::qs,h3,by simp[h4],fun P μ i p' q' x hp hq hx=>?_⟩;cases i with
  |zero=>simp at hp hq;subst hp;subst hq;exact h2 P μ x hx
  |succ i=>exact h5 P μ i p' q' x (by simpa using hp) (by simpa using hq) hx
theorem Y6{t:TypeId}{p:PV}{k:PV→Option R}{r:R}(h:Y5 E t p k=some r):∃q,k q=some r∧∀(P:Program)(μ:Ro)x,aq P μ p x→aq P μ q x:=by
 have agg:((asAgg (aS E.P t) p).bind fun _=>match Im E.P 8 t with|some ts=>tz E ts (aK (aS E.P t) p) fun cs=>k (.agg cs)|none=>none)=some r→∃q,k q=some r∧∀(P:Program)(μ:Ro)x,aq P μ p x→aq P μ q x:=fun h=>by
  obtain⟨_,ha,h⟩:=By.1 h;split at h
  ·rename_i ts _;obtain⟨qs,h1,h2,h3⟩:=Dp h;refine⟨.agg qs,h1,fun P μ x hx=>?_⟩;have hp:∃cs,p=.agg cs∧cs.length=aS E.P t:=by cases p<;>simp[asAgg]at ha;exact⟨_,rfl,ha⟩
   obtain⟨cs,rfl,ha⟩:=hp;rw[bh]at h2;cases hx with
   | @agg _ xs a1 a2 a3=>
    refine .agg (by omega) (fun i q y hq hy=>?_) a3;have bF:i<cs.length:=by grind
    have he:(aK (aS E.P t) (.agg cs))[i]?=some cs[i]:=by
     have hl:i<(aK (aS E.P t) (.agg cs)).length:=by rw[bh];omega
     have h5:=ta hl;obtain⟨_,h6⟩:=mo h5;simp_all[cell,PV.cells,List.getD]
    grind
  ·cases h
 unfold Y5 at h;split at h
 ·exact agg h
 ·exact agg h
 ·rename_i e _;unfold dp at h;split at h
  ·grind
  ·rename_i cs;split at h
   ·rename_i hn;split at h
    ·rename_i ts _;obtain⟨qs,h1,h2,h3⟩:=Dp h;rw[bh]at h2;refine⟨.rp qs,h1,fun P μ x hx=>?_⟩;cases hx with
     | @rp _ b o X a1 a2 a3=>
      have hc:∀i,i<qs.length→cs[i]?=some (cell (.agg cs) i):=fun i hi=>by grind [List.getElem?_eq_getElem,cell,PV.cells,List.getD]
      refine .rp X (fun i q hq=>a1 i _ (hc i (IN.1 hq).1)) (fun i q hq=>?_) (fun i hi=>a3 i (by omega));grind [aK,aS,bh,List.getElem?_eq_getElem,mo]
    ·cases h
   ·cases h
  ·cases h
 ·exact Lj h
theorem FM{R:Type}:∀{ts:List TypeId}{ps:List PV}{k:List PV→Option R}{r:R},Dn E ts ps k=some r→∃qs,k qs=some r∧qs.length=ps.length∧∀(P:Program)(μ:Ro)(i:Nat)p q x,ps[i]?=some p→qs[i]?=some q→aq P μ p x→aq P μ q x
 |[],ps,k,r,h=>⟨ps,by simpa[Dn]using h,rfl,fun P μ i p q x hp hq hx=>by simp_all⟩
 |t::ts,[],k,r,h=>⟨[],by simpa[Dn]using h,rfl,by simp⟩
 |t::ts,p::ps,k,r,h=>by
  simp only[Dn]at h;obtain⟨q,h1,h2⟩:=Y6 h;obtain⟨qs,h3,h4,h5⟩:=FM h1;refine⟨q::qs,h3,by simp[h4],fun P μ i p' q' x hp hq hx=>?_⟩;cases i with
  |zero=>simp at hp hq;subst hp;subst hq;exact h2 P μ x hx
  |succ i=>exact h5 P μ i p' q' x (by simpa using hp) (by simpa using hq) hx
theorem ain{μ:Ro}{xs:Array Value}{ps:List PV}(yN:∀b o,μ b=some o→w.heap[b]?=some o)(hgl:∀g cs,E.az g=some cs→CU E.P μ g cs)(hlen:ps.length=xs.size)(kF:∀(i:Nat)p x,ps[i]?=some p→xs[i]?=some x→aq E.P μ p x)(Y7:ps.length≤E.fn.ntmps):Rel E.P E.az E.fn.ntmps {w:=w,mu:=μ,sv:=fun _=>undef} μ (fun _=>default) (Iu (ps.map .pv)) (fun _=>none) {tmps:=xs++Array.replicate (E.fn.ntmps-xs.size) undef,defers:=[]} w:=by
 have yW:∀t,an E.P μ (fun _=>default) (Iu (ps.map .pv) t) (bV E.fn.ntmps {w:=w,mu:=μ,sv:=fun _=>undef} {tmps:=xs++Array.replicate (E.fn.ntmps-xs.size) undef,defers:=[]} t):=fun t=>by
  simp only[Iu];by_cases ht:t<ps.length
  ·have h1:(ps.map V.pv).getD t .top=.pv ps[t]:=by simp[List.getD,ht]
   have hxt:t<xs.size:=by omega
   have h2:(xs++Array.replicate (E.fn.ntmps-xs.size) undef).getD t undef=xs[t]:=by rw[am8,apl hxt,Yh hxt];rfl
   rw[h1,rI (by omega),h2];exact .pv (kF t _ _ (ta ht) (Yh hxt))
  ·have h1:(ps.map V.pv).getD t .top=.top:=by simp[List.getD,ht]
   rw[h1];exact .top
 have GR:∀t id,(Iu (ps.map .pv) t).has id=true→((fun _=>none:Mem) id).isSome=true:=fun t id hid=>by
  simp only[Iu]at hid;by_cases ht:t<ps.length
  ·simp_all
  simp_all
 exact{below:=lh.refl _ _,ro:=yN,az:=hgl,dB:=(fun id b h=>by cases h),own:=(fun id b g h=>by cases h),inj:=(fun _ _ _ _ _ h=>by simp),apart:=(fun _ _ h=>by cases h),fI:=(fun _ _ _ h=>by cases h),base:=fun _ _ h _=>h,dC:=(fun _ _ h=>by cases h),Ft:=(fun _ _ h=>by cases h),hid:=(fun _ _ h=>by cases h),size:=by simp;omega,defers:=.nil _ _ _,lj:=(fun _ _ h=>by omega),fr:=yW,live:=GR}
variable{g:FuncId}
theorem Wo(hE:jM E)(hyl:E.yl=Di)(hf:E.P.funcs[g]?=some E.fn)(hn:(E.fn.name== "runtime.NumGoroutine")=false){c:Code}(hb:E.fn.body=some c):AR E.P E.az g (eu E):=by
 refine⟨⟨E.fn,c,hf,hb,hn⟩,fun ps r h w μ xs yN hgl hlen kF=>?_⟩;unfold eu at h;rw[hb]at h;simp only at h;split at h
 ·rename_i Y7;obtain⟨qs,h,OW,hqr⟩:=FM h;have kF:∀(i:Nat)p x,qs[i]?=some p→xs[i]?=some x→aq E.P μ p x:=fun i q x hq hx=>by grind
  have hlen:qs.length=xs.size:=by omega
  have Y7:qs.length≤E.fn.ntmps:=by omega
  clear OW hqr;revert qs;intro ps h kF hlen Y7;have hR:=ain (E:=E) yN hgl hlen kF Y7;refine wQ hE (by rw[hyl];exact Ep _ _ _ _) (fun _ _ h=>by omega) hf hb h hR fun e f' m' μ' φ' tmps w' hk jN=>?_;have fin:Y4 E E.fn.results.toList f' m'=some r→∃v,(results E.fn tmps).run E.P w'=.ok v w'∧∃y,Ending.returned v=.returned y∧lh w.heap.size w w'∧aq E.P (cu μ w w') r y:=fun hk=>by obtain⟨y,y1,y2⟩:=adm jN hk;exact⟨y,y1,y,rfl,jN.below,y2⟩
  grind
 ·cases h
theorem tA.aio{P:Program}{G:Nat→Option (List PV)}{nt:Nat}{yl:YL}{w0:bu}{o:Ro}(h:tA P G nt yl w0):tA P G nt yl {w0 with lj:=o}:=fun H R site id args f m k r hy μ φ ρ w xs hM hF hρ hl hr MU g hg=>
  let⟨fn,tmps,assign,body,y1,y2⟩:=h H R site id args f m k r hy μ φ ρ w xs (hM.AS rfl rfl hM.dC fun _ _ _=>rfl) hF hρ hl hr MU g hg
  ⟨fn,tmps,assign,body,y1,y2.mono fun e w'⟨v,f',m',y,μ',φ',a1,a2,a3,a4,a5⟩=>⟨v,f',m',y,μ',φ',a1,a2,a3,a4.AS rfl rfl a4.dC fun _ _ _=>rfl,a5⟩⟩
theorem afB(hE:jM E)(hf:E.P.funcs[g]?=some E.fn)(hn:(E.fn.name== "runtime.NumGoroutine")=false){args:List V}{f:Fr}{m:Mem}{k:V→Fr→Mem→Option R}{r:R}(h:HT E args f m k=some r):Rw E.P E.az g E.yl args f m k r:=by
 unfold HT at h;split at h
 ·rename_i c hb;split at h
  ·rename_i Y7;refine⟨E.fn,c,hf,hb,hn,fun w0 μ φ ρ w xs hM hF hlen kF GR hY=>?_⟩;have ey:∀t,t<args.length→∃v,args[t]?=some v∧args.getD t .top=v:=fun t ht=>⟨args[t],ta ht,by simp[List.getD,ht]⟩;have hR:Rel E.P E.az E.fn.ntmps {w0 with sv:=fun t=>ρ (t-E.fn.ntmps),lj:=w0.dC} μ φ (Ah E.fn.ntmps args f) m {tmps:=xs++Array.replicate (E.fn.ntmps-xs.size) undef,defers:=[]} w:=
    {toaA:=hM.AS rfl rfl hM.dC fun _ _ _=>rfl,size:=by simp;omega,defers:=.nil _ _ _,lj:=fun _ _ h=>h,fr:=fun t=>by
      unfold Ah bV;by_cases ht:t<E.fn.ntmps
      ·rw[show Nat.blt t E.fn.ntmps=true by simp_all,No ht];show an E.P μ φ (args.getD t .top) _;by_cases ha:t<args.length
       ·obtain⟨v,h1,h2⟩:=ey t ha;have hxt:t<xs.size:=by omega
        rw[h2];have h3:(xs++Array.replicate (E.fn.ntmps-xs.size) undef).getD t undef=xs[t]:=by simp_all
        rw[h3];exact kF t v _ h1 (Yh hxt)
       ·have h1:args.getD t .top=.top:=by simp[List.getD,ha]
        rw[h1];exact .top
      ·rw[show Nat.blt t E.fn.ntmps=false by rw[←aoZ,ao9];omega,QU ht];exact hF.fr _,
     live:=fun t id hid=>by
      unfold Ah at hid;cases e:Nat.blt t E.fn.ntmps with
      |true=>
       rw[e]at hid;have hid:(args.getD t .top).has id=true:=hid;by_cases ha:t<args.length
       ·obtain⟨v,h1,h2⟩:=ey t ha;rw[h2]at hid;exact GR id (cK.2 ⟨v,an4 h1,hid⟩)
       simp_all
      |false=>rw[e]at hid;exact hF.live _ id hid}
   refine wQ hE hY.aio (fun _ _ h=>h) hf hb h hR fun e f' m' μ' φ' tmps w' hk jN=>?_;have hF':cd E.P μ' φ' m' (AL E.fn.ntmps f') ρ:=by refine⟨fun t=>?_,fun t id hid=>jN.live _ id hid⟩;have:=jN.fr (t+E.fn.ntmps);unfold bV at this;rw[QU (by omega)]at this;simp only[apq]at this;exact this
   have fin:(Eo E f' m' E.fn.results.toList fun vs=>match vs with
    |[v]=>k v (AL E.fn.ntmps f') m'
    |vs=>k (.aI vs) (AL E.fn.ntmps f') m')=some r→∃v,(results E.fn tmps).run E.P w'=.ok v w'∧
    ∃v1 f1 m1 y μ1 φ1,k v1 f1 m1=some r∧Ending.returned v=.returned y∧aA E.P E.az w0 μ1 φ1 m1 w'∧cd E.P μ1 φ1 m1 f1 ρ∧an E.P μ1 φ1 v1 y∧∀id,v1.has id=true→(m1 id).isSome=true:=fun hk=>by
    obtain⟨vs,ys,h1,h2,h3,h4,h5,h6⟩:=AO jN _ hk
    refine⟨_,AP h3,?_⟩
    have hM0:aA E.P E.az w0 μ' φ' m' w':=jN.toaA.AS rfl rfl jN.dC fun _ _ _=>rfl
    split at h1
    ·rename_i v;have hx:∃y,ys=[y]:=by
      match ys,h4,h2 with
      |[y],_,_=>simp
      |[],h4,h2=>grind
      |_::_::_,h4,h2=>simp_all
     obtain⟨y,rfl⟩:=hx;refine⟨v,_,_,y,μ',φ',h1,by simp,hM0,hF',h5 0 v y rfl rfl,fun id hid=>h6 id (by simp[cp,hid])⟩
    ·rename_i bU;have ou:¬ys.toArray.size=1:=fun h=>by
      have:vs.length=1:=by simp at h;omega
      match vs,this with
      |[v],_=>exact bU v rfl
     rw[dif_neg ou];exact⟨.aI vs,_,_,_,μ',φ',h1,rfl,hM0,hF',.aI (by simp;omega) (fun i q x hq hx=>h5 i q x hq (by simpa using hx)),fun id hid=>h6 id (by simpa only[V.has]using hid)⟩
   grind
  ·cases h
 ·cases h
theorem adn{μ:Ro}{d len s:Nat}{et:TypeId}{es:List PV}{x:Value}(hA:aL E.P μ φ w d s et es)(hx:an E.P μ φ (.gh d 0 len) x):∃ph:aH,ph.g=(φ d).g∧aL E.P μ (fun _=>ph) w 0 s et (es.take len)∧∀μ',an E.P μ' (fun _=>ph) (.os 0) x:=by
 obtain⟨h1,h2,h3,h4,h5,h6,h7⟩:=hA;cases hx with
 |uj hg=>refine⟨φ d,rfl,?_,fun μ'=>.vO hg⟩;rw[hg]at h7;obtain⟨rfl,h7⟩:=h7;refine⟨h1,h2,h3,h4,by simp,h6,?_⟩;simp_all
 | @gh _ _ _ cap g ad hg hl ha hc hc'=>
  rw[hg]at h7;obtain⟨q,Tq,q1,q2,q3,q4,q5⟩:=h7;have hlen:(es.take len).length=len:=by simp_all
  have had:ad=⟨g,0,none⟩:=by simp_all
  subst had;refine⟨{φ d with cap:=cap,len:=len},rfl,⟨by simp[hlen],h2,h3,h4,fun i e he=>h5 i e (ju he).1,by simp;omega,?_⟩,fun μ'=>?_⟩
  ·simp only[hg];refine⟨q,Tq,q1,aov (an8 _ (by omega)) q2,by omega,fun i e j p x he hp hx=>q4 i e j p x (ju he).1 hp hx,fun i x hi hx=>q5 i x (Nat.lt_of_lt_of_le hi (an8 _ (by omega))) hx⟩
  ·exact an.os (P:=E.P) (μ:=μ') (φ:=fun _=>{φ d with cap:=cap,len:=len}) (id:=0) (g:=g) hg
theorem Wp(hE:jM E)(hyl:E.yl=Di)(hf:E.P.funcs[g]?=some E.fn)(hn:(E.fn.name== "runtime.NumGoroutine")=false){c:Code}(hb:E.fn.body=some c):FN E.P E.az g (oE E):=by
 refine⟨⟨E.fn,c,hf,hb,hn⟩,fun fn t el YE ht hu ps r h w μ xs yN hgl hlen kF=>?_⟩;rw[hf]at YE;cases YE;unfold oE at h;rw[hb]at h;simp only at h;split at h
 ·rename_i Y7;obtain⟨qs,h,OW,hqr⟩:=FM h;have kF:∀(i:Nat)p x,qs[i]?=some p→xs[i]?=some x→aq E.P μ p x:=fun i q x hq hx=>by grind
  have hlen:qs.length=xs.size:=by omega
  have Y7:qs.length≤E.fn.ntmps:=by omega
  clear OW hqr;revert qs;intro ps h kF hlen Y7;refine wQ hE (by rw[hyl];exact Ep _ _ _ _) (fun _ _ h=>by omega) hf hb h (ain yN hgl hlen kF Y7) fun e f' m' μ' φ' tmps w' hk jN=>?_;have fin:afA E f' m'=some r→∃v,(results E.fn tmps).run E.P w'=.ok v w'∧∃(y:Value)(ph:aH)(es:List PV),Ending.returned v=.returned y∧lh w.heap.size w w'∧r=.rs (aS E.P el) es∧(∀g,ph.g=some g→w.heap.size≤g)∧aL E.P (nS (cu μ w w') ph.g) (fun _=>ph) w' 0 (aS E.P el) el es∧an E.P μ (fun _=>ph) (.os 0) y:=fun hk=>by
   unfold afA at hk;rw[ht]at hk;simp only[hu]at hk;obtain⟨vs,ys,h1,h2,h3,h4,h5,h6⟩:=AO jN _ hk;refine⟨_,AP h3,?_⟩;split at h1
   ·rename_i id;split at h1
    ·rename_i sz et es hm;split at h1
     ·rename_i hs;obtain⟨rfl,rfl⟩:=hs;simp only[tb]at h1;have hx:∃y,ys=[y]:=by
       match ys,h4,h2 with
       |[y],_,_=>simp
       |[],h4,h2=>grind
       |_::_::_,h4,h2=>simp_all
      obtain⟨y,rfl⟩:=hx;have hA:=jN.dB id _ hm;refine⟨y,φ' id,es,by simp,jN.below,h1.symm,fun g hg=>(jN.own id _ g hm (.inl hg)).1,?_,?_⟩
      ·refine aL.move (μ:=μ') hA rfl fun b o Ci=>?_;unfold nS;rw[QU fun e=>by have:=(jN.own id _ b hm (.inl e)).2 rfl;simp_all];unfold cu;split
       ·rename_i bF;exact jN.base b o Ci bF
       ·exact jN.ro b o Ci
      ·have:=h5 0 _ y rfl rfl;cases this with
       |vO h=>exact .vO h
       |os h=>exact .os (id:=0) (φ:=fun _=>φ' id) h
     ·cases h1
    ·cases h1
   ·rename_i id len;split at h1
    ·rename_i sz et es hm;split at h1
     ·rename_i hs;obtain⟨rfl,rfl⟩:=hs;simp only[tb]at h1;have hx:∃y,ys=[y]:=by
       match ys,h4,h2 with
       |[y],_,_=>simp
       |[],h4,h2=>grind
       |_::_::_,h4,h2=>simp_all
      obtain⟨y,rfl⟩:=hx;obtain⟨ph,p1,p2,p3⟩:=adn (jN.dB id _ hm) (h5 0 _ y rfl rfl);refine⟨y,ph,es.take len,by simp,jN.below,h1.symm,fun g hg=>(jN.own id _ g hm (.inl (by rw[←p1];omega))).1,?_,(p3 _:)⟩;refine aL.move (μ:=μ') (φ:=fun _=>ph) (i:=0) p2 rfl fun b o Ci=>?_;unfold nS;rw[QU fun e=>by have:=(jN.own id _ b hm (.inl (by rw[←p1];omega))).2 rfl;simp_all];unfold cu;split
      ·rename_i bF;exact jN.base b o Ci bF
      ·exact jN.ro b o Ci
     ·cases h1
    ·cases h1
   ·cases h1
  grind
 ·cases h
end
end Go.Ab
