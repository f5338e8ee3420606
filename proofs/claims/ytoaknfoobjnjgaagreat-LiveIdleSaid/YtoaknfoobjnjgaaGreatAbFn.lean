import Derived.Test.YtoaknfoobjnjgaaGreatAbP8
set_option linter.all false
namespace Go.Ab
open Go.RowKit (Below)
section
variable {E:Env} {w0:bl}
def GH(tmps:Array Value):ResultVar→Sem Value
 |.tmp t=>pure (tmps.getD t undef)
 |.cell a t=>do loadVar t (←asAddr (tmps.getD a undef))
theorem yP{R:Type}{f:Fr}{m:Mem}{μ:Ro}{φ:Nat→aK}{a:Act}{w:World}(hR:Rel E.P E.aF E.fn.ntmps w0 μ φ f m a w):∀(rs:List ResultVar){k:List V→Option R}{r:R},CE E f m rs k=some r→∃(vs:List V)(xs:List Value),k vs=some r∧vs.length=rs.length∧(rs.mapM (GH a.tmps)).run E.P w=.ok xs w∧xs.length=rs.length∧(∀(i:Nat)v x,vs[i]?=some v→xs[i]?=some x→aq E.P μ φ v x)∧∀id,cq id vs=true→(m id).isSome=true
 |[],k,r,h=>⟨[],[],h,rfl,by simp,rfl,by simp,fun id hid=>by cases hid⟩
 |.tmp t::rs,k,r,h=>by
  simp only[CE]at h;obtain⟨vs,xs,h1,h2,h3,h4,h5,h6⟩:=yP hR rs h;refine⟨bF E f (.tmp t)::vs,a.tmps.getD t undef::xs,h1,by simp[h2],?_,by simp[h4],fun i v x hv hx=>?_,fun id hid=>?_⟩
  ·rw[aqa];simp only[GH,Sem.run_bind,Sem.run_pure,Result.andThen_ok,h3]
  ·cases i with
   |zero=>simp only[aoh,tb]at hv hx;subst hv;subst hx;exact(ax hR (.tmp t)).1
   |succ i=>exact h5 i v x (by simpa using hv) (by simpa using hx)
  ·simp only[cq,anH]at hid;rcases hid with hid|hid
   ·exact(ax hR (.tmp t)).2 id hid
   ·exact h6 id hid
 |.cell b t::rs,k,r,h=>by
  simp only[CE]at h;obtain⟨v,ft,_,h,_,hl⟩:=GI h;obtain⟨vs,xs,h1,h2,h3,h4,h5,h6⟩:=yP hR rs h;obtain⟨y,y1,y2,y3⟩:=hl E.aF w0 μ φ w _ hR.toaG (ax hR (.tmp b)).1;have hld:(do loadVar t (←asAddr (a.tmps.getD b undef)):Sem Value).run E.P w=.ok y w:=by
   have y1:(Instr.loadAt t (a.tmps.getD b undef)).run E.P w=.ok y w:=y1;generalize a.tmps.getD b undef=z at y1;unfold Instr.loadAt at y1;cases z<;>simp only[Instr.sureAddr]at y1<;>try (simp[stuck,Sem.run_bind]at y1;done)
   rename_i o;cases o with
   |none=>simp[stuck,Sem.run_bind]at y1
   |some ad=>exact y1
  refine⟨v::vs,y::xs,h1,by simp[h2],?_,by simp[h4],fun i v' x hv hx=>?_,fun id hid=>?_⟩
  ·rw[aqa];have ak4:(GH a.tmps (.cell b t)).run E.P w=.ok y w:=hld;simp only[Sem.run_bind,Sem.run_pure,Result.andThen_ok,ak4,h3]
  ·cases i with
   |zero=>simp at hv hx;subst hv;subst hx;exact y2
   |succ i=>exact h5 i v' x (by simpa using hv) (by simpa using hx)
  ·simp only[cq,anH]at hid;rcases hid with hid|hid
   ·exact y3 id hid
   ·exact h6 id hid
variable{w:World}
theorem yQ{a:Act}{xs:List Value}(h3:(E.fn.results.toList.mapM (GH a.tmps)).run E.P w=.ok xs w):(results E.fn a.tmps).run E.P w=.ok (if h:xs.toArray.size=1 then xs.toArray[0]else .tuple xs.toArray) w:=by show(do let vs←E.fn.results.mapM (GH a.tmps);pure (if h:vs.size=1 then vs[0]else .tuple vs):Sem Value).run E.P w=_;simp_all[Array.mapM_eq_mapM_toList]
variable{φ:Nat→aK}
theorem acB{f:Fr}{m:Mem}{μ:Ro}{a:Act}(hR:Rel E.P E.aF E.fn.ntmps w0 μ φ f m a w){p:PV}(h:Xg E E.fn.results.toList f m=some p):∃y,(results E.fn a.tmps).run E.P w=.ok y w∧au E.P (cF w0.mu w0.w w) p y:=by
 unfold Xg at h;obtain⟨vs,xs,h1,h2,h3,h4,h5,h6⟩:=yP hR _ h;have hν:∀b o,μ b=some o→cF w0.mu w0.w w b=some o:=fun b o hb=>by
  unfold cF;split
  ·rename_i bK;exact hR.base b o hb bK
  ·exact hR.ro b o hb
 have BE:∀id b g,m id=some b→b.owns (φ id) g→cF w0.mu w0.w w g=w.heap[g]?:=fun id b g hb hg=>by have:=(hR.own id b g hb hg).1;simp_all[cF,IT]
 have vk:=yQ h3;refine⟨_,vk,?_⟩;split at h1
 ·rename_i v;have hx:∃x,xs=[x]:=by
   match xs,h4,h2 with
   |[x],_,_=>simp
   |[],h4,h2=>grind
   |_::_::_,h4,h2=>simp_all
  obtain⟨x,rfl⟩:=hx;simp only[aoC,alx,anx,aoy,dite_true];exact wk hR.toaG hν BE _ h1 (h5 0 v x rfl rfl)
 ·rename_i cy;obtain⟨ps,pS,h1⟩:=AI.1 h1;simp only[tb]at h1;subst h1;obtain⟨p1,p2⟩:=gJ pS;have n9:¬xs.toArray.size=1:=fun h=>by
   have:vs.length=1:=by simp at h;omega
   match vs,this with
   |[v],_=>exact cy v rfl
  rw[dif_neg n9];refine .aV (by simp;omega) fun i q x hq hx=>?_;obtain⟨v,hv,hf⟩:=p2 i q hq;exact wk hR.toaG hν BE _ hf (h5 i v x hv (by simpa using hx))
variable{R:Type}
theorem JJ{t:TypeId}{p:PV}{k:PV→Option R}{r:R}(h:Li E t p k=some r):∃q,k q=some r∧∀(P:Program)(μ:Ro)x,au P μ p x→au P μ q x:=by
 have ld:ij E t p k=some r→∃q,k q=some r∧∀(P:Program)(μ:Ro)x,au P μ p x→au P μ q x:=fun h=>by grind [mz]
 unfold Li at h;split at h
 ·exact ld h
 ·exact ld h
 ·exact ld h
 ·exact ld h
 ·exact ld h
 ·exact ld h
 ·grind
theorem BF{R:Type}:∀{ts:List TypeId}{ps:List PV}{k:List PV→Option R}{r:R},so E ts ps k=some r→∃qs,k qs=some r∧qs.length=ps.length∧∀(P:Program)(μ:Ro)(i:Nat)p q x,ps[i]?=some p→qs[i]?=some q→au P μ p x→au P μ q x
 |[],ps,k,r,h=>⟨ps,by simpa[so]using h,rfl,fun P μ i p q x hp hq hx=>by simp_all⟩
 |t::ts,[],k,r,h=>⟨[],by simpa[so]using h,rfl,by simp⟩
 |t::ts,p::ps,k,r,h=>by
  simp only[so]at h;obtain⟨q,h1,h2⟩:=JJ h;obtain⟨qs,h3,h4,h5⟩:=BF h1;refine⟨q::qs,h3,by simp[h4],fun P μ i p' q' x hp hq hx=>?_⟩;cases i with
  |zero=>simp at hp hq;subst hp;subst hq;exact h2 P μ x hx
  |succ i=>exact h5 P μ i p' q' x (by simpa using hp) (by simpa using hq) hx
theorem Xi{t:TypeId}{p:PV}{k:PV→Option R}{r:R}(h:Xh E t p k=some r):∃q,k q=some r∧∀(P:Program)(μ:Ro)x,au P μ p x→au P μ q x:=by
 have agg:((asAgg (aW E.P t) p).bind fun _=>match Gy E.P 8 t with|some ts=>so E ts (aM (aW E.P t) p) fun cs=>k (.agg cs)|none=>none)=some r→∃q,k q=some r∧∀(P:Program)(μ:Ro)x,au P μ p x→au P μ q x:=fun h=>by
  obtain⟨_,ha,h⟩:=AI.1 h;split at h
  ·rename_i ts _;obtain⟨qs,h1,h2,h3⟩:=BF h;refine⟨.agg qs,h1,fun P μ x hx=>?_⟩;have hp:∃cs,p=.agg cs∧cs.length=aW E.P t:=by cases p<;>simp[asAgg]at ha;exact⟨_,rfl,ha⟩
   obtain⟨cs,rfl,ha⟩:=hp;rw[bj]at h2;cases hx with
   | @agg _ xs a1 a2 a3=>
    refine .agg (by omega) (fun i q y hq hy=>?_) a3;have bK:i<cs.length:=by grind
    have he:(aM (aW E.P t) (.agg cs))[i]?=some cs[i]:=by
     have hl:i<(aM (aW E.P t) (.agg cs)).length:=by rw[bj];omega
     have h5:=ta hl;obtain⟨_,h6⟩:=mh h5;simp_all[cell,PV.cells,List.getD]
    grind
  ·cases h
 unfold Xh at h;split at h
 ·exact agg h
 ·exact agg h
 ·rename_i e _;unfold lq at h;split at h
  ·grind
  ·rename_i cs;split at h
   ·rename_i hn;split at h
    ·rename_i ts _;obtain⟨qs,h1,h2,h3⟩:=BF h;rw[bj]at h2;refine⟨.rp qs,h1,fun P μ x hx=>?_⟩;cases hx with
     | @rp _ b o X a1 a2 a3=>
      have hc:∀i,i<qs.length→cs[i]?=some (cell (.agg cs) i):=fun i hi=>by grind [List.getElem?_eq_getElem,cell,PV.cells,List.getD]
      refine .rp X (fun i q hq=>a1 i _ (hc i (IN.1 hq).1)) (fun i q hq=>?_) (fun i hi=>a3 i (by omega));grind [aM,aW,bj,List.getElem?_eq_getElem,mh]
    ·cases h
   ·cases h
  ·cases h
 ·exact JJ h
theorem D4{R:Type}:∀{ts:List TypeId}{ps:List PV}{k:List PV→Option R}{r:R},BD E ts ps k=some r→∃qs,k qs=some r∧qs.length=ps.length∧∀(P:Program)(μ:Ro)(i:Nat)p q x,ps[i]?=some p→qs[i]?=some q→au P μ p x→au P μ q x
 |[],ps,k,r,h=>⟨ps,by simpa[BD]using h,rfl,fun P μ i p q x hp hq hx=>by simp_all⟩
 |t::ts,[],k,r,h=>⟨[],by simpa[BD]using h,rfl,by simp⟩
 |t::ts,p::ps,k,r,h=>by
  simp only[BD]at h;obtain⟨q,h1,h2⟩:=Xi h;obtain⟨qs,h3,h4,h5⟩:=D4 h1;refine⟨q::qs,h3,by simp[h4],fun P μ i p' q' x hp hq hx=>?_⟩;cases i with
  |zero=>simp at hp hq;subst hp;subst hq;exact h2 P μ x hx
  |succ i=>exact h5 P μ i p' q' x (by simpa using hp) (by simpa using hq) hx
theorem ahg{μ:Ro}{xs:Array Value}{ps:List PV}(sW:∀b o,μ b=some o→w.heap[b]?=some o)(hgl:∀g cs,E.aF g=some cs→A2 E.P μ g cs)(hlen:ps.length=xs.size)(kL:∀(i:Nat)p x,ps[i]?=some p→xs[i]?=some x→au E.P μ p x)(Xj:ps.length≤E.fn.ntmps):Rel E.P E.aF E.fn.ntmps {w:=w,mu:=μ,sv:=fun _=>undef} μ (fun _=>default) (GG (ps.map .pv)) (fun _=>none) {tmps:=xs++Array.replicate (E.fn.ntmps-xs.size) undef,defers:=[]} w:=by
 have xh:∀t,aq E.P μ (fun _=>default) (GG (ps.map .pv) t) (bV E.fn.ntmps {w:=w,mu:=μ,sv:=fun _=>undef} {tmps:=xs++Array.replicate (E.fn.ntmps-xs.size) undef,defers:=[]} t):=fun t=>by
  simp only[GG];by_cases ht:t<ps.length
  ·have h1:(ps.map V.pv).getD t .top=.pv ps[t]:=by simp[List.getD,ht]
   have hxt:t<xs.size:=by omega
   have h2:(xs++Array.replicate (E.fn.ntmps-xs.size) undef).getD t undef=xs[t]:=by rw[ams,aoJ hxt,T1 hxt];rfl
   rw[h1,qZ (by omega),h2];exact .pv (kL t _ _ (ta ht) (T1 hxt))
  ·have h1:(ps.map V.pv).getD t .top=.top:=by simp[List.getD,ht]
   rw[h1];exact .top
 have EW:∀t id,(GG (ps.map .pv) t).has id=true→((fun _=>none:Mem) id).isSome=true:=fun t id hid=>by
  simp only[GG]at hid;by_cases ht:t<ps.length
  ·simp_all
  simp_all
 exact{below:=lr.refl _ _,ro:=sW,aF:=hgl,dF:=(fun id b h=>by cases h),own:=(fun id b g h=>by cases h),inj:=(fun _ _ _ _ _ h=>by simp),apart:=(fun _ _ h=>by cases h),fJ:=(fun _ _ _ h=>by cases h),base:=fun _ _ h _=>h,dG:=(fun _ _ h=>by cases h),DL:=(fun _ _ h=>by cases h),hid:=(fun _ _ h=>by cases h),size:=by simp;omega,defers:=.nil _ _ _,lu:=(fun _ _ h=>by omega),fr:=xh,live:=EW}
variable{g:FuncId}
theorem Uw(hE:jR E)(hyl:E.yl=Bx)(hf:E.P.funcs[g]?=some E.fn)(hn:(E.fn.name== "runtime.NumGoroutine")=false){c:Code}(hb:E.fn.body=some c):yR E.P E.aF g (fC E):=by
 refine⟨⟨E.fn,c,hf,hb,hn⟩,fun ps r h w μ xs sW hgl hlen kL=>?_⟩;unfold fC at h;rw[hb]at h;simp only at h;split at h
 ·rename_i Xj;obtain⟨qs,h,hql,hqr⟩:=D4 h;have kL:∀(i:Nat)p x,qs[i]?=some p→xs[i]?=some x→au E.P μ p x:=fun i q x hq hx=>by grind
  have hlen:qs.length=xs.size:=by omega
  have Xj:qs.length≤E.fn.ntmps:=by omega
  clear hql hqr;revert qs;intro ps h kL hlen Xj;have hR:=ahg (E:=E) sW hgl hlen kL Xj;refine vl hE (by rw[hyl];exact CF _ _ _ _) (fun _ _ h=>by omega) hf hb h hR fun e f' m' μ' φ' tmps w' hk jS=>?_;have fin:Xg E E.fn.results.toList f' m'=some r→∃v,(results E.fn tmps).run E.P w'=.ok v w'∧∃y,Ending.returned v=.returned y∧lr w.heap.size w w'∧au E.P (cF μ w w') r y:=fun hk=>by obtain⟨y,y1,y2⟩:=acB jS hk;exact⟨y,y1,y,rfl,jS.below,y2⟩
  grind
 ·cases h
theorem sq.ahh{P:Program}{G:Nat→Option (List PV)}{nt:Nat}{yl:YL}{w0:bl}{o:Ro}(h:sq P G nt yl w0):sq P G nt yl {w0 with lu:=o}:=fun H R site id args f m k r hy μ φ ρ w xs hM hF hρ hl hr Lj g hg=>
  let⟨fn,tmps,assign,body,y1,y2⟩:=h H R site id args f m k r hy μ φ ρ w xs (hM.yS rfl rfl hM.dG fun _ _ _=>rfl) hF hρ hl hr Lj g hg
  ⟨fn,tmps,assign,body,y1,y2.mono fun e w'⟨v,f',m',y,μ',φ',a1,a2,a3,a4,a5⟩=>⟨v,f',m',y,μ',φ',a1,a2,a3,a4.yS rfl rfl a4.dG fun _ _ _=>rfl,a5⟩⟩
theorem ae9(hE:jR E)(hf:E.P.funcs[g]?=some E.fn)(hn:(E.fn.name== "runtime.NumGoroutine")=false){args:List V}{f:Fr}{m:Mem}{k:V→Fr→Mem→Option R}{r:R}(h:F6 E args f m k=some r):Qw E.P E.aF g E.yl args f m k r:=by
 unfold F6 at h;split at h
 ·rename_i c hb;split at h
  ·rename_i Xj;refine⟨E.fn,c,hf,hb,hn,fun w0 μ φ ρ w xs hM hF hlen kL EW hY=>?_⟩;have eE:∀t,t<args.length→∃v,args[t]?=some v∧args.getD t .top=v:=fun t ht=>⟨args[t],ta ht,by simp[List.getD,ht]⟩;have hR:Rel E.P E.aF E.fn.ntmps {w0 with sv:=fun t=>ρ (t-E.fn.ntmps),lu:=w0.dG} μ φ (yp E.fn.ntmps args f) m {tmps:=xs++Array.replicate (E.fn.ntmps-xs.size) undef,defers:=[]} w:=
    {toaG:=hM.yS rfl rfl hM.dG fun _ _ _=>rfl,size:=by simp;omega,defers:=.nil _ _ _,lu:=fun _ _ h=>h,fr:=fun t=>by
      unfold yp bV;by_cases ht:t<E.fn.ntmps
      ·rw[show Nat.blt t E.fn.ntmps=true by simp_all,BY ht];show aq E.P μ φ (args.getD t .top) _;by_cases ha:t<args.length
       ·obtain⟨v,h1,h2⟩:=eE t ha;have hxt:t<xs.size:=by omega
        rw[h2];have h3:(xs++Array.replicate (E.fn.ntmps-xs.size) undef).getD t undef=xs[t]:=by simp_all
        rw[h3];exact kL t v _ h1 (T1 hxt)
       ·have h1:args.getD t .top=.top:=by simp[List.getD,ha]
        rw[h1];exact .top
      ·rw[show Nat.blt t E.fn.ntmps=false by rw[←aor,aoF];omega,IT ht];exact hF.fr _,
     live:=fun t id hid=>by
      unfold yp at hid;cases e:Nat.blt t E.fn.ntmps with
      |true=>
       rw[e]at hid;have hid:(args.getD t .top).has id=true:=hid;by_cases ha:t<args.length
       ·obtain⟨v,h1,h2⟩:=eE t ha;rw[h2]at hid;exact EW id (cT.2 ⟨v,amq h1,hid⟩)
       simp_all
      |false=>rw[e]at hid;exact hF.live _ id hid}
   refine vl hE hY.ahh (fun _ _ h=>h) hf hb h hR fun e f' m' μ' φ' tmps w' hk jS=>?_;have hF':b9 E.P μ' φ' m' (yM E.fn.ntmps f') ρ:=by refine⟨fun t=>?_,fun t id hid=>jS.live _ id hid⟩;have:=jS.fr (t+E.fn.ntmps);unfold bV at this;rw[IT (by omega)]at this;simp only[apk]at this;exact this
   have fin:(CE E f' m' E.fn.results.toList fun vs=>match vs with
    |[v]=>k v (yM E.fn.ntmps f') m'
    |vs=>k (.aV vs) (yM E.fn.ntmps f') m')=some r→∃v,(results E.fn tmps).run E.P w'=.ok v w'∧
    ∃v1 f1 m1 y μ1 φ1,k v1 f1 m1=some r∧Ending.returned v=.returned y∧aG E.P E.aF w0 μ1 φ1 m1 w'∧b9 E.P μ1 φ1 m1 f1 ρ∧aq E.P μ1 φ1 v1 y∧∀id,v1.has id=true→(m1 id).isSome=true:=fun hk=>by
    obtain⟨vs,ys,h1,h2,h3,h4,h5,h6⟩:=yP jS _ hk
    refine⟨_,yQ h3,?_⟩
    have hM0:aG E.P E.aF w0 μ' φ' m' w':=jS.toaG.yS rfl rfl jS.dG fun _ _ _=>rfl
    split at h1
    ·rename_i v;have hx:∃y,ys=[y]:=by
      match ys,h4,h2 with
      |[y],_,_=>simp
      |[],h4,h2=>grind
      |_::_::_,h4,h2=>simp_all
     obtain⟨y,rfl⟩:=hx;refine⟨v,_,_,y,μ',φ',h1,by simp,hM0,hF',h5 0 v y rfl rfl,fun id hid=>h6 id (by simp[cq,hid])⟩
    ·rename_i cy;have n9:¬ys.toArray.size=1:=fun h=>by
      have:vs.length=1:=by simp at h;omega
      match vs,this with
      |[v],_=>exact cy v rfl
     rw[dif_neg n9];exact⟨.aV vs,_,_,_,μ',φ',h1,rfl,hM0,hF',.aV (by simp;omega) (fun i q x hq hx=>h5 i q x hq (by simpa using hx)),fun id hid=>h6 id (by simpa only[V.has]using hid)⟩
   grind
  ·cases h
 ·cases h
theorem acC{μ:Ro}{d len s:Nat}{et:TypeId}{es:List PV}{x:Value}(hA:aP E.P μ φ w d s et es)(hx:aq E.P μ φ (.fX d 0 len) x):∃ph:aK,ph.g=(φ d).g∧aP E.P μ (fun _=>ph) w 0 s et (es.take len)∧∀μ',aq E.P μ' (fun _=>ph) (.os 0) x:=by
 obtain⟨h1,h2,h3,h4,h5,h6,h7⟩:=hA;cases hx with
 |sX hg=>refine⟨φ d,rfl,?_,fun μ'=>.ux hg⟩;rw[hg]at h7;obtain⟨rfl,h7⟩:=h7;refine⟨h1,h2,h3,h4,by simp,h6,?_⟩;simp_all
 | @fX _ _ _ cap g ad hg hl ha hc hc'=>
  rw[hg]at h7;obtain⟨q,Tq,q1,q2,q3,q4,q5⟩:=h7;have hlen:(es.take len).length=len:=by simp_all
  have had:ad=⟨g,0,none⟩:=by simp_all
  subst had;refine⟨{φ d with cap:=cap,len:=len},rfl,⟨by simp[hlen],h2,h3,h4,fun i e he=>h5 i e (jB he).1,by simp;omega,?_⟩,fun μ'=>?_⟩
  ·simp only[hg];refine⟨q,Tq,q1,anW (amt _ (by omega)) q2,by omega,fun i e j p x he hp hx=>q4 i e j p x (jB he).1 hp hx,fun i x hi hx=>q5 i x (Nat.lt_of_lt_of_le hi (amt _ (by omega))) hx⟩
  ·exact aq.os (P:=E.P) (μ:=μ') (φ:=fun _=>{φ d with cap:=cap,len:=len}) (id:=0) (g:=g) hg
theorem Ux(hE:jR E)(hyl:E.yl=Bx)(hf:E.P.funcs[g]?=some E.fn)(hn:(E.fn.name== "runtime.NumGoroutine")=false){c:Code}(hb:E.fn.body=some c):D5 E.P E.aF g (ot E):=by
 refine⟨⟨E.fn,c,hf,hb,hn⟩,fun fn t el WK ht hu ps r h w μ xs sW hgl hlen kL=>?_⟩;rw[hf]at WK;cases WK;unfold ot at h;rw[hb]at h;simp only at h;split at h
 ·rename_i Xj;obtain⟨qs,h,hql,hqr⟩:=D4 h;have kL:∀(i:Nat)p x,qs[i]?=some p→xs[i]?=some x→au E.P μ p x:=fun i q x hq hx=>by grind
  have hlen:qs.length=xs.size:=by omega
  have Xj:qs.length≤E.fn.ntmps:=by omega
  clear hql hqr;revert qs;intro ps h kL hlen Xj;refine vl hE (by rw[hyl];exact CF _ _ _ _) (fun _ _ h=>by omega) hf hb h (ahg sW hgl hlen kL Xj) fun e f' m' μ' φ' tmps w' hk jS=>?_;have fin:ae8 E f' m'=some r→∃v,(results E.fn tmps).run E.P w'=.ok v w'∧∃(y:Value)(ph:aK)(es:List PV),Ending.returned v=.returned y∧lr w.heap.size w w'∧r=.rs (aW E.P el) es∧(∀g,ph.g=some g→w.heap.size≤g)∧aP E.P (nJ (cF μ w w') ph.g) (fun _=>ph) w' 0 (aW E.P el) el es∧aq E.P μ (fun _=>ph) (.os 0) y:=fun hk=>by
   unfold ae8 at hk;rw[ht]at hk;simp only[hu]at hk;obtain⟨vs,ys,h1,h2,h3,h4,h5,h6⟩:=yP jS _ hk;refine⟨_,yQ h3,?_⟩;split at h1
   ·rename_i id;split at h1
    ·rename_i sz et es hm;split at h1
     ·rename_i hs;obtain⟨rfl,rfl⟩:=hs;simp only[tb]at h1;have hx:∃y,ys=[y]:=by
       match ys,h4,h2 with
       |[y],_,_=>simp
       |[],h4,h2=>grind
       |_::_::_,h4,h2=>simp_all
      obtain⟨y,rfl⟩:=hx;have hA:=jS.dF id _ hm;refine⟨y,φ' id,es,by simp,jS.below,h1.symm,fun g hg=>(jS.own id _ g hm (.inl hg)).1,?_,?_⟩
      ·refine aP.move (μ:=μ') hA rfl fun b o Ah=>?_;unfold nJ;rw[IT fun e=>by have:=(jS.own id _ b hm (.inl e)).2 rfl;simp_all];unfold cF;split
       ·rename_i bK;exact jS.base b o Ah bK
       ·exact jS.ro b o Ah
      ·have:=h5 0 _ y rfl rfl;cases this with
       |ux h=>exact .ux h
       |os h=>exact .os (id:=0) (φ:=fun _=>φ' id) h
     ·cases h1
    ·cases h1
   ·rename_i id len;split at h1
    ·rename_i sz et es hm;split at h1
     ·rename_i hs;obtain⟨rfl,rfl⟩:=hs;simp only[tb]at h1;have hx:∃y,ys=[y]:=by
       match ys,h4,h2 with
       |[y],_,_=>simp
       |[],h4,h2=>grind
       |_::_::_,h4,h2=>simp_all
      obtain⟨y,rfl⟩:=hx;obtain⟨ph,p1,p2,p3⟩:=acC (jS.dF id _ hm) (h5 0 _ y rfl rfl);refine⟨y,ph,es.take len,by simp,jS.below,h1.symm,fun g hg=>(jS.own id _ g hm (.inl (by rw[←p1];omega))).1,?_,(p3 _:)⟩;refine aP.move (μ:=μ') (φ:=fun _=>ph) (i:=0) p2 rfl fun b o Ah=>?_;unfold nJ;rw[IT fun e=>by have:=(jS.own id _ b hm (.inl (by rw[←p1];omega))).2 rfl;simp_all];unfold cF;split
      ·rename_i bK;exact jS.base b o Ah bK
      ·exact jS.ro b o Ah
     ·cases h1
    ·cases h1
   ·cases h1
  grind
 ·cases h
end
end Go.Ab
