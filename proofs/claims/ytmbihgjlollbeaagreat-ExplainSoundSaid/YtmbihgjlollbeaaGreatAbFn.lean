import Derived.Test.YtmbihgjlollbeaaGreatAbP8
set_option linter.all false
namespace Go.Ab
open Go.RowKit (Below)
section
variable {E:Env} {w0:bA}
def EK(tmps:Array Value):ResultVar→Sem Value
 |.tmp t=>pure (tmps.getD t undef)
 |.cell a t=>do loadVar t (←asAddr (tmps.getD a undef))
theorem xv{R:Type}{f:Fr}{m:Mem}{μ:Ro}{φ:Nat→aA}{a:Act}{w:World}(hR:Rel E.P E.aG E.fn.ntmps w0 μ φ f m a w):∀(rs:List ResultVar){k:List V→Option R}{r:R},A5 E f m rs k=some r→∃(vs:List V)(xs:List Value),k vs=some r∧vs.length=rs.length∧(rs.mapM (EK a.tmps)).run E.P w=.ok xs w∧xs.length=rs.length∧(∀(i:Nat)v x,vs[i]?=some v→xs[i]?=some x→af E.P μ φ v x)∧∀id,b8 id vs=true→(m id).isSome=true
 |[],k,r,h=>⟨[],[],h,rfl,by simp,rfl,by simp,fun id hid=>by cases hid⟩
 |.tmp t::rs,k,r,h=>by
  simp only[A5]at h;obtain⟨vs,xs,h1,h2,h3,h4,h5,h6⟩:=xv hR rs h;refine⟨bC E f (.tmp t)::vs,a.tmps.getD t undef::xs,h1,by simp[h2],?_,by simp[h4],fun i v x hv hx=>?_,fun id hid=>?_⟩
  ·rw[amB];simp only[EK,Sem.run_bind,Sem.run_pure,Result.andThen_ok,h3]
  ·cases i with
   |zero=>simp only[akG,cO]at hv hx;subst hv;subst hx;exact(al hR (.tmp t)).1
   |succ i=>exact h5 i v x (by simpa using hv) (by simpa using hx)
  ·simp only[b8,akp]at hid;rcases hid with hid|hid
   ·exact(al hR (.tmp t)).2 id hid
   ·exact h6 id hid
 |.cell b t::rs,k,r,h=>by
  simp only[A5]at h;obtain⟨v,ft,_,h,_,hl⟩:=KY h;obtain⟨vs,xs,h1,h2,h3,h4,h5,h6⟩:=xv hR rs h;obtain⟨y,y1,y2,y3⟩:=hl E.aG w0 μ φ w _ hR.toav (al hR (.tmp b)).1;have hld:(do loadVar t (←asAddr (a.tmps.getD b undef)):Sem Value).run E.P w=.ok y w:=by
   have y1:(Instr.loadAt t (a.tmps.getD b undef)).run E.P w=.ok y w:=y1;generalize a.tmps.getD b undef=z at y1;unfold Instr.loadAt at y1;cases z<;>simp only[Instr.sureAddr]at y1<;>try (simp[stuck,Sem.run_bind]at y1;done)
   rename_i o;cases o with
   |none=>simp[stuck,Sem.run_bind]at y1
   |some ad=>exact y1
  refine⟨v::vs,y::xs,h1,by simp[h2],?_,by simp[h4],fun i v' x hv hx=>?_,fun id hid=>?_⟩
  ·rw[amB];have ahV:(EK a.tmps (.cell b t)).run E.P w=.ok y w:=hld;simp only[Sem.run_bind,Sem.run_pure,Result.andThen_ok,ahV,h3]
  ·cases i with
   |zero=>simp at hv hx;subst hv;subst hx;exact y2
   |succ i=>exact h5 i v' x (by simpa using hv) (by simpa using hx)
  ·simp only[b8,akp]at hid;rcases hid with hid|hid
   ·exact y3 id hid
   ·exact h6 id hid
variable{w:World}
theorem xw{a:Act}{xs:List Value}(h3:(E.fn.results.toList.mapM (EK a.tmps)).run E.P w=.ok xs w):(results E.fn a.tmps).run E.P w=.ok (if h:xs.toArray.size=1 then xs.toArray[0]else .tuple xs.toArray) w:=by show(do let vs←E.fn.results.mapM (EK a.tmps);pure (if h:vs.size=1 then vs[0]else .tuple vs):Sem Value).run E.P w=_;simp_all[Array.mapM_eq_mapM_toList]
variable{φ:Nat→aA}
theorem ZC{f:Fr}{m:Mem}{μ:Ro}{a:Act}(hR:Rel E.P E.aG E.fn.ntmps w0 μ φ f m a w){p:PV}(h:UP E E.fn.results.toList f m=some p):∃y,(results E.fn a.tmps).run E.P w=.ok y w∧ah E.P (cm w0.mu w0.w w) p y:=by
 unfold UP at h;obtain⟨vs,xs,h1,h2,h3,h4,h5,h6⟩:=xv hR _ h;have hν:∀b o,μ b=some o→cm w0.mu w0.w w b=some o:=fun b o hb=>by
  unfold cm;split
  ·rename_i bZ;exact hR.base b o hb bZ
  ·exact hR.ro b o hb
 have Ci:∀id b g,m id=some b→b.owns (φ id) g→cm w0.mu w0.w w g=w.heap[g]?:=fun id b g hb hg=>by have:=(hR.own id b g hb hg).1;simp_all[cm,IS]
 have uJ:=xw h3;refine⟨_,uJ,?_⟩;split at h1
 ·rename_i v;have hx:∃x,xs=[x]:=by
   match xs,h4,h2 with
   |[x],_,_=>simp
   |[],h4,h2=>grind
   |_::_::_,h4,h2=>simp_all
  obtain⟨x,rfl⟩:=hx;simp only[ak7,akd,akm,akV,dite_true];exact uK hR.toav hν Ci _ h1 (h5 0 v x rfl rfl)
 ·rename_i cK;obtain⟨ps,qe,h1⟩:=cT.1 h1;simp only[cO]at h1;subst h1;obtain⟨p1,p2⟩:=gT qe;have oP:¬xs.toArray.size=1:=fun h=>by
   have:vs.length=1:=by simp at h;omega
   match vs,this with
   |[v],_=>exact cK v rfl
  rw[dif_neg oP];refine .aO (by simp;omega) fun i q x hq hx=>?_;obtain⟨v,hv,hf⟩:=p2 i q hq;exact uK hR.toav hν Ci _ hf (h5 i v x hv (by simpa using hx))
variable{R:Type}
theorem Hz{t:TypeId}{p:PV}{k:PV→Option R}{r:R}(h:I8 E t p k=some r):∃q,k q=some r∧∀(P:Program)(μ:Ro)x,ah P μ p x→ah P μ q x:=by
 have ld:iB E t p k=some r→∃q,k q=some r∧∀(P:Program)(μ:Ro)x,ah P μ p x→ah P μ q x:=fun h=>by grind [ma]
 grind [I8]
theorem Ah{R:Type}:∀{ts:List TypeId}{ps:List PV}{k:List PV→Option R}{r:R},qU E ts ps k=some r→∃qs,k qs=some r∧qs.length=ps.length∧∀(P:Program)(μ:Ro)(i:Nat)p q x,ps[i]?=some p→qs[i]?=some q→ah P μ p x→ah P μ q x
 |[],ps,k,r,h=>⟨ps,by simpa[qU]using h,rfl,fun P μ i p q x hp hq hx=>by simp_all⟩
 |t::ts,[],k,r,h=>⟨[],by simpa[qU]using h,rfl,by simp⟩
 |t::ts,p::ps,k,r,h=>by
  simp only[qU]at h;obtain⟨q,h1,h2⟩:=Hz h;obtain⟨qs,h3,h4,h5⟩:=Ah h1;refine⟨q::qs,h3,by simp[h4],fun P μ i p' q' x hp hq hx=>?_⟩;cases i with
  |zero=>simp at hp hq;subst hp;subst hq;exact h2 P μ x hx
  |succ i=>exact h5 P μ i p' q' x (by simpa using hp) (by simpa using hq) hx
theorem UR{t:TypeId}{p:PV}{k:PV→Option R}{r:R}(h:UQ E t p k=some r):∃q,k q=some r∧∀(P:Program)(μ:Ro)x,ah P μ p x→ah P μ q x:=by
 have agg:((asAgg (aN E.P t) p).bind fun _=>match ED E.P 8 t with|some ts=>qU E ts (aC (aN E.P t) p) fun cs=>k (.agg cs)|none=>none)=some r→∃q,k q=some r∧∀(P:Program)(μ:Ro)x,ah P μ p x→ah P μ q x:=fun h=>by
  obtain⟨_,ha,h⟩:=cT.1 h;split at h
  ·rename_i ts _;obtain⟨qs,h1,h2,h3⟩:=Ah h;refine⟨.agg qs,h1,fun P μ x hx=>?_⟩;have hp:∃cs,p=.agg cs∧cs.length=aN E.P t:=by cases p<;>simp[asAgg]at ha;exact⟨_,rfl,ha⟩
   obtain⟨cs,rfl,ha⟩:=hp;rw[aW]at h2;cases hx with
   | @agg _ xs a1 a2 a3=>
    refine .agg (by omega) (fun i q y hq hy=>?_) a3;have bZ:i<cs.length:=by grind
    have he:(aC (aN E.P t) (.agg cs))[i]?=some cs[i]:=by
     have hl:i<(aC (aN E.P t) (.agg cs)).length:=by rw[aW];omega
     have h5:=cN hl;obtain⟨_,h6⟩:=pw h5;simp_all[cell,PV.cells,List.getD]
    grind
  ·cases h
 unfold UQ at h;split at h
 ·exact agg h
 ·exact agg h
 ·rename_i e _;unfold D8 at h;split at h
  ·grind
  ·rename_i cs;split at h
   ·rename_i hn;split at h
    ·rename_i ts _;obtain⟨qs,h1,h2,h3⟩:=Ah h;rw[aW]at h2;refine⟨.rp qs,h1,fun P μ x hx=>?_⟩;cases hx with
     | @rp _ b o X a1 a2 a3=>
      have hc:∀i,i<qs.length→cs[i]?=some (cell (.agg cs) i):=fun i hi=>by grind [List.getElem?_eq_getElem,cell,PV.cells,List.getD]
      refine .rp X (fun i q hq=>a1 i _ (hc i (By.1 hq).1)) (fun i q hq=>?_) (fun i hi=>a3 i (by omega));grind [aC,aN,aW,List.getElem?_eq_getElem,pw]
    ·cases h
   ·cases h
  ·cases h
 ·exact Hz h
theorem Cj{R:Type}:∀{ts:List TypeId}{ps:List PV}{k:List PV→Option R}{r:R},Ag E ts ps k=some r→∃qs,k qs=some r∧qs.length=ps.length∧∀(P:Program)(μ:Ro)(i:Nat)p q x,ps[i]?=some p→qs[i]?=some q→ah P μ p x→ah P μ q x
 |[],ps,k,r,h=>⟨ps,by simpa[Ag]using h,rfl,fun P μ i p q x hp hq hx=>by simp_all⟩
 |t::ts,[],k,r,h=>⟨[],by simpa[Ag]using h,rfl,by simp⟩
 |t::ts,p::ps,k,r,h=>by
  simp only[Ag]at h;obtain⟨q,h1,h2⟩:=UR h;obtain⟨qs,h3,h4,h5⟩:=Cj h1;refine⟨q::qs,h3,by simp[h4],fun P μ i p' q' x hp hq hx=>?_⟩;cases i with
  |zero=>simp at hp hq;subst hp;subst hq;exact h2 P μ x hx
  |succ i=>exact h5 P μ i p' q' x (by simpa using hp) (by simpa using hq) hx
theorem aeN{μ:Ro}{xs:Array Value}{ps:List PV}(wA:∀b o,μ b=some o→w.heap[b]?=some o)(ZD:∀g cs,E.aG g=some cs→zC E.P μ g cs)(hlen:ps.length=xs.size)(lL:∀(i:Nat)p x,ps[i]?=some p→xs[i]?=some x→ah E.P μ p x)(US:ps.length≤E.fn.ntmps):Rel E.P E.aG E.fn.ntmps {w:=w,mu:=μ,sv:=fun _=>undef} μ (fun _=>default) (EJ (ps.map .pv)) (fun _=>none) {tmps:=xs++Array.replicate (E.fn.ntmps-xs.size) undef,defers:=[]} w:=by
 have wF:∀t,af E.P μ (fun _=>default) (EJ (ps.map .pv) t) (bM E.fn.ntmps {w:=w,mu:=μ,sv:=fun _=>undef} {tmps:=xs++Array.replicate (E.fn.ntmps-xs.size) undef,defers:=[]} t):=fun t=>by
  simp only[EJ];by_cases ht:t<ps.length
  ·have h1:(ps.map V.pv).getD t .top=.pv ps[t]:=by simp[List.getD,ht]
   have hxt:t<xs.size:=by omega
   have h2:(xs++Array.replicate (E.fn.ntmps-xs.size) undef).getD t undef=xs[t]:=by rw[akl,alh hxt,OF hxt];rfl
   rw[h1,rX (by omega),h2];exact .pv (lL t _ _ (cN ht) (OF hxt))
  ·have h1:(ps.map V.pv).getD t .top=.top:=by simp[List.getD,ht]
   rw[h1];exact .top
 have C4:∀t id,(EJ (ps.map .pv) t).has id=true→((fun _=>none:Mem) id).isSome=true:=fun t id hid=>by
  simp only[EJ]at hid;by_cases ht:t<ps.length
  ·simp_all
  simp_all
 exact{below:=lM.refl _ _,ro:=wA,aG:=ZD,dy:=(fun id b h=>by cases h),own:=(fun id b g h=>by cases h),inj:=(fun _ _ _ _ _ h=>by simp),apart:=(fun _ _ h=>by cases h),fT:=(fun _ _ _ h=>by cases h),base:=fun _ _ h _=>h,dC:=(fun _ _ h=>by cases h),C5:=(fun _ _ h=>by cases h),size:=by simp;omega,defers:=.nil _ _ _,nf:=(fun _ _ h=>by omega),fr:=wF,live:=C4}
variable{g:FuncId}
theorem Sd(hE:ku E)(hyl:E.yl=B8)(hf:E.P.funcs[g]?=some E.fn)(hn:(E.fn.name== "runtime.NumGoroutine")=false){c:Code}(hb:E.fn.body=some c):vA E.P E.aG g (ei E):=by
 refine⟨⟨E.fn,c,hf,hb,hn⟩,fun ps r h w μ xs wA ZD hlen lL=>?_⟩;unfold ei at h;rw[hb]at h;simp only at h;split at h
 ·rename_i US;obtain⟨qs,h,hql,hqr⟩:=Cj h;have lL:∀(i:Nat)p x,qs[i]?=some p→xs[i]?=some x→ah E.P μ p x:=fun i q x hq hx=>by grind
  have hlen:qs.length=xs.size:=by omega
  have US:qs.length≤E.fn.ntmps:=by omega
  clear hql hqr;revert qs;intro ps h lL hlen US;have hR:=aeN (E:=E) wA ZD hlen lL US;refine tP hE (by rw[hyl];exact A6 _ _ _ _) (fun _ _ h=>by omega) hf hb h hR fun e f' m' μ' φ' tmps w' hk kn=>?_;have fin:UP E E.fn.results.toList f' m'=some r→∃v,(results E.fn tmps).run E.P w'=.ok v w'∧∃y,Ending.returned v=.returned y∧lM w.heap.size w w'∧ah E.P (cm μ w w') r y:=fun hk=>by obtain⟨y,y1,y2⟩:=ZC kn hk;exact⟨y,y1,y,rfl,kn.below,y2⟩
  grind
 ·cases h
theorem uL.aeO{P:Program}{G:Nat→Option (List PV)}{nt:Nat}{yl:YL}{w0:bA}{o:Ro}(h:uL P G nt yl w0):uL P G nt yl {w0 with nf:=o}:=fun R site id args f m k r hy μ φ ρ w xs hM hF hρ hl hr Ja g hg=>
  let⟨fn,tmps,assign,body,y1,y2⟩:=h R site id args f m k r hy μ φ ρ w xs (hM.xx rfl rfl hM.dC fun _ _ _=>rfl) hF hρ hl hr Ja g hg
  ⟨fn,tmps,assign,body,y1,y2.mono fun e w'⟨v,f',m',y,μ',φ',a1,a2,a3,a4,a5⟩=>⟨v,f',m',y,μ',φ',a1,a2,a3,a4.xx rfl rfl a4.dC fun _ _ _=>rfl,a5⟩⟩
theorem acL(hE:ku E)(hf:E.P.funcs[g]?=some E.fn)(hn:(E.fn.name== "runtime.NumGoroutine")=false){args:List V}{f:Fr}{m:Mem}{k:V→Fr→Mem→Option R}{r:R}(h:D9 E args f m k=some r):Nu E.P E.aG g E.yl args f m k r:=by
 unfold D9 at h;split at h
 ·rename_i c hb;split at h
  ·rename_i US;refine⟨E.fn,c,hf,hb,hn,fun w0 μ φ ρ w xs hM hF hlen lL C4 hY=>?_⟩;have fe:∀t,t<args.length→∃v,args[t]?=some v∧args.getD t .top=v:=fun t ht=>⟨args[t],cN ht,by simp[List.getD,ht]⟩;have hR:Rel E.P E.aG E.fn.ntmps {w0 with sv:=fun t=>ρ (t-E.fn.ntmps),nf:=w0.dC} μ φ (wy E.fn.ntmps args f) m {tmps:=xs++Array.replicate (E.fn.ntmps-xs.size) undef,defers:=[]} w:=
    {toav:=hM.xx rfl rfl hM.dC fun _ _ _=>rfl,size:=by simp;omega,defers:=.nil _ _ _,nf:=fun _ _ h=>h,fr:=fun t=>by
      unfold wy bM;by_cases ht:t<E.fn.ntmps
      ·rw[show Nat.blt t E.fn.ntmps=true by simp_all,AI ht];show af E.P μ φ (args.getD t .top) _;by_cases ha:t<args.length
       ·obtain⟨v,h1,h2⟩:=fe t ha;have hxt:t<xs.size:=by omega
        rw[h2];have h3:(xs++Array.replicate (E.fn.ntmps-xs.size) undef).getD t undef=xs[t]:=by simp_all
        rw[h3];exact lL t v _ h1 (OF hxt)
       ·have h1:args.getD t .top=.top:=by simp[List.getD,ha]
        rw[h1];exact .top
      ·rw[show Nat.blt t E.fn.ntmps=false by rw[←ak3,ak6];omega,IS ht];exact hF.fr _,
     live:=fun t id hid=>by
      unfold wy at hid;cases e:Nat.blt t E.fn.ntmps with
      |true=>
       rw[e]at hid;have hid:(args.getD t .top).has id=true:=hid;by_cases ha:t<args.length
       ·obtain⟨v,h1,h2⟩:=fe t ha;rw[h2]at hid;exact C4 id (cz.2 ⟨v,aeB h1,hid⟩)
       simp_all
      |false=>rw[e]at hid;exact hF.live _ id hid}
   refine tP hE hY.aeO (fun _ _ h=>h) hf hb h hR fun e f' m' μ' φ' tmps w' hk kn=>?_;have hF':bR E.P μ' φ' m' (xq E.fn.ntmps f') ρ:=by refine⟨fun t=>?_,fun t id hid=>kn.live _ id hid⟩;have:=kn.fr (t+E.fn.ntmps);unfold bM at this;rw[IS (by omega)]at this;simp only[alQ]at this;exact this
   have fin:(A5 E f' m' E.fn.results.toList fun vs=>match vs with
    |[v]=>k v (xq E.fn.ntmps f') m'
    |vs=>k (.aO vs) (xq E.fn.ntmps f') m')=some r→∃v,(results E.fn tmps).run E.P w'=.ok v w'∧
    ∃v1 f1 m1 y μ1 φ1,k v1 f1 m1=some r∧Ending.returned v=.returned y∧av E.P E.aG w0 μ1 φ1 m1 w'∧bR E.P μ1 φ1 m1 f1 ρ∧af E.P μ1 φ1 v1 y∧∀id,v1.has id=true→(m1 id).isSome=true:=fun hk=>by
    obtain⟨vs,ys,h1,h2,h3,h4,h5,h6⟩:=xv kn _ hk
    refine⟨_,xw h3,?_⟩
    have hM0:av E.P E.aG w0 μ' φ' m' w':=kn.toav.xx rfl rfl kn.dC fun _ _ _=>rfl
    split at h1
    ·rename_i v;have hx:∃y,ys=[y]:=by
      match ys,h4,h2 with
      |[y],_,_=>simp
      |[],h4,h2=>grind
      |_::_::_,h4,h2=>simp_all
     obtain⟨y,rfl⟩:=hx;refine⟨v,_,_,y,μ',φ',h1,by simp,hM0,hF',h5 0 v y rfl rfl,fun id hid=>h6 id (by simp[b8,hid])⟩
    ·rename_i cK;have oP:¬ys.toArray.size=1:=fun h=>by
      have:vs.length=1:=by simp at h;omega
      match vs,this with
      |[v],_=>exact cK v rfl
     rw[dif_neg oP];exact⟨.aO vs,_,_,_,μ',φ',h1,rfl,hM0,hF',.aO (by simp;omega) (fun i q x hq hx=>h5 i q x hq (by simpa using hx)),fun id hid=>h6 id (by simpa only[V.has]using hid)⟩
   grind
  ·cases h
 ·cases h
theorem ZE{μ:Ro}{d len s:Nat}{et:TypeId}{es:List PV}{x:Value}(hA:aH E.P μ φ w d s et es)(hx:af E.P μ φ (.fR d 0 len) x):∃ph:aA,ph.g=(φ d).g∧aH E.P μ (fun _=>ph) w 0 s et (es.take len)∧∀μ',af E.P μ' (fun _=>ph) (.os 0) x:=by
 obtain⟨h1,h2,h3,h4,h5,h6,h7⟩:=hA;cases hx with
 |rY hg=>refine⟨φ d,rfl,?_,fun μ'=>.tp hg⟩;rw[hg]at h7;obtain⟨rfl,h7⟩:=h7;refine⟨h1,h2,h3,h4,by simp,h6,?_⟩;simp_all
 | @fR _ _ _ cap g ad hg hl ha hc hc'=>
  rw[hg]at h7;obtain⟨q,Tq,q1,q2,q3,q4,q5⟩:=h7;have hlen:(es.take len).length=len:=by simp_all
  have had:ad=⟨g,0,none⟩:=by simp_all
  subst had;refine⟨{φ d with cap:=cap,len:=len},rfl,⟨by simp[hlen],h2,h3,h4,fun i e he=>h5 i e (jb he).1,by simp;omega,?_⟩,fun μ'=>?_⟩
  ·simp only[hg];refine⟨q,Tq,q1,akT (ahw _ (by omega)) q2,by omega,fun i e j p x he hp hx=>q4 i e j p x (jb he).1 hp hx,fun i x hi hx=>q5 i x (Nat.lt_of_lt_of_le hi (ahw _ (by omega))) hx⟩
  ·exact af.os (P:=E.P) (μ:=μ') (φ:=fun _=>{φ d with cap:=cap,len:=len}) (id:=0) (g:=g) hg
theorem Se(hE:ku E)(hyl:E.yl=B8)(hf:E.P.funcs[g]?=some E.fn)(hn:(E.fn.name== "runtime.NumGoroutine")=false){c:Code}(hb:E.fn.body=some c):Ck E.P E.aG g (I9 E):=by
 refine⟨⟨E.fn,c,hf,hb,hn⟩,fun fn t el Ur ht hu ps r h w μ xs wA ZD hlen lL=>?_⟩;rw[hf]at Ur;cases Ur;unfold I9 at h;rw[hb]at h;simp only at h;split at h
 ·rename_i US;obtain⟨qs,h,hql,hqr⟩:=Cj h;have lL:∀(i:Nat)p x,qs[i]?=some p→xs[i]?=some x→ah E.P μ p x:=fun i q x hq hx=>by grind
  have hlen:qs.length=xs.size:=by omega
  have US:qs.length≤E.fn.ntmps:=by omega
  clear hql hqr;revert qs;intro ps h lL hlen US;refine tP hE (by rw[hyl];exact A6 _ _ _ _) (fun _ _ h=>by omega) hf hb h (aeN wA ZD hlen lL US) fun e f' m' μ' φ' tmps w' hk kn=>?_;have fin:acK E f' m'=some r→∃v,(results E.fn tmps).run E.P w'=.ok v w'∧∃(y:Value)(ph:aA)(es:List PV),Ending.returned v=.returned y∧lM w.heap.size w w'∧r=.rs (aN E.P el) es∧(∀g,ph.g=some g→w.heap.size≤g)∧aH E.P (nu (cm μ w w') ph.g) (fun _=>ph) w' 0 (aN E.P el) el es∧af E.P μ (fun _=>ph) (.os 0) y:=fun hk=>by
   unfold acK at hk;rw[ht]at hk;simp only[hu]at hk;obtain⟨vs,ys,h1,h2,h3,h4,h5,h6⟩:=xv kn _ hk;refine⟨_,xw h3,?_⟩;split at h1
   ·rename_i id;split at h1
    ·rename_i sz et es hm;split at h1
     ·rename_i hs;obtain⟨rfl,rfl⟩:=hs;simp only[cO]at h1;have hx:∃y,ys=[y]:=by
       match ys,h4,h2 with
       |[y],_,_=>simp
       |[],h4,h2=>grind
       |_::_::_,h4,h2=>simp_all
      obtain⟨y,rfl⟩:=hx;have hA:=kn.dy id _ hm;refine⟨y,φ' id,es,by simp,kn.below,h1.symm,fun g hg=>(kn.own id _ g hm (.inl hg)).1,?_,?_⟩
      ·refine aH.move (μ:=μ') hA rfl fun b o yS=>?_;unfold nu;rw[IS fun e=>by have:=(kn.own id _ b hm (.inl e)).2 rfl;simp_all];unfold cm;split
       ·rename_i bZ;exact kn.base b o yS bZ
       ·exact kn.ro b o yS
      ·have:=h5 0 _ y rfl rfl;cases this with
       |tp h=>exact .tp h
       |os h=>exact .os (id:=0) (φ:=fun _=>φ' id) h
     ·cases h1
    ·cases h1
   ·rename_i id len;split at h1
    ·rename_i sz et es hm;split at h1
     ·rename_i hs;obtain⟨rfl,rfl⟩:=hs;simp only[cO]at h1;have hx:∃y,ys=[y]:=by
       match ys,h4,h2 with
       |[y],_,_=>simp
       |[],h4,h2=>grind
       |_::_::_,h4,h2=>simp_all
      obtain⟨y,rfl⟩:=hx;obtain⟨ph,p1,p2,p3⟩:=ZE (kn.dy id _ hm) (h5 0 _ y rfl rfl);refine⟨y,ph,es.take len,by simp,kn.below,h1.symm,fun g hg=>(kn.own id _ g hm (.inl (by rw[←p1];omega))).1,?_,(p3 _:)⟩;refine aH.move (μ:=μ') (φ:=fun _=>ph) (i:=0) p2 rfl fun b o yS=>?_;unfold nu;rw[IS fun e=>by have:=(kn.own id _ b hm (.inl (by rw[←p1];omega))).2 rfl;simp_all];unfold cm;split
      ·rename_i bZ;exact kn.base b o yS bZ
      ·exact kn.ro b o yS
     ·cases h1
    ·cases h1
   ·cases h1
  grind
 ·cases h
end
end Go.Ab
