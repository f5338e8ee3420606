import Derived.Test.YtmbihgjlollbeaaGreatAbP8
set_option linter.unusedVariables false
set_option linter.unusedSimpArgs false
namespace Go.Ab
open Go.RowKit (Below)
section
variable {E:Env} {w0:bw}
def Dd(tmps:Array Value):ResultVar→Sem Value
 |.tmp t=>pure (tmps.getD t undef)
 |.cell a t=>do loadVar t (←asAddr (tmps.getD a undef))
theorem vn{R:Type}{f:Fr}{m:Mem}{μ:Ro}{φ:Nat→aA}{a:Act}{w:World}(hR:Rel E.P E.aF E.fn.ntmps w0 μ φ f m a w):∀(rs:List ResultVar){k:List V→Option R}{r:R},zf E f m rs k=some r→∃(vs:List V)(xs:List Value),k vs=some r∧vs.length=rs.length∧(rs.mapM (Dd a.tmps)).run E.P w=.ok xs w∧xs.length=rs.length∧(∀(i:Nat)v x,vs[i]?=some v→xs[i]?=some x→ag E.P μ φ v x)∧∀id,cd id vs=true→(m id).isSome=true
 |[],k,r,h=>⟨[],[],h,rfl,by simp,rfl,by simp,fun id hid=>by cases hid⟩
 |.tmp t::rs,k,r,h=>by
  simp only[zf]at h;obtain⟨vs,xs,h1,h2,h3,h4,h5,h6⟩:=vn hR rs h;refine⟨bA E f (.tmp t)::vs,a.tmps.getD t undef::xs,h1,by simp[h2],?_,by simp[h4],fun i v x hv hx=>?_,fun id hid=>?_⟩
  ·rw[akU];simp only[Dd,Sem.run_bind,Sem.run_pure,Result.andThen_ok,h3]
  ·cases i with
   |zero=>simp only[aje,cN]at hv hx;subst hv;subst hx;exact(ai hR (.tmp t)).1
   |succ i=>exact h5 i v x (by simpa using hv) (by simpa using hx)
  ·simp only[cd,aiI]at hid;rcases hid with hid|hid
   ·exact(ai hR (.tmp t)).2 id hid
   ·exact h6 id hid
 |.cell b t::rs,k,r,h=>by
  simp only[zf]at h;obtain⟨v,ft,_,h,_,hl⟩:=JI h;obtain⟨vs,xs,h1,h2,h3,h4,h5,h6⟩:=vn hR rs h;obtain⟨y,y1,y2,y3⟩:=hl E.aF w0 μ φ w _ hR.toav (ai hR (.tmp b)).1;have hld:(do loadVar t (←asAddr (a.tmps.getD b undef)):Sem Value).run E.P w=.ok y w:=by
   have y1:(Instr.loadAt t (a.tmps.getD b undef)).run E.P w=.ok y w:=y1;generalize a.tmps.getD b undef=z at y1;unfold Instr.loadAt at y1;cases z<;>simp only[Instr.sureAddr]at y1<;>try (simp[stuck,Sem.run_bind]at y1;done)
   rename_i o;cases o with
   |none=>simp[stuck,Sem.run_bind]at y1
   |some ad=>exact y1
  refine⟨v::vs,y::xs,h1,by simp[h2],?_,by simp[h4],fun i v' x hv hx=>?_,fun id hid=>?_⟩
  ·rw[akU];have agj:(Dd a.tmps (.cell b t)).run E.P w=.ok y w:=hld;simp only[Sem.run_bind,Sem.run_pure,Result.andThen_ok,agj,h3]
  ·cases i with
   |zero=>simp at hv hx;subst hv;subst hx;exact y2
   |succ i=>exact h5 i v' x (by simpa using hv) (by simpa using hx)
  ·simp only[cd,aiI]at hid;rcases hid with hid|hid
   ·exact y3 id hid
   ·exact h6 id hid
variable{w:World}
theorem vo{a:Act}{xs:List Value}(h3:(E.fn.results.toList.mapM (Dd a.tmps)).run E.P w=.ok xs w):(results E.fn a.tmps).run E.P w=.ok (if h:xs.toArray.size=1 then xs.toArray[0]else .tuple xs.toArray) w:=by show(do let vs←E.fn.results.mapM (Dd a.tmps);pure (if h:vs.size=1 then vs[0]else .tuple vs):Sem Value).run E.P w=_;simp_all[Array.mapM_eq_mapM_toList]
variable{φ:Nat→aA}
theorem W4{f:Fr}{m:Mem}{μ:Ro}{a:Act}(hR:Rel E.P E.aF E.fn.ntmps w0 μ φ f m a w){p:PV}(h:T0 E E.fn.results.toList f m=some p):∃y,(results E.fn a.tmps).run E.P w=.ok y w∧ah E.P (cr w0.mu w0.w w) p y:=by
 unfold T0 at h;obtain⟨vs,xs,h1,h2,h3,h4,h5,h6⟩:=vn hR _ h;have hν:∀b o,μ b=some o→cr w0.mu w0.w w b=some o:=fun b o hb=>by
  unfold cr;split
  ·rename_i bT;exact hR.base b o hb bT
  ·exact hR.ro b o hb
 have vp:∀id b g,m id=some b→b.owns (φ id) g→cr w0.mu w0.w w g=w.heap[g]?:=fun id b g hb hg=>by have:=(hR.own id b g hb hg).1;simp_all[cr,By]
 have ob:=vo h3;refine⟨_,ob,?_⟩;split at h1
 ·rename_i v;have hx:∃x,xs=[x]:=by
   match xs,h4,h2 with
   |[x],_,_=>simp
   |[],h4,h2=>grind
   |_::_::_,h4,h2=>simp_all
  obtain⟨x,rfl⟩:=hx;simp only[ajj,aiV,aji,ajk,dite_true];exact sF hR.toav hν vp _ h1 (h5 0 v x rfl rfl)
 ·rename_i dh;obtain⟨ps,oa,h1⟩:=cQ.1 h1;simp only[cN]at h1;subst h1;obtain⟨p1,p2⟩:=gr oa;have mI:¬xs.toArray.size=1:=fun h=>by
   have:vs.length=1:=by simp at h;omega
   match vs,this with
   |[v],_=>exact dh v rfl
  rw[dif_neg mI];refine .aP (by simp;omega) fun i q x hq hx=>?_;obtain⟨v,hv,hf⟩:=p2 i q hq;exact sF hR.toav hν vp _ hf (h5 i v x hv (by simpa using hx))
variable{R:Type}
theorem FK{t:TypeId}{p:PV}{k:PV→Option R}{r:R}(h:G5 E t p k=some r):∃q,k q=some r∧∀(P:Program)(μ:Ro)x,ah P μ p x→ah P μ q x:=by
 have ld:fV E t p k=some r→∃q,k q=some r∧∀(P:Program)(μ:Ro)x,ah P μ p x→ah P μ q x:=fun h=>by grind [kA]
 grind [G5]
theorem ye{R:Type}:∀{ts:List TypeId}{ps:List PV}{k:List PV→Option R}{r:R},oZ E ts ps k=some r→∃qs,k qs=some r∧qs.length=ps.length∧∀(P:Program)(μ:Ro)(i:Nat)p q x,ps[i]?=some p→qs[i]?=some q→ah P μ p x→ah P μ q x
 |[],ps,k,r,h=>⟨ps,by simpa[oZ]using h,rfl,fun P μ i p q x hp hq hx=>by simp_all⟩
 |t::ts,[],k,r,h=>⟨[],by simpa[oZ]using h,rfl,by simp⟩
 |t::ts,p::ps,k,r,h=>by
  simp only[oZ]at h;obtain⟨q,h1,h2⟩:=FK h;obtain⟨qs,h3,h4,h5⟩:=ye h1;refine⟨q::qs,h3,by simp[h4],fun P μ i p' q' x hp hq hx=>?_⟩;cases i with
  |zero=>simp at hp hq;subst hp;subst hq;exact h2 P μ x hx
  |succ i=>exact h5 P μ i p' q' x (by simpa using hp) (by simpa using hq) hx
theorem T3{t:TypeId}{p:PV}{k:PV→Option R}{r:R}(h:T2 E t p k=some r):∃q,k q=some r∧∀(P:Program)(μ:Ro)x,ah P μ p x→ah P μ q x:=by
 have agg:((asAgg (aQ E.P t) p).bind fun _=>match C6 E.P 8 t with|some ts=>oZ E ts (aJ (aQ E.P t) p) fun cs=>k (.agg cs)|none=>none)=some r→∃q,k q=some r∧∀(P:Program)(μ:Ro)x,ah P μ p x→ah P μ q x:=fun h=>by
  obtain⟨_,ha,h⟩:=cQ.1 h;split at h
  ·rename_i ts _;obtain⟨qs,h1,h2,h3⟩:=ye h;refine⟨.agg qs,h1,fun P μ x hx=>?_⟩;have hp:∃cs,p=.agg cs∧cs.length=aQ E.P t:=by cases p<;>simp[asAgg]at ha;exact⟨_,rfl,ha⟩
   obtain⟨cs,rfl,ha⟩:=hp;rw[bd]at h2;cases hx with
   | @agg _ xs a1 a2 a3=>
    refine .agg (by omega) (fun i q y hq hy=>?_) a3;have bT:i<cs.length:=by grind
    have he:(aJ (aQ E.P t) (.agg cs))[i]?=some cs[i]:=by
     have hl:i<(aJ (aQ E.P t) (.agg cs)).length:=by rw[bd];omega
     have h5:=cO hl;obtain⟨_,h6⟩:=nr h5;simp_all[cell,PV.cells,List.getD]
    grind
  ·cases h
 unfold T2 at h;split at h
 ·exact agg h
 ·exact agg h
 ·rename_i e _;unfold CG at h;split at h
  ·grind
  ·rename_i cs;split at h
   ·rename_i hn;split at h
    ·rename_i ts _;obtain⟨qs,h1,h2,h3⟩:=ye h;rw[bd]at h2;refine⟨.rp qs,h1,fun P μ x hx=>?_⟩;cases hx with
     | @rp _ b o X a1 a2 a3=>
      have hc:∀i,i<qs.length→cs[i]?=some (cell (.agg cs) i):=fun i hi=>by grind [List.getElem?_eq_getElem,cell,PV.cells,List.getD]
      refine .rp X (fun i q hq=>a1 i _ (hc i (AT.1 hq).1)) (fun i q hq=>?_) (fun i hi=>a3 i (by omega));grind [aJ,aQ,bd,List.getElem?_eq_getElem,nr]
    ·cases h
   ·cases h
  ·cases h
 ·exact FK h
theorem AJ{R:Type}:∀{ts:List TypeId}{ps:List PV}{k:List PV→Option R}{r:R},yb E ts ps k=some r→∃qs,k qs=some r∧qs.length=ps.length∧∀(P:Program)(μ:Ro)(i:Nat)p q x,ps[i]?=some p→qs[i]?=some q→ah P μ p x→ah P μ q x
 |[],ps,k,r,h=>⟨ps,by simpa[yb]using h,rfl,fun P μ i p q x hp hq hx=>by simp_all⟩
 |t::ts,[],k,r,h=>⟨[],by simpa[yb]using h,rfl,by simp⟩
 |t::ts,p::ps,k,r,h=>by
  simp only[yb]at h;obtain⟨q,h1,h2⟩:=T3 h;obtain⟨qs,h3,h4,h5⟩:=AJ h1;refine⟨q::qs,h3,by simp[h4],fun P μ i p' q' x hp hq hx=>?_⟩;cases i with
  |zero=>simp at hp hq;subst hp;subst hq;exact h2 P μ x hx
  |succ i=>exact h5 P μ i p' q' x (by simpa using hp) (by simpa using hq) hx
theorem aci{μ:Ro}{xs:Array Value}{ps:List PV}(tx:∀b o,μ b=some o→w.heap[b]?=some o)(Z1:∀g cs,E.aF g=some cs→xm E.P μ g cs)(hlen:ps.length=xs.size)(jR:∀(i:Nat)p x,ps[i]?=some p→xs[i]?=some x→ah E.P μ p x)(T4:ps.length≤E.fn.ntmps):Rel E.P E.aF E.fn.ntmps {w:=w,mu:=μ,sv:=fun _=>undef} μ (fun _=>default) (Dc (ps.map .pv)) (fun _=>none) {tmps:=xs++Array.replicate (E.fn.ntmps-xs.size) undef,defers:=[]} w:=by
 have uS:∀t,ag E.P μ (fun _=>default) (Dc (ps.map .pv) t) (an E.fn.ntmps {w:=w,mu:=μ,sv:=fun _=>undef} {tmps:=xs++Array.replicate (E.fn.ntmps-xs.size) undef,defers:=[]} t):=fun t=>by
  simp only[Dc];by_cases ht:t<ps.length
  ·have h1:(ps.map V.pv).getD t .top=.pv ps[t]:=by simp[List.getD,ht]
   have hxt:t<xs.size:=by omega
   have h2:(xs++Array.replicate (E.fn.ntmps-xs.size) undef).getD t undef=xs[t]:=by rw[aiA,ajA hxt,IN hxt];rfl
   rw[h1,pK (by omega),h2];exact .pv (jR t _ _ (cO ht) (IN hxt))
  ·have h1:(ps.map V.pv).getD t .top=.top:=by simp[List.getD,ht]
   rw[h1];exact .top
 have BG:∀t id,(Dc (ps.map .pv) t).has id=true→((fun _=>none:Mem) id).isSome=true:=fun t id hid=>by
  simp only[Dc]at hid;by_cases ht:t<ps.length
  ·simp_all
  simp_all
 exact{below:=jS.refl _ _,ro:=tx,aF:=Z1,dw:=(fun id b h=>by cases h),own:=(fun id b g h=>by cases h),inj:=(fun _ _ _ _ _ h=>by simp),apart:=(fun _ _ h=>by cases h),fu:=(fun _ _ _ h=>by cases h),base:=fun _ _ h _=>h,dy:=(fun _ _ h=>by cases h),BH:=(fun _ _ h=>by cases h),size:=by simp;omega,defers:=.nil _ _ _,lD:=(fun _ _ h=>by omega),fr:=uS,live:=BG}
variable{g:FuncId}
theorem RL(hE:je E)(YU:E.yl=Ax)(hf:E.P.funcs[g]?=some E.fn)(hn:(E.fn.name== "runtime.NumGoroutine")=false){c:Code}(hb:E.fn.body=some c):tz E.P E.aF g (ab E):=by
 refine⟨⟨E.fn,c,hf,hb,hn⟩,fun ps r h w μ xs tx Z1 hlen jR=>?_⟩;unfold ab at h;rw[hb]at h;simp only at h;split at h
 ·rename_i T4;obtain⟨qs,h,Z2,hqr⟩:=AJ h;have jR:∀(i:Nat)p x,qs[i]?=some p→xs[i]?=some x→ah E.P μ p x:=fun i q x hq hx=>by grind
  have hlen:qs.length=xs.size:=by omega
  have T4:qs.length≤E.fn.ntmps:=by omega
  clear Z2 hqr;revert qs;intro ps h jR hlen T4;have hR:=aci (E:=E) tx Z1 hlen jR T4;refine rQ hE (by rw[YU];exact zg _ _ _ _) (fun _ _ h=>by omega) hf hb h hR fun e f' m' μ' φ' tmps w' hk iN=>?_;have fin:T0 E E.fn.results.toList f' m'=some r→∃v,(results E.fn tmps).run E.P w'=.ok v w'∧∃y,Ending.returned v=.returned y∧jS w.heap.size w w'∧ah E.P (cr μ w w') r y:=fun hk=>by obtain⟨y,y1,y2⟩:=W4 iN hk;exact⟨y,y1,y,rfl,iN.below,y2⟩
  grind
 ·cases h
theorem sG.acj{P:Program}{G:Nat→Option (List PV)}{nt:Nat}{yl:YL}{w0:bw}{o:Ro}(h:sG P G nt yl w0):sG P G nt yl {w0 with lD:=o}:=fun R site id args f m k r hy μ φ ρ w xs hM hF hρ hl hr G7 g hg=>
  let⟨fn,tmps,assign,body,y1,y2⟩:=h R site id args f m k r hy μ φ ρ w xs (hM.vq rfl rfl hM.dy fun _ _ _=>rfl) hF hρ hl hr G7 g hg
  ⟨fn,tmps,assign,body,y1,y2.mono fun e w'⟨v,f',m',y,μ',φ',a1,a2,a3,a4,a5⟩=>⟨v,f',m',y,μ',φ',a1,a2,a3,a4.vq rfl rfl a4.dy fun _ _ _=>rfl,a5⟩⟩
theorem Z3(hE:je E)(hf:E.P.funcs[g]?=some E.fn)(hn:(E.fn.name== "runtime.NumGoroutine")=false){args:List V}{f:Fr}{m:Mem}{k:V→Fr→Mem→Option R}{r:R}(h:CH E args f m k=some r):MG E.P E.aF g E.yl args f m k r:=by
 unfold CH at h;split at h
 ·rename_i c hb;split at h
  ·rename_i T4;refine⟨E.fn,c,hf,hb,hn,fun w0 μ φ ρ w xs hM hF hlen jR BG hY=>?_⟩;have fh:∀t,t<args.length→∃v,args[t]?=some v∧args.getD t .top=v:=fun t ht=>⟨args[t],cO ht,by simp[List.getD,ht]⟩;have hR:Rel E.P E.aF E.fn.ntmps {w0 with sv:=fun t=>ρ (t-E.fn.ntmps),lD:=w0.dy} μ φ (uu E.fn.ntmps args f) m {tmps:=xs++Array.replicate (E.fn.ntmps-xs.size) undef,defers:=[]} w:=
    {toav:=hM.vq rfl rfl hM.dy fun _ _ _=>rfl,size:=by simp;omega,defers:=.nil _ _ _,lD:=fun _ _ h=>h,fr:=fun t=>by
      unfold uu an;by_cases ht:t<E.fn.ntmps
      ·rw[show Nat.blt t E.fn.ntmps=true by simp_all,AI ht];show ag E.P μ φ (args.getD t .top) _;by_cases ha:t<args.length
       ·obtain⟨v,h1,h2⟩:=fh t ha;have hxt:t<xs.size:=by omega
        rw[h2];have h3:(xs++Array.replicate (E.fn.ntmps-xs.size) undef).getD t undef=xs[t]:=by simp_all
        rw[h3];exact jR t v _ h1 (IN hxt)
       ·have h1:args.getD t .top=.top:=by simp[List.getD,ha]
        rw[h1];exact .top
      ·rw[show Nat.blt t E.fn.ntmps=false by rw[←ajz,ajv];omega,By ht];exact hF.fr _,
     live:=fun t id hid=>by
      unfold uu at hid;cases e:Nat.blt t E.fn.ntmps with
      |true=>
       rw[e]at hid;have hid:(args.getD t .top).has id=true:=hid;by_cases ha:t<args.length
       ·obtain⟨v,h1,h2⟩:=fh t ha;rw[h2]at hid;exact BG id (cC.2 ⟨v,abV h1,hid⟩)
       simp_all
      |false=>rw[e]at hid;exact hF.live _ id hid}
   refine rQ hE hY.acj (fun _ _ h=>h) hf hb h hR fun e f' m' μ' φ' tmps w' hk iN=>?_;have hF':bU E.P μ' φ' m' (vj E.fn.ntmps f') ρ:=by refine⟨fun t=>?_,fun t id hid=>iN.live _ id hid⟩;have:=iN.fr (t+E.fn.ntmps);unfold an at this;rw[By (by omega)]at this;simp only[aj7]at this;exact this
   have fin:(zf E f' m' E.fn.results.toList fun vs=>match vs with
    |[v]=>k v (vj E.fn.ntmps f') m'
    |vs=>k (.aP vs) (vj E.fn.ntmps f') m')=some r→∃v,(results E.fn tmps).run E.P w'=.ok v w'∧
    ∃v1 f1 m1 y μ1 φ1,k v1 f1 m1=some r∧Ending.returned v=.returned y∧av E.P E.aF w0 μ1 φ1 m1 w'∧bU E.P μ1 φ1 m1 f1 ρ∧ag E.P μ1 φ1 v1 y∧∀id,v1.has id=true→(m1 id).isSome=true:=fun hk=>by
    obtain⟨vs,ys,h1,h2,h3,h4,h5,h6⟩:=vn iN _ hk
    refine⟨_,vo h3,?_⟩
    have hM0:av E.P E.aF w0 μ' φ' m' w':=iN.toav.vq rfl rfl iN.dy fun _ _ _=>rfl
    split at h1
    ·rename_i v;have hx:∃y,ys=[y]:=by
      match ys,h4,h2 with
      |[y],_,_=>simp
      |[],h4,h2=>grind
      |_::_::_,h4,h2=>simp_all
     obtain⟨y,rfl⟩:=hx;refine⟨v,_,_,y,μ',φ',h1,by simp,hM0,hF',h5 0 v y rfl rfl,fun id hid=>h6 id (by simp[cd,hid])⟩
    ·rename_i dh;have mI:¬ys.toArray.size=1:=fun h=>by
      have:vs.length=1:=by simp at h;omega
      match vs,this with
      |[v],_=>exact dh v rfl
     rw[dif_neg mI];exact⟨.aP vs,_,_,_,μ',φ',h1,rfl,hM0,hF',.aP (by simp;omega) (fun i q x hq hx=>h5 i q x hq (by simpa using hx)),fun id hid=>h6 id (by simpa only[V.has]using hid)⟩
   grind
  ·cases h
 ·cases h
theorem W5{μ:Ro}{d len s:Nat}{et:TypeId}{es:List PV}{x:Value}(hA:aH E.P μ φ w d s et es)(hx:ag E.P μ φ (.fq d 0 len) x):∃ph:aA,ph.g=(φ d).g∧aH E.P μ (fun _=>ph) w 0 s et (es.take len)∧∀μ',ag E.P μ' (fun _=>ph) (.os 0) x:=by
 obtain⟨h1,h2,h3,h4,h5,h6,h7⟩:=hA;cases hx with
 |pL hg=>refine⟨φ d,rfl,?_,fun μ'=>.qY hg⟩;rw[hg]at h7;obtain⟨rfl,h7⟩:=h7;refine⟨h1,h2,h3,h4,by simp,h6,?_⟩;simp_all
 | @fq _ _ _ cap g ad hg hl ha hc Z4=>
  rw[hg]at h7;obtain⟨q,Tq,q1,q2,q3,q4,q5⟩:=h7;have hlen:(es.take len).length=len:=by simp_all
  have had:ad=⟨g,0,none⟩:=by simp_all
  subst had;refine⟨{φ d with cap:=cap,len:=len},rfl,⟨by simp[hlen],h2,h3,h4,fun i e he=>h5 i e (gW he).1,by simp;omega,?_⟩,fun μ'=>?_⟩
  ·simp only[hg];refine⟨q,Tq,q1,ajq (ZG _ (by omega)) q2,by omega,fun i e j p x he hp hx=>q4 i e j p x (gW he).1 hp hx,fun i x hi hx=>q5 i x (Nat.lt_of_lt_of_le hi (ZG _ (by omega))) hx⟩
  ·exact ag.os (P:=E.P) (μ:=μ') (φ:=fun _=>{φ d with cap:=cap,len:=len}) (id:=0) (g:=g) hg
theorem RM(hE:je E)(YU:E.yl=Ax)(hf:E.P.funcs[g]?=some E.fn)(hn:(E.fn.name== "runtime.NumGoroutine")=false){c:Code}(hb:E.fn.body=some c):AK E.P E.aF g (G6 E):=by
 refine⟨⟨E.fn,c,hf,hb,hn⟩,fun fn t el Tu ht hu ps r h w μ xs tx Z1 hlen jR=>?_⟩;rw[hf]at Tu;cases Tu;unfold G6 at h;rw[hb]at h;simp only at h;split at h
 ·rename_i T4;obtain⟨qs,h,Z2,hqr⟩:=AJ h;have jR:∀(i:Nat)p x,qs[i]?=some p→xs[i]?=some x→ah E.P μ p x:=fun i q x hq hx=>by grind
  have hlen:qs.length=xs.size:=by omega
  have T4:qs.length≤E.fn.ntmps:=by omega
  clear Z2 hqr;revert qs;intro ps h jR hlen T4;refine rQ hE (by rw[YU];exact zg _ _ _ _) (fun _ _ h=>by omega) hf hb h (aci tx Z1 hlen jR T4) fun e f' m' μ' φ' tmps w' hk iN=>?_;have fin:Z0 E f' m'=some r→∃v,(results E.fn tmps).run E.P w'=.ok v w'∧∃(y:Value)(ph:aA)(es:List PV),Ending.returned v=.returned y∧jS w.heap.size w w'∧r=.rs (aQ E.P el) es∧(∀g,ph.g=some g→w.heap.size≤g)∧aH E.P (lO (cr μ w w') ph.g) (fun _=>ph) w' 0 (aQ E.P el) el es∧ag E.P μ (fun _=>ph) (.os 0) y:=fun hk=>by
   unfold Z0 at hk;rw[ht]at hk;simp only[hu]at hk;obtain⟨vs,ys,h1,h2,h3,h4,h5,h6⟩:=vn iN _ hk;refine⟨_,vo h3,?_⟩;split at h1
   ·rename_i id;split at h1
    ·rename_i sz et es hm;split at h1
     ·rename_i hs;obtain⟨rfl,rfl⟩:=hs;simp only[cN]at h1;have hx:∃y,ys=[y]:=by
       match ys,h4,h2 with
       |[y],_,_=>simp
       |[],h4,h2=>grind
       |_::_::_,h4,h2=>simp_all
      obtain⟨y,rfl⟩:=hx;have hA:=iN.dw id _ hm;refine⟨y,φ' id,es,by simp,iN.below,h1.symm,fun g hg=>(iN.own id _ g hm (.inl hg)).1,?_,?_⟩
      ·refine aH.move (μ:=μ') hA rfl fun b o wK=>?_;unfold lO;rw[By fun e=>by have:=(iN.own id _ b hm (.inl e)).2 rfl;simp_all];unfold cr;split
       ·rename_i bT;exact iN.base b o wK bT
       ·exact iN.ro b o wK
      ·have:=h5 0 _ y rfl rfl;cases this with
       |qY h=>exact .qY h
       |os h=>exact .os (id:=0) (φ:=fun _=>φ' id) h
     ·cases h1
    ·cases h1
   ·rename_i id len;split at h1
    ·rename_i sz et es hm;split at h1
     ·rename_i hs;obtain⟨rfl,rfl⟩:=hs;simp only[cN]at h1;have hx:∃y,ys=[y]:=by
       match ys,h4,h2 with
       |[y],_,_=>simp
       |[],h4,h2=>grind
       |_::_::_,h4,h2=>simp_all
      obtain⟨y,rfl⟩:=hx;obtain⟨ph,p1,p2,p3⟩:=W5 (iN.dw id _ hm) (h5 0 _ y rfl rfl);refine⟨y,ph,es.take len,by simp,iN.below,h1.symm,fun g hg=>(iN.own id _ g hm (.inl (by rw[←p1];omega))).1,?_,(p3 _:)⟩;refine aH.move (μ:=μ') (φ:=fun _=>ph) (i:=0) p2 rfl fun b o wK=>?_;unfold lO;rw[By fun e=>by have:=(iN.own id _ b hm (.inl (by rw[←p1];omega))).2 rfl;simp_all];unfold cr;split
      ·rename_i bT;exact iN.base b o wK bT
      ·exact iN.ro b o wK
     ·cases h1
    ·cases h1
   ·cases h1
  grind
 ·cases h
end
end Go.Ab
