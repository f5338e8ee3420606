import Derived.Test.YtmbihgjlollbeaaGreatAbP8
set_option linter.unusedVariables false
set_option linter.unusedSimpArgs false
namespace Go.Ab
open Go.RowKit (Below)
section
variable {E:Env} {w0:bx}
def Ek(tmps:Array Value):ResultVar→Sem Value
 |.tmp t=>pure (tmps.getD t undef)
 |.cell a t=>do loadVar t (←asAddr (tmps.getD a undef))
theorem wO{R:Type}{f:Fr}{m:Mem}{μ:Ro}{φ:Nat→aA}{a:Act}{w:World}(hR:Rel E.P E.aG E.fn.ntmps w0 μ φ f m a w):∀(rs:List ResultVar){k:List V→Option R}{r:R},Az E f m rs k=some r→∃(vs:List V)(xs:List Value),k vs=some r∧vs.length=rs.length∧(rs.mapM (Ek a.tmps)).run E.P w=.ok xs w∧xs.length=rs.length∧(∀(i:Nat)v x,vs[i]?=some v→xs[i]?=some x→af E.P μ φ v x)∧∀id,b8 id vs=true→(m id).isSome=true
 |[],k,r,h=>⟨[],[],h,rfl,by simp,rfl,by simp,fun id hid=>by cases hid⟩
 |.tmp t::rs,k,r,h=>by
  simp only[Az]at h;obtain⟨vs,xs,h1,h2,h3,h4,h5,h6⟩:=wO hR rs h;refine⟨bC E f (.tmp t)::vs,a.tmps.getD t undef::xs,h1,by simp[h2],?_,by simp[h4],fun i v x hv hx=>?_,fun id hid=>?_⟩
  ·rw[alF];simp only[Ek,Sem.run_bind,Sem.run_pure,Result.andThen_ok,h3]
  ·cases i with
   |zero=>simp only[ajK,cN]at hv hx;subst hv;subst hx;exact(an hR (.tmp t)).1
   |succ i=>exact h5 i v x (by simpa using hv) (by simpa using hx)
  ·simp only[b8,ajt]at hid;rcases hid with hid|hid
   ·exact(an hR (.tmp t)).2 id hid
   ·exact h6 id hid
 |.cell b t::rs,k,r,h=>by
  simp only[Az]at h;obtain⟨v,ft,_,h,_,hl⟩:=Km h;obtain⟨vs,xs,h1,h2,h3,h4,h5,h6⟩:=wO hR rs h;obtain⟨y,y1,y2,y3⟩:=hl E.aG w0 μ φ w _ hR.toav (an hR (.tmp b)).1;have hld:(do loadVar t (←asAddr (a.tmps.getD b undef)):Sem Value).run E.P w=.ok y w:=by
   have y1:(Instr.loadAt t (a.tmps.getD b undef)).run E.P w=.ok y w:=y1;generalize a.tmps.getD b undef=z at y1;unfold Instr.loadAt at y1;cases z<;>simp only[Instr.sureAddr]at y1<;>try (simp[stuck,Sem.run_bind]at y1;done)
   rename_i o;cases o with
   |none=>simp[stuck,Sem.run_bind]at y1
   |some ad=>exact y1
  refine⟨v::vs,y::xs,h1,by simp[h2],?_,by simp[h4],fun i v' x hv hx=>?_,fun id hid=>?_⟩
  ·rw[alF];have agX:(Ek a.tmps (.cell b t)).run E.P w=.ok y w:=hld;simp only[Sem.run_bind,Sem.run_pure,Result.andThen_ok,agX,h3]
  ·cases i with
   |zero=>simp at hv hx;subst hv;subst hx;exact y2
   |succ i=>exact h5 i v' x (by simpa using hv) (by simpa using hx)
  ·simp only[b8,ajt]at hid;rcases hid with hid|hid
   ·exact y3 id hid
   ·exact h6 id hid
variable{w:World}
theorem wP{a:Act}{xs:List Value}(h3:(E.fn.results.toList.mapM (Ek a.tmps)).run E.P w=.ok xs w):(results E.fn a.tmps).run E.P w=.ok (if h:xs.toArray.size=1 then xs.toArray[0]else .tuple xs.toArray) w:=by show(do let vs←E.fn.results.mapM (Ek a.tmps);pure (if h:vs.size=1 then vs[0]else .tuple vs):Sem Value).run E.P w=_;simp_all[Array.mapM_eq_mapM_toList]
variable{φ:Nat→aA}
theorem Yx{f:Fr}{m:Mem}{μ:Ro}{a:Act}(hR:Rel E.P E.aG E.fn.ntmps w0 μ φ f m a w){p:PV}(h:TJ E E.fn.results.toList f m=some p):∃y,(results E.fn a.tmps).run E.P w=.ok y w∧ai E.P (ck w0.mu w0.w w) p y:=by
 unfold TJ at h;obtain⟨vs,xs,h1,h2,h3,h4,h5,h6⟩:=wO hR _ h;have hν:∀b o,μ b=some o→ck w0.mu w0.w w b=some o:=fun b o hb=>by
  unfold ck;split
  ·rename_i bT;exact hR.base b o hb bT
  ·exact hR.ro b o hb
 have B2:∀id b g,m id=some b→b.owns (φ id) g→ck w0.mu w0.w w g=w.heap[g]?:=fun id b g hb hg=>by have:=(hR.own id b g hb hg).1;simp_all[ck,No]
 have uk:=wP h3;refine⟨_,uk,?_⟩;split at h1
 ·rename_i v;have hx:∃x,xs=[x]:=by
   match xs,h4,h2 with
   |[x],_,_=>simp
   |[],h4,h2=>grind
   |_::_::_,h4,h2=>simp_all
  obtain⟨x,rfl⟩:=hx;simp only[ake,ajj,ajs,aj0,dite_true];exact uo hR.toav hν B2 _ h1 (h5 0 v x rfl rfl)
 ·rename_i cJ;obtain⟨ps,pM,h1⟩:=cT.1 h1;simp only[cN]at h1;subst h1;obtain⟨p1,p2⟩:=gP pM;have oD:¬xs.toArray.size=1:=fun h=>by
   have:vs.length=1:=by simp at h;omega
   match vs,this with
   |[v],_=>exact cJ v rfl
  rw[dif_neg oD];refine .aP (by simp;omega) fun i q x hq hx=>?_;obtain⟨v,hv,hf⟩:=p2 i q hq;exact uo hR.toav hν B2 _ hf (h5 i v x hv (by simpa using hx))
variable{R:Type}
theorem Hb{t:TypeId}{p:PV}{k:PV→Option R}{r:R}(h:Iz E t p k=some r):∃q,k q=some r∧∀(P:Program)(μ:Ro)x,ai P μ p x→ai P μ q x:=by
 have ld:iu E t p k=some r→∃q,k q=some r∧∀(P:Program)(μ:Ro)x,ai P μ p x→ai P μ q x:=fun h=>by grind [lV]
 grind [Iz]
theorem zF{R:Type}:∀{ts:List TypeId}{ps:List PV}{k:List PV→Option R}{r:R},qG E ts ps k=some r→∃qs,k qs=some r∧qs.length=ps.length∧∀(P:Program)(μ:Ro)(i:Nat)p q x,ps[i]?=some p→qs[i]?=some q→ai P μ p x→ai P μ q x
 |[],ps,k,r,h=>⟨ps,by simpa[qG]using h,rfl,fun P μ i p q x hp hq hx=>by simp_all⟩
 |t::ts,[],k,r,h=>⟨[],by simpa[qG]using h,rfl,by simp⟩
 |t::ts,p::ps,k,r,h=>by
  simp only[qG]at h;obtain⟨q,h1,h2⟩:=Hb h;obtain⟨qs,h3,h4,h5⟩:=zF h1;refine⟨q::qs,h3,by simp[h4],fun P μ i p' q' x hp hq hx=>?_⟩;cases i with
  |zero=>simp at hp hq;subst hp;subst hq;exact h2 P μ x hx
  |succ i=>exact h5 P μ i p' q' x (by simpa using hp) (by simpa using hq) hx
theorem TL{t:TypeId}{p:PV}{k:PV→Option R}{r:R}(h:TK E t p k=some r):∃q,k q=some r∧∀(P:Program)(μ:Ro)x,ai P μ p x→ai P μ q x:=by
 have agg:((asAgg (aO E.P t) p).bind fun _=>match Ec E.P 8 t with|some ts=>qG E ts (aC (aO E.P t) p) fun cs=>k (.agg cs)|none=>none)=some r→∃q,k q=some r∧∀(P:Program)(μ:Ro)x,ai P μ p x→ai P μ q x:=fun h=>by
  obtain⟨_,ha,h⟩:=cT.1 h;split at h
  ·rename_i ts _;obtain⟨qs,h1,h2,h3⟩:=zF h;refine⟨.agg qs,h1,fun P μ x hx=>?_⟩;have hp:∃cs,p=.agg cs∧cs.length=aO E.P t:=by cases p<;>simp[asAgg]at ha;exact⟨_,rfl,ha⟩
   obtain⟨cs,rfl,ha⟩:=hp;rw[aW]at h2;cases hx with
   | @agg _ xs a1 a2 a3=>
    refine .agg (by omega) (fun i q y hq hy=>?_) a3;have bT:i<cs.length:=by grind
    have he:(aC (aO E.P t) (.agg cs))[i]?=some cs[i]:=by
     have hl:i<(aC (aO E.P t) (.agg cs)).length:=by rw[aW];omega
     have h5:=cO hl;obtain⟨_,h6⟩:=oW h5;simp_all[cell,PV.cells,List.getD]
    grind
  ·cases h
 unfold TK at h;split at h
 ·exact agg h
 ·exact agg h
 ·rename_i e _;unfold DM at h;split at h
  ·grind
  ·rename_i cs;split at h
   ·rename_i hn;split at h
    ·rename_i ts _;obtain⟨qs,h1,h2,h3⟩:=zF h;rw[aW]at h2;refine⟨.rp qs,h1,fun P μ x hx=>?_⟩;cases hx with
     | @rp _ b o X a1 a2 a3=>
      have hc:∀i,i<qs.length→cs[i]?=some (cell (.agg cs) i):=fun i hi=>by grind [List.getElem?_eq_getElem,cell,PV.cells,List.getD]
      refine .rp X (fun i q hq=>a1 i _ (hc i (By.1 hq).1)) (fun i q hq=>?_) (fun i hi=>a3 i (by omega));grind [aC,aO,aW,List.getElem?_eq_getElem,oW]
    ·cases h
   ·cases h
  ·cases h
 ·exact Hb h
theorem B3{R:Type}:∀{ts:List TypeId}{ps:List PV}{k:List PV→Option R}{r:R},zD E ts ps k=some r→∃qs,k qs=some r∧qs.length=ps.length∧∀(P:Program)(μ:Ro)(i:Nat)p q x,ps[i]?=some p→qs[i]?=some q→ai P μ p x→ai P μ q x
 |[],ps,k,r,h=>⟨ps,by simpa[zD]using h,rfl,fun P μ i p q x hp hq hx=>by simp_all⟩
 |t::ts,[],k,r,h=>⟨[],by simpa[zD]using h,rfl,by simp⟩
 |t::ts,p::ps,k,r,h=>by
  simp only[zD]at h;obtain⟨q,h1,h2⟩:=TL h;obtain⟨qs,h3,h4,h5⟩:=B3 h1;refine⟨q::qs,h3,by simp[h4],fun P μ i p' q' x hp hq hx=>?_⟩;cases i with
  |zero=>simp at hp hq;subst hp;subst hq;exact h2 P μ x hx
  |succ i=>exact h5 P μ i p' q' x (by simpa using hp) (by simpa using hq) hx
theorem adD{μ:Ro}{xs:Array Value}{ps:List PV}(vT:∀b o,μ b=some o→w.heap[b]?=some o)(Yy:∀g cs,E.aG g=some cs→y9 E.P μ g cs)(hlen:ps.length=xs.size)(lC:∀(i:Nat)p x,ps[i]?=some p→xs[i]?=some x→ai E.P μ p x)(TM:ps.length≤E.fn.ntmps):Rel E.P E.aG E.fn.ntmps {w:=w,mu:=μ,sv:=fun _=>undef} μ (fun _=>default) (Ej (ps.map .pv)) (fun _=>none) {tmps:=xs++Array.replicate (E.fn.ntmps-xs.size) undef,defers:=[]} w:=by
 have vZ:∀t,af E.P μ (fun _=>default) (Ej (ps.map .pv) t) (bO E.fn.ntmps {w:=w,mu:=μ,sv:=fun _=>undef} {tmps:=xs++Array.replicate (E.fn.ntmps-xs.size) undef,defers:=[]} t):=fun t=>by
  simp only[Ej];by_cases ht:t<ps.length
  ·have h1:(ps.map V.pv).getD t .top=.pv ps[t]:=by simp[List.getD,ht]
   have hxt:t<xs.size:=by omega
   have h2:(xs++Array.replicate (E.fn.ntmps-xs.size) undef).getD t undef=xs[t]:=by rw[ajp,akp hxt,IT hxt];rfl
   rw[h1,rn (by omega),h2];exact .pv (lC t _ _ (cO ht) (IT hxt))
  ·have h1:(ps.map V.pv).getD t .top=.top:=by simp[List.getD,ht]
   rw[h1];exact .top
 have CN:∀t id,(Ej (ps.map .pv) t).has id=true→((fun _=>none:Mem) id).isSome=true:=fun t id hid=>by
  simp only[Ej]at hid;by_cases ht:t<ps.length
  ·simp_all
  simp_all
 exact{below:=lD.refl _ _,ro:=vT,aG:=Yy,dx:=(fun id b h=>by cases h),own:=(fun id b g h=>by cases h),inj:=(fun _ _ _ _ _ h=>by simp),apart:=(fun _ _ h=>by cases h),fO:=(fun _ _ _ h=>by cases h),base:=fun _ _ h _=>h,dA:=(fun _ _ h=>by cases h),CO:=(fun _ _ h=>by cases h),size:=by simp;omega,defers:=.nil _ _ _,mR:=(fun _ _ h=>by omega),fr:=vZ,live:=CN}
variable{g:FuncId}
theorem Q8(hE:ke E)(hyl:E.yl=BS)(hf:E.P.funcs[g]?=some E.fn)(hn:(E.fn.name== "runtime.NumGoroutine")=false){c:Code}(hb:E.fn.body=some c):vc E.P E.aG g (ee E):=by
 refine⟨⟨E.fn,c,hf,hb,hn⟩,fun ps r h w μ xs vT Yy hlen lC=>?_⟩;unfold ee at h;rw[hb]at h;simp only at h;split at h
 ·rename_i TM;obtain⟨qs,h,hql,hqr⟩:=B3 h;have lC:∀(i:Nat)p x,qs[i]?=some p→xs[i]?=some x→ai E.P μ p x:=fun i q x hq hx=>by grind
  have hlen:qs.length=xs.size:=by omega
  have TM:qs.length≤E.fn.ntmps:=by omega
  clear hql hqr;revert qs;intro ps h lC hlen TM;have hR:=adD (E:=E) vT Yy hlen lC TM;refine tn hE (by rw[hyl];exact AA _ _ _ _) (fun _ _ h=>by omega) hf hb h hR fun e f' m' μ' φ' tmps w' hk j6=>?_;have fin:TJ E E.fn.results.toList f' m'=some r→∃v,(results E.fn tmps).run E.P w'=.ok v w'∧∃y,Ending.returned v=.returned y∧lD w.heap.size w w'∧ai E.P (ck μ w w') r y:=fun hk=>by obtain⟨y,y1,y2⟩:=Yx j6 hk;exact⟨y,y1,y,rfl,j6.below,y2⟩
  grind
 ·cases h
theorem uq.adE{P:Program}{G:Nat→Option (List PV)}{nt:Nat}{yl:YL}{w0:bx}{o:Ro}(h:uq P G nt yl w0):uq P G nt yl {w0 with mR:=o}:=fun R site id args f m k r hy μ φ ρ w xs hM hF hρ hl hr IB g hg=>
  let⟨fn,tmps,assign,body,y1,y2⟩:=h R site id args f m k r hy μ φ ρ w xs (hM.wQ rfl rfl hM.dA fun _ _ _=>rfl) hF hρ hl hr IB g hg
  ⟨fn,tmps,assign,body,y1,y2.mono fun e w'⟨v,f',m',y,μ',φ',a1,a2,a3,a4,a5⟩=>⟨v,f',m',y,μ',φ',a1,a2,a3,a4.wQ rfl rfl a4.dA fun _ _ _=>rfl,a5⟩⟩
theorem abo(hE:ke E)(hf:E.P.funcs[g]?=some E.fn)(hn:(E.fn.name== "runtime.NumGoroutine")=false){args:List V}{f:Fr}{m:Mem}{k:V→Fr→Mem→Option R}{r:R}(h:DN E args f m k=some r):MN E.P E.aG g E.yl args f m k r:=by
 unfold DN at h;split at h
 ·rename_i c hb;split at h
  ·rename_i TM;refine⟨E.fn,c,hf,hb,hn,fun w0 μ φ ρ w xs hM hF hlen lC CN hY=>?_⟩;have eX:∀t,t<args.length→∃v,args[t]?=some v∧args.getD t .top=v:=fun t ht=>⟨args[t],cO ht,by simp[List.getD,ht]⟩;have hR:Rel E.P E.aG E.fn.ntmps {w0 with sv:=fun t=>ρ (t-E.fn.ntmps),mR:=w0.dA} μ φ (vR E.fn.ntmps args f) m {tmps:=xs++Array.replicate (E.fn.ntmps-xs.size) undef,defers:=[]} w:=
    {toav:=hM.wQ rfl rfl hM.dA fun _ _ _=>rfl,size:=by simp;omega,defers:=.nil _ _ _,mR:=fun _ _ h=>h,fr:=fun t=>by
      unfold vR bO;by_cases ht:t<E.fn.ntmps
      ·rw[show Nat.blt t E.fn.ntmps=true by simp_all,GW ht];show af E.P μ φ (args.getD t .top) _;by_cases ha:t<args.length
       ·obtain⟨v,h1,h2⟩:=eX t ha;have hxt:t<xs.size:=by omega
        rw[h2];have h3:(xs++Array.replicate (E.fn.ntmps-xs.size) undef).getD t undef=xs[t]:=by simp_all
        rw[h3];exact lC t v _ h1 (IT hxt)
       ·have h1:args.getD t .top=.top:=by simp[List.getD,ha]
        rw[h1];exact .top
      ·rw[show Nat.blt t E.fn.ntmps=false by rw[←aj9,akb];omega,No ht];exact hF.fr _,
     live:=fun t id hid=>by
      unfold vR at hid;cases e:Nat.blt t E.fn.ntmps with
      |true=>
       rw[e]at hid;have hid:(args.getD t .top).has id=true:=hid;by_cases ha:t<args.length
       ·obtain⟨v,h1,h2⟩:=eX t ha;rw[h2]at hid;exact CN id (cy.2 ⟨v,agx h1,hid⟩)
       simp_all
      |false=>rw[e]at hid;exact hF.live _ id hid}
   refine tn hE hY.adE (fun _ _ h=>h) hf hb h hR fun e f' m' μ' φ' tmps w' hk j6=>?_;have hF':bS E.P μ' φ' m' (wL E.fn.ntmps f') ρ:=by refine⟨fun t=>?_,fun t id hid=>j6.live _ id hid⟩;have:=j6.fr (t+E.fn.ntmps);unfold bO at this;rw[No (by omega)]at this;simp only[akT]at this;exact this
   have fin:(Az E f' m' E.fn.results.toList fun vs=>match vs with
    |[v]=>k v (wL E.fn.ntmps f') m'
    |vs=>k (.aP vs) (wL E.fn.ntmps f') m')=some r→∃v,(results E.fn tmps).run E.P w'=.ok v w'∧
    ∃v1 f1 m1 y μ1 φ1,k v1 f1 m1=some r∧Ending.returned v=.returned y∧av E.P E.aG w0 μ1 φ1 m1 w'∧bS E.P μ1 φ1 m1 f1 ρ∧af E.P μ1 φ1 v1 y∧∀id,v1.has id=true→(m1 id).isSome=true:=fun hk=>by
    obtain⟨vs,ys,h1,h2,h3,h4,h5,h6⟩:=wO j6 _ hk
    refine⟨_,wP h3,?_⟩
    have hM0:av E.P E.aG w0 μ' φ' m' w':=j6.toav.wQ rfl rfl j6.dA fun _ _ _=>rfl
    split at h1
    ·rename_i v;have hx:∃y,ys=[y]:=by
      match ys,h4,h2 with
      |[y],_,_=>simp
      |[],h4,h2=>grind
      |_::_::_,h4,h2=>simp_all
     obtain⟨y,rfl⟩:=hx;refine⟨v,_,_,y,μ',φ',h1,by simp,hM0,hF',h5 0 v y rfl rfl,fun id hid=>h6 id (by simp[b8,hid])⟩
    ·rename_i cJ;have oD:¬ys.toArray.size=1:=fun h=>by
      have:vs.length=1:=by simp at h;omega
      match vs,this with
      |[v],_=>exact cJ v rfl
     rw[dif_neg oD];exact⟨.aP vs,_,_,_,μ',φ',h1,rfl,hM0,hF',.aP (by simp;omega) (fun i q x hq hx=>h5 i q x hq (by simpa using hx)),fun id hid=>h6 id (by simpa only[V.has]using hid)⟩
   grind
  ·cases h
 ·cases h
theorem Yz{μ:Ro}{d len s:Nat}{et:TypeId}{es:List PV}{x:Value}(hA:aH E.P μ φ w d s et es)(hx:af E.P μ φ (.fL d 0 len) x):∃ph:aA,ph.g=(φ d).g∧aH E.P μ (fun _=>ph) w 0 s et (es.take len)∧∀μ',af E.P μ' (fun _=>ph) (.os 0) x:=by
 obtain⟨h1,h2,h3,h4,h5,h6,h7⟩:=hA;cases hx with
 |rq hg=>refine⟨φ d,rfl,?_,fun μ'=>.sK hg⟩;rw[hg]at h7;obtain⟨rfl,h7⟩:=h7;refine⟨h1,h2,h3,h4,by simp,h6,?_⟩;simp_all
 | @fL _ _ _ cap g ad hg hl ha hc hc'=>
  rw[hg]at h7;obtain⟨q,Tq,q1,q2,q3,q4,q5⟩:=h7;have hlen:(es.take len).length=len:=by simp_all
  have had:ad=⟨g,0,none⟩:=by simp_all
  subst had;refine⟨{φ d with cap:=cap,len:=len},rfl,⟨by simp[hlen],h2,h3,h4,fun i e he=>h5 i e (iX he).1,by simp;omega,?_⟩,fun μ'=>?_⟩
  ·simp only[hg];refine⟨q,Tq,q1,ajQ (agw _ (by omega)) q2,by omega,fun i e j p x he hp hx=>q4 i e j p x (iX he).1 hp hx,fun i x hi hx=>q5 i x (Nat.lt_of_lt_of_le hi (agw _ (by omega))) hx⟩
  ·exact af.os (P:=E.P) (μ:=μ') (φ:=fun _=>{φ d with cap:=cap,len:=len}) (id:=0) (g:=g) hg
theorem Q9(hE:ke E)(hyl:E.yl=BS)(hf:E.P.funcs[g]?=some E.fn)(hn:(E.fn.name== "runtime.NumGoroutine")=false){c:Code}(hb:E.fn.body=some c):B4 E.P E.aG g (IA E):=by
 refine⟨⟨E.fn,c,hf,hb,hn⟩,fun fn t el Tl ht hu ps r h w μ xs vT Yy hlen lC=>?_⟩;rw[hf]at Tl;cases Tl;unfold IA at h;rw[hb]at h;simp only at h;split at h
 ·rename_i TM;obtain⟨qs,h,hql,hqr⟩:=B3 h;have lC:∀(i:Nat)p x,qs[i]?=some p→xs[i]?=some x→ai E.P μ p x:=fun i q x hq hx=>by grind
  have hlen:qs.length=xs.size:=by omega
  have TM:qs.length≤E.fn.ntmps:=by omega
  clear hql hqr;revert qs;intro ps h lC hlen TM;refine tn hE (by rw[hyl];exact AA _ _ _ _) (fun _ _ h=>by omega) hf hb h (adD vT Yy hlen lC TM) fun e f' m' μ' φ' tmps w' hk j6=>?_;have fin:abn E f' m'=some r→∃v,(results E.fn tmps).run E.P w'=.ok v w'∧∃(y:Value)(ph:aA)(es:List PV),Ending.returned v=.returned y∧lD w.heap.size w w'∧r=.rs (aO E.P el) es∧(∀g,ph.g=some g→w.heap.size≤g)∧aH E.P (nc (ck μ w w') ph.g) (fun _=>ph) w' 0 (aO E.P el) el es∧af E.P μ (fun _=>ph) (.os 0) y:=fun hk=>by
   unfold abn at hk;rw[ht]at hk;simp only[hu]at hk;obtain⟨vs,ys,h1,h2,h3,h4,h5,h6⟩:=wO j6 _ hk;refine⟨_,wP h3,?_⟩;split at h1
   ·rename_i id;split at h1
    ·rename_i sz et es hm;split at h1
     ·rename_i hs;obtain⟨rfl,rfl⟩:=hs;simp only[cN]at h1;have hx:∃y,ys=[y]:=by
       match ys,h4,h2 with
       |[y],_,_=>simp
       |[],h4,h2=>grind
       |_::_::_,h4,h2=>simp_all
      obtain⟨y,rfl⟩:=hx;have hA:=j6.dx id _ hm;refine⟨y,φ' id,es,by simp,j6.below,h1.symm,fun g hg=>(j6.own id _ g hm (.inl hg)).1,?_,?_⟩
      ·refine aH.move (μ:=μ') hA rfl fun b o yq=>?_;unfold nc;rw[No fun e=>by have:=(j6.own id _ b hm (.inl e)).2 rfl;simp_all];unfold ck;split
       ·rename_i bT;exact j6.base b o yq bT
       ·exact j6.ro b o yq
      ·have:=h5 0 _ y rfl rfl;cases this with
       |sK h=>exact .sK h
       |os h=>exact .os (id:=0) (φ:=fun _=>φ' id) h
     ·cases h1
    ·cases h1
   ·rename_i id len;split at h1
    ·rename_i sz et es hm;split at h1
     ·rename_i hs;obtain⟨rfl,rfl⟩:=hs;simp only[cN]at h1;have hx:∃y,ys=[y]:=by
       match ys,h4,h2 with
       |[y],_,_=>simp
       |[],h4,h2=>grind
       |_::_::_,h4,h2=>simp_all
      obtain⟨y,rfl⟩:=hx;obtain⟨ph,p1,p2,p3⟩:=Yz (j6.dx id _ hm) (h5 0 _ y rfl rfl);refine⟨y,ph,es.take len,by simp,j6.below,h1.symm,fun g hg=>(j6.own id _ g hm (.inl (by rw[←p1];omega))).1,?_,(p3 _:)⟩;refine aH.move (μ:=μ') (φ:=fun _=>ph) (i:=0) p2 rfl fun b o yq=>?_;unfold nc;rw[No fun e=>by have:=(j6.own id _ b hm (.inl (by rw[←p1];omega))).2 rfl;simp_all];unfold ck;split
      ·rename_i bT;exact j6.base b o yq bT
      ·exact j6.ro b o yq
     ·cases h1
    ·cases h1
   ·cases h1
  grind
 ·cases h
end
end Go.Ab
