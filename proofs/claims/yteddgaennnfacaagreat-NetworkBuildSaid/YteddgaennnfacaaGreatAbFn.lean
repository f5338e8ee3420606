import Derived.Test.YteddgaennnfacaaGreatAbP8
set_option linter.all false
namespace Go.Ab
open Go.RowKit (Below)
section
variable {E:Env} {w0:bE}
def HG(tmps:Array Value):ResultVar→Sem Value
 |.tmp t=>pure (tmps.getD t undef)
 |.cell a t=>do loadVar t (←asAddr (tmps.getD a undef))
theorem Aa{R:Type}{f:Fr}{m:Mem}{μ:Ro}{φ:Nat→aI}{a:Act}{w:World}(hR:Rel E.P E.aM E.fn.ntmps w0 μ φ f m a w):∀(rs:List ResultVar){k:List V→Option R}{r:R},DS E f m rs k=some r→∃(vs:List V)(xs:List Value),k vs=some r∧vs.length=rs.length∧(rs.mapM (HG a.tmps)).run E.P w=.ok xs w∧xs.length=rs.length∧(∀(i:Nat)v x,vs[i]?=some v→xs[i]?=some x→an E.P μ φ v x)∧∀id,cu id vs=true→(m id).isSome=true
 |[],k,r,h=>⟨[],[],h,rfl,by simp,rfl,by simp,fun id hid=>by cases hid⟩
 |.tmp t::rs,k,r,h=>by
  simp only[DS]at h;obtain⟨vs,xs,h1,h2,h3,h4,h5,h6⟩:=Aa hR rs h;refine⟨bG E f (.tmp t)::vs,a.tmps.getD t undef::xs,h1,by simp[h2],?_,by simp[h4],fun i v x hv hx=>?_,fun id hid=>?_⟩
  ·rw[anU];simp only[HG,Sem.run_bind,Sem.run_pure,Result.andThen_ok,h3]
  ·cases i with
   |zero=>simp only[al4,By]at hv hx;subst hv;subst hx;exact(av hR (.tmp t)).1
   |succ i=>exact h5 i v x (by simpa using hv) (by simpa using hx)
  ·simp only[cu,aly]at hid;rcases hid with hid|hid
   ·exact(av hR (.tmp t)).2 id hid
   ·exact h6 id hid
 |.cell b t::rs,k,r,h=>by
  simp only[DS]at h;obtain⟨v,ft,_,h,_,hl⟩:=Ny h;obtain⟨vs,xs,h1,h2,h3,h4,h5,h6⟩:=Aa hR rs h;obtain⟨y,y1,y2,y3⟩:=hl E.aM w0 μ φ w _ hR.toaA (av hR (.tmp b)).1;have hld:(do loadVar t (←asAddr (a.tmps.getD b undef)):Sem Value).run E.P w=.ok y w:=by
   have y1:(Instr.loadAt t (a.tmps.getD b undef)).run E.P w=.ok y w:=y1;generalize a.tmps.getD b undef=z at y1;unfold Instr.loadAt at y1;cases z<;>simp only[Instr.sureAddr]at y1<;>try (simp[stuck,Sem.run_bind]at y1;done)
   rename_i o;cases o with
   |none=>simp[stuck,Sem.run_bind]at y1
   |some ad=>exact y1
  refine⟨v::vs,y::xs,h1,by simp[h2],?_,by simp[h4],fun i v' x hv hx=>?_,fun id hid=>?_⟩
  ·rw[anU];have aji:(HG a.tmps (.cell b t)).run E.P w=.ok y w:=hld;simp only[Sem.run_bind,Sem.run_pure,Result.andThen_ok,aji,h3]
  ·cases i with
   |zero=>simp at hv hx;subst hv;subst hx;exact y2
   |succ i=>exact h5 i v' x (by simpa using hv) (by simpa using hx)
  ·simp only[cu,aly]at hid;rcases hid with hid|hid
   ·exact y3 id hid
   ·exact h6 id hid
variable{w:World}
theorem Ac{a:Act}{xs:List Value}(h3:(E.fn.results.toList.mapM (HG a.tmps)).run E.P w=.ok xs w):(results E.fn a.tmps).run E.P w=.ok (if h:xs.toArray.size=1 then xs.toArray[0]else .tuple xs.toArray) w:=by show(do let vs←E.fn.results.mapM (HG a.tmps);pure (if h:vs.size=1 then vs[0]else .tuple vs):Sem Value).run E.P w=_;simp_all[Array.mapM_eq_mapM_toList]
variable{φ:Nat→aI}
theorem abi{f:Fr}{m:Mem}{μ:Ro}{a:Act}(hR:Rel E.P E.aM E.fn.ntmps w0 μ φ f m a w){p:PV}(h:W5 E E.fn.results.toList f m=some p):∃y,(results E.fn a.tmps).run E.P w=.ok y w∧ao E.P (cB w0.mu w0.w w) p y:=by
 unfold W5 at h;obtain⟨vs,xs,h1,h2,h3,h4,h5,h6⟩:=Aa hR _ h;have hν:∀b o,μ b=some o→cB w0.mu w0.w w b=some o:=fun b o hb=>by
  unfold cB;split
  ·rename_i bQ;exact hR.base b o hb bQ
  ·exact hR.ro b o hb
 have E5:∀id b g,m id=some b→b.owns (φ id) g→cB w0.mu w0.w w g=w.heap[g]?:=fun id b g hb hg=>by have:=(hR.own id b g hb hg).1;simp_all[cB,acB]
 have wu:=Ac h3;refine⟨_,wu,?_⟩;split at h1
 ·rename_i v;have hx:∃x,xs=[x]:=by
   match xs,h4,h2 with
   |[x],_,_=>simp
   |[],h4,h2=>grind
   |_::_::_,h4,h2=>simp_all
  obtain⟨x,rfl⟩:=hx;simp only[amr,aiK,alh,amq,dite_true];exact xB hR.toaA hν E5 _ h1 (h5 0 v x rfl rfl)
 ·rename_i cC;obtain⟨ps,rT,h1⟩:=M1.1 h1;simp only[By]at h1;subst h1;obtain⟨p1,p2⟩:=gX rT;have pT:¬xs.toArray.size=1:=fun h=>by
   have:vs.length=1:=by simp at h;omega
   match vs,this with
   |[v],_=>exact cC v rfl
  rw[dif_neg pT];refine .aG (by simp;omega) fun i q x hq hx=>?_;obtain⟨v,hv,hf⟩:=p2 i q hq;exact xB hR.toaA hν E5 _ hf (h5 i v x hv (by simpa using hx))
variable{R:Type}
theorem Kq{t:TypeId}{p:PV}{k:PV→Option R}{r:R}(h:LP E t p k=some r):∃q,k q=some r∧∀(P:Program)(μ:Ro)x,ao P μ p x→ao P μ q x:=by
 have ld:iD E t p k=some r→∃q,k q=some r∧∀(P:Program)(μ:Ro)x,ao P μ p x→ao P μ q x:=fun h=>by grind [ma]
 grind [LP]
theorem CI{R:Type}:∀{ts:List TypeId}{ps:List PV}{k:List PV→Option R}{r:R},sT E ts ps k=some r→∃qs,k qs=some r∧qs.length=ps.length∧∀(P:Program)(μ:Ro)(i:Nat)p q x,ps[i]?=some p→qs[i]?=some q→ao P μ p x→ao P μ q x
 |[],ps,k,r,h=>⟨ps,by simpa[sT]using h,rfl,fun P μ i p q x hp hq hx=>by simp_all⟩
 |t::ts,[],k,r,h=>⟨[],by simpa[sT]using h,rfl,by simp⟩
 |t::ts,p::ps,k,r,h=>by
  simp only[sT]at h;obtain⟨q,h1,h2⟩:=Kq h;obtain⟨qs,h3,h4,h5⟩:=CI h1;refine⟨q::qs,h3,by simp[h4],fun P μ i p' q' x hp hq hx=>?_⟩;cases i with
  |zero=>simp at hp hq;subst hp;subst hq;exact h2 P μ x hx
  |succ i=>exact h5 P μ i p' q' x (by simpa using hp) (by simpa using hq) hx
theorem W7{t:TypeId}{p:PV}{k:PV→Option R}{r:R}(h:W6 E t p k=some r):∃q,k q=some r∧∀(P:Program)(μ:Ro)x,ao P μ p x→ao P μ q x:=by
 have agg:((asAgg (aV E.P t) p).bind fun _=>match Hz E.P 8 t with|some ts=>sT E ts (aQ (aV E.P t) p) fun cs=>k (.agg cs)|none=>none)=some r→∃q,k q=some r∧∀(P:Program)(μ:Ro)x,ao P μ p x→ao P μ q x:=fun h=>by
  obtain⟨_,ha,h⟩:=M1.1 h;split at h
  ·rename_i ts _;obtain⟨qs,h1,h2,h3⟩:=CI h;refine⟨.agg qs,h1,fun P μ x hx=>?_⟩;have hp:∃cs,p=.agg cs∧cs.length=aV E.P t:=by cases p<;>simp[asAgg]at ha;exact⟨_,rfl,ha⟩
   obtain⟨cs,rfl,ha⟩:=hp;rw[bw]at h2;cases hx with
   | @agg _ xs a1 a2 a3=>
    refine .agg (by omega) (fun i q y hq hy=>?_) a3;have bQ:i<cs.length:=by grind
    have he:(aQ (aV E.P t) (.agg cs))[i]?=some cs[i]:=by
     have hl:i<(aQ (aV E.P t) (.agg cs)).length:=by rw[bw];omega
     have h5:=AI hl;obtain⟨_,h6⟩:=qu h5;simp_all[cell,PV.cells,List.getD]
    grind
  ·cases h
 unfold W6 at h;split at h
 ·exact agg h
 ·exact agg h
 ·rename_i e _;unfold Sc at h;split at h
  ·grind
  ·rename_i cs;split at h
   ·rename_i hn;split at h
    ·rename_i ts _;obtain⟨qs,h1,h2,h3⟩:=CI h;rw[bw]at h2;refine⟨.rp qs,h1,fun P μ x hx=>?_⟩;cases hx with
     | @rp _ b o X a1 a2 a3=>
      have hc:∀i,i<qs.length→cs[i]?=some (cell (.agg cs) i):=fun i hi=>by grind [List.getElem?_eq_getElem,cell,PV.cells,List.getD]
      refine .rp X (fun i q hq=>a1 i _ (hc i (OF.1 hq).1)) (fun i q hq=>?_) (fun i hi=>a3 i (by omega));grind [aQ,aV,bw,List.getElem?_eq_getElem,qu]
    ·cases h
   ·cases h
  ·cases h
 ·exact Kq h
theorem E6{R:Type}:∀{ts:List TypeId}{ps:List PV}{k:List PV→Option R}{r:R},CH E ts ps k=some r→∃qs,k qs=some r∧qs.length=ps.length∧∀(P:Program)(μ:Ro)(i:Nat)p q x,ps[i]?=some p→qs[i]?=some q→ao P μ p x→ao P μ q x
 |[],ps,k,r,h=>⟨ps,by simpa[CH]using h,rfl,fun P μ i p q x hp hq hx=>by simp_all⟩
 |t::ts,[],k,r,h=>⟨[],by simpa[CH]using h,rfl,by simp⟩
 |t::ts,p::ps,k,r,h=>by
  simp only[CH]at h;obtain⟨q,h1,h2⟩:=W7 h;obtain⟨qs,h3,h4,h5⟩:=E6 h1;refine⟨q::qs,h3,by simp[h4],fun P μ i p' q' x hp hq hx=>?_⟩;cases i with
  |zero=>simp at hp hq;subst hp;subst hq;exact h2 P μ x hx
  |succ i=>exact h5 P μ i p' q' x (by simpa using hp) (by simpa using hq) hx
theorem af1{μ:Ro}{xs:Array Value}{ps:List PV}(zw:∀b o,μ b=some o→w.heap[b]?=some o)(hgl:∀g cs,E.aM g=some cs→Cj E.P μ g cs)(hlen:ps.length=xs.size)(gL:∀(i:Nat)p x,ps[i]?=some p→xs[i]?=some x→ao E.P μ p x)(W8:ps.length≤E.fn.ntmps):Rel E.P E.aM E.fn.ntmps {w:=w,mu:=μ,sv:=fun _=>undef} μ (fun _=>default) (HF (ps.map .pv)) (fun _=>none) {tmps:=xs++Array.replicate (E.fn.ntmps-xs.size) undef,defers:=[]} w:=by
 have zG:∀t,an E.P μ (fun _=>default) (HF (ps.map .pv) t) (bY E.fn.ntmps {w:=w,mu:=μ,sv:=fun _=>undef} {tmps:=xs++Array.replicate (E.fn.ntmps-xs.size) undef,defers:=[]} t):=fun t=>by
  simp only[HF];by_cases ht:t<ps.length
  ·have h1:(ps.map V.pv).getD t .top=.pv ps[t]:=by simp[List.getD,ht]
   have hxt:t<xs.size:=by omega
   have h2:(xs++Array.replicate (E.fn.ntmps-xs.size) undef).getD t undef=xs[t]:=by rw[alD,amy hxt,ald hxt];rfl
   rw[h1,tP (by omega),h2];exact .pv (gL t _ _ (AI ht) (ald hxt))
  ·have h1:(ps.map V.pv).getD t .top=.top:=by simp[List.getD,ht]
   rw[h1];exact .top
 have Gc:∀t id,(HF (ps.map .pv) t).has id=true→((fun _=>none:Mem) id).isSome=true:=fun t id hid=>by
  simp only[HF]at hid;by_cases ht:t<ps.length
  ·simp_all
  simp_all
 exact{below:=lL.refl _ _,ro:=zw,aM:=hgl,dJ:=(fun id b h=>by cases h),own:=(fun id b g h=>by cases h),inj:=(fun _ _ _ _ _ h=>by simp),apart:=(fun _ _ h=>by cases h),fT:=(fun _ _ _ h=>by cases h),base:=fun _ _ h _=>h,dK:=(fun _ _ h=>by cases h),Gd:=(fun _ _ h=>by cases h),size:=by simp;omega,defers:=.nil _ _ _,nC:=(fun _ _ h=>by omega),fr:=zG,live:=Gc}
variable{g:FuncId}
theorem Uu(hE:ku E)(hyl:E.yl=EV)(hf:E.P.funcs[g]?=some E.fn)(hn:(E.fn.name== "runtime.NumGoroutine")=false){c:Code}(hb:E.fn.body=some c):Ad E.P E.aM g (fm E):=by
 refine⟨⟨E.fn,c,hf,hb,hn⟩,fun ps r h w μ xs zw hgl hlen gL=>?_⟩;unfold fm at h;rw[hb]at h;simp only at h;split at h
 ·rename_i W8;obtain⟨qs,h,hql,hqr⟩:=E6 h;have gL:∀(i:Nat)p x,qs[i]?=some p→xs[i]?=some x→ao E.P μ p x:=fun i q x hq hx=>by grind
  have hlen:qs.length=xs.size:=by omega
  have W8:qs.length≤E.fn.ntmps:=by omega
  clear hql hqr;revert qs;intro ps h gL hlen W8;have hR:=af1 (E:=E) zw hgl hlen gL W8;refine wv hE (by rw[hyl];exact DT _ _ _ _) (fun _ _ h=>by omega) hf hb h hR fun e f' m' μ' φ' tmps w' hk kn=>?_;have fin:W5 E E.fn.results.toList f' m'=some r→∃v,(results E.fn tmps).run E.P w'=.ok v w'∧∃y,Ending.returned v=.returned y∧lL w.heap.size w w'∧ao E.P (cB μ w w') r y:=fun hk=>by obtain⟨y,y1,y2⟩:=abi kn hk;exact⟨y,y1,y,rfl,kn.below,y2⟩
  grind
 ·cases h
theorem xC.af2{P:Program}{G:Nat→Option (List PV)}{nt:Nat}{yl:YL}{w0:bE}{o:Ro}(h:xC P G nt yl w0):xC P G nt yl {w0 with nC:=o}:=fun R site id args f m k r hy μ φ ρ w xs hM hF hρ hl hr LQ g hg=>
  let⟨fn,tmps,assign,body,y1,y2⟩:=h R site id args f m k r hy μ φ ρ w xs (hM.Ae rfl rfl hM.dK fun _ _ _=>rfl) hF hρ hl hr LQ g hg
  ⟨fn,tmps,assign,body,y1,y2.mono fun e w'⟨v,f',m',y,μ',φ',a1,a2,a3,a4,a5⟩=>⟨v,f',m',y,μ',φ',a1,a2,a3,a4.Ae rfl rfl a4.dK fun _ _ _=>rfl,a5⟩⟩
theorem adF(hE:ku E)(hf:E.P.funcs[g]?=some E.fn)(hn:(E.fn.name== "runtime.NumGoroutine")=false){args:List V}{f:Fr}{m:Mem}{k:V→Fr→Mem→Option R}{r:R}(h:Hb E args f m k=some r):P7 E.P E.aM g E.yl args f m k r:=by
 unfold Hb at h;split at h
 ·rename_i c hb;split at h
  ·rename_i W8;refine⟨E.fn,c,hf,hb,hn,fun w0 μ φ ρ w xs hM hF hlen gL Gc hY=>?_⟩;have fo:∀t,t<args.length→∃v,args[t]?=some v∧args.getD t .top=v:=fun t ht=>⟨args[t],AI ht,by simp[List.getD,ht]⟩;have hR:Rel E.P E.aM E.fn.ntmps {w0 with sv:=fun t=>ρ (t-E.fn.ntmps),nC:=w0.dK} μ φ (zt E.fn.ntmps args f) m {tmps:=xs++Array.replicate (E.fn.ntmps-xs.size) undef,defers:=[]} w:=
    {toaA:=hM.Ae rfl rfl hM.dK fun _ _ _=>rfl,size:=by simp;omega,defers:=.nil _ _ _,nC:=fun _ _ h=>h,fr:=fun t=>by
      unfold zt bY;by_cases ht:t<E.fn.ntmps
      ·rw[show Nat.blt t E.fn.ntmps=true by simp_all,T0 ht];show an E.P μ φ (args.getD t .top) _;by_cases ha:t<args.length
       ·obtain⟨v,h1,h2⟩:=fo t ha;have hxt:t<xs.size:=by omega
        rw[h2];have h3:(xs++Array.replicate (E.fn.ntmps-xs.size) undef).getD t undef=xs[t]:=by simp_all
        rw[h3];exact gL t v _ h1 (ald hxt)
       ·have h1:args.getD t .top=.top:=by simp[List.getD,ha]
        rw[h1];exact .top
      ·rw[show Nat.blt t E.fn.ntmps=false by rw[←amf,amt];omega,acB ht];exact hF.fr _,
     live:=fun t id hid=>by
      unfold zt at hid;cases e:Nat.blt t E.fn.ntmps with
      |true=>
       rw[e]at hid;have hid:(args.getD t .top).has id=true:=hid;by_cases ha:t<args.length
       ·obtain⟨v,h1,h2⟩:=fo t ha;rw[h2]at hid;exact Gc id (cN.2 ⟨v,alf h1,hid⟩)
       simp_all
      |false=>rw[e]at hid;exact hF.live _ id hid}
   refine wv hE hY.af2 (fun _ _ h=>h) hf hb h hR fun e f' m' μ' φ' tmps w' hk kn=>?_;have hF':cg E.P μ' φ' m' (zX E.fn.ntmps f') ρ:=by refine⟨fun t=>?_,fun t id hid=>kn.live _ id hid⟩;have:=kn.fr (t+E.fn.ntmps);unfold bY at this;rw[acB (by omega)]at this;simp only[amE]at this;exact this
   have fin:(DS E f' m' E.fn.results.toList fun vs=>match vs with
    |[v]=>k v (zX E.fn.ntmps f') m'
    |vs=>k (.aG vs) (zX E.fn.ntmps f') m')=some r→∃v,(results E.fn tmps).run E.P w'=.ok v w'∧
    ∃v1 f1 m1 y μ1 φ1,k v1 f1 m1=some r∧Ending.returned v=.returned y∧aA E.P E.aM w0 μ1 φ1 m1 w'∧cg E.P μ1 φ1 m1 f1 ρ∧an E.P μ1 φ1 v1 y∧∀id,v1.has id=true→(m1 id).isSome=true:=fun hk=>by
    obtain⟨vs,ys,h1,h2,h3,h4,h5,h6⟩:=Aa kn _ hk
    refine⟨_,Ac h3,?_⟩
    have hM0:aA E.P E.aM w0 μ' φ' m' w':=kn.toaA.Ae rfl rfl kn.dK fun _ _ _=>rfl
    split at h1
    ·rename_i v;have hx:∃y,ys=[y]:=by
      match ys,h4,h2 with
      |[y],_,_=>simp
      |[],h4,h2=>grind
      |_::_::_,h4,h2=>simp_all
     obtain⟨y,rfl⟩:=hx;refine⟨v,_,_,y,μ',φ',h1,by simp,hM0,hF',h5 0 v y rfl rfl,fun id hid=>h6 id (by simp[cu,hid])⟩
    ·rename_i cC;have pT:¬ys.toArray.size=1:=fun h=>by
      have:vs.length=1:=by simp at h;omega
      match vs,this with
      |[v],_=>exact cC v rfl
     rw[dif_neg pT];exact⟨.aG vs,_,_,_,μ',φ',h1,rfl,hM0,hF',.aG (by simp;omega) (fun i q x hq hx=>h5 i q x hq (by simpa using hx)),fun id hid=>h6 id (by simpa only[V.has]using hid)⟩
   grind
  ·cases h
 ·cases h
theorem abj{μ:Ro}{d len s:Nat}{et:TypeId}{es:List PV}{x:Value}(hA:aN E.P μ φ w d s et es)(hx:an E.P μ φ (.fS d 0 len) x):∃ph:aI,ph.g=(φ d).g∧aN E.P μ (fun _=>ph) w 0 s et (es.take len)∧∀μ',an E.P μ' (fun _=>ph) (.os 0) x:=by
 obtain⟨h1,h2,h3,h4,h5,h6,h7⟩:=hA;cases hx with
 |tQ hg=>refine⟨φ d,rfl,?_,fun μ'=>.vt hg⟩;rw[hg]at h7;obtain⟨rfl,h7⟩:=h7;refine⟨h1,h2,h3,h4,by simp,h6,?_⟩;simp_all
 | @fS _ _ _ cap g ad hg hl ha hc hc'=>
  rw[hg]at h7;obtain⟨q,Tq,q1,q2,q3,q4,q5⟩:=h7;have hlen:(es.take len).length=len:=by simp_all
  have had:ad=⟨g,0,none⟩:=by simp_all
  subst had;refine⟨{φ d with cap:=cap,len:=len},rfl,⟨by simp[hlen],h2,h3,h4,fun i e he=>h5 i e (jd he).1,by simp;omega,?_⟩,fun μ'=>?_⟩
  ·simp only[hg];refine⟨q,Tq,q1,alH (alo _ (by omega)) q2,by omega,fun i e j p x he hp hx=>q4 i e j p x (jd he).1 hp hx,fun i x hi hx=>q5 i x (Nat.lt_of_lt_of_le hi (alo _ (by omega))) hx⟩
  ·exact an.os (P:=E.P) (μ:=μ') (φ:=fun _=>{φ d with cap:=cap,len:=len}) (id:=0) (g:=g) hg
theorem Uv(hE:ku E)(hyl:E.yl=EV)(hf:E.P.funcs[g]?=some E.fn)(hn:(E.fn.name== "runtime.NumGoroutine")=false){c:Code}(hb:E.fn.body=some c):E7 E.P E.aM g (qt E):=by
 refine⟨⟨E.fn,c,hf,hb,hn⟩,fun fn t el WG ht hu ps r h w μ xs zw hgl hlen gL=>?_⟩;rw[hf]at WG;cases WG;unfold qt at h;rw[hb]at h;simp only at h;split at h
 ·rename_i W8;obtain⟨qs,h,hql,hqr⟩:=E6 h;have gL:∀(i:Nat)p x,qs[i]?=some p→xs[i]?=some x→ao E.P μ p x:=fun i q x hq hx=>by grind
  have hlen:qs.length=xs.size:=by omega
  have W8:qs.length≤E.fn.ntmps:=by omega
  clear hql hqr;revert qs;intro ps h gL hlen W8;refine wv hE (by rw[hyl];exact DT _ _ _ _) (fun _ _ h=>by omega) hf hb h (af1 zw hgl hlen gL W8) fun e f' m' μ' φ' tmps w' hk kn=>?_;have fin:adE E f' m'=some r→∃v,(results E.fn tmps).run E.P w'=.ok v w'∧∃(y:Value)(ph:aI)(es:List PV),Ending.returned v=.returned y∧lL w.heap.size w w'∧r=.rs (aV E.P el) es∧(∀g,ph.g=some g→w.heap.size≤g)∧aN E.P (nL (cB μ w w') ph.g) (fun _=>ph) w' 0 (aV E.P el) el es∧an E.P μ (fun _=>ph) (.os 0) y:=fun hk=>by
   unfold adE at hk;rw[ht]at hk;simp only[hu]at hk;obtain⟨vs,ys,h1,h2,h3,h4,h5,h6⟩:=Aa kn _ hk;refine⟨_,Ac h3,?_⟩;split at h1
   ·rename_i id;split at h1
    ·rename_i sz et es hm;split at h1
     ·rename_i hs;obtain⟨rfl,rfl⟩:=hs;simp only[By]at h1;have hx:∃y,ys=[y]:=by
       match ys,h4,h2 with
       |[y],_,_=>simp
       |[],h4,h2=>grind
       |_::_::_,h4,h2=>simp_all
      obtain⟨y,rfl⟩:=hx;have hA:=kn.dJ id _ hm;refine⟨y,φ' id,es,by simp,kn.below,h1.symm,fun g hg=>(kn.own id _ g hm (.inl hg)).1,?_,?_⟩
      ·refine aN.move (μ:=μ') hA rfl fun b o BG=>?_;unfold nL;rw[acB fun e=>by have:=(kn.own id _ b hm (.inl e)).2 rfl;simp_all];unfold cB;split
       ·rename_i bQ;exact kn.base b o BG bQ
       ·exact kn.ro b o BG
      ·have:=h5 0 _ y rfl rfl;cases this with
       |vt h=>exact .vt h
       |os h=>exact .os (id:=0) (φ:=fun _=>φ' id) h
     ·cases h1
    ·cases h1
   ·rename_i id len;split at h1
    ·rename_i sz et es hm;split at h1
     ·rename_i hs;obtain⟨rfl,rfl⟩:=hs;simp only[By]at h1;have hx:∃y,ys=[y]:=by
       match ys,h4,h2 with
       |[y],_,_=>simp
       |[],h4,h2=>grind
       |_::_::_,h4,h2=>simp_all
      obtain⟨y,rfl⟩:=hx;obtain⟨ph,p1,p2,p3⟩:=abj (kn.dJ id _ hm) (h5 0 _ y rfl rfl);refine⟨y,ph,es.take len,by simp,kn.below,h1.symm,fun g hg=>(kn.own id _ g hm (.inl (by rw[←p1];omega))).1,?_,(p3 _:)⟩;refine aN.move (μ:=μ') (φ:=fun _=>ph) (i:=0) p2 rfl fun b o BG=>?_;unfold nL;rw[acB fun e=>by have:=(kn.own id _ b hm (.inl (by rw[←p1];omega))).2 rfl;simp_all];unfold cB;split
      ·rename_i bQ;exact kn.base b o BG bQ
      ·exact kn.ro b o BG
     ·cases h1
    ·cases h1
   ·cases h1
  grind
 ·cases h
end
end Go.Ab
