import Derived.Test.YtoaknfoobjnjgaaGreatNkP2
set_option linter.all false
namespace Go.Ab.Tt
set_option maxRecDepth 100000
structure bS where
 source:Int
 seq:Int
 fO:Int
 dz:Int
 kind:Int
 aZ:Bytes
 day:Int
 inst:Int
 call:Int
 cA:Int
 aY:Int
 free:Bool
 calls:List ai
 deriving DecidableEq
def bS.pv(x:bS):PV:=.agg [.int .i64 x.source,.int .i64 x.seq,.int .i64 x.fO,.int .i64 x.dz,.int .i64 x.kind,.str x.aZ,.int .i64 x.day,.int .i64 x.inst,.int .i64 x.call,.int .i64 x.cA,.int .i64 x.aY,.bool x.free,.rs 5 (x.calls.map ai.pv)]
structure bS.jN(M:Nat)(x:bS):Prop where
 source:mc x.source
 seq:mc x.seq
 fO:mc x.fO
 dz:mc x.dz
 kind:mc x.kind
 aZ:x.aZ.length≤M
 day:mc x.day
 inst:mc x.inst
 call:mc x.call
 cA:mc x.cA
 aY:mc x.aY
 calls:x.calls.length≤M∧∀y∈x.calls,y.jN M
abbrev bS.Ok(x:bS):Prop:=x.jN maxLen
def bS.key(x:bS):Bytes×Int×Int:=(x.aZ,x.day,x.inst)
def Nj(l:List aX)(m:bS):Option Nat:=(List.range l.length).find? fun k=>decide ((l.map bG)[k]?=some m.key)
theorem Pq{l:List aX}{m:bS}{k:Nat}(h:Nj l m=some k):∃hk:k<l.length,bG l[k]=m.key∧∀j,(hj:j<k)→bG (l[j]'(by omega))≠m.key:=by
 unfold Nj at h;rw[aqi]at h;obtain⟨h1,h2,h3⟩:=h;have hk:k<l.length:=by simpa using h2
 refine⟨hk,?_,fun j hj hc=>?_⟩
 ·simpa[ta hk]using h1
 ·have:=h3 j hj;simp[ta (show j<l.length by omega),hc]at this
theorem aa9{l:List aX}{m:bS}(h:Nj l m=none):m.key∉l.map bG:=by
 unfold Nj at h;rw[apj]at h;intro hm;obtain⟨k,hk⟩:=anI.1 hm;have nM:k<l.length:=by have:=(IN.1 hk).1;simpa using this
 exact h k (by simpa using nM) (by simpa using hk)
def kE:Int:=3155932800
def Cl(l:List ai):Bool:=(List.range l.length).all fun k=>(l[k]?).elim true fun c=> !(decide (c.arr<((ku l k).map ai.dep).getD 0)||decide (c.dep<c.arr)||decide (c.dep>kE))
def kY(c:ai):Int:=if c.dep-c.arr<30 then c.dep-c.arr else 30
def late(c:ai)(RV:Int):ai:={c with arr:=RV,dep:=if RV+kY c>c.dep then RV+kY c else c.dep}
def nV:List ai→Int→Option (List ai)
 |[],_=>some []
 |c::cs,a=>if(late c a).dep>kE then none else
  match cs with
  |[]=>some [late c a]
  |d::ds=>(nV (d::ds) (d.arr+(late c a).dep-c.dep)).map fun r=>late c a::r
def AR(l:List ai)(n:Nat)(cA:Int):Int:=
 let before:=((ku l n).map ai.dep).getD 0
 let x:=((l[n]?).map ai.arr).getD 0+cA
 if x<before then before else x
def prop(l:List ai)(n:Int)(cA:Int):Option (List ai)×Int:=
 if n<0∨n≥(l.length:Int)then(none,1)else if cA< -43200∨cA>43200 then(none,2)else if Cl l=false then(none,10)
 else match nV (l.drop n.toNat) (AR l n.toNat cA)with
 |some r=>(some (l.take n.toNat++r),0)
 |none=>(none,10)
theorem nS(N:ay):(dZ N).2.2=0↔(fP N.stops).2=0∧(ec N.ae).2=0∧(gr N.runs N.stops.length N.ae.length).2=0∧(gS N.runs N.ar).2=0∧(cC N.paths N.stops.length).2=0∧(cX N.av N.aQ N.within N.cap).2=0:=by
 unfold dZ;by_cases h1:(fP N.stops).2=0
 ·rw[BY h1];by_cases h2:(ec N.ae).2=0
  ·rw[BY h2];by_cases h3:(gr N.runs N.stops.length N.ae.length).2=0
   ·rw[BY h3];by_cases h4:(gS N.runs N.ar).2=0
    ·rw[BY h4];by_cases h5:(cC N.paths N.stops.length).2=0
     ·rw[BY h5];by_cases h6:(cX N.av N.aQ N.within N.cap).2=0
      ·rw[BY h6];simp[h1,h2,h3,h4,h5,h6]
      ·rw[IT h6];simp[h6]
     ·rw[IT h5];simp[h5]
    ·rw[IT h4];simp[h4]
   ·rw[IT h3];simp[h3]
  ·rw[IT h2];simp[h2]
 ·rw[IT h1];simp[h1]
def Dl(x:aX)(stops ae:Int):Int:=
 if dV x.id=false then 12 else if(decide (x.aZ< -1)||decide (x.inst<0))=true then 2
 else if(decide (x.day<0)||decide (x.day>36524))=true then 11 else if(decide (x.aY<0)||decide (x.aY≥ae))=true then 9
 else(bD x.calls stops 0 3155932800).2
theorem FB(l:List aX)(s r:Int)(k:Nat)(hk:k<l.length):kW l s r k=0↔Dl l[k] s r=0∧bG l[k]∉(l.map bG).take k:=by
 unfold kW Dl;rw[ta hk];simp only;by_cases h1:dV l[k].id=false
 ·rw[BY h1,BY h1];simp
 ·rw[IT h1,IT h1];by_cases h2:(decide (l[k].aZ< -1)||decide (l[k].inst<0))=true
  ·rw[BY h2,BY h2];simp
  ·rw[IT h2,IT h2];by_cases h3:(decide (l[k].day<0)||decide (l[k].day>36524))=true
   ·rw[BY h3,BY h3];simp
   ·rw[IT h3,IT h3];by_cases h4:(decide (l[k].aY<0)||decide (l[k].aY≥r))=true
    ·rw[BY h4,BY h4];simp
    ·rw[IT h4,IT h4];by_cases h5:(bD l[k].calls s 0 3155932800).2=0
     ·rw[BY h5];by_cases h6:bG l[k]∈(l.map bG).take k
      ·simp[h6]
      ·simp[h6,h5]
     ·rw[IT h5];simp[h5]
theorem pH(l:List aX)(s r:Int):(gr l s r).2=0↔l.length≤1024∧∀k,(hk:k<l.length)→Dl l[k] s r=0∧bG l[k]∉(l.map bG).take k:=by
 unfold gr;by_cases h:l.length>1024
 ·rw[BY h];constructor
  ·intro hc;cases hc
  ·rintro⟨h1,_⟩;omega
 ·rw[IT h,im];constructor
  ·intro h0;exact⟨by omega,fun k hk=>(FB l s r k hk).1 (h0 k hk)⟩
  ·rintro⟨_,h0⟩ k hk;exact(FB l s r k hk).2 (h0 k hk)
theorem aba{l:List aX}{s r:Int}{i:Nat}{x:aX}(hi:i<l.length)(hk:bG x=bG l[i])(hx:Dl x s r=0)(h:(gr l s r).2=0):(gr (l.set i x) s r).2=0:=by
 rw[pH]at h⊢;have hm:(l.set i x).map bG=l.map bG:=by rw[apq,hk,←List.getElem_map bG (h:=by simpa using hi),aqA]
 refine⟨by rw[aoA];exact h.1,fun k kh=>?_⟩;have agF:k<l.length:=by simpa using kh
 rw[hm];obtain⟨h1,h2⟩:=h.2 k agF;by_cases I9:i=k
 ·subst I9;rw[aqD];exact⟨hx,by rw[hk];exact h2⟩
 ·rw[List.getElem_set_ne I9];exact⟨h1,h2⟩
theorem abb{l:List aX}{s r:Int}{x:aX}(hk:bG x∉l.map bG)(hx:Dl x s r=0)(hl:l.length<1024)(h:(gr l s r).2=0):(gr (l++[x]) s r).2=0:=by
 rw[pH]at h⊢;refine⟨by simp;omega,fun k kh=>?_⟩;simp only[anD,alx,anx]at kh;rw[anU];by_cases bK:k<l.length
 ·rw[apF bK,aog (by simp;omega)];exact h.2 k bK
 ·have:k=l.length:=by omega
  subst this;rw[apx (anz _)];simp only[aqQ,List.getElem_cons_zero];refine⟨hx,?_⟩;rw[aog (by simp),anZ (by simp)];exact hk
def KN(runs:List aX)(p:List aD)(x:aD):Int:=
 if yG x runs.length=true then 9 else if wM x (aI runs x.a).length (aI runs x.b).length=true then 9
 else if eG (aI runs x.a) x.ac≠eG (aI runs x.b) x.bc then 13 else if sl p x (aI runs x.a).length=true then 19
 else if cv x∈p.map cv then 6 else 0
theorem KO(runs:List aX)(l:List aD)(k:Nat)(hk:k<l.length):cY runs l k=KN runs (l.take k) l[k]:=by unfold cY KN;rw[ta hk,aps]
def yz(runs:List aX)(l:List aD):Prop:=∀k,(hk:k<l.length)→KN runs (l.take k) l[k]=0
theorem vW(runs:List aX)(l:List aD):(gS runs l).2=0↔l.length≤1024∧yz runs l:=by
 unfold gS yz;by_cases h:l.length>1024
 ·rw[BY h];constructor
  ·intro hc;cases hc
  ·rintro⟨h1,_⟩;omega
 ·rw[IT h,im];constructor
  ·intro h0;exact⟨by omega,fun k hk=>by rw[←KO];exact h0 k hk⟩
  ·rintro⟨_,h0⟩ k hk;rw[KO runs l k hk];exact h0 k hk
theorem Wi(runs:List aX):yz runs []:=fun k hk=>by simp at hk
theorem Cm(runs:List aX)(p:List aD)(x:aD):yz runs (p++[x])↔yz runs p∧KN runs p x=0:=by
 constructor
 ·intro h;refine⟨fun k hk=>?_,?_⟩
  ·have:=h k (by simp;omega);rw[apF hk,aog (by omega)]at this;exact this
  ·have:=h p.length (by simp);rw[apx (anz _),aog (anz _),aoe]at this;simpa using this
 ·rintro⟨h1,h2⟩ k hk;simp only[anD,alx,anx]at hk;by_cases bK:k<p.length
  ·rw[apF bK,aog (by omega)];exact h1 k bK
  ·have:k=p.length:=by omega
   subst this;rw[apx (anz _),aog (anz _),aoe];simpa using h2
theorem xV(runs:List aX)(p:List aD)(x:aD):KN runs p x=0↔yG x runs.length=false∧wM x (aI runs x.a).length (aI runs x.b).length=false∧eG (aI runs x.a) x.ac=eG (aI runs x.b) x.bc∧sl p x (aI runs x.a).length=false∧cv x∉p.map cv:=by
 unfold KN;cases yG x runs.length with
 |true=>simp
 |false=>
  cases wM x (aI runs x.a).length (aI runs x.b).length with
  |true=>simp
  |false=>
   by_cases h3:eG (aI runs x.a) x.ac=eG (aI runs x.b) x.bc
   ·cases sl p x (aI runs x.a).length with
    |true=>simp[h3]
    |false=>
     by_cases h5:cv x∈p.map cv
     ·simp[h3,h5]
     ·simp[h3,h5]
   ·simp[h3]
theorem Ix{x:aD}{R:Int}(h:yG x R=false):(0≤x.a∧x.a<R)∧(0≤x.b∧x.b<R)∧x.a≠x.b:=by unfold yG at h;simp only[anL,aop,OF,te,anQ]at h;exact⟨h.1.1,h.1.2,h.2⟩
variable{runs FC:List aX}
theorem uk{l:List aD}(h:yz runs l)(hR:runs.length≤FC.length)(hc:∀x∈l,∀v,v=x.a∨v=x.b→(aI FC v).length=(aI runs v).length∧∀c,eG (aI FC v) c=eG (aI runs v) c):yz FC l:=by intro k hk;have h0:=h k hk;rw[xV]at h0⊢;obtain⟨h1,h2,h3,h4,h5⟩:=h0;obtain⟨ea,sa⟩:=hc _ (agZ hk) _ (Or.inl rfl);obtain⟨eb,sb⟩:=hc _ (agZ hk) _ (Or.inr rfl);rw[ea,eb,sa,sb];refine⟨?_,h2,h3,h4,h5⟩;obtain⟨g1,g2,g3⟩:=Ix h1;unfold yG;simp only[anL,aop,OF,te,anQ];exact⟨⟨⟨g1.1,by omega⟩,⟨g2.1,by omega⟩⟩,g3⟩
theorem FD{p:List aD}{x:aD}{A:Int}(h:sl p x A=false):x.stay=false∨(x.ac+1=A∧x.bc=0∧nx p x.a=none∧x.b∉mn p∧l7 p x.b x.a (p.length+1)=false):=by
 unfold sl at h;cases hs:x.stay with
 |false=>exact Or.inl rfl
 |true=>
  rw[hs,aoB]at h;simp only[anL,aop,te,anQ]at h;obtain⟨⟨⟨⟨h1,h2⟩,h3⟩,h4⟩,h5⟩:=h;refine Or.inr ⟨h1,h2,?_,h4,h5⟩;cases hn:nx p x.a with
  |none=>rfl
  |some w=>rw[hn]at h3;cases h3
theorem aj1(l:List aD)(h:yz runs l):∀x∈l,x.stay=true→nx l x.a=some x.b:=by
 induction l using zz with
 |h0=>intro x hx;cases hx
 |h1 p y ih=>
  rw[Cm]at h;obtain⟨hp,hy⟩:=h;rw[xV]at hy;intro x hx hs;rw[sB];rcases anO.1 hx with hx|hx
  ·have h1:=ih hp x hx hs;by_cases hc:(y.stay&&decide (y.a=x.a))=true
   ·simp only[OF,te]at hc;rcases FD hy.2.2.2.1 with h2|h2
    ·rw[h2]at hc;cases hc.1
    ·rw[hc.2]at h2;rw[h1]at h2;cases h2.2.2.1
   ·rw[IT hc];exact h1
  ·rw[aoq]at hx;subst hx;rw[BY (by simp[hs])]
theorem MK(f:aD→Bool)(l:List aD)(h:yz runs l)(hR:runs.length≤FC.length)(hc:∀x∈l,f x=true→∀v,v=x.a∨v=x.b→(aI FC v).length=(aI runs v).length∧∀c,eG (aI FC v) c=eG (aI runs v) c):yz FC (l.filter f):=by
 refine uk (runs:=runs) ?_ hR (fun x hx=>hc x (anP.1 hx).1 (anP.1 hx).2);clear hc hR;induction l using zz with
 |h0=>exact Wi runs
 |h1 p x ih=>
  rw[Cm]at h;obtain⟨hp,hx⟩:=h;rw[aoG];by_cases hf:f x=true
  ·rw[aqn hf,aqz,Cm];refine⟨ih hp,?_⟩;rw[xV]at hx⊢;obtain⟨h1,h2,h3,h4,h5⟩:=hx;have LA:∀y∈p.filter f,y∈p:=fun y hy=>(anP.1 hy).1;refine⟨h1,h2,h3,?_,fun hm=>h5 ?_⟩
   ·rcases FD h4 with hs|⟨g1,g2,g3,g4,g5⟩
    ·unfold sl;rw[hs];rfl
    ·have hnx:∀v w,nx (p.filter f) v=some w→nx p v=some w:=fun v w Tu=>by obtain⟨y,hy,WO,rfl,rfl⟩:=H9 Tu;exact aj1 p hp y (LA y hy) WO
     have hit:∀t v w,it (nx (p.filter f)) t v=some w→it (nx p) t v=some w:=by
      intro t;induction t with
      |zero=>intro v w h;exact h
      |succ t iht=>
       intro v w Tu;have adF:(nx (p.filter f) v).bind (it (nx (p.filter f)) t)=some w:=Tu;cases hn:nx (p.filter f) v with
       |none=>rw[hn]at adF;cases adF
       |some u=>rw[hn]at adF;show(nx p v).bind (it (nx p) t)=some w;rw[hnx v u hn];exact iht u w adF
     have k1:(nx (p.filter f) x.a).isSome=false:=by
      cases hn:nx (p.filter f) x.a with
      |none=>rfl
      |some w=>rw[hnx _ _ hn]at g3;cases g3
     have k2:decide (x.b∈mn (p.filter f))=false:=by rw[anQ];intro hm;apply g4;unfold mn at hm⊢;obtain⟨y,hy,hyb⟩:=anG.1 hm;obtain⟨hy1,hy2⟩:=anP.1 hy;exact anG.2 ⟨y,anP.2 ⟨LA y hy1,hy2⟩,hyb⟩
     have k3:l7 (p.filter f) x.b x.a ((p.filter f).length+1)=false:=by unfold l7 at g5⊢;rw[aoK]at g5⊢;intro t ht hc;have hle:=aob f p;refine g5 t (by simp at ht⊢;omega) ?_;rw[te]at hc⊢;exact hit _ _ _ hc
     unfold sl;rw[k1,k2,k3,g1,g2];simp
   ·obtain⟨y,hy,hk⟩:=anG.1 hm;exact anG.2 ⟨y,LA y hy,hk⟩
  ·rw[aqj hf,aqz,aof];exact ih hp
def Nk(n a b:Int):Option ai→List ai→Prop
 |_,[]=>True
 |p,c::cs=>kr c p n a b=0∧Nk n a b (some c) cs
theorem Uc(n a b:Int)(l:List ai):∀p,Nk n a b p l↔∀k,(hk:k<l.length)→kr l[k] (if k=0 then p else l[k-1]?) n a b=0:=by
 induction l with
 |nil=>intro p;exact⟨fun _ k hk=>by simp at hk,fun _=>trivial⟩
 |cons c cs ih=>
  intro p;show(kr c p n a b=0∧Nk n a b (some c) cs)↔_;rw[ih];constructor
  ·rintro⟨h1,h2⟩ k hk;cases k with
   |zero=>exact h1
   |succ k=>
    have:=h2 k (by simpa using hk);cases k with
    |zero=>simpa using this
    |succ k=>simpa using this
  ·intro h;refine⟨h 0 (Nat.zero_lt_succ _),fun k hk=>?_⟩;have:=h (k+1) (by simpa using hk);cases k with
   |zero=>simpa using this
   |succ k=>simpa using this
theorem zT(l:List ai)(n a b:Int):(bD l n a b).2=0↔2≤l.length∧l.length≤32∧Nk n a b none l:=by
 have he:(∀k,k<l.length→mD l n a b k=0)↔Nk n a b none l:=by
  rw[Uc];constructor
  ·intro h k hk;have:=h k hk;unfold mD at this;rw[ta hk]at this;cases k with
   |zero=>exact this
   |succ k=>exact this
  ·intro h k hk;have:=h k hk;unfold mD;rw[ta hk];cases k with
   |zero=>exact this
   |succ k=>exact this
 rw[←he];constructor
 ·intro h;exact⟨(zG h).1,(zG h).2,Fy h⟩
 ·rintro⟨h1,h2,h3⟩;unfold bD;rw[IT (by simp;omega)];exact(im _ _).2 h3
theorem Cn(n a b:Int)(l1 l2:List ai):∀p,Nk n a b p (l1++l2)↔Nk n a b p l1∧Nk n a b (if l1.length=0 then p else l1[l1.length-1]?) l2:=by
 induction l1 with
 |nil=>intro p;simp[Nk]
 |cons c cs ih=>
  intro p;show(kr c p n a b=0∧Nk n a b (some c) (cs++l2))↔(kr c p n a b=0∧Nk n a b (some c) cs)∧_;rw[ih,apP];have:(if(c::cs).length=0 then p else(c::cs)[(c::cs).length-1]?)=if cs.length=0 then some c else cs[cs.length-1]?:=by
   cases cs with
   |nil=>rfl
   |cons d ds=>simp
  rw[this]
variable{p:Option ai}
theorem Iy{c:ai}{n a b:Int}(h1:0≤c.stop)(h2:c.stop<n)(h3:∀q,p=some q→q.stop≠c.stop)(h4:a≤c.arr)(h5:c.arr≤c.dep)(h6:c.dep≤b)(h7:∀q,p=some q→q.dep≤c.arr):kr c p n a b=0:=by
 unfold kr;rw[IT (by simp;omega)];cases p with
 |none=>dsimp only;rw[IT (by simp),IT (by simp;omega)]
 |some q=>dsimp only;have:=h3 q rfl;have:=h7 q rfl;rw[IT (by simpa using h3 q rfl),IT (by simp;omega)]
theorem xW{c:ai}{n a b:Int}(h:kr c p n a b=0):0≤c.stop∧c.stop<n∧∀q,p=some q→q.stop≠c.stop:=by
 unfold kr at h;by_cases hA:(decide (c.stop<0)||decide (c.stop≥n))=true
 ·rw[BY hA]at h;cases h
 ·rw[IT hA]at h;simp only[anH,te,ap8]at hA;refine⟨by omega,by omega,fun q hq hc=>?_⟩;subst hq;dsimp only at h;rw[BY (by simpa using hc)]at h;cases h
theorem abc(n:Int)(cs:List ai):∀(a:Int)(p:Option ai)(r:List ai),Nk n 0 kE p cs→nV cs a=some r→(∀q,p=some q→q.dep≤a)→0≤a→Nk n 0 kE p r∧r.map ai.stop=cs.map ai.stop:=by
 induction cs with
 |nil=>intro a p r _ hr _ _;simp only[nV,tb]at hr;subst hr;exact⟨trivial,rfl⟩
 |cons c cs ih=>
  intro a p r jq hr hp ha;obtain⟨hc,Jk⟩:=jq;obtain⟨g1,g2,g3⟩:=xW hc;obtain⟨k1,k2,k3,k4⟩:=tW hc;have hd:0≤kY c:=by unfold kY;split<;>omega
  have abd:a≤(late c a).dep:=by show a≤if a+kY c>c.dep then a+kY c else c.dep;split<;>omega
  have hcd:c.dep≤(late c a).dep:=by show c.dep≤if a+kY c>c.dep then a+kY c else c.dep;split<;>omega
  unfold nV at hr;by_cases vE:(late c a).dep>kE
  ·rw[BY vE]at hr;cases hr
  ·rw[IT vE]at hr;have hE:kr (late c a) p n 0 kE=0:=Iy g1 g2 g3 ha abd (by omega) hp;cases cs with
   |nil=>simp only[tb]at hr;subst hr;exact⟨⟨hE,trivial⟩,rfl⟩
   |cons d ds=>
    simp only[ae0]at hr;obtain⟨r',yt,rfl⟩:=hr;obtain⟨hdE,WU⟩:=Jk;obtain⟨d1,d2,d3,d4⟩:=tW hdE;obtain⟨e1,e2,e3⟩:=xW hdE;have hdc:=d4 c rfl;have amd:Nk n 0 kE (some (late c a)) (d::ds)→Nk n 0 kE (some (late c a)) r'∧r'.map ai.stop=(d::ds).map ai.stop:=fun hh=>ih _ _ r' hh yt (fun q hq=>by cases hq;omega) (by omega);by_cases aj2:(late c a).dep≤d.arr
    ·obtain⟨i1,i2⟩:=amd ⟨Iy e1 e2 (fun q hq=>by cases hq;exact e3 c rfl) d2 d1 d3 (fun q hq=>by cases hq;exact aj2),WU⟩;exact⟨⟨hE,i1⟩,by simp only[anB,i2];rfl⟩
    ·obtain⟨i1,i2⟩:=ih (d.arr+(late c a).dep-c.dep) (some c) r' ⟨hdE,WU⟩ yt (fun q hq=>by cases hq;omega) (by omega);refine⟨⟨hE,?_⟩,by simp only[anB,i2];rfl⟩;cases r' with
     |nil=>trivial
     |cons x xs=>
      obtain⟨j1,j2⟩:=i1;obtain⟨f1,f2,f3⟩:=xW j1;obtain⟨t1,t2,t3,t4⟩:=tW j1;refine⟨Iy f1 f2 (fun q hq=>by cases hq;exact f3 c rfl) t2 t1 t3 (fun q hq=>?_),j2⟩;cases hq;have hx:x.arr=d.arr+(late c a).dep-c.dep:=by
       unfold nV at yt;by_cases td:(late d (d.arr+(late c a).dep-c.dep)).dep>kE
       ·rw[BY td]at yt;cases yt
       ·rw[IT td]at yt;cases ds with
        |nil=>simp only[tb,aon]at yt;rw[←yt.1];rfl
        |cons d2 ds2=>simp only[ae0,aon]at yt;obtain⟨_,_,h1,_⟩:=yt;rw[←h1];rfl
      omega
theorem adG{l r:List ai}{n:Int}{at_ cA:Int}(h:(bD l n 0 kE).2=0)(hp:prop l at_ cA=(some r,0)):(bD r n 0 kE).2=0∧r.map ai.stop=l.map ai.stop:=by
 rw[zT]at h;obtain⟨h1,h2,h3⟩:=h;unfold prop at hp;by_cases ha:at_<0∨at_≥(l.length:Int)
 ·rw[BY ha]at hp;cases hp
 ·rw[IT ha]at hp;by_cases hs:cA< -43200∨cA>43200
  ·rw[BY hs]at hp;cases hp
  ·rw[IT hs]at hp;by_cases ho:Cl l=false
   ·rw[BY ho]at hp;cases hp
   ·rw[IT ho]at hp;cases hl:nV (l.drop at_.toNat) (AR l at_.toNat cA)with
    |none=>rw[hl]at hp;cases hp
    |some r'=>
     rw[hl]at hp;simp only[T0,tb,aqX]at hp;generalize hn:at_.toNat=m at hl hp;have hm:m<l.length:=by omega
     rw[←aoN m l,Cn]at h3;obtain⟨g1,g2⟩:=h3;have hlen:(l.take m).length=m:=by simp;omega
     have abe:(if(l.take m).length=0 then(none:Option ai)else(l.take m)[(l.take m).length-1]?)=ku l m:=by
      rw[hlen];cases m with
      |zero=>rfl
      |succ m=>rw[IT (by omega),aoO (by omega)];rfl
     rw[abe]at g2;have eO:∀q,ku l m=some q→0≤q.dep:=by
      intro q hq;have jq:Nk n 0 kE none l:=by rw[←aoN m l,Cn,abe];exact⟨g1,g2⟩
      cases m with
      |zero=>cases hq
      |succ m=>
       have F9:l[m]?=some q:=hq;have U4:m<l.length:=by omega
       rw[ta U4]at F9;cases F9;have:=(Uc n 0 kE l none).1 jq m U4;obtain⟨z1,z2,_,_⟩:=tW this;omega
     have C1:(∀q,ku l m=some q→q.dep≤AR l m cA)∧0≤AR l m cA:=by
      unfold AR;cases hq:ku l m with
      |none=>refine⟨(fun q hq=>by cases hq),?_⟩;simp only[Option.map_none,Option.getD_none];split<;>omega
      |some q=>
       have:=eO q hq;simp only[No,anY];refine⟨fun q' F9=>?_,?_⟩
       ·cases F9;split<;>omega
       ·split<;>omega
     obtain⟨i1,i2⟩:=abc n (l.drop m) _ _ r' g2 hl C1.1 C1.2;have Od:r'.length=l.length-m:=by have:=congrArg List.length i2;simpa using this
     rw[←hp];refine⟨?_,?_⟩
     ·rw[zT,Cn,abe];refine⟨?_,?_,g1,i1⟩
      ·simp[Od];omega
      ·simp[Od];omega
     ·rw[anU,i2,←anU,aoN]
def gb(m:bS):Int:=
 if wi m.source 0 7=false then 36 else if m.seq<1 then 2
 else if(!wi m.fO 0 3155932800|| !wi m.dz 0 3155932800||decide (m.fO≥m.dz))=true then 10
 else if wi m.kind 1 6=false then 35 else if dV m.aZ=false then 12 else if wi m.day 0 36524=false then 11 else if m.inst<0 then 2
 else
  let uC:=decide (m.kind=1)||decide (m.kind=3)
  let uS:=decide (m.kind=1)
  let uR:=decide (m.kind=5)
  let uL:=decide (m.kind=4)||decide (m.kind=5)
  if(uC&& !wi m.call 0 31||uS&& !wi m.cA (-43200) 43200||uR&& !wi m.aY 0 63)=true then 2
  else if uL=true∧(bD m.calls 64 0 3155932800).2≠0 then(bD m.calls 64 0 3155932800).2
  else if(!uC&& !decide (m.call=0)|| !uS&& !decide (m.cA=0)|| !uR&& !decide (m.aY=0)|| !uR&&m.free|| !uL&&decide (m.calls.length>0))=true then 1 else 0
theorem abf{m:bS}(h:gb m=0):dV m.aZ=true∧(0≤m.day∧m.day≤36524)∧0≤m.inst∧1≤m.kind∧m.kind≤6:=by
 unfold gb at h;by_cases h1:wi m.source 0 7=false
 ·rw[BY h1]at h;cases h
 rw[IT h1]at h;by_cases h2:m.seq<1
 ·rw[BY h2]at h;cases h
 rw[IT h2]at h;by_cases h3:(!wi m.fO 0 3155932800|| !wi m.dz 0 3155932800||decide (m.fO≥m.dz))=true
 ·rw[BY h3]at h;cases h
 rw[IT h3]at h;by_cases h4:wi m.kind 1 6=false
 ·rw[BY h4]at h;cases h
 rw[IT h4]at h;by_cases h5:dV m.aZ=false
 ·rw[BY h5]at h;cases h
 rw[IT h5]at h;by_cases h6:wi m.day 0 36524=false
 ·rw[BY h6]at h;cases h
 rw[IT h6]at h;by_cases h7:m.inst<0
 ·rw[BY h7]at h;cases h
 simp only[wi,Bool.and_eq_false_iff,anQ,ap8]at h4 h6;refine⟨by simpa using h5,⟨by omega,by omega⟩,by omega,by omega,by omega⟩
def agG(m:bS):aX:=⟨-1,m.day,m.inst,m.aZ,m.aY,m.free,false,m.calls⟩
def KP(l:List ai)(c:Nat):List ai:=match l[c]? with|some k=>l.set c {k with FE:=false,zU:=false}|none=>l
def Wj(N:ay)(m:bS):ay×Int:=
 if m.kind=5 then
  if(Nj N.runs m).isSome=true then(N,6)else if m.aY<0∨m.aY≥(N.ae.length:Int)then(N,14)
  else if(bD m.calls N.stops.length 0 3155932800).2≠0 then(N,(bD m.calls N.stops.length 0 3155932800).2)
  else if N.runs.length≥1024 then(N,5)else({N with runs:=N.runs++[agG m]},0)
 else match Nj N.runs m with
 |none=>(N,16)
 |some i=>match N.runs[i]? with
  |none=>(N,16)
  |some r=>
   if(m.kind=1∨m.kind=3)∧(m.call<0∨m.call≥(r.calls.length:Int))then(N,9)
   else if m.kind=1 then match prop r.calls m.call m.cA with
    |(some l,_)=>({N with runs:=N.runs.set i {r with calls:=l}},0)
    |(none,e)=>(N,e)
   else if m.kind=2 then({N with runs:=N.runs.set i {r with rr:=true}},0)
   else if m.kind=3 then({N with runs:=N.runs.set i {r with calls:=KP r.calls m.call.toNat}},0)
   else if m.kind=4 then
    if(bD m.calls N.stops.length 0 3155932800).2≠0 then(N,(bD m.calls N.stops.length 0 3155932800).2)
    else({N with runs:=N.runs.set i {r with calls:=m.calls},ar:=N.ar.filter fun l=> !(decide (l.a=(i:Int))||decide (l.b=(i:Int)))},0)
   else(N,0)
def core(c:ai):Int×Int×Int:=(c.stop,c.arr,c.dep)
theorem RW{c c':ai}{p p':Option ai}{n a b:Int}(h:core c=core c')(hp:p.map core=p'.map core):kr c p n a b=kr c' p' n a b:=by
 simp only[core,T0]at h;obtain⟨h1,h2,h3⟩:=h;unfold kr;rw[h1,h2,h3];cases p with
 |none=>cases p' with
  |none=>rfl
  |some q=>cases hp
 |some q=>cases p' with
  |none=>cases hp
  |some q'=>simp only[No,tb,core,T0]at hp;obtain⟨g1,g2,g3⟩:=hp;simp only[g1,g3]
theorem Pr{n a b:Int}:∀{l l':List ai}{p p':Option ai},l.map core=l'.map core→p.map core=p'.map core→Nk n a b p l→Nk n a b p' l'
 |[],[],_,_,_,_,_=>trivial
 |[],_::_,_,_,h,_,_=>by cases h
 |_::_,[],_,_,h,_,_=>by cases h
 |c::cs,c'::I6,p,p',h,hp,ho=>by simp only[anB,aon]at h;exact⟨by rw[←RW h.1 hp];exact ho.1,Pr (p:=some c) (p':=some c') h.2 (by simp[h.1]) ho.2⟩
variable{l':List ai}
theorem ML{n a b:Int}{l:List ai}(h:l.map core=l'.map core)(hr:(bD l n a b).2=0):(bD l' n a b).2=0:=by
 rw[zT]at hr⊢;have hl:l.length=l'.length:=by simpa using congrArg List.length h
 exact⟨by omega,by omega,Pr h rfl hr.2.2⟩
theorem Iz(l:List ai)(c:Nat):(KP l c).map core=l.map core:=by
 unfold KP;cases hc:l[c]? with
 |none=>rfl
 |some k=>
  simp only;rw[apq];apply anX;intro j;rw[aod];split
  ·rename_i e;subst e;have bK:=(IN.1 hc).1;rw[BY (by simpa using bK),AT,hc];rfl
  ·rfl
theorem Wk{l:List ai}(h:l.map core=l'.map core):l.map ai.stop=l'.map ai.stop:=by
 have:∀l:List ai,l.map ai.stop=(l.map core).map Prod.fst:=fun l=>by rw[ao8];rfl
 rw[this,this,h]
theorem IA(cs:List ai)(c:Int):eG cs c=((cs.map ai.stop)[c.toNat]?).getD 0:=by unfold eG;rw[AT]
theorem RX{cs I6:List ai}(h:I6.map ai.stop=cs.map ai.stop):I6.length=cs.length∧∀c,eG I6 c=eG cs c:=by refine⟨by simpa using congrArg List.length h,fun c=>?_⟩;rw[IA,IA,h]
variable{runs:List aX}{x:aX}
theorem zV{i:Nat}{r:aX}(hr:runs[i]?=some r)(h:x.calls.map ai.stop=r.calls.map ai.stop)(v:Int):(aI (runs.set i x) v).length=(aI runs v).length∧∀c,eG (aI (runs.set i x) v) c=eG (aI runs v) c:=by
 by_cases hv:v.toNat=i
 ·subst hv;have bK:=(IN.1 hr).1;have h1:aI (runs.set v.toNat x) v=x.calls:=by unfold aI;rw[apK bK];rfl
  have h2:aI runs v=r.calls:=by unfold aI;rw[hr];rfl
  rw[h1,h2];exact RX h
 ·have h1:aI (runs.set i x) v=aI runs v:=by unfold aI;rw[aqH (fun h=>hv h.symm)]
  rw[h1];exact⟨rfl,fun _=>rfl⟩
theorem RY{i:Nat}{v:Int}(hv:v.toNat≠i):aI (runs.set i x) v=aI runs v:=by unfold aI;rw[aqH (fun h=>hv h.symm)]
theorem Ps{v:Int}(hv:0≤v∧v<(runs.length:Int)):aI (runs++[x]) v=aI runs v:=by unfold aI;rw[aoz (by omega)]
theorem KQ{l:List aD}(h:yz runs l){x:aD}(hx:x∈l):(0≤x.a∧x.a<(runs.length:Int))∧0≤x.b∧x.b<(runs.length:Int):=by obtain⟨k,hk,rfl⟩:=apb hx;have:=h k hk;rw[xV]at this;obtain⟨g1,g2,_⟩:=Ix this.1;exact⟨g1,g2⟩
theorem IB{s r:Int}(h:Dl x s r=0):dV x.id=true∧(decide (x.aZ< -1)||decide (x.inst<0))=false∧(decide (x.day<0)||decide (x.day>36524))=false∧(decide (x.aY<0)||decide (x.aY≥r))=false∧(bD x.calls s 0 3155932800).2=0:=by
 unfold Dl at h;by_cases h1:dV x.id=false
 ·rw[BY h1]at h;cases h
 rw[IT h1]at h;by_cases h2:(decide (x.aZ< -1)||decide (x.inst<0))=true
 ·rw[BY h2]at h;cases h
 rw[IT h2]at h;by_cases h3:(decide (x.day<0)||decide (x.day>36524))=true
 ·rw[BY h3]at h;cases h
 rw[IT h3]at h;by_cases h4:(decide (x.aY<0)||decide (x.aY≥r))=true
 ·rw[BY h4]at h;cases h
 rw[IT h4]at h;exact⟨by simpa using h1,by simpa using h2,by simpa using h3,by simpa using h4,h⟩
theorem Pt{s r:Int}(h1:dV x.id=true)(h2:(decide (x.aZ< -1)||decide (x.inst<0))=false)(h3:(decide (x.day<0)||decide (x.day>36524))=false)(h4:(decide (x.aY<0)||decide (x.aY≥r))=false)(h5:(bD x.calls s 0 3155932800).2=0):Dl x s r=0:=by unfold Dl;rw[IT (by simp[h1]),IT (by simp[h2]),IT (by simp[h3]),IT (by simp[h4])];exact h5
theorem Gh{N:ay}(h:(dZ N).2.2=0){i:Nat}{r:aX}(hr:N.runs[i]?=some r)(hk:bG x=bG r)(ht:x.aZ=r.aZ)(sW:x.aY=r.aY)(hc:(bD x.calls N.stops.length 0 3155932800).2=0){l:List aD}(hl:l.length≤1024)(hg:yz (N.runs.set i x) l):(dZ {N with runs:=N.runs.set i x,ar:=l}).2.2=0:=by
 rw[nS]at h⊢;obtain⟨g1,g2,g3,g4,g5,g6⟩:=h;have hi:=(IN.1 hr).1;have hri:N.runs[i]=r:=(IN.1 hr).2;have hE:=((pH _ _ _).1 g3).2 i hi;rw[hri]at hE;obtain⟨e1,e2,e3,e4,e5⟩:=IB hE.1;simp only[bG,T0]at hk;refine⟨g1,g2,?_,(vW _ _).2 ⟨hl,hg⟩,g5,g6⟩;refine aba hi (by rw[hri];simp[bG,hk]) (Pt ?_ ?_ ?_ ?_ hc) g3
 ·rw[hk.1];exact e1
 ·rw[ht,hk.2.2];exact e2
 ·rw[hk.2.1];exact e3
 ·rw[sW];exact e4
theorem Wl(N:ay)(m:bS)(h:(dZ N).2.2=0)(hm:gb m=0)(he:(Wj N m).2=0):(dZ (Wj N m).1).2.2=0:=by
 obtain⟨m1,m2,m3,m4,m5⟩:=abf hm;have hz:=(nS N).1 h;obtain⟨g1,g2,g3,g4,g5,g6⟩:=hz;obtain⟨l1,l2⟩:=(vW _ _).1 g4;have Kx:=(pH _ _ _).1 g3;unfold Wj at he⊢;by_cases k5:m.kind=5
 ·rw[BY k5]at he⊢;by_cases t1:(Nj N.runs m).isSome=true
  ·rw[BY t1]at he;cases he
  rw[IT t1]at he⊢;by_cases t2:m.aY<0∨m.aY≥(N.ae.length:Int)
  ·rw[BY t2]at he;cases he
  rw[IT t2]at he⊢;by_cases t3:(bD m.calls N.stops.length 0 3155932800).2≠0
  ·rw[BY t3]at he;exact absurd he t3
  rw[IT t3]at he⊢;by_cases t4:N.runs.length≥1024
  ·rw[BY t4]at he;cases he
  rw[IT t4]at he⊢;rw[nS];have Bg:Nj N.runs m=none:=by
   cases hx:Nj N.runs m with
   |none=>rfl
   |some k=>rw[hx]at t1;exact absurd rfl t1
  refine⟨g1,g2,abb (aa9 Bg) (Pt m1 (by show(decide ((-1:Int)< -1)||decide (m.inst<0))=false;simp;omega) (by show(decide (m.day<0)||decide (m.day>36524))=false;simp;omega) (by show(decide (m.aY<0)||decide (m.aY≥(N.ae.length:Int)))=false;simp;omega) (Decidable.of_not_not t3)) (by omega) g3,(vW _ _).2 ⟨l1,uk l2 (by simp) fun x hx v hv=>?_⟩,g5,g6⟩;obtain⟨b1,b2⟩:=KQ l2 hx;have:0≤v∧v<(N.runs.length:Int):=by
   rcases hv with rfl|rfl
   ·exact b1
   ·exact b2
  rw[Ps this];exact⟨rfl,fun _=>rfl⟩
 ·rw[IT k5]at he⊢;cases ht:Nj N.runs m with
  |none=>rw[ht]at he;cases he
  |some i=>
   obtain⟨hi,tn,_⟩:=Pq ht;have hr:N.runs[i]?=some N.runs[i]:=ta hi;rw[ht]at he;simp only[hr]at he⊢;have RZ:=(IB (Kx.2 i hi).1).2.2.2.2;have hlen:(N.runs.set i N.runs[i]).length=N.runs.length:=by simp
   by_cases t1:(m.kind=1∨m.kind=3)∧(m.call<0∨m.call≥(N.runs[i].calls.length:Int))
   ·rw[BY t1]at he;cases he
   rw[IT t1]at he⊢;by_cases k1:m.kind=1
   ·rw[BY k1]at he⊢;cases hp:prop N.runs[i].calls m.call m.cA with
    |mk o e=>
     rw[hp]at he;cases o with
     |none=>
      simp only at he;unfold prop at hp;subst he;split at hp
      ·cases hp
      ·split at hp
       ·cases hp
       ·split at hp
        ·cases hp
        ·split at hp
         ·cases hp
         ·cases hp
     |some l=>
      have JT:e=0:=by
       unfold prop at hp;split at hp
       ·cases hp
       ·split at hp
        ·cases hp
        ·split at hp
         ·cases hp
         ·split at hp
          ·simp only[T0]at hp;exact hp.2.symm
          ·cases hp
      subst JT;obtain⟨p1,p2⟩:=adG RZ hp;simp only;exact Gh (x:={N.runs[i]with calls:=l}) (l:=N.ar) h hr rfl rfl rfl p1 l1 (uk l2 (by simp) fun x hx v _=>zV hr p2 v)
   ·rw[IT k1]at he⊢;by_cases k2:m.kind=2
    ·rw[BY k2];exact Gh (x:={N.runs[i]with rr:=true}) (l:=N.ar) h hr rfl rfl rfl RZ l1 (uk l2 (by simp) fun x hx v _=>zV (x:={N.runs[i]with rr:=true}) hr rfl v)
    ·rw[IT k2]at he⊢;by_cases k3:m.kind=3
     ·rw[BY k3];exact Gh (x:={N.runs[i]with calls:=KP N.runs[i].calls m.call.toNat}) (l:=N.ar) h hr rfl rfl rfl (ML (Iz _ _).symm RZ) l1 (uk l2 (by simp) fun x hx v _=>zV hr (Wk (Iz _ _)) v)
     ·rw[IT k3]at he⊢;by_cases k4:m.kind=4
      ·rw[BY k4]at he⊢;by_cases t3:(bD m.calls N.stops.length 0 3155932800).2≠0
       ·rw[BY t3]at he;exact absurd he t3
       rw[IT t3]at he⊢;refine Gh (x:={N.runs[i]with calls:=m.calls}) h hr rfl rfl rfl (Decidable.of_not_not t3) (anW (aob _ _) l1) (MK _ _ l2 (by simp) fun x hx hf v hv=>?_);simp only[anT,anL,anQ]at hf;obtain⟨b1,b2⟩:=KQ l2 hx;have cy:v.toNat≠i:=by
        rcases hv with rfl|rfl
        ·intro hc;apply hf.1;omega
        ·intro hc;apply hf.2;omega
       rw[RY cy];exact⟨rfl,fun _=>rfl⟩
      ·rw[IT k4];exact h
theorem abg(x:bS):asAgg 13 x.pv=some ():=rfl
theorem abh(x:bS):cell x.pv 0=.int .i64 x.source:=rfl
theorem abi(x:bS):cell x.pv 1=.int .i64 x.seq:=rfl
theorem abj(x:bS):cell x.pv 2=.int .i64 x.fO:=rfl
theorem abk(x:bS):cell x.pv 3=.int .i64 x.dz:=rfl
theorem abl(x:bS):cell x.pv 4=.int .i64 x.kind:=rfl
theorem abm(x:bS):cell x.pv 5=.str x.aZ:=rfl
theorem abn(x:bS):cell x.pv 6=.int .i64 x.day:=rfl
theorem abo(x:bS):cell x.pv 7=.int .i64 x.inst:=rfl
theorem abp(x:bS):cell x.pv 8=.int .i64 x.call:=rfl
theorem abq(x:bS):cell x.pv 9=.int .i64 x.cA:=rfl
theorem Pu(x:bS):cell x.pv 10=.int .i64 x.aY:=rfl
theorem Pv(x:bS):cell x.pv 11=.bool x.free:=rfl
theorem abr(x:bS):cell x.pv 12=.rs 5 (x.calls.map ai.pv):=rfl
theorem ame(x:bS):PV.agg [.int .i64 x.source,.int .i64 x.seq,.int .i64 x.fO,.int .i64 x.dz,.int .i64 x.kind,.str x.aZ,.int .i64 x.day,.int .i64 x.inst,.int .i64 x.call,.int .i64 x.cA,.int .i64 x.aY,.bool x.free,.rs 5 (x.calls.map ai.pv)]=x.pv:=rfl
theorem IC(n a b:Int):cO [.int .i64 n,.int .i64 a,.int .i64 b]=some (.bool (wi n a b)):=by simp only[cO,ue,asInt,IS,U,bL];rfl
theorem abt(n:Int):cg [.int .i64 n]=some (.bool (wi n 0 36524)):=by simp only[cg,ud,asInt,IS,U,bL];rfl
def Dm(k:Int):PV:=.agg [.bool (decide (k=1)||decide (k=3)),.bool (decide (k=1)),.bool (decide (k=5)),.bool (decide (k=5)),.bool (decide (k=4)||decide (k=5))]
theorem adH(k:Int):pI [.int .i64 k]=some (Dm k):=by
 simp only[pI,xR,asInt,IS,U,dY];unfold Dm;by_cases h1:k=1
 ·subst h1;rfl
 ·by_cases h3:k=3
  ·subst h3;rfl
  ·by_cases h4:k=4
   ·subst h4;rfl
   ·by_cases h5:k=5
    ·subst h5;rfl
    ·simp[h1,h3,h4,h5]
theorem aj3(k:Int):asAgg 5 (Dm k)=some ():=rfl
theorem amf(k:Int):cell (Dm k) 0=.bool (decide (k=1)||decide (k=3)):=rfl
theorem amg(k:Int):cell (Dm k) 1=.bool (decide (k=1)):=rfl
theorem amh(k:Int):cell (Dm k) 2=.bool (decide (k=5)):=rfl
theorem ami(k:Int):cell (Dm k) 3=.bool (decide (k=5)):=rfl
theorem amj(k:Int):cell (Dm k) 4=.bool (decide (k=4)||decide (k=5)):=rfl
theorem adI(n:Nat):decide ((n:Int)>0)=decide (n>0):=by rw[anS];simp only[te];omega
theorem OA(m:bS)(h:m.Ok):dH [m.pv]=some (.int .i64 (gb m)):=by
 have hid:=tL m.aZ h.aZ;have iW:=wN m.calls 64 0 3155932800 h.calls.1;simp only[res]at iW;simp only[dH,qT,abg,abh,abi,abj,abk,abl,abm,abn,abo,abp,abq,Pu,Pv,abr,U,IC,abt,adH,aj3,asInt,bt,ak,IS,asBool,hid,aT,ame];unfold gb;simp only[te];cases wi m.source 0 7 with
 |false=>rfl
 |true=>
  by_cases h2:m.seq<1
  ·simp only[h2,IS,ag0,tc,anE,PS]
  simp only[h2,IS,ag0,tc,anE,PS];cases(!wi m.fO 0 3155932800|| !wi m.dz 0 3155932800||decide (m.fO≥m.dz))with
  |true=>rfl
  |false=>
   cases wi m.kind 1 6 with
   |false=>rfl
   |true=>
    cases dV m.aZ with
    |false=>rfl
    |true=>
     cases wi m.day 0 36524 with
     |false=>rfl
     |true=>
      by_cases h7:m.inst<0
      ·simp only[h7,IS,ag0,tc,anE,PS]
      simp only[h7,IS,ag0,tc,anE,PS];have e0:PV.agg [cell (Dm m.kind) 0,cell (Dm m.kind) 1,cell (Dm m.kind) 2,cell (Dm m.kind) 3,cell (Dm m.kind) 4]=Dm m.kind:=rfl;rw[e0];simp only[ma,pD,abg,abh,abi,abj,abk,abl,abm,abn,abo,abp,abq,Pu,Pv,abr,U,aj3,amf,amg,amh,ami,amj,IC,asBool,iW,cz,alx,anx,Nat.reduceAdd,IS,aki,amr,asInt,bt,ak,aT,bL,gd,By,adI];generalize (decide (m.kind=1)||decide (m.kind=3))=uC;generalize decide (m.kind=1)=uS;generalize decide (m.kind=5)=uR;generalize (decide (m.kind=4)||uR)=uL;generalize (bD m.calls 64 0 3155932800).2=e;cases(uC&& !wi m.call 0 31||uS&& !wi m.cA (-43200) 43200||uR&& !wi m.aY 0 63)with
      |true=>rfl
      |false=>
       cases uL with
       |true=>
        by_cases he:e=0
        ·subst he;cases(!uC&& !decide (m.call=0)|| !uS&& !decide (m.cA=0)|| !uR&& !decide (m.aY=0)|| !uR&&m.free|| !true&&decide (m.calls.length>0))<;>rfl
        ·simp[he]
       |false=>cases(!uC&& !decide (m.call=0)|| !uS&& !decide (m.cA=0)|| !uR&& !decide (m.aY=0)|| !uR&&m.free|| !false&&decide (m.calls.length>0))<;>rfl
theorem abu{R:Type}(l:List aX)(m:bS)(g:Nat→R)(fin:Option R):bP ((List.range l.length).findSome? fun k=>if decide ((l.map bG)[k]?=some m.key)=true then some (some (g k))else none) fin=(match Nj l m with|some k=>some (g k)|none=>fin):=by rw[nT (fun k=>decide ((l.map bG)[k]?=some m.key)) (fun k=>some (g k))];unfold Nj;cases(List.range l.length).find? (fun k=>decide ((l.map bG)[k]?=some m.key))<;>rfl
theorem adJ(l:List aX)(m:bS)(k:Nat)(hk:k<l.length):decide ((l.map bG)[k]?=some m.key)=(decide (l[k].id=m.aZ)&&decide (l[k].day=m.day)&&decide (l[k].inst=m.inst)):=by rw[anS];simp[ta hk,bG,bS.key,apP]
def Ud(l:List aX)(m:bS):PV:=match Nj l m with|some k=>.aV [.int .i64 k,.bool true]|none=>.aV [.int .i64 0,.bool false]
theorem Pw(N:ay)(m:bS)(hr:N.runs.length≤maxLen):eS [N.pv,m.pv]=some (Ud N.runs m):=by
 have hm:=aL;simp only[eS,pE,BQ,BR,BS,BT,BU,BV,BW,BX,BZ,B0,U];simp only[abg,abh,abi,abj,abk,abl,abm,abn,abo,abp,abq,Pu,Pv,abr,U,asInt,bt,ak,IS,asBool,By];generalize N.runs=l at hr⊢;have hs:=abu l m (fun k=>PV.aV [.int .i64 k,.bool true]) (some (PV.aV [.int .i64 0,.bool false]));have hR:(match Nj l m with|some k=>some (PV.aV [.int .i64 k,.bool true])|none=>some (PV.aV [.int .i64 0,.bool false]))=some (Ud l m):=by unfold Ud;cases Nj l m<;>rfl
 rw[←hR,←hs];refine aO (fun k=>(l.map aX.pv,(l.length:Int),(k:Int),m.source,m.seq,m.fO,m.dz,m.kind,m.aZ,m.day,m.inst,m.call,m.cA,m.aY,m.free,m.calls.map ai.pv,())) l.length _ (fun k hk rec=>?_) (fun rec=>?_) (by have:=aN;omega) rfl
 ·have h1:decide ((k:Int)<(l.length:Int))=true:=by simp;omega
  rw[adJ l m k hk];unfold pJ;dsimp only;rw[BY h1,af,AT,ta hk];simp only[No,U,HS,Ma,OB,asInt,bt,IS,dY,bL,ah (show k<9223372036854775807 by omega)];cases decide (l[k].id=m.aZ)&&decide (l[k].day=m.day)&&decide (l[k].inst=m.inst)<;>rfl
 ·unfold pJ;dsimp only;rw[IT (by simp)]
theorem agH(x:ai):cell x.pv 3=.bool x.FE:=rfl
theorem agI(x:ai):cell x.pv 4=.bool x.zU:=rfl
theorem aj4(x:ai):asAgg 5 x.pv=some ():=rfl
def Span(c:ai):Prop:=0≤c.arr∧c.arr≤c.dep∧c.dep≤kE
variable{c:ai}
theorem Co(h:Span c):0≤kY c∧kY c≤30:=by obtain⟨h1,h2,h3⟩:=h;unfold kY;split<;>omega
theorem wU:kE=3155932800:=rfl
theorem wrap_small{x:Int}(h1: -100000000000≤x)(h2:x≤100000000000):IntKind.i64.wrap x=x:=bp (by omega) (by omega)
theorem R0(h:Span c):qU [c.pv]=some (.int .i64 (kY c)):=by
 have:=wU;obtain⟨h1,h2,h3⟩:=h;simp only[qU,zP,aj4,zu,zw,uW,agH,agI,asInt,asBool,U,IS];rw[wrap_small (by omega) (by omega)];unfold kY;by_cases hd:c.dep-c.arr<30
 ·rw[IT (by omega),BY hd]
 ·rw[IT hd];by_cases he:30<c.dep-c.arr
  ·rw[BY he]
  ·rw[IT he];congr 2;omega
def FF(l:List ai)(k:Nat):Bool:=(l[k]?).elim false fun c=>decide (c.arr<((ku l k).map ai.dep).getD 0)||decide (c.dep<c.arr)||decide (c.dep>kE)
theorem Wm{R:Type}(l:List ai)(no fin:Option R):bP ((List.range l.length).findSome? fun k=>if FF l k=true then some no else none) fin=if Cl l=true then fin else no:=by
 rw[nT (FF l) (fun _=>no)];by_cases h:Cl l=true
 ·rw[BY h];have:(List.range l.length).find? (FF l)=none:=by rw[apj];intro k hk;have:=an7.1 h k hk;rw[an0]at hk;simp only[ta hk,aoH]at this;simp only[FF,ta hk,aoH];simpa using this
  rw[this];rfl
 ·rw[IT h];cases hf:(List.range l.length).find? (FF l)with
  |some k=>rfl
  |none=>exfalso;apply h;unfold Cl;rw[an7];intro k hk;have:=apj.1 hf k hk;rw[an0]at hk;simp only[FF,ta hk,aoH]at this;simp only[ta hk,aoH];simpa using this
variable{l:List ai}
theorem Gi(h:Cl l=true){k:Nat}(hk:k<l.length):((ku l k).map ai.dep).getD 0≤l[k].arr∧l[k].arr≤l[k].dep∧l[k].dep≤kE:=by have:=an7.1 h k (an0.2 hk);simp only[ta hk,aoH,anT,anL,anQ]at this;omega
theorem AF(h:Cl l=true):∀k,(hk:k<l.length)→Span l[k]:=by
 intro k;induction k with
 |zero=>intro hk;obtain⟨a,b,c⟩:=Gi h hk;exact⟨a,b,c⟩
 |succ k ih=>
  intro hk;obtain⟨a,b,c⟩:=Gi h hk;obtain⟨x,y,z⟩:=ih (by omega);have:((ku l (k+1)).map ai.dep).getD 0=(l[k]'(by omega)).dep:=by show((l[k]?).map ai.dep).getD 0=_;rw[ta (by omega)];rfl
  rw[this]at a;exact⟨by omega,b,c⟩
theorem MM(l:List ai)(hl:l.length≤maxLen):mN [.rs 5 (l.map ai.pv)]=some (.bool (Cl l)):=by
 have hm:=aL;simp only[mN,vQ,ak,IS,U,By];have hs:=Wm l (some (PV.bool false)) (some (PV.bool true));have hR:(if Cl l=true then some (PV.bool true)else some (PV.bool false))=some (.bool (Cl l)):=by cases Cl l<;>rfl
 rw[←hR,←hs];refine aO (fun k=>(((ku l k).map ai.dep).getD 0,l.map ai.pv,(l.length:Int),(k:Int),())) l.length _ (fun k hk rec=>?_) (fun rec=>?_) (by have:=aN;omega) rfl
 ·have h1:decide ((k:Int)<(l.length:Int))=true:=by simp;omega
  unfold qw;dsimp only;have hp:((ku l (k+1)).map ai.dep).getD 0=l[k].dep:=by show((l[k]?).map ai.dep).getD 0=_;rw[ta hk];rfl
  rw[BY h1,af,AT,ta hk];simp only[No,U,zw,uW,asInt,IS,aT,ah (show k<9223372036854775807 by omega),hp];have:FF l k=(decide (l[k].arr<((ku l k).map ai.dep).getD 0)||decide (l[k].dep<l[k].arr)||decide (l[k].dep>3155932800)):=by simp only[FF,ta hk,aoH];rfl
  rw[this];cases(decide (l[k].arr<((ku l k).map ai.dep).getD 0)||decide (l[k].dep<l[k].arr)||decide (l[k].dep>3155932800))<;>rfl
 ·unfold qw;dsimp only;rw[IT (by simp)]
theorem adK(h:Cl l=true){n:Nat}(hn:n<l.length){cA:Int}(h1: -43200≤cA)(h2:cA≤43200):0≤AR l n cA∧AR l n cA≤3200000000:=by
 obtain⟨a,b,c⟩:=AF h n hn;obtain⟨x,y,z⟩:=Gi h hn;have:=wU;have hb:0≤((ku l n).map ai.dep).getD 0:=by
  cases n with
  |zero=>exact Int.le_refl _
  |succ n=>show 0≤((l[n]?).map ai.dep).getD 0;rw[ta (by omega)];obtain⟨a,b,c⟩:=AF h n (by omega);show 0≤l[n].dep;omega
 unfold AR;rw[ta hn];simp only[No,anY];split<;>omega
theorem FG(c d:ai)(ds:List ai)(a:Int):nV (c::d::ds) a=if(late c a).dep>kE then none else(nV (d::ds) (d.arr+(late c a).dep-c.dep)).map fun r=>late c a::r:=by rw[nV]
theorem KS(c:ai)(a:Int):nV [c] a=if(late c a).dep>kE then none else some [late c a]:=by rw[nV]
theorem Wn(c:ai)(cs:List ai)(a:Int)(h:(late c a).dep>kE):nV (c::cs) a=none:=by
 cases cs with
 |nil=>rw[KS,BY h]
 |cons d ds=>rw[FG,BY h]
theorem abv{a:Int}(h:Span c)(h0:0≤a)(h1:a≤8000000000):0≤(late c a).dep∧(late c a).dep≤8000000030:=by obtain⟨p,q⟩:=Co h;obtain⟨x,y,z⟩:=h;have:=wU;show 0≤(if a+kY c>c.dep then a+kY c else c.dep)∧(if a+kY c>c.dep then a+kY c else c.dep)≤8000000030;split<;>omega
theorem KT{d:ai}{a:Int}(h:Span c)(hd:Span d)(hcd:c.dep≤d.arr)(h0:0≤a)(h1:¬(late c a).dep>kE):0≤d.arr+(late c a).dep-c.dep∧d.arr+(late c a).dep-c.dep≤8000000000:=by
 obtain⟨p,q⟩:=Co h;obtain⟨x,y,z⟩:=h;obtain⟨x',y',z'⟩:=hd;have:=wU;have hh:c.dep≤(late c a).dep:=by show c.dep≤if a+kY c>c.dep then a+kY c else c.dep;split<;>omega
 omega
theorem KU(h:Cl l=true):∀k,(hk:k+1<l.length)→(l[k]'(by omega)).dep≤l[k+1].arr:=by
 intro k hk;obtain⟨a,b,c⟩:=Gi h hk;have:((ku l (k+1)).map ai.dep).getD 0=(l[k]'(by omega)).dep:=by show((l[k]?).map ai.dep).getD 0=_;rw[ta (by omega)];rfl
 rw[this]at a;exact a
theorem KV(l:List ai)(hl:l.length≤1000000):gF [.rs 5 (l.map ai.pv)]=some (.rs 5 (l.map ai.pv)):=by
 have hb:1000000*32≤aa:=by decide
 simp only[gF,vz,ak,IS,U,By];rw[BY (by refine⟨by omega,by omega,?_,by decide,by decide⟩;rw[agY];omega)];congr 2;rw[agY,aoc,anZ (by simp),aoW (by simp),aof]
theorem abw(x:aX):bW 5 (cell x.vi 7)=some (x.calls.map ai.pv):=rfl
def outs(pre:List ai)(l:List ai)(k:Nat):List PV:=pre.map ai.pv++(l.drop k).map ai.pv
theorem abx(pre l:List ai)(k:Nat)(hp:pre.length=k)(hk:k≤l.length):(outs pre l k).length=l.length:=by unfold outs;simp;omega
theorem aby(pre l:List ai)(k:Nat)(hp:pre.length=k)(hk:k<l.length):(outs pre l k)[k]?=some l[k].pv:=by unfold outs;rw[aov (by simp;omega)];simp[hp,ta hk]
theorem abz(pre l:List ai)(k:Nat)(hp:pre.length=k)(hk:k<l.length)(x:ai):(outs pre l k).set k x.pv=outs (pre++[x]) l (k+1):=by
 unfold outs;rw[aqE _ _ (by simp;omega)];have h0:k-(pre.map ai.pv).length=0:=by simp;omega
 rw[h0,aoj hk,anB,List.set_cons_zero,anU,an1];rfl
variable{S R:Type}
theorem R1{body:S→(S→Option R)→Option R}(st:Int→Nat→List PV→S)(l:List ai)(i:Nat)(err:Option R)(fin:List PV→Option R)(Hx:∀k a out rec,k<i→k<l.length→body (st a k out) rec=rec (st a (k+1) out))(q7:∀k a pre rec,i≤k→(hk:k<l.length)→pre.length=k→0≤a→a≤8000000000→body (st a k (outs pre l k)) rec=if(late l[k] a).dep>kE then err else if h:k+1<l.length then rec (st (l[k+1].arr+(late l[k] a).dep-l[k].dep) (k+1) (outs (pre++[late l[k] a]) l (k+1)))else rec (st a (k+1) (outs (pre++[late l[k] a]) l (k+1))))(lZ:∀a out rec,body (st a l.length out) rec=fin out)(rD:∀k,(hk:k<l.length)→Span l[k])(hor:∀k,(hk:k+1<l.length)→(l[k]'(by omega)).dep≤l[k+1].arr)(hi:i<l.length)(hl:l.length+1<rounds)(a:Int)(h0:0≤a)(h1:a≤8000000000):bd.run body (st a 0 (l.map ai.pv))=match nV (l.drop i) a with|some r=>fin ((l.take i++r).map ai.pv)|none=>err:=by
 rw[lv];have hA:∀k,k≤i→∀fu,bX body (k+fu) (st a (i-k) (l.map ai.pv))=bX body fu (st a i (l.map ai.pv)):=by
  intro k;induction k with
  |zero=>intro _ fu;rw[aoy];rfl
  |succ k ih=>intro hk fu;rw[show k+1+fu=(k+fu)+1 by omega,bX,Hx (i-(k+1)) a _ _ (by omega) (by omega),show i-(k+1)+1=i-k by omega];exact ih (by omega) fu
 have hB:∀(j:Nat)(k:Nat)(a:Int)(pre:List ai)(fu:Nat),k+j=l.length→i≤k→j<fu→0≤a→a≤8000000000→pre.length=k→bX body fu (st a k (outs pre l k))=match nV (l.drop k) a with|some r=>fin ((pre++r).map ai.pv)|none=>err:=by
  intro j;induction j with
  |zero=>
   intro k a pre fu hk I9 hf _ _ hp;obtain⟨fu,rfl⟩:∃f,fu=f+1:=⟨fu-1,by omega⟩;have kh:k=l.length:=by omega
   subst kh;rw[bX,lZ,List.drop_length];simp[nV,outs]
  |succ j ih=>
   intro k a pre fu hk I9 hf ha0 YZ hp;obtain⟨fu,rfl⟩:∃f,fu=f+1:=⟨fu-1,by omega⟩;have kh:k<l.length:=by omega
   have hc:=rD k kh;rw[bX,q7 k a pre _ I9 kh hp ha0 YZ,aoj kh];by_cases vE:(late l[k] a).dep>kE
   ·rw[BY vE,Wn _ _ _ vE]
   ·rw[IT vE];by_cases hn:k+1<l.length
    ·rw[aqY hn];obtain⟨n0,n1⟩:=KT hc (rD (k+1) hn) (hor k hn) ha0 vE;rw[ih (k+1) _ _ fu (by omega) (by omega) (by omega) n0 n1 (by simp[hp]),aoj hn,FG,IT vE];cases nV (l[k+1]::l.drop (k+1+1)) (l[k+1].arr+(late l[k] a).dep-l[k].dep)with
     |none=>rfl
     |some r=>simp
    ·rw[dif_neg hn];have hj:j=0:=by omega
     subst hj;obtain⟨fu,rfl⟩:∃f,fu=f+1:=⟨fu-1,by omega⟩;have agF:k+1=l.length:=by omega
     rw[bX,aoW (by omega),KS,IT vE];have:=lZ a (outs (pre++[late l[k] a]) l (k+1)) (bX body fu);rw[←agF]at this;rw[this];simp[outs,aoW (show l.length≤k+1 by omega)]
 have e1:bd.run body (st a 0 (l.map ai.pv))=bX body rounds (st a 0 (l.map ai.pv)):=rfl;have e2:=hA i (anz _) (rounds-i);rw[aqQ,show i+(rounds-i)=rounds by omega]at e2;rw[e2];have e3:l.map ai.pv=outs (l.take i) l i:=by unfold outs;rw[←anU,aoN]
 rw[e3];exact hB (l.length-i) i a (l.take i) (rounds-i) (by omega) (anz _) (by omega) h0 h1 (by simp;omega)
theorem agJ{body:S→(S→Option R)→Option R}(st:Nat→Nat→List PV→S)(l:List aD)(p:aD→Bool)(out:List PV→Option R)(q7:∀j i x rec,(hi:i<l.length)→x.length=l.length→j≤i→x[i]?=some l[i].pv→body (st j i x) rec=if p l[i]=true then rec (st (j+1) (i+1) (x.set j l[i].pv))else rec (st j (i+1) x))(lZ:∀j x rec,x.length=l.length→j≤l.length→body (st j l.length x) rec=out (x.take j)):∀n j i x fu,i+n=l.length→j≤i→x.length=l.length→x.take j=((l.take i).filter p).map aD.pv→x.drop i=(l.drop i).map aD.pv→n<fu→bX body fu (st j i x)=out ((l.filter p).map aD.pv):=by
 intro n;induction n with
 |zero=>
  intro j i x fu hi hj hx ht hd hf;obtain⟨fu,rfl⟩:∃f,fu=f+1:=⟨fu-1,by omega⟩;have:i=l.length:=by omega
  subst this;rw[bX,lZ j x _ hx hj,ht,aoe]
 |succ n ih=>
  intro j i x fu hi hj hx ht hd hf;obtain⟨fu,rfl⟩:∃f,fu=f+1:=⟨fu-1,by omega⟩;have I7:i<l.length:=by omega
  have eE:x[i]?=some l[i].pv:=by have:=congrArg (fun y=>y[0]?) hd;simpa[List.getElem?_drop,I7]using this
  have WR:x.drop (i+1)=(l.drop (i+1)).map aD.pv:=by rw[←ao1,hd,←aqO,ao1]
  rw[bX,q7 j i x _ I7 hx hj eE];by_cases hp:p l[i]=true
  ·rw[BY hp];refine ih (j+1) (i+1) _ fu (by omega) (by omega) (by rw[aoA,hx]) ?_ ?_ (by omega)
   ·rw[anw I7,aoG,anU,←ht];simp only[aqo,hp,IS,aqz,anB,apo];have yD:j<(x.set j l[i].pv).length:=by rw[aoA];omega
    rw[anw yD,aqD,List.take_set_of_le (anz j)]
   ·rw[List.drop_set_of_lt (by omega),WR]
  ·rw[IT hp];refine ih j (i+1) x fu (by omega) (by omega) hx ?_ WR (by omega);rw[anw I7,aoG,anU,←ht];simp[hp]
theorem agK{S':Type}{body:S→(S→Option R)→Option R}{body3:S'→(S'→Option R)→Option R}(st:Nat→S)(st3:Nat→Nat→List PV→S')(l:List aD)(p:aD→Bool)(out:List PV→Option R)(agL:∀j i x rec,(hi:i<l.length)→x.length=l.length→j≤i→x[i]?=some l[i].pv→body3 (st3 j i x) rec=if p l[i]=true then rec (st3 (j+1) (i+1) (x.set j l[i].pv))else rec (st3 j (i+1) x))(aj5:∀j x rec,x.length=l.length→j≤l.length→body3 (st3 j l.length x) rec=out (x.take j))(q7:∀k rec,(hk:k<l.length)→body (st k) rec=if p l[k]=true then rec (st (k+1))else bd.run body3 (st3 k (k+1) (l.map aD.pv)))(lZ:∀rec,body (st l.length) rec=out (l.map aD.pv))(hl:l.length+1<rounds):bd.run body (st 0)=out ((l.filter p).map aD.pv):=by
 have:∀n k fu,k+n=l.length→n<fu→(l.take k).filter p=l.take k→bX body fu (st k)=out ((l.filter p).map aD.pv):=by
  intro n;induction n with
  |zero=>
   intro k fu hk hf ht;obtain⟨fu,rfl⟩:∃f,fu=f+1:=⟨fu-1,by omega⟩;have:k=l.length:=by omega
   subst this;rw[aoe]at ht;rw[bX,lZ,ht]
  |succ n ih=>
   intro k fu hk hf ht;obtain⟨fu,rfl⟩:∃f,fu=f+1:=⟨fu-1,by omega⟩;have kh:k<l.length:=by omega
   rw[bX,q7 k _ kh];by_cases hp:p l[k]=true
   ·rw[BY hp];refine ih (k+1) fu (by omega) (by omega) ?_;rw[anw kh,aoG,ht];simp[hp]
   ·rw[IT hp,lv];refine agJ st3 l p out agL aj5 (l.length-(k+1)) k (k+1) _ rounds (by omega) (by omega) (by simp) ?_ (by rw[aqO]) (by omega);rw[anw kh,aoG,ht,←aps];simp[hp]
 rw[lv];exact this l.length 0 rounds (by omega) (by omega) (by simp)
structure WY(N:ay):Prop where
 ok:N.Ok
 stops:N.stops.length≤1000
 ae:N.ae.length≤1000
 runs:N.runs.length≤1024
 ar:N.ar.length≤1024
 paths:N.paths.length≤8192
 av:N.av.length≤1000
 calls:∀r∈N.runs,r.calls.length≤1000
def z9:PV:=.agg [.rs 0 [],.rs 0 [],.rs 0 [],.rs 0 [],.rs 0 [],.rs 0 [],.int .i64 0,.int .i64 0,.int .i64 0]
end Go.Ab.Tt
