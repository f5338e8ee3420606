import Derived.Test.YtcmhmlnkhmefbaaGreatNkP2
namespace Go.Ab.Tt
set_option maxRecDepth 100000
set_option linter.unusedVariables false
set_option linter.unusedSimpArgs false
structure gC where
 source:Int
 seq:Int
 lL:Int
 iH:Int
 kind:Int
 dw:Bytes
 day:Int
 inst:Int
 call:Int
 bS:Int
 bj:Int
 free:Bool
 calls:List aw
 deriving DecidableEq
def gC.pv(x:gC):PV:=.agg [.int .i64 x.source,.int .i64 x.seq,.int .i64 x.lL,.int .i64 x.iH,.int .i64 x.kind,.str x.dw,.int .i64 x.day,.int .i64 x.inst,.int .i64 x.call,.int .i64 x.bS,.int .i64 x.bj,.bool x.free,.rs 5 (x.calls.map aw.pv)]
structure gC.js(M:Nat)(x:gC):Prop where
 source:jV x.source
 seq:jV x.seq
 lL:jV x.lL
 iH:jV x.iH
 kind:jV x.kind
 dw:x.dw.length≤M
 day:jV x.day
 inst:jV x.inst
 call:jV x.call
 bS:jV x.bS
 bj:jV x.bj
 calls:x.calls.length≤M∧∀y∈x.calls,y.js M
abbrev gC.Ok(x:gC):Prop:=x.js maxLen
def gC.key(x:gC):Bytes×Int×Int:=(x.dw,x.day,x.inst)
def vO(l:List bx)(m:gC):Option Nat:=(List.range l.length).find? fun k=>decide ((l.map bf)[k]?=some m.key)
theorem xD{l:List bx}{m:gC}{k:Nat}(h:vO l m=some k):∃hk:k<l.length,bf l[k]=m.key∧∀j,(hj:j<k)→bf (l[j]'(by omega))≠m.key:=by
 unfold vO at h;rw[List.find?_range_eq_some]at h;obtain⟨h1,h2,h3⟩:=h;have hk:k<l.length:=by simpa using h2
 refine⟨hk,?_,fun j hj hc=>?_⟩
 ·simpa[List.getElem?_eq_getElem hk]using h1
 ·have:=h3 j hj;simp[List.getElem?_eq_getElem (show j<l.length by omega),hc]at this
theorem HB{l:List bx}{m:gC}(h:vO l m=none):m.key∉l.map bf:=by
 unfold vO at h;rw[List.find?_eq_none]at h;intro hm;obtain⟨k,hk⟩:=List.mem_iff_getElem?.1 hm;have jE:k<l.length:=by have:=(List.getElem?_eq_some_iff.1 hk).1;simpa using this
 exact h k (by simpa using jE) (by simpa using hk)
def hT:Int:=3155932800
def sX(l:List aw):Bool:=(List.range l.length).all fun k=>(l[k]?).elim true fun c=> !(decide (c.arr<((iD l k).map aw.dep).getD 0)||decide (c.dep<c.arr)||decide (c.dep>hT))
def hU(c:aw):Int:=if c.dep-c.arr<30 then c.dep-c.arr else 30
def late(c:aw)(K0:Int):aw:={c with arr:=K0,dep:=if K0+hU c>c.dep then K0+hU c else c.dep}
def gb:List aw→Int→Option (List aw)
 |[],_=>some []
 |c::cs,a=>if(late c a).dep>hT then none else
  match cs with
  |[]=>some [late c a]
  |d::ds=>(gb (d::ds) (d.arr+(late c a).dep-c.dep)).map fun r=>late c a::r
def mI(l:List aw)(n:Nat)(bS:Int):Int:=
 let before:=((iD l n).map aw.dep).getD 0
 let x:=((l[n]?).map aw.arr).getD 0+bS
 if x<before then before else x
def prop(l:List aw)(n:Int)(bS:Int):Option (List aw)×Int:=
 if n<0∨n≥(l.length:Int)then(none,1)else if bS< -43200∨bS>43200 then(none,2)else if sX l=false then(none,10)
 else match gb (l.drop n.toNat) (mI l n.toNat bS)with
 |some r=>(some (l.take n.toNat++r),0)
 |none=>(none,10)
end Go.Ab.Tt
namespace Go.Ab.Tt
set_option maxRecDepth 100000
set_option linter.unusedVariables false
set_option linter.unusedSimpArgs false
theorem mV(N:af):(dD N).2.2=0↔(gQ N.stops).2=0∧(fv N.ae).2=0∧(gg N.runs N.stops.length N.ae.length).2=0∧(gY N.runs N.ah).2=0∧(cX N.paths N.stops.length).2=0∧(dK N.ar N.aO N.within N.cap).2=0:=by
 unfold dD;by_cases h1:(gQ N.stops).2=0
 ·rw[if_pos h1];by_cases h2:(fv N.ae).2=0
  ·rw[if_pos h2];by_cases h3:(gg N.runs N.stops.length N.ae.length).2=0
   ·rw[if_pos h3];by_cases h4:(gY N.runs N.ah).2=0
    ·rw[if_pos h4];by_cases h5:(cX N.paths N.stops.length).2=0
     ·rw[if_pos h5];by_cases h6:(dK N.ar N.aO N.within N.cap).2=0
      ·rw[if_pos h6];simp[h1,h2,h3,h4,h5,h6]
      ·rw[if_neg h6];simp[h6]
     ·rw[if_neg h5];simp[h5]
    ·rw[if_neg h4];simp[h4]
   ·rw[if_neg h3];simp[h3]
  ·rw[if_neg h2];simp[h2]
 ·rw[if_neg h1];simp[h1]
def xE(x:bx)(stops ae:Int):Int:=
 if eP x.id=false then 12 else if(decide (x.dw< -1)||decide (x.inst<0))=true then 2
 else if(decide (x.day<0)||decide (x.day>36524))=true then 11 else if(decide (x.bj<0)||decide (x.bj≥ae))=true then 9
 else(br x.calls stops 0 3155932800).2
theorem zU(l:List bx)(s r:Int)(k:Nat)(hk:k<l.length):iZ l s r k=0↔xE l[k] s r=0∧bf l[k]∉(l.map bf).take k:=by
 unfold iZ xE;rw[List.getElem?_eq_getElem hk];simp only;by_cases h1:eP l[k].id=false
 ·rw[if_pos h1,if_pos h1];simp
 ·rw[if_neg h1,if_neg h1];by_cases h2:(decide (l[k].dw< -1)||decide (l[k].inst<0))=true
  ·rw[if_pos h2,if_pos h2];simp
  ·rw[if_neg h2,if_neg h2];by_cases h3:(decide (l[k].day<0)||decide (l[k].day>36524))=true
   ·rw[if_pos h3,if_pos h3];simp
   ·rw[if_neg h3,if_neg h3];by_cases h4:(decide (l[k].bj<0)||decide (l[k].bj≥r))=true
    ·rw[if_pos h4,if_pos h4];simp
    ·rw[if_neg h4,if_neg h4];by_cases h5:(br l[k].calls s 0 3155932800).2=0
     ·rw[if_pos h5];by_cases h6:bf l[k]∈(l.map bf).take k
      ·simp[h6]
      ·simp[h6,h5]
     ·rw[if_neg h5];simp[h5]
theorem nL(l:List bx)(s r:Int):(gg l s r).2=0↔l.length≤1024∧∀k,(hk:k<l.length)→xE l[k] s r=0∧bf l[k]∉(l.map bf).take k:=by
 unfold gg;by_cases h:l.length>1024
 ·rw[if_pos h];constructor
  ·intro hc;cases hc
  ·rintro⟨h1,_⟩;omega
 ·rw[if_neg h,mf];constructor
  ·intro h0;exact⟨by omega,fun k hk=>(zU l s r k hk).1 (h0 k hk)⟩
  ·rintro⟨_,h0⟩ k hk;exact(zU l s r k hk).2 (h0 k hk)
theorem Sr{l:List bx}{s r:Int}{i:Nat}{x:bx}(hi:i<l.length)(hk:bf x=bf l[i])(hx:xE x s r=0)(h:(gg l s r).2=0):(gg (l.set i x) s r).2=0:=by
 rw[nL]at h⊢;have hm:(l.set i x).map bf=l.map bf:=by rw[List.map_set,hk,←List.getElem_map bf (h:=by simpa using hi),List.set_getElem_self]
 refine⟨by rw[List.length_set];exact h.1,fun k kN=>?_⟩;have Yb:k<l.length:=by simpa using kN
 rw[hm];obtain⟨h1,h2⟩:=h.2 k Yb;by_cases zS:i=k
 ·subst zS;rw[List.getElem_set_self];exact⟨hx,by rw[hk];exact h2⟩
 ·rw[List.getElem_set_ne zS];exact⟨h1,h2⟩
theorem Ss{l:List bx}{s r:Int}{x:bx}(hk:bf x∉l.map bf)(hx:xE x s r=0)(hl:l.length<1024)(h:(gg l s r).2=0):(gg (l++[x]) s r).2=0:=by
 rw[nL]at h⊢;refine⟨by simp;omega,fun k kN=>?_⟩;simp only[List.length_append,List.length_cons,List.length_nil]at kN;rw[List.map_append];by_cases bt:k<l.length
 ·rw[List.getElem_append_left bt,List.take_append_of_le_length (by simp;omega)];exact h.2 k bt
 ·have:k=l.length:=by omega
  subst this;rw[List.getElem_append_right (Nat.le_refl _)];simp only[Nat.sub_self,List.getElem_cons_zero];refine⟨hx,?_⟩;rw[List.take_append_of_le_length (by simp),List.take_of_length_le (by simp)];exact hk
def D5(runs:List bx)(p:List aH)(x:aH):Int:=
 if ue x runs.length=true then 9 else if uf x (aC runs x.a).length (aC runs x.b).length=true then 9
 else if e8 (aC runs x.a) x.ac≠e8 (aC runs x.b) x.bc then 13 else if pf p x (aC runs x.a).length=true then 19
 else if cn x∈p.map cn then 6 else 0
theorem D6(runs:List bx)(l:List aH)(k:Nat)(hk:k<l.length):cE runs l k=D5 runs (l.take k) l[k]:=by unfold cE D5;rw[List.getElem?_eq_getElem hk,List.map_take]
def sO(runs:List bx)(l:List aH):Prop:=∀k,(hk:k<l.length)→D5 runs (l.take k) l[k]=0
theorem qN(runs:List bx)(l:List aH):(gY runs l).2=0↔l.length≤1024∧sO runs l:=by
 unfold gY sO;by_cases h:l.length>1024
 ·rw[if_pos h];constructor
  ·intro hc;cases hc
  ·rintro⟨h1,_⟩;omega
 ·rw[if_neg h,mf];constructor
  ·intro h0;exact⟨by omega,fun k hk=>by rw[←D6];exact h0 k hk⟩
  ·rintro⟨_,h0⟩ k hk;rw[D6 runs l k hk];exact h0 k hk
theorem Pk(runs:List bx):sO runs []:=fun k hk=>by simp at hk
theorem wC(runs:List bx)(p:List aH)(x:aH):sO runs (p++[x])↔sO runs p∧D5 runs p x=0:=by
 constructor
 ·intro h;refine⟨fun k hk=>?_,?_⟩
  ·have:=h k (by simp;omega);rw[List.getElem_append_left hk,List.take_append_of_le_length (by omega)]at this;exact this
  ·have:=h p.length (by simp);rw[List.getElem_append_right (Nat.le_refl _),List.take_append_of_le_length (Nat.le_refl _),List.take_length]at this;simpa using this
 ·rintro⟨h1,h2⟩ k hk;simp only[List.length_append,List.length_cons,List.length_nil]at hk;by_cases bt:k<p.length
  ·rw[List.getElem_append_left bt,List.take_append_of_le_length (by omega)];exact h1 k bt
  ·have:k=p.length:=by omega
   subst this;rw[List.getElem_append_right (Nat.le_refl _),List.take_append_of_le_length (Nat.le_refl _),List.take_length];simpa using h2
theorem sB(runs:List bx)(p:List aH)(x:aH):D5 runs p x=0↔ue x runs.length=false∧uf x (aC runs x.a).length (aC runs x.b).length=false∧e8 (aC runs x.a) x.ac=e8 (aC runs x.b) x.bc∧pf p x (aC runs x.a).length=false∧cn x∉p.map cn:=by
 unfold D5;cases ue x runs.length with
 |true=>simp
 |false=>
  cases uf x (aC runs x.a).length (aC runs x.b).length with
  |true=>simp
  |false=>
   by_cases h3:e8 (aC runs x.a) x.ac=e8 (aC runs x.b) x.bc
   ·cases pf p x (aC runs x.a).length with
    |true=>simp[h3]
    |false=>
     by_cases h5:cn x∈p.map cn
     ·simp[h3,h5]
     ·simp[h3,h5]
   ·simp[h3]
theorem Ct{x:aH}{R:Int}(h:ue x R=false):(0≤x.a∧x.a<R)∧(0≤x.b∧x.b<R)∧x.a≠x.b:=by unfold ue at h;simp only[Bool.or_eq_false_iff,Bool.not_eq_false',Bool.and_eq_true,decide_eq_true_eq,decide_eq_false_iff_not]at h;exact⟨h.1.1,h.1.2,h.2⟩
variable{runs zV:List bx}
theorem pt{l:List aH}(h:sO runs l)(hR:runs.length≤zV.length)(hc:∀x∈l,∀v,v=x.a∨v=x.b→(aC zV v).length=(aC runs v).length∧∀c,e8 (aC zV v) c=e8 (aC runs v) c):sO zV l:=by intro k hk;have h0:=h k hk;rw[sB]at h0⊢;obtain⟨h1,h2,h3,h4,h5⟩:=h0;obtain⟨ea,sa⟩:=hc _ (List.getElem_mem hk) _ (Or.inl rfl);obtain⟨eb,sb⟩:=hc _ (List.getElem_mem hk) _ (Or.inr rfl);rw[ea,eb,sa,sb];refine⟨?_,h2,h3,h4,h5⟩;obtain⟨g1,g2,g3⟩:=Ct h1;unfold ue;simp only[Bool.or_eq_false_iff,Bool.not_eq_false',Bool.and_eq_true,decide_eq_true_eq,decide_eq_false_iff_not];exact⟨⟨⟨g1.1,by omega⟩,⟨g2.1,by omega⟩⟩,g3⟩
theorem zW{p:List aH}{x:aH}{A:Int}(h:pf p x A=false):x.stay=false∨(x.ac+1=A∧x.bc=0∧nx p x.a=none∧x.b∉jK p∧ly p x.b x.a (p.length+1)=false):=by
 unfold pf at h;cases hs:x.stay with
 |false=>exact Or.inl rfl
 |true=>
  rw[hs,Bool.true_and]at h;simp only[Bool.or_eq_false_iff,Bool.not_eq_false',decide_eq_true_eq,decide_eq_false_iff_not]at h;obtain⟨⟨⟨⟨h1,h2⟩,h3⟩,h4⟩,h5⟩:=h;refine Or.inr ⟨h1,h2,?_,h4,h5⟩;cases hn:nx p x.a with
  |none=>rfl
  |some w=>rw[hn]at h3;cases h3
theorem ab0(l:List aH)(h:sO runs l):∀x∈l,x.stay=true→nx l x.a=some x.b:=by
 induction l using uc with
 |h0=>intro x hx;cases hx
 |h1 p y ih=>
  rw[wC]at h;obtain⟨hp,hy⟩:=h;rw[sB]at hy;intro x hx hs;rw[pW];rcases List.mem_append.1 hx with hx|hx
  ·have h1:=ih hp x hx hs;by_cases hc:(y.stay&&decide (y.a=x.a))=true
   ·simp only[Bool.and_eq_true,decide_eq_true_eq]at hc;rcases zW hy.2.2.2.1 with h2|h2
    ·rw[h2]at hc;cases hc.1
    ·rw[hc.2]at h2;rw[h1]at h2;cases h2.2.2.1
   ·rw[if_neg hc];exact h1
  ·rw[List.mem_singleton]at hx;subst hx;rw[if_pos (by simp[hs])]
theorem Fl(f:aH→Bool)(l:List aH)(h:sO runs l)(hR:runs.length≤zV.length)(hc:∀x∈l,f x=true→∀v,v=x.a∨v=x.b→(aC zV v).length=(aC runs v).length∧∀c,e8 (aC zV v) c=e8 (aC runs v) c):sO zV (l.filter f):=by
 refine pt (runs:=runs) ?_ hR (fun x hx=>hc x (List.mem_filter.1 hx).1 (List.mem_filter.1 hx).2);clear hc hR;induction l using uc with
 |h0=>exact Pk runs
 |h1 p x ih=>
  rw[wC]at h;obtain⟨hp,hx⟩:=h;rw[List.filter_append];by_cases hf:f x=true
  ·rw[List.filter_cons_of_pos hf,List.filter_nil,wC];refine⟨ih hp,?_⟩;rw[sB]at hx⊢;obtain⟨h1,h2,h3,h4,h5⟩:=hx;have Oh:∀y∈p.filter f,y∈p:=fun y hy=>(List.mem_filter.1 hy).1;refine⟨h1,h2,h3,?_,fun hm=>h5 ?_⟩
   ·rcases zW h4 with hs|⟨g1,g2,g3,g4,g5⟩
    ·unfold pf;rw[hs];rfl
    ·have hnx:∀v w,nx (p.filter f) v=some w→nx p v=some w:=fun v w M0=>by obtain⟨y,hy,Y3,rfl,rfl⟩:=KF M0;exact ab0 p hp y (Oh y hy) Y3
     have hit:∀t v w,it (nx (p.filter f)) t v=some w→it (nx p) t v=some w:=by
      intro t;induction t with
      |zero=>intro v w h;exact h
      |succ t iht=>
       intro v w M0;have UT:(nx (p.filter f) v).bind (it (nx (p.filter f)) t)=some w:=M0;cases hn:nx (p.filter f) v with
       |none=>rw[hn]at UT;cases UT
       |some u=>rw[hn]at UT;show(nx p v).bind (it (nx p) t)=some w;rw[hnx v u hn];exact iht u w UT
     have k1:(nx (p.filter f) x.a).isSome=false:=by
      cases hn:nx (p.filter f) x.a with
      |none=>rfl
      |some w=>rw[hnx _ _ hn]at g3;cases g3
     have k2:decide (x.b∈jK (p.filter f))=false:=by rw[decide_eq_false_iff_not];intro hm;apply g4;unfold jK at hm⊢;obtain⟨y,hy,hyb⟩:=List.mem_map.1 hm;obtain⟨hy1,hy2⟩:=List.mem_filter.1 hy;exact List.mem_map.2 ⟨y,List.mem_filter.2 ⟨Oh y hy1,hy2⟩,hyb⟩
     have k3:ly (p.filter f) x.b x.a ((p.filter f).length+1)=false:=by unfold ly at g5⊢;rw[List.any_eq_false]at g5⊢;intro t ht hc;have hle:=List.length_filter_le f p;refine g5 t (by simp at ht⊢;omega) ?_;rw[decide_eq_true_eq]at hc⊢;exact hit _ _ _ hc
     unfold pf;rw[k1,k2,k3,g1,g2];simp
   ·obtain⟨y,hy,hk⟩:=List.mem_map.1 hm;exact List.mem_map.2 ⟨y,Oh y hy,hk⟩
  ·rw[List.filter_cons_of_neg hf,List.filter_nil,List.append_nil];exact ih hp
end Go.Ab.Tt
namespace Go.Ab.Tt
set_option maxRecDepth 100000
set_option linter.unusedVariables false
set_option linter.unusedSimpArgs false
def F0(n a b:Int):Option aw→List aw→Prop
 |_,[]=>True
 |p,c::cs=>lr c p n a b=0∧F0 n a b (some c) cs
theorem Np(n a b:Int)(l:List aw):∀p,F0 n a b p l↔∀k,(hk:k<l.length)→lr l[k] (if k=0 then p else l[k-1]?) n a b=0:=by
 induction l with
 |nil=>intro p;exact⟨fun _ k hk=>by simp at hk,fun _=>trivial⟩
 |cons c cs ih=>
  intro p;show(lr c p n a b=0∧F0 n a b (some c) cs)↔_;rw[ih];constructor
  ·rintro⟨h1,h2⟩ k hk;cases k with
   |zero=>exact h1
   |succ k=>
    have:=h2 k (by simpa using hk);cases k with
    |zero=>simpa using this
    |succ k=>simpa using this
  ·intro h;refine⟨h 0 (Nat.zero_lt_succ _),fun k hk=>?_⟩;have:=h (k+1) (by simpa using hk);cases k with
   |zero=>simpa using this
   |succ k=>simpa using this
theorem uw(l:List aw)(n a b:Int):(br l n a b).2=0↔2≤l.length∧l.length≤32∧F0 n a b none l:=by
 have he:(∀k,k<l.length→mA l n a b k=0)↔F0 n a b none l:=by
  rw[Np];constructor
  ·intro h k hk;have:=h k hk;unfold mA at this;rw[List.getElem?_eq_getElem hk]at this;cases k with
   |zero=>exact this
   |succ k=>exact this
  ·intro h k hk;have:=h k hk;unfold mA;rw[List.getElem?_eq_getElem hk];cases k with
   |zero=>exact this
   |succ k=>exact this
 rw[←he];constructor
 ·intro h;exact⟨(uj h).1,(uj h).2,zP h⟩
 ·rintro⟨h1,h2,h3⟩;unfold br;rw[if_neg (by simp;omega)];exact(mf _ _).2 h3
theorem wE(n a b:Int)(l1 l2:List aw):∀p,F0 n a b p (l1++l2)↔F0 n a b p l1∧F0 n a b (if l1.length=0 then p else l1[l1.length-1]?) l2:=by
 induction l1 with
 |nil=>intro p;simp[F0]
 |cons c cs ih=>
  intro p;show(lr c p n a b=0∧F0 n a b (some c) (cs++l2))↔(lr c p n a b=0∧F0 n a b (some c) cs)∧_;rw[ih,and_assoc];have:(if(c::cs).length=0 then p else(c::cs)[(c::cs).length-1]?)=if cs.length=0 then some c else cs[cs.length-1]?:=by
   cases cs with
   |nil=>rfl
   |cons d ds=>simp
  rw[this]
variable{p:Option aw}
theorem Cu{c:aw}{n a b:Int}(h1:0≤c.stop)(h2:c.stop<n)(h3:∀q,p=some q→q.stop≠c.stop)(h4:a≤c.arr)(h5:c.arr≤c.dep)(h6:c.dep≤b)(h7:∀q,p=some q→q.dep≤c.arr):lr c p n a b=0:=by
 unfold lr;rw[if_neg (by simp;omega)];cases p with
 |none=>dsimp only;rw[if_neg (by simp),if_neg (by simp;omega)]
 |some q=>dsimp only;have:=h3 q rfl;have:=h7 q rfl;rw[if_neg (by simpa using h3 q rfl),if_neg (by simp;omega)]
theorem sC{c:aw}{n a b:Int}(h:lr c p n a b=0):0≤c.stop∧c.stop<n∧∀q,p=some q→q.stop≠c.stop:=by
 unfold lr at h;by_cases hA:(decide (c.stop<0)||decide (c.stop≥n))=true
 ·rw[if_pos hA]at h;cases h
 ·rw[if_neg hA]at h;simp only[Bool.or_eq_true,decide_eq_true_eq,not_or]at hA;refine⟨by omega,by omega,fun q hq hc=>?_⟩;subst hq;dsimp only at h;rw[if_pos (by simpa using hc)]at h;cases h
theorem St(n:Int)(cs:List aw):∀(a:Int)(p:Option aw)(r:List aw),F0 n 0 hT p cs→gb cs a=some r→(∀q,p=some q→q.dep≤a)→0≤a→F0 n 0 hT p r∧r.map aw.stop=cs.map aw.stop:=by
 induction cs with
 |nil=>intro a p r _ hr _ _;simp only[gb,Option.some.injEq]at hr;subst hr;exact⟨trivial,rfl⟩
 |cons c cs ih=>
  intro a p r vi hr hp ha;obtain⟨hc,ID⟩:=vi;obtain⟨g1,g2,g3⟩:=sC hc;obtain⟨k1,k2,k3,k4⟩:=pj hc;have hd:0≤hU c:=by unfold hU;split<;>omega
  have aeM:a≤(late c a).dep:=by show a≤if a+hU c>c.dep then a+hU c else c.dep;split<;>omega
  have hcd:c.dep≤(late c a).dep:=by show c.dep≤if a+hU c>c.dep then a+hU c else c.dep;split<;>omega
  unfold gb at hr;by_cases ux:(late c a).dep>hT
  ·rw[if_pos ux]at hr;cases hr
  ·rw[if_neg ux]at hr;have hE:lr (late c a) p n 0 hT=0:=Cu g1 g2 g3 ha aeM (by omega) hp;cases cs with
   |nil=>simp only[Option.some.injEq]at hr;subst hr;exact⟨⟨hE,trivial⟩,rfl⟩
   |cons d ds=>
    simp only[Option.map_eq_some_iff]at hr;obtain⟨r',qP,rfl⟩:=hr;obtain⟨hdE,Zd⟩:=ID;obtain⟨d1,d2,d3,d4⟩:=pj hdE;obtain⟨e1,e2,e3⟩:=sC hdE;have hdc:=d4 c rfl;have aeN:F0 n 0 hT (some (late c a)) (d::ds)→F0 n 0 hT (some (late c a)) r'∧r'.map aw.stop=(d::ds).map aw.stop:=fun hh=>ih _ _ r' hh qP (fun q hq=>by cases hq;omega) (by omega);by_cases ab1:(late c a).dep≤d.arr
    ·obtain⟨i1,i2⟩:=aeN ⟨Cu e1 e2 (fun q hq=>by cases hq;exact e3 c rfl) d2 d1 d3 (fun q hq=>by cases hq;exact ab1),Zd⟩;exact⟨⟨hE,i1⟩,by simp only[List.map_cons,i2];rfl⟩
    ·obtain⟨i1,i2⟩:=ih (d.arr+(late c a).dep-c.dep) (some c) r' ⟨hdE,Zd⟩ qP (fun q hq=>by cases hq;omega) (by omega);refine⟨⟨hE,?_⟩,by simp only[List.map_cons,i2];rfl⟩;cases r' with
     |nil=>trivial
     |cons x xs=>
      obtain⟨j1,j2⟩:=i1;obtain⟨f1,f2,f3⟩:=sC j1;obtain⟨t1,t2,t3,t4⟩:=pj j1;refine⟨Cu f1 f2 (fun q hq=>by cases hq;exact f3 c rfl) t2 t1 t3 (fun q hq=>?_),j2⟩;cases hq;have hx:x.arr=d.arr+(late c a).dep-c.dep:=by
       unfold gb at qP;by_cases pC:(late d (d.arr+(late c a).dep-c.dep)).dep>hT
       ·rw[if_pos pC]at qP;cases qP
       ·rw[if_neg pC]at qP;cases ds with
        |nil=>simp only[Option.some.injEq,List.cons.injEq]at qP;rw[←qP.1];rfl
        |cons d2 ds2=>simp only[Option.map_eq_some_iff,List.cons.injEq]at qP;obtain⟨_,_,h1,_⟩:=qP;rw[←h1];rfl
      omega
theorem UU{l r:List aw}{n:Int}{at_ bS:Int}(h:(br l n 0 hT).2=0)(hp:prop l at_ bS=(some r,0)):(br r n 0 hT).2=0∧r.map aw.stop=l.map aw.stop:=by
 rw[uw]at h;obtain⟨h1,h2,h3⟩:=h;unfold prop at hp;by_cases ha:at_<0∨at_≥(l.length:Int)
 ·rw[if_pos ha]at hp;cases hp
 ·rw[if_neg ha]at hp;by_cases hs:bS< -43200∨bS>43200
  ·rw[if_pos hs]at hp;cases hp
  ·rw[if_neg hs]at hp;by_cases ho:sX l=false
   ·rw[if_pos ho]at hp;cases hp
   ·rw[if_neg ho]at hp;cases hl:gb (l.drop at_.toNat) (mI l at_.toNat bS)with
    |none=>rw[hl]at hp;cases hp
    |some r'=>
     rw[hl]at hp;simp only[Prod.mk.injEq,Option.some.injEq,and_true]at hp;generalize hn:at_.toNat=m at hl hp;have hm:m<l.length:=by omega
     rw[←List.take_append_drop m l,wE]at h3;obtain⟨g1,g2⟩:=h3;have hlen:(l.take m).length=m:=by simp;omega
     have Su:(if(l.take m).length=0 then(none:Option aw)else(l.take m)[(l.take m).length-1]?)=iD l m:=by
      rw[hlen];cases m with
      |zero=>rfl
      |succ m=>rw[if_neg (by omega),List.getElem?_take_of_lt (by omega)];rfl
     rw[Su]at g2;have eu:∀q,iD l m=some q→0≤q.dep:=by
      intro q hq;have vi:F0 n 0 hT none l:=by rw[←List.take_append_drop m l,wE,Su];exact⟨g1,g2⟩
      cases m with
      |zero=>cases hq
      |succ m=>
       have N3:l[m]?=some q:=hq;have Tr:m<l.length:=by omega
       rw[List.getElem?_eq_getElem Tr]at N3;cases N3;have:=(Np n 0 hT l none).1 vi m Tr;obtain⟨z1,z2,_,_⟩:=pj this;omega
     have xi:(∀q,iD l m=some q→q.dep≤mI l m bS)∧0≤mI l m bS:=by
      unfold mI;cases hq:iD l m with
      |none=>refine⟨(fun q hq=>by cases hq),?_⟩;simp only[Option.map_none,Option.getD_none];split<;>omega
      |some q=>
       have:=eu q hq;simp only[Option.map_some,Option.getD_some];refine⟨fun q' N3=>?_,?_⟩
       ·cases N3;split<;>omega
       ·split<;>omega
     obtain⟨i1,i2⟩:=St n (l.drop m) _ _ r' g2 hl xi.1 xi.2;have Um:r'.length=l.length-m:=by have:=congrArg List.length i2;simpa using this
     rw[←hp];refine⟨?_,?_⟩
     ·rw[uw,wE,Su];refine⟨?_,?_,g1,i1⟩
      ·simp[Um];omega
      ·simp[Um];omega
     ·rw[List.map_append,i2,←List.map_append,List.take_append_drop]
def fW(m:gC):Int:=
 if wi m.source 0 7=false then 36 else if m.seq<1 then 2
 else if(!wi m.lL 0 3155932800|| !wi m.iH 0 3155932800||decide (m.lL≥m.iH))=true then 10
 else if wi m.kind 1 6=false then 35 else if eP m.dw=false then 12 else if wi m.day 0 36524=false then 11 else if m.inst<0 then 2
 else
  let uC:=decide (m.kind=1)||decide (m.kind=3)
  let uS:=decide (m.kind=1)
  let uR:=decide (m.kind=5)
  let uL:=decide (m.kind=4)||decide (m.kind=5)
  if(uC&& !wi m.call 0 31||uS&& !wi m.bS (-43200) 43200||uR&& !wi m.bj 0 63)=true then 2
  else if uL=true∧(br m.calls 64 0 3155932800).2≠0 then(br m.calls 64 0 3155932800).2
  else if(!uC&& !decide (m.call=0)|| !uS&& !decide (m.bS=0)|| !uR&& !decide (m.bj=0)|| !uR&&m.free|| !uL&&decide (m.calls.length>0))=true then 1 else 0
theorem Sv{m:gC}(h:fW m=0):eP m.dw=true∧(0≤m.day∧m.day≤36524)∧0≤m.inst∧1≤m.kind∧m.kind≤6:=by
 unfold fW at h;by_cases h1:wi m.source 0 7=false
 ·rw[if_pos h1]at h;cases h
 rw[if_neg h1]at h;by_cases h2:m.seq<1
 ·rw[if_pos h2]at h;cases h
 rw[if_neg h2]at h;by_cases h3:(!wi m.lL 0 3155932800|| !wi m.iH 0 3155932800||decide (m.lL≥m.iH))=true
 ·rw[if_pos h3]at h;cases h
 rw[if_neg h3]at h;by_cases h4:wi m.kind 1 6=false
 ·rw[if_pos h4]at h;cases h
 rw[if_neg h4]at h;by_cases h5:eP m.dw=false
 ·rw[if_pos h5]at h;cases h
 rw[if_neg h5]at h;by_cases h6:wi m.day 0 36524=false
 ·rw[if_pos h6]at h;cases h
 rw[if_neg h6]at h;by_cases h7:m.inst<0
 ·rw[if_pos h7]at h;cases h
 simp only[wi,Bool.and_eq_false_iff,decide_eq_false_iff_not,not_or]at h4 h6;refine⟨by simpa using h5,⟨by omega,by omega⟩,by omega,by omega,by omega⟩
def Fm(m:gC):bx:=⟨-1,m.day,m.inst,m.dw,m.bj,m.free,false,m.calls⟩
def zX(l:List aw)(c:Nat):List aw:=match l[c]? with|some k=>l.set c {k with HC:=false,Cv:=false}|none=>l
def xS(N:af)(m:gC):af×Int:=
 if m.kind=5 then
  if(vO N.runs m).isSome=true then(N,6)else if m.bj<0∨m.bj≥(N.ae.length:Int)then(N,14)
  else if(br m.calls N.stops.length 0 3155932800).2≠0 then(N,(br m.calls N.stops.length 0 3155932800).2)
  else if N.runs.length≥1024 then(N,5)else({N with runs:=N.runs++[Fm m]},0)
 else match vO N.runs m with
 |none=>(N,16)
 |some i=>match N.runs[i]? with
  |none=>(N,16)
  |some r=>
   if(m.kind=1∨m.kind=3)∧(m.call<0∨m.call≥(r.calls.length:Int))then(N,9)
   else if m.kind=1 then match prop r.calls m.call m.bS with
    |(some l,_)=>({N with runs:=N.runs.set i {r with calls:=l}},0)
    |(none,e)=>(N,e)
   else if m.kind=2 then({N with runs:=N.runs.set i {r with pE:=true}},0)
   else if m.kind=3 then({N with runs:=N.runs.set i {r with calls:=zX r.calls m.call.toNat}},0)
   else if m.kind=4 then
    if(br m.calls N.stops.length 0 3155932800).2≠0 then(N,(br m.calls N.stops.length 0 3155932800).2)
    else({N with runs:=N.runs.set i {r with calls:=m.calls},ah:=N.ah.filter fun l=> !(decide (l.a=(i:Int))||decide (l.b=(i:Int)))},0)
   else(N,0)
end Go.Ab.Tt
namespace Go.Ab.Tt
set_option maxRecDepth 100000
set_option linter.unusedVariables false
set_option linter.unusedSimpArgs false
def core(c:aw):Int×Int×Int:=(c.stop,c.arr,c.dep)
theorem K1{c c':aw}{p p':Option aw}{n a b:Int}(h:core c=core c')(hp:p.map core=p'.map core):lr c p n a b=lr c' p' n a b:=by
 simp only[core,Prod.mk.injEq]at h;obtain⟨h1,h2,h3⟩:=h;unfold lr;rw[h1,h2,h3];cases p with
 |none=>cases p' with
  |none=>rfl
  |some q=>cases hp
 |some q=>cases p' with
  |none=>cases hp
  |some q'=>simp only[Option.map_some,Option.some.injEq,core,Prod.mk.injEq]at hp;obtain⟨g1,g2,g3⟩:=hp;simp only[g1,g3]
theorem HD{n a b:Int}:∀{l l':List aw}{p p':Option aw},l.map core=l'.map core→p.map core=p'.map core→F0 n a b p l→F0 n a b p' l'
 |[],[],_,_,_,_,_=>trivial
 |[],_::_,_,_,h,_,_=>by cases h
 |_::_,[],_,_,h,_,_=>by cases h
 |c::cs,c'::Dm,p,p',h,hp,ho=>by simp only[List.map_cons,List.cons.injEq]at h;exact⟨by rw[←K1 h.1 hp];exact ho.1,HD (p:=some c) (p':=some c') h.2 (by simp[h.1]) ho.2⟩
variable{l':List aw}
theorem Fo{n a b:Int}{l:List aw}(h:l.map core=l'.map core)(hr:(br l n a b).2=0):(br l' n a b).2=0:=by
 rw[uw]at hr⊢;have hl:l.length=l'.length:=by simpa using congrArg List.length h
 exact⟨by omega,by omega,HD h rfl hr.2.2⟩
theorem Cw(l:List aw)(c:Nat):(zX l c).map core=l.map core:=by
 unfold zX;cases hc:l[c]? with
 |none=>rfl
 |some k=>
  simp only;rw[List.map_set];apply List.ext_getElem?;intro j;rw[List.getElem?_set];split
  ·rename_i e;subst e;have bt:=(List.getElem?_eq_some_iff.1 hc).1;rw[if_pos (by simpa using bt),List.getElem?_map,hc];rfl
  ·rfl
theorem Pl{l:List aw}(h:l.map core=l'.map core):l.map aw.stop=l'.map aw.stop:=by
 have:∀l:List aw,l.map aw.stop=(l.map core).map Prod.fst:=fun l=>by rw[List.map_map];rfl
 rw[this,this,h]
theorem Cx(cs:List aw)(c:Int):e8 cs c=((cs.map aw.stop)[c.toNat]?).getD 0:=by unfold e8;rw[List.getElem?_map]
theorem K2{cs Dm:List aw}(h:Dm.map aw.stop=cs.map aw.stop):Dm.length=cs.length∧∀c,e8 Dm c=e8 cs c:=by refine⟨by simpa using congrArg List.length h,fun c=>?_⟩;rw[Cx,Cx,h]
variable{runs:List bx}{x:bx}
theorem uy{i:Nat}{r:bx}(hr:runs[i]?=some r)(h:x.calls.map aw.stop=r.calls.map aw.stop)(v:Int):(aC (runs.set i x) v).length=(aC runs v).length∧∀c,e8 (aC (runs.set i x) v) c=e8 (aC runs v) c:=by
 by_cases hv:v.toNat=i
 ·subst hv;have bt:=(List.getElem?_eq_some_iff.1 hr).1;have h1:aC (runs.set v.toNat x) v=x.calls:=by unfold aC;rw[List.getElem?_set_self bt];rfl
  have h2:aC runs v=r.calls:=by unfold aC;rw[hr];rfl
  rw[h1,h2];exact K2 h
 ·have h1:aC (runs.set i x) v=aC runs v:=by unfold aC;rw[List.getElem?_set_ne (fun h=>hv h.symm)]
  rw[h1];exact⟨rfl,fun _=>rfl⟩
theorem K3{i:Nat}{v:Int}(hv:v.toNat≠i):aC (runs.set i x) v=aC runs v:=by unfold aC;rw[List.getElem?_set_ne (fun h=>hv h.symm)]
theorem HE{v:Int}(hv:0≤v∧v<(runs.length:Int)):aC (runs++[x]) v=aC runs v:=by unfold aC;rw[List.getElem?_append_left (by omega)]
theorem D7{l:List aH}(h:sO runs l){x:aH}(hx:x∈l):(0≤x.a∧x.a<(runs.length:Int))∧0≤x.b∧x.b<(runs.length:Int):=by obtain⟨k,hk,rfl⟩:=List.getElem_of_mem hx;have:=h k hk;rw[sB]at this;obtain⟨g1,g2,_⟩:=Ct this.1;exact⟨g1,g2⟩
theorem Cy{s r:Int}(h:xE x s r=0):eP x.id=true∧(decide (x.dw< -1)||decide (x.inst<0))=false∧(decide (x.day<0)||decide (x.day>36524))=false∧(decide (x.bj<0)||decide (x.bj≥r))=false∧(br x.calls s 0 3155932800).2=0:=by
 unfold xE at h;by_cases h1:eP x.id=false
 ·rw[if_pos h1]at h;cases h
 rw[if_neg h1]at h;by_cases h2:(decide (x.dw< -1)||decide (x.inst<0))=true
 ·rw[if_pos h2]at h;cases h
 rw[if_neg h2]at h;by_cases h3:(decide (x.day<0)||decide (x.day>36524))=true
 ·rw[if_pos h3]at h;cases h
 rw[if_neg h3]at h;by_cases h4:(decide (x.bj<0)||decide (x.bj≥r))=true
 ·rw[if_pos h4]at h;cases h
 rw[if_neg h4]at h;exact⟨by simpa using h1,by simpa using h2,by simpa using h3,by simpa using h4,h⟩
theorem HF{s r:Int}(h1:eP x.id=true)(h2:(decide (x.dw< -1)||decide (x.inst<0))=false)(h3:(decide (x.day<0)||decide (x.day>36524))=false)(h4:(decide (x.bj<0)||decide (x.bj≥r))=false)(h5:(br x.calls s 0 3155932800).2=0):xE x s r=0:=by unfold xE;rw[if_neg (by simp[h1]),if_neg (by simp[h2]),if_neg (by simp[h3]),if_neg (by simp[h4])];exact h5
theorem AJ{N:af}(h:(dD N).2.2=0){i:Nat}{r:bx}(hr:N.runs[i]?=some r)(hk:bf x=bf r)(ht:x.dw=r.dw)(mn:x.bj=r.bj)(hc:(br x.calls N.stops.length 0 3155932800).2=0){l:List aH}(hl:l.length≤1024)(hg:sO (N.runs.set i x) l):(dD {N with runs:=N.runs.set i x,ah:=l}).2.2=0:=by
 rw[mV]at h⊢;obtain⟨g1,g2,g3,g4,g5,g6⟩:=h;have hi:=(List.getElem?_eq_some_iff.1 hr).1;have hri:N.runs[i]=r:=(List.getElem?_eq_some_iff.1 hr).2;have hE:=((nL _ _ _).1 g3).2 i hi;rw[hri]at hE;obtain⟨e1,e2,e3,e4,e5⟩:=Cy hE.1;simp only[bf,Prod.mk.injEq]at hk;refine⟨g1,g2,?_,(qN _ _).2 ⟨hl,hg⟩,g5,g6⟩;refine Sr hi (by rw[hri];simp[bf,hk]) (HF ?_ ?_ ?_ ?_ hc) g3
 ·rw[hk.1];exact e1
 ·rw[ht,hk.2.2];exact e2
 ·rw[hk.2.1];exact e3
 ·rw[mn];exact e4
theorem Pm(N:af)(m:gC)(h:(dD N).2.2=0)(hm:fW m=0)(he:(xS N m).2=0):(dD (xS N m).1).2.2=0:=by
 obtain⟨m1,m2,m3,m4,m5⟩:=Sv hm;have hz:=(mV N).1 h;obtain⟨g1,g2,g3,g4,g5,g6⟩:=hz;obtain⟨l1,l2⟩:=(qN _ _).1 g4;have ab2:=(nL _ _ _).1 g3;unfold xS at he⊢;by_cases k5:m.kind=5
 ·rw[if_pos k5]at he⊢;by_cases t1:(vO N.runs m).isSome=true
  ·rw[if_pos t1]at he;cases he
  rw[if_neg t1]at he⊢;by_cases t2:m.bj<0∨m.bj≥(N.ae.length:Int)
  ·rw[if_pos t2]at he;cases he
  rw[if_neg t2]at he⊢;by_cases t3:(br m.calls N.stops.length 0 3155932800).2≠0
  ·rw[if_pos t3]at he;exact absurd he t3
  rw[if_neg t3]at he⊢;by_cases t4:N.runs.length≥1024
  ·rw[if_pos t4]at he;cases he
  rw[if_neg t4]at he⊢;rw[mV];have Rr:vO N.runs m=none:=by
   cases hx:vO N.runs m with
   |none=>rfl
   |some k=>rw[hx]at t1;exact absurd rfl t1
  refine⟨g1,g2,Ss (HB Rr) (HF m1 (by show(decide ((-1:Int)< -1)||decide (m.inst<0))=false;simp;omega) (by show(decide (m.day<0)||decide (m.day>36524))=false;simp;omega) (by show(decide (m.bj<0)||decide (m.bj≥(N.ae.length:Int)))=false;simp;omega) (Decidable.of_not_not t3)) (by omega) g3,(qN _ _).2 ⟨l1,pt l2 (by simp) fun x hx v hv=>?_⟩,g5,g6⟩;obtain⟨b1,b2⟩:=D7 l2 hx;have:0≤v∧v<(N.runs.length:Int):=by
   rcases hv with rfl|rfl
   ·exact b1
   ·exact b2
  rw[HE this];exact⟨rfl,fun _=>rfl⟩
 ·rw[if_neg k5]at he⊢;cases ht:vO N.runs m with
  |none=>rw[ht]at he;cases he
  |some i=>
   obtain⟨hi,qu,_⟩:=xD ht;have hr:N.runs[i]?=some N.runs[i]:=List.getElem?_eq_getElem hi;rw[ht]at he;simp only[hr]at he⊢;have K4:=(Cy (ab2.2 i hi).1).2.2.2.2;have hlen:(N.runs.set i N.runs[i]).length=N.runs.length:=by simp
   by_cases t1:(m.kind=1∨m.kind=3)∧(m.call<0∨m.call≥(N.runs[i].calls.length:Int))
   ·rw[if_pos t1]at he;cases he
   rw[if_neg t1]at he⊢;by_cases k1:m.kind=1
   ·rw[if_pos k1]at he⊢;cases hp:prop N.runs[i].calls m.call m.bS with
    |mk o e=>
     rw[hp]at he;cases o with
     |none=>
      simp only at he;unfold prop at hp;subst he;split at hp
      ·cases hp
      ·split at hp
       ·cases hp
       ·split at hp
        ·cases hp
        ·split at hp
         ·cases hp
         ·cases hp
     |some l=>
      have CI:e=0:=by
       unfold prop at hp;split at hp
       ·cases hp
       ·split at hp
        ·cases hp
        ·split at hp
         ·cases hp
         ·split at hp
          ·simp only[Prod.mk.injEq]at hp;exact hp.2.symm
          ·cases hp
      subst CI;obtain⟨p1,p2⟩:=UU K4 hp;simp only;exact AJ (x:={N.runs[i]with calls:=l}) (l:=N.ah) h hr rfl rfl rfl p1 l1 (pt l2 (by simp) fun x hx v _=>uy hr p2 v)
   ·rw[if_neg k1]at he⊢;by_cases k2:m.kind=2
    ·rw[if_pos k2];exact AJ (x:={N.runs[i]with pE:=true}) (l:=N.ah) h hr rfl rfl rfl K4 l1 (pt l2 (by simp) fun x hx v _=>uy (x:={N.runs[i]with pE:=true}) hr rfl v)
    ·rw[if_neg k2]at he⊢;by_cases k3:m.kind=3
     ·rw[if_pos k3];exact AJ (x:={N.runs[i]with calls:=zX N.runs[i].calls m.call.toNat}) (l:=N.ah) h hr rfl rfl rfl (Fo (Cw _ _).symm K4) l1 (pt l2 (by simp) fun x hx v _=>uy hr (Pl (Cw _ _)) v)
     ·rw[if_neg k3]at he⊢;by_cases k4:m.kind=4
      ·rw[if_pos k4]at he⊢;by_cases t3:(br m.calls N.stops.length 0 3155932800).2≠0
       ·rw[if_pos t3]at he;exact absurd he t3
       rw[if_neg t3]at he⊢;refine AJ (x:={N.runs[i]with calls:=m.calls}) h hr rfl rfl rfl (Decidable.of_not_not t3) (Nat.le_trans (List.length_filter_le _ _) l1) (Fl _ _ l2 (by simp) fun x hx hf v hv=>?_);simp only[Bool.not_eq_true',Bool.or_eq_false_iff,decide_eq_false_iff_not]at hf;obtain⟨b1,b2⟩:=D7 l2 hx;have cR:v.toNat≠i:=by
        rcases hv with rfl|rfl
        ·intro hc;apply hf.1;omega
        ·intro hc;apply hf.2;omega
       rw[K3 cR];exact⟨rfl,fun _=>rfl⟩
      ·rw[if_neg k4];exact h
end Go.Ab.Tt
namespace Go.Ab.Tt
set_option maxRecDepth 100000
set_option linter.unusedVariables false
set_option linter.unusedSimpArgs false
theorem Fq(x:gC):asAgg 13 x.pv=some ():=rfl
theorem Fs(x:gC):cell x.pv 0=.int .i64 x.source:=rfl
theorem Ft(x:gC):cell x.pv 1=.int .i64 x.seq:=rfl
theorem Fu(x:gC):cell x.pv 2=.int .i64 x.lL:=rfl
theorem Fv(x:gC):cell x.pv 3=.int .i64 x.iH:=rfl
theorem Fx(x:gC):cell x.pv 4=.int .i64 x.kind:=rfl
theorem Fy(x:gC):cell x.pv 5=.str x.dw:=rfl
theorem Fz(x:gC):cell x.pv 6=.int .i64 x.day:=rfl
theorem FA(x:gC):cell x.pv 7=.int .i64 x.inst:=rfl
theorem FB(x:gC):cell x.pv 8=.int .i64 x.call:=rfl
theorem FC(x:gC):cell x.pv 9=.int .i64 x.bS:=rfl
theorem xF(x:gC):cell x.pv 10=.int .i64 x.bj:=rfl
theorem xG(x:gC):cell x.pv 11=.bool x.free:=rfl
theorem D8(x:gC):cell x.pv 12=.rs 5 (x.calls.map aw.pv):=rfl
theorem UW(x:gC):PV.agg [.int .i64 x.source,.int .i64 x.seq,.int .i64 x.lL,.int .i64 x.iH,.int .i64 x.kind,.str x.dw,.int .i64 x.day,.int .i64 x.inst,.int .i64 x.call,.int .i64 x.bS,.int .i64 x.bj,.bool x.free,.rs 5 (x.calls.map aw.pv)]=x.pv:=rfl
theorem Cz(n a b:Int):bI [.int .i64 n,.int .i64 a,.int .i64 b]=some (.bool (wi n a b)):=by simp only[bI,oO,asInt,if_true,U,dJ];rfl
theorem UX(n:Int):gM [.int .i64 n]=some (.bool (wi n 0 36524)):=by simp only[gM,wm,asInt,if_true,U,dJ];rfl
def xH(k:Int):PV:=.agg [.bool (decide (k=1)||decide (k=3)),.bool (decide (k=1)),.bool (decide (k=5)),.bool (decide (k=5)),.bool (decide (k=4)||decide (k=5))]
theorem UY(k:Int):fq [.int .i64 k]=some (xH k):=by
 simp only[fq,sq,asInt,if_true,U,ff];unfold xH;by_cases h1:k=1
 ·subst h1;rfl
 ·by_cases h3:k=3
  ·subst h3;rfl
  ·by_cases h4:k=4
   ·subst h4;rfl
   ·by_cases h5:k=5
    ·subst h5;rfl
    ·simp[h1,h3,h4,h5]
theorem ab3(k:Int):asAgg 5 (xH k)=some ():=rfl
theorem aeO(k:Int):cell (xH k) 0=.bool (decide (k=1)||decide (k=3)):=rfl
theorem aeP(k:Int):cell (xH k) 1=.bool (decide (k=1)):=rfl
theorem aeQ(k:Int):cell (xH k) 2=.bool (decide (k=5)):=rfl
theorem aeR(k:Int):cell (xH k) 3=.bool (decide (k=5)):=rfl
theorem aeS(k:Int):cell (xH k) 4=.bool (decide (k=4)||decide (k=5)):=rfl
theorem UZ(n:Nat):decide ((n:Int)>0)=decide (n>0):=by rw[Bool.eq_iff_iff];simp only[decide_eq_true_eq];omega
theorem HG(m:gC)(h:m.Ok):cN [m.pv]=some (.int .i64 (fW m)):=by
 have hid:=ub m.dw h.dw;have gB:=nV m.calls 64 0 3155932800 h.calls.1;simp only[res]at gB;simp only[cN,mz,Fq,Fs,Ft,Fu,Fv,Fx,Fy,Fz,FA,FB,FC,xF,xG,D8,U,Cz,UX,UY,ab3,asInt,bB,ab,if_true,asBool,hid,bn,UW];unfold fW;simp only[decide_eq_true_eq];cases wi m.source 0 7 with
 |false=>rfl
 |true=>
  by_cases h2:m.seq<1
  ·simp only[h2,if_true,Bool.not_true,Bool.false_eq_true,Bool.true_eq_false,if_false]
  simp only[h2,if_true,Bool.not_true,Bool.false_eq_true,Bool.true_eq_false,if_false];cases(!wi m.lL 0 3155932800|| !wi m.iH 0 3155932800||decide (m.lL≥m.iH))with
  |true=>rfl
  |false=>
   cases wi m.kind 1 6 with
   |false=>rfl
   |true=>
    cases eP m.dw with
    |false=>rfl
    |true=>
     cases wi m.day 0 36524 with
     |false=>rfl
     |true=>
      by_cases h7:m.inst<0
      ·simp only[h7,if_true,Bool.not_true,Bool.false_eq_true,Bool.true_eq_false,if_false]
      simp only[h7,if_true,Bool.not_true,Bool.false_eq_true,Bool.true_eq_false,if_false];have e0:PV.agg [cell (xH m.kind) 0,cell (xH m.kind) 1,cell (xH m.kind) 2,cell (xH m.kind) 3,cell (xH m.kind) 4]=xH m.kind:=rfl;rw[e0];simp only[dX,lb,Fq,Fs,Ft,Fu,Fv,Fx,Fy,Fz,FA,FB,FC,xF,xG,D8,U,ab3,aeO,aeP,aeQ,aeR,aeS,Cz,asBool,gB,bV,List.length_cons,List.length_nil,Nat.reduceAdd,if_true,List.getD_cons_zero,List.getD_cons_succ,asInt,bB,ab,bn,dJ,kH,List.length_map,UZ];generalize (decide (m.kind=1)||decide (m.kind=3))=uC;generalize decide (m.kind=1)=uS;generalize decide (m.kind=5)=uR;generalize (decide (m.kind=4)||uR)=uL;generalize (br m.calls 64 0 3155932800).2=e;cases(uC&& !wi m.call 0 31||uS&& !wi m.bS (-43200) 43200||uR&& !wi m.bj 0 63)with
      |true=>rfl
      |false=>
       cases uL with
       |true=>
        by_cases he:e=0
        ·subst he;cases(!uC&& !decide (m.call=0)|| !uS&& !decide (m.bS=0)|| !uR&& !decide (m.bj=0)|| !uR&&m.free|| !true&&decide (m.calls.length>0))<;>rfl
        ·simp[he]
       |false=>cases(!uC&& !decide (m.call=0)|| !uS&& !decide (m.bS=0)|| !uR&& !decide (m.bj=0)|| !uR&&m.free|| !false&&decide (m.calls.length>0))<;>rfl
end Go.Ab.Tt
namespace Go.Ab.Tt
set_option maxRecDepth 100000
set_option linter.unusedVariables false
set_option linter.unusedSimpArgs false
theorem Sw{R:Type}(l:List bx)(m:gC)(g:Nat→R)(fin:Option R):da ((List.range l.length).findSome? fun k=>if decide ((l.map bf)[k]?=some m.key)=true then some (some (g k))else none) fin=(match vO l m with|some k=>some (g k)|none=>fin):=by rw[pV (fun k=>decide ((l.map bf)[k]?=some m.key)) (fun k=>some (g k))];unfold vO;cases(List.range l.length).find? (fun k=>decide ((l.map bf)[k]?=some m.key))<;>rfl
theorem U0(l:List bx)(m:gC)(k:Nat)(hk:k<l.length):decide ((l.map bf)[k]?=some m.key)=(decide (l[k].id=m.dw)&&decide (l[k].day=m.day)&&decide (l[k].inst=m.inst)):=by rw[Bool.eq_iff_iff];simp[List.getElem?_eq_getElem hk,bf,gC.key,and_assoc]
def CA(l:List bx)(m:gC):PV:=match vO l m with|some k=>.bl [.int .i64 k,.bool true]|none=>.bl [.int .i64 0,.bool false]
theorem qg(N:af)(m:gC)(hr:N.runs.length≤maxLen):bw [N.pv,m.pv]=some (CA N.runs m):=by
 have hm:=aW;simp only[bw,la,qL,ry,rz,rA,rB,rC,rD,rE,rF,rG,U];simp only[Fq,Fs,Ft,Fu,Fv,Fx,Fy,Fz,FA,FB,FC,xF,xG,D8,U,asInt,bB,ab,if_true,asBool,List.length_map];generalize N.runs=l at hr⊢;have hs:=Sw l m (fun k=>PV.bl [.int .i64 k,.bool true]) (some (PV.bl [.int .i64 0,.bool false]));have hR:(match vO l m with|some k=>some (PV.bl [.int .i64 k,.bool true])|none=>some (PV.bl [.int .i64 0,.bool false]))=some (CA l m):=by unfold CA;cases vO l m<;>rfl
 rw[←hR,←hs];refine aX (fun k=>(l.map bx.pv,(l.length:Int),(k:Int),m.source,m.seq,m.lL,m.iH,m.kind,m.dw,m.day,m.inst,m.call,m.bS,m.bj,m.free,m.calls.map aw.pv,())) l.length _ (fun k hk rec=>?_) (fun rec=>?_) (by have:=aS;omega) rfl
 ·have h1:decide ((k:Int)<(l.length:Int))=true:=by simp;omega
  rw[U0 l m k hk];unfold lM;dsimp only;rw[if_pos h1,az,List.getElem?_map,List.getElem?_eq_getElem hk];simp only[Option.map_some,U,OR,OS,OT,asInt,bB,if_true,ff,dJ,an (show k<9223372036854775807 by omega)];cases decide (l[k].id=m.dw)&&decide (l[k].day=m.day)&&decide (l[k].inst=m.inst)<;>rfl
 ·unfold lM;dsimp only;rw[if_neg (by simp)]
end Go.Ab.Tt
namespace Go.Ab.Tt
set_option maxRecDepth 100000
set_option linter.unusedVariables false
set_option linter.unusedSimpArgs false
theorem ab4(x:aw):cell x.pv 3=.bool x.HC:=rfl
theorem ab5(x:aw):cell x.pv 4=.bool x.Cv:=rfl
theorem ab6(x:aw):asAgg 5 x.pv=some ():=rfl
def Span(c:aw):Prop:=0≤c.arr∧c.arr≤c.dep∧c.dep≤hT
variable{c:aw}
theorem sD(h:Span c):0≤hU c∧hU c≤30:=by obtain⟨h1,h2,h3⟩:=h;unfold hU;split<;>omega
theorem mW:hT=3155932800:=rfl
theorem wrap_small{x:Int}(h1: -100000000000≤x)(h2:x≤100000000000):IntKind.i64.wrap x=x:=fB (by omega) (by omega)
theorem CB(h:Span c):fb [c.pv]=some (.int .i64 (hU c)):=by
 have:=mW;obtain⟨h1,h2,h3⟩:=h;simp only[fb,tO,ab6,G5,zL,zM,ab4,ab5,asInt,asBool,U,if_true];rw[wrap_small (by omega) (by omega)];unfold hU;by_cases hd:c.dep-c.arr<30
 ·rw[if_neg (by omega),if_pos hd]
 ·rw[if_neg hd];by_cases he:30<c.dep-c.arr
  ·rw[if_pos he]
  ·rw[if_neg he];congr 2;omega
def zY(l:List aw)(k:Nat):Bool:=(l[k]?).elim false fun c=>decide (c.arr<((iD l k).map aw.dep).getD 0)||decide (c.dep<c.arr)||decide (c.dep>hT)
theorem Pn{R:Type}(l:List aw)(no fin:Option R):da ((List.range l.length).findSome? fun k=>if zY l k=true then some no else none) fin=if sX l=true then fin else no:=by
 rw[pV (zY l) (fun _=>no)];by_cases h:sX l=true
 ·rw[if_pos h];have:(List.range l.length).find? (zY l)=none:=by rw[List.find?_eq_none];intro k hk;have:=List.all_eq_true.1 h k hk;rw[List.mem_range]at hk;simp only[List.getElem?_eq_getElem hk,Option.elim_some]at this;simp only[zY,List.getElem?_eq_getElem hk,Option.elim_some];simpa using this
  rw[this];rfl
 ·rw[if_neg h];cases hf:(List.range l.length).find? (zY l)with
  |some k=>rfl
  |none=>exfalso;apply h;unfold sX;rw[List.all_eq_true];intro k hk;have:=List.find?_eq_none.1 hf k hk;rw[List.mem_range]at hk;simp only[zY,List.getElem?_eq_getElem hk,Option.elim_some]at this;simp only[List.getElem?_eq_getElem hk,Option.elim_some];simpa using this
variable{l:List aw}
theorem AK(h:sX l=true){k:Nat}(hk:k<l.length):((iD l k).map aw.dep).getD 0≤l[k].arr∧l[k].arr≤l[k].dep∧l[k].dep≤hT:=by have:=List.all_eq_true.1 h k (List.mem_range.2 hk);simp only[List.getElem?_eq_getElem hk,Option.elim_some,Bool.not_eq_true',Bool.or_eq_false_iff,decide_eq_false_iff_not]at this;omega
theorem nY(h:sX l=true):∀k,(hk:k<l.length)→Span l[k]:=by
 intro k;induction k with
 |zero=>intro hk;obtain⟨a,b,c⟩:=AK h hk;exact⟨a,b,c⟩
 |succ k ih=>
  intro hk;obtain⟨a,b,c⟩:=AK h hk;obtain⟨x,y,z⟩:=ih (by omega);have:((iD l (k+1)).map aw.dep).getD 0=(l[k]'(by omega)).dep:=by show((l[k]?).map aw.dep).getD 0=_;rw[List.getElem?_eq_getElem (by omega)];rfl
  rw[this]at a;exact⟨by omega,b,c⟩
theorem xI(l:List aw)(hl:l.length≤maxLen):ef [.rs 5 (l.map aw.pv)]=some (.bool (sX l)):=by
 have hm:=aW;simp only[ef,qD,ab,if_true,U,List.length_map];have hs:=Pn l (some (PV.bool false)) (some (PV.bool true));have hR:(if sX l=true then some (PV.bool true)else some (PV.bool false))=some (.bool (sX l)):=by cases sX l<;>rfl
 rw[←hR,←hs];refine aX (fun k=>(((iD l k).map aw.dep).getD 0,l.map aw.pv,(l.length:Int),(k:Int),())) l.length _ (fun k hk rec=>?_) (fun rec=>?_) (by have:=aS;omega) rfl
 ·have h1:decide ((k:Int)<(l.length:Int))=true:=by simp;omega
  unfold mi;dsimp only;have hp:((iD l (k+1)).map aw.dep).getD 0=l[k].dep:=by show((l[k]?).map aw.dep).getD 0=_;rw[List.getElem?_eq_getElem hk];rfl
  rw[if_pos h1,az,List.getElem?_map,List.getElem?_eq_getElem hk];simp only[Option.map_some,U,zL,zM,asInt,if_true,bn,an (show k<9223372036854775807 by omega),hp];have:zY l k=(decide (l[k].arr<((iD l k).map aw.dep).getD 0)||decide (l[k].dep<l[k].arr)||decide (l[k].dep>3155932800)):=by simp only[zY,List.getElem?_eq_getElem hk,Option.elim_some];rfl
  rw[this];cases(decide (l[k].arr<((iD l k).map aw.dep).getD 0)||decide (l[k].dep<l[k].arr)||decide (l[k].dep>3155932800))<;>rfl
 ·unfold mi;dsimp only;rw[if_neg (by simp)]
theorem Nq(h:sX l=true){n:Nat}(hn:n<l.length){bS:Int}(h1: -43200≤bS)(h2:bS≤43200):0≤mI l n bS∧mI l n bS≤3200000000:=by
 obtain⟨a,b,c⟩:=nY h n hn;obtain⟨x,y,z⟩:=AK h hn;have:=mW;have hb:0≤((iD l n).map aw.dep).getD 0:=by
  cases n with
  |zero=>exact Int.le_refl _
  |succ n=>show 0≤((l[n]?).map aw.dep).getD 0;rw[List.getElem?_eq_getElem (by omega)];obtain⟨a,b,c⟩:=nY h n (by omega);show 0≤l[n].dep;omega
 unfold mI;rw[List.getElem?_eq_getElem hn];simp only[Option.map_some,Option.getD_some];split<;>omega
theorem zZ(c d:aw)(ds:List aw)(a:Int):gb (c::d::ds) a=if(late c a).dep>hT then none else(gb (d::ds) (d.arr+(late c a).dep-c.dep)).map fun r=>late c a::r:=by rw[gb]
theorem D9(c:aw)(a:Int):gb [c] a=if(late c a).dep>hT then none else some [late c a]:=by rw[gb]
theorem Po(c:aw)(cs:List aw)(a:Int)(h:(late c a).dep>hT):gb (c::cs) a=none:=by
 cases cs with
 |nil=>rw[D9,if_pos h]
 |cons d ds=>rw[zZ,if_pos h]
theorem HH{a:Int}(h:Span c)(h0:0≤a)(h1:a≤8000000000):0≤(late c a).dep∧(late c a).dep≤8000000030:=by obtain⟨p,q⟩:=sD h;obtain⟨x,y,z⟩:=h;have:=mW;show 0≤(if a+hU c>c.dep then a+hU c else c.dep)∧(if a+hU c>c.dep then a+hU c else c.dep)≤8000000030;split<;>omega
theorem yX{d:aw}{a:Int}(h:Span c)(hd:Span d)(hcd:c.dep≤d.arr)(h0:0≤a)(h1:¬(late c a).dep>hT):0≤d.arr+(late c a).dep-c.dep∧d.arr+(late c a).dep-c.dep≤8000000000:=by
 obtain⟨p,q⟩:=sD h;obtain⟨x,y,z⟩:=h;obtain⟨x',y',z'⟩:=hd;have:=mW;have hh:c.dep≤(late c a).dep:=by show c.dep≤if a+hU c>c.dep then a+hU c else c.dep;split<;>omega
 omega
theorem ve(h:sX l=true):∀k,(hk:k+1<l.length)→(l[k]'(by omega)).dep≤l[k+1].arr:=by
 intro k hk;obtain⟨a,b,c⟩:=AK h hk;have:((iD l (k+1)).map aw.dep).getD 0=(l[k]'(by omega)).dep:=by show((l[k]?).map aw.dep).getD 0=_;rw[List.getElem?_eq_getElem (by omega)];rfl
 rw[this]at a;exact a
theorem vf(l:List aw)(hl:l.length≤1000000):dd [.rs 5 (l.map aw.pv)]=some (.rs 5 (l.map aw.pv)):=by
 have hb:1000000*32≤aa:=by decide
 simp only[dd,qE,ab,if_true,U,List.length_map];rw[if_pos (by refine⟨by omega,by omega,?_,by decide,by decide⟩;rw[Int.toNat_natCast];omega)];congr 2;rw[Int.toNat_natCast,List.length_replicate,List.take_of_length_le (by simp),List.drop_eq_nil_of_le (by simp),List.append_nil]
end Go.Ab.Tt
namespace Go.Ab.Tt
set_option maxRecDepth 100000
set_option linter.unusedVariables false
set_option linter.unusedSimpArgs false
theorem Ea(x:bx):aY 5 (cell x.pO 7)=some (x.calls.map aw.pv):=rfl
def outs(pre:List aw)(l:List aw)(k:Nat):List PV:=pre.map aw.pv++(l.drop k).map aw.pv
theorem HI(pre l:List aw)(k:Nat)(hp:pre.length=k)(hk:k≤l.length):(outs pre l k).length=l.length:=by unfold outs;simp;omega
theorem HJ(pre l:List aw)(k:Nat)(hp:pre.length=k)(hk:k<l.length):(outs pre l k)[k]?=some l[k].pv:=by unfold outs;rw[List.getElem?_append_right (by simp;omega)];simp[hp,List.getElem?_eq_getElem hk]
theorem HK(pre l:List aw)(k:Nat)(hp:pre.length=k)(hk:k<l.length)(x:aw):(outs pre l k).set k x.pv=outs (pre++[x]) l (k+1):=by
 unfold outs;rw[List.set_append_right _ _ (by simp;omega)];have h0:k-(pre.map aw.pv).length=0:=by simp;omega
 rw[h0,List.drop_eq_getElem_cons hk,List.map_cons,List.set_cons_zero,List.map_append,List.append_assoc];rfl
variable{S R:Type}
theorem CC{body:S→(S→Option R)→Option R}(st:Int→Nat→List PV→S)(l:List aw)(i:Nat)(err:Option R)(fin:List PV→Option R)(Ak:∀k a out rec,k<i→k<l.length→body (st a k out) rec=rec (st a (k+1) out))(tq:∀k a pre rec,i≤k→(hk:k<l.length)→pre.length=k→0≤a→a≤8000000000→body (st a k (outs pre l k)) rec=if(late l[k] a).dep>hT then err else if h:k+1<l.length then rec (st (l[k+1].arr+(late l[k] a).dep-l[k].dep) (k+1) (outs (pre++[late l[k] a]) l (k+1)))else rec (st a (k+1) (outs (pre++[late l[k] a]) l (k+1))))(nc:∀a out rec,body (st a l.length out) rec=fin out)(jg:∀k,(hk:k<l.length)→Span l[k])(hor:∀k,(hk:k+1<l.length)→(l[k]'(by omega)).dep≤l[k+1].arr)(hi:i<l.length)(hl:l.length+1<rounds)(a:Int)(h0:0≤a)(h1:a≤8000000000):cd.run body (st a 0 (l.map aw.pv))=match gb (l.drop i) a with|some r=>fin ((l.take i++r).map aw.pv)|none=>err:=by
 rw[kT];have hA:∀k,k≤i→∀fu,cG body (k+fu) (st a (i-k) (l.map aw.pv))=cG body fu (st a i (l.map aw.pv)):=by
  intro k;induction k with
  |zero=>intro _ fu;rw[Nat.zero_add];rfl
  |succ k ih=>intro hk fu;rw[show k+1+fu=(k+fu)+1 by omega,cG,Ak (i-(k+1)) a _ _ (by omega) (by omega),show i-(k+1)+1=i-k by omega];exact ih (by omega) fu
 have hB:∀(j:Nat)(k:Nat)(a:Int)(pre:List aw)(fu:Nat),k+j=l.length→i≤k→j<fu→0≤a→a≤8000000000→pre.length=k→cG body fu (st a k (outs pre l k))=match gb (l.drop k) a with|some r=>fin ((pre++r).map aw.pv)|none=>err:=by
  intro j;induction j with
  |zero=>
   intro k a pre fu hk zS hf _ _ hp;obtain⟨fu,rfl⟩:∃f,fu=f+1:=⟨fu-1,by omega⟩;have kN:k=l.length:=by omega
   subst kN;rw[cG,nc,List.drop_length];simp[gb,outs]
  |succ j ih=>
   intro k a pre fu hk zS hf V9 ha1 hp;obtain⟨fu,rfl⟩:∃f,fu=f+1:=⟨fu-1,by omega⟩;have kN:k<l.length:=by omega
   have hc:=jg k kN;rw[cG,tq k a pre _ zS kN hp V9 ha1,List.drop_eq_getElem_cons kN];by_cases ux:(late l[k] a).dep>hT
   ·rw[if_pos ux,Po _ _ _ ux]
   ·rw[if_neg ux];by_cases hn:k+1<l.length
    ·rw[dif_pos hn];obtain⟨n0,n1⟩:=yX hc (jg (k+1) hn) (hor k hn) V9 ux;rw[ih (k+1) _ _ fu (by omega) (by omega) (by omega) n0 n1 (by simp[hp]),List.drop_eq_getElem_cons hn,zZ,if_neg ux];cases gb (l[k+1]::l.drop (k+1+1)) (l[k+1].arr+(late l[k] a).dep-l[k].dep)with
     |none=>rfl
     |some r=>simp
    ·rw[dif_neg hn];have hj:j=0:=by omega
     subst hj;obtain⟨fu,rfl⟩:∃f,fu=f+1:=⟨fu-1,by omega⟩;have Yb:k+1=l.length:=by omega
     rw[cG,List.drop_eq_nil_of_le (by omega),D9,if_neg ux];have:=nc a (outs (pre++[late l[k] a]) l (k+1)) (cG body fu);rw[←Yb]at this;rw[this];simp[outs,List.drop_eq_nil_of_le (show l.length≤k+1 by omega)]
 have e1:cd.run body (st a 0 (l.map aw.pv))=cG body rounds (st a 0 (l.map aw.pv)):=rfl;have e2:=hA i (Nat.le_refl _) (rounds-i);rw[Nat.sub_self,show i+(rounds-i)=rounds by omega]at e2;rw[e2];have e3:l.map aw.pv=outs (l.take i) l i:=by unfold outs;rw[←List.map_append,List.take_append_drop]
 rw[e3];exact hB (l.length-i) i a (l.take i) (rounds-i) (by omega) (Nat.le_refl _) (by omega) h0 h1 (by simp;omega)
theorem Yc{body:S→(S→Option R)→Option R}(st:Nat→Nat→List PV→S)(l:List aH)(p:aH→Bool)(out:List PV→Option R)(tq:∀j i x rec,(hi:i<l.length)→x.length=l.length→j≤i→x[i]?=some l[i].pv→body (st j i x) rec=if p l[i]=true then rec (st (j+1) (i+1) (x.set j l[i].pv))else rec (st j (i+1) x))(nc:∀j x rec,x.length=l.length→j≤l.length→body (st j l.length x) rec=out (x.take j)):∀n j i x fu,i+n=l.length→j≤i→x.length=l.length→x.take j=((l.take i).filter p).map aH.pv→x.drop i=(l.drop i).map aH.pv→n<fu→cG body fu (st j i x)=out ((l.filter p).map aH.pv):=by
 intro n;induction n with
 |zero=>
  intro j i x fu hi hj hx ht hd hf;obtain⟨fu,rfl⟩:∃f,fu=f+1:=⟨fu-1,by omega⟩;have:i=l.length:=by omega
  subst this;rw[cG,nc j x _ hx hj,ht,List.take_length]
 |succ n ih=>
  intro j i x fu hi hj hx ht hd hf;obtain⟨fu,rfl⟩:∃f,fu=f+1:=⟨fu-1,by omega⟩;have P1:i<l.length:=by omega
  have eK:x[i]?=some l[i].pv:=by have:=congrArg (fun y=>y[0]?) hd;simpa[List.getElem?_drop,P1]using this
  have Mu:x.drop (i+1)=(l.drop (i+1)).map aH.pv:=by rw[←List.drop_drop,hd,←List.map_drop,List.drop_drop]
  rw[cG,tq j i x _ P1 hx hj eK];by_cases hp:p l[i]=true
  ·rw[if_pos hp];refine ih (j+1) (i+1) _ fu (by omega) (by omega) (by rw[List.length_set,hx]) ?_ ?_ (by omega)
   ·rw[List.take_succ_eq_append_getElem P1,List.filter_append,List.map_append,←ht];simp only[List.filter_cons,hp,if_true,List.filter_nil,List.map_cons,List.map_nil];have xR:j<(x.set j l[i].pv).length:=by rw[List.length_set];omega
    rw[List.take_succ_eq_append_getElem xR,List.getElem_set_self,List.take_set_of_le (Nat.le_refl j)]
   ·rw[List.drop_set_of_lt (by omega),Mu]
  ·rw[if_neg hp];refine ih j (i+1) x fu (by omega) (by omega) hx ?_ Mu (by omega);rw[List.take_succ_eq_append_getElem P1,List.filter_append,List.map_append,←ht];simp[hp]
theorem Sx{S':Type}{body:S→(S→Option R)→Option R}{body3:S'→(S'→Option R)→Option R}(st:Nat→S)(Zi:Nat→Nat→List PV→S')(l:List aH)(p:aH→Bool)(out:List PV→Option R)(Yd:∀j i x rec,(hi:i<l.length)→x.length=l.length→j≤i→x[i]?=some l[i].pv→body3 (Zi j i x) rec=if p l[i]=true then rec (Zi (j+1) (i+1) (x.set j l[i].pv))else rec (Zi j (i+1) x))(ab7:∀j x rec,x.length=l.length→j≤l.length→body3 (Zi j l.length x) rec=out (x.take j))(tq:∀k rec,(hk:k<l.length)→body (st k) rec=if p l[k]=true then rec (st (k+1))else cd.run body3 (Zi k (k+1) (l.map aH.pv)))(nc:∀rec,body (st l.length) rec=out (l.map aH.pv))(hl:l.length+1<rounds):cd.run body (st 0)=out ((l.filter p).map aH.pv):=by
 have:∀n k fu,k+n=l.length→n<fu→(l.take k).filter p=l.take k→cG body fu (st k)=out ((l.filter p).map aH.pv):=by
  intro n;induction n with
  |zero=>
   intro k fu hk hf ht;obtain⟨fu,rfl⟩:∃f,fu=f+1:=⟨fu-1,by omega⟩;have:k=l.length:=by omega
   subst this;rw[List.take_length]at ht;rw[cG,nc,ht]
  |succ n ih=>
   intro k fu hk hf ht;obtain⟨fu,rfl⟩:∃f,fu=f+1:=⟨fu-1,by omega⟩;have kN:k<l.length:=by omega
   rw[cG,tq k _ kN];by_cases hp:p l[k]=true
   ·rw[if_pos hp];refine ih (k+1) fu (by omega) (by omega) ?_;rw[List.take_succ_eq_append_getElem kN,List.filter_append,ht];simp[hp]
   ·rw[if_neg hp,kT];refine Yc Zi l p out Yd ab7 (l.length-(k+1)) k (k+1) _ rounds (by omega) (by omega) (by simp) ?_ (by rw[List.map_drop]) (by omega);rw[List.take_succ_eq_append_getElem kN,List.filter_append,ht,←List.map_take];simp[hp]
 rw[kT];exact this l.length 0 rounds (by omega) (by omega) (by simp)
structure Pp(N:af):Prop where
 ok:N.Ok
 stops:N.stops.length≤1000
 ae:N.ae.length≤1000
 runs:N.runs.length≤100
 ah:N.ah.length≤1000
 paths:N.paths.length≤1000
 ar:N.ar.length≤1000
 calls:∀r∈N.runs,r.calls.length≤1000
def z9:PV:=.agg [.rs 0 [],.rs 0 [],.rs 0 [],.rs 0 [],.rs 0 [],.rs 0 [],.int .i64 0,.int .i64 0,.int .i64 0]
theorem HL(N:af)(h:N.Ok)(hp:N.paths.length≤4096):im [N.pv]=some (.bool (decide ((dD N).2.2=0))):=by have hc:=O2 N h hp;simp only[im,tW,qL,ry,rz,rA,rB,rC,rD,rE,rF,rG,U,yI,hc];simp only[fZ,bV,List.length_cons,List.length_nil,Nat.reduceAdd,if_true,List.getD_cons_zero,List.getD_cons_succ,asInt,U,zO]
end Go.Ab.Tt
namespace Go.Ab.Tt
set_option maxRecDepth 100000
set_option linter.unusedVariables false
set_option linter.unusedSimpArgs false
def Zj(N:af)(m:gC):PV:=if(xS N m).2=0 then .bl [(xS N m).1.pv,.int .i64 0]else .bl [z9,.int .i64 (xS N m).2]
def uz(N:af)(m:gC):PV:=if(dD N).2.2=0 then(if fW m=0 then Zj N m else .bl [z9,.int .i64 (fW m)])else .bl [z9,.int .i64 21]
def Sy(N:af)(m:gC)(k:Nat):=((N.runs.length:Int),(k:Int),N.stops.map Stop.pv,N.ae.map av.pv,N.runs.map bx.pv,N.ah.map aH.pv,N.paths.map Path.pv,N.ar.map aR.pv,N.aO,N.within,N.cap,(0:Int),(0:Int),(0:Int),N.ar.map aR.pv,N.aO,N.within,N.cap,m.source,m.seq,m.lL,m.iH,m.kind,m.dw,m.day,m.inst,m.call,m.bS,m.bj,m.free,m.calls.map aw.pv,(0:Int),(0:Int),(0:Int),N.stops.map Stop.pv,N.ae.map av.pv,mix bx.pO bx.pv N.runs k,N.ah.map aH.pv,N.paths.map Path.pv,())
theorem Pq(l:List bx):(mix bx.pO bx.pv l l.length).map PV.strip=l.map bx.pv:=by rw[E7,kv]
theorem uA{e:Int}{x y:Option PV}:(if(e !=0)=true then x else y)=if e=0 then y else x:=by by_cases h:e=0<;>simp[h]
theorem qi(l:List bx)(i:Nat)(hi:i<l.length):(l.map bx.pO)[i]?=some l[i].pO:=by simp[hi]
theorem Sz(l:List bx)(i:Nat)(hi:i<l.length):ag (i:Int) (l.map bx.pO).length:=by rw[List.length_map];exact⟨by omega,by omega⟩
theorem sE(x:bx)(l:List aw):PV.agg [.int .i64 x.dw,.int .i64 x.day,.int .i64 x.inst,.str x.id,.int .i64 x.bj,.bool x.free,.bool x.pE,.fQ 5 (l.map aw.pv)]=({x with calls:=l}:bx).pO:=rfl
theorem Eb(n:Int):Ab.asInt .i64 (.int .i64 n)=some n:=rfl
theorem Nr(x:aw):PV.agg [cell x.pv 0,cell x.pv 1,cell x.pv 2,cell x.pv 3,cell x.pv 4]=x.pv:=rfl
theorem kI1(x:aw):Ab.asInt .i64 (cell x.pv 1)=some x.arr:=rfl
theorem kI2(x:aw):Ab.asInt .i64 (cell x.pv 2)=some x.dep:=rfl
theorem Wa(x:aw)(a:Int):PV.agg (cell x.pv 0::.int .i64 a::over [] [cell x.pv 2,cell x.pv 3,cell x.pv 4])=({x with arr:=a}:aw).pv:=rfl
theorem Wb(x:aw)(d:Int):PV.agg (cell x.pv 0::cell x.pv 1::.int .i64 d::over [] [cell x.pv 3,cell x.pv 4])=({x with dep:=d}:aw).pv:=rfl
theorem Wc(c:aw)(a:Int):(if a+hU c>c.dep then a+hU c else c.dep)=(late c a).dep:=by cases c;exact id rfl
theorem Ns(c:aw)(a:Int):aw.mk c.stop a (late c a).dep c.HC c.Cv=late c a:=rfl
theorem U1(x:bx)(l:List PV):(if(8:Nat)=1 then PV.fQ 5 l else .agg (cell x.pO 0::cell x.pO 1::cell x.pO 2::cell x.pO 3::cell x.pO 4::cell x.pO 5::cell x.pO 6::.fQ 5 l::over [] []))=.agg [.int .i64 x.dw,.int .i64 x.day,.int .i64 x.inst,.str x.id,.int .i64 x.bj,.bool x.free,.bool x.pE,.fQ 5 l]:=rfl
theorem Wd(x:bx):PV.agg (cell x.pO 0::cell x.pO 1::cell x.pO 2::cell x.pO 3::cell x.pO 4::cell x.pO 5::.bool true::over [] [cell x.pO 7])=({x with pE:=true}:bx).pO:=rfl
theorem yY(l:List bx)(i:Nat)(x:bx):((l.map bx.pO).set i x.pO).map PV.strip=(l.set i x).map bx.pv:=by rw[←List.map_set,kv]
theorem HM{A:Type}(l:List A)(k:Nat)(x:A)(h:k<l.length):(l.set k x)[k]?=some x:=by simp[h]
theorem iv(k n:Nat)(h:k<n):ag (k:Int) n:=⟨by omega,by omega⟩
def K5(N:af)(i c:Nat)(a:Int)(k:Nat)(out:List PV):=((i:Int),(c:Int),a,((N.runs[i]?).elim 0 fun r=>(r.calls.length:Int)),(k:Int),(i:Int),N.runs.map bx.pO,out,N.aO,N.within,N.cap,(0:Int),(0:Int),(0:Int),N.stops.map Stop.pv,N.ae.map av.pv,N.ah.map aH.pv,N.paths.map Path.pv,N.ar.map aR.pv,())
def FD(N:af)(i:Nat)(l:List aw):af:=match N.runs[i]? with|some r=>{N with runs:=N.runs.set i {r with calls:=l}}|none=>N
theorem SA(N:af)(h:Pp N)(i c:Nat)(hi:i<N.runs.length)(hc:c<N.runs[i].calls.length)(ho:sX N.runs[i].calls=true)(a:Int)(h0:0≤a)(h1:a≤8000000000):cd.run dI (K5 N i c a 0 (N.runs[i].calls.map aw.pv))=match gb (N.runs[i].calls.drop c) a with|some r=>some (.bl [(FD N i (N.runs[i].calls.take c++r)).pv,.int .i64 0])|none=>some (.bl [z9,.int .i64 10]):=by
 have hlen:=h.calls N.runs[i] (List.getElem_mem hi);have Zk:1003<rounds:=by decide
 have jg:=nY ho;refine(CC (K5 N i c) N.runs[i].calls c (some (.bl [z9,.int .i64 10])) (fun out=>some (.bl [.agg [.rs 4 (N.stops.map Stop.pv),.rs 3 (N.ae.map av.pv),.rs 8 (((N.runs.map bx.pO).set i (.agg [.int .i64 N.runs[i].dw,.int .i64 N.runs[i].day,.int .i64 N.runs[i].inst,.str N.runs[i].id,.int .i64 N.runs[i].bj,.bool N.runs[i].free,.bool N.runs[i].pE,.fQ 5 out])).map PV.strip),.rs 5 (N.ah.map aH.pv),.rs 4 (N.paths.map Path.pv),.rs 6 (N.ar.map aR.pv),.int .i64 N.aO,.int .i64 N.within,.int .i64 N.cap],.int .i64 0])) (fun k a out rec hk kN=>?_) (fun k a pre rec hk kN hp V9 ha1=>?_) (fun a out rec=>?_) jg (ve ho) hc (by omega) a h0 h1).trans ?_
 ·unfold K5 dI;dsimp only;rw[List.getElem?_eq_getElem hi,Option.elim_some,if_pos (by rw[decide_eq_true_eq];omega),if_pos (by rw[decide_eq_true_eq];omega),an (by omega),Int.toNat_natCast]
 ·obtain⟨d0,d1⟩:=sD (jg k kN);obtain⟨s0,s1,s2⟩:=jg k kN;have hlm:=mW;have Y9:=HI pre N.runs[i].calls k hp (by omega);have WT:∀x,((outs pre N.runs[i].calls k).set k x).length=N.runs[i].calls.length:=fun x=>by rw[List.length_set,Y9]
  unfold K5 dI;dsimp only;rw[List.getElem?_eq_getElem hi,Option.elim_some,if_pos (by rw[decide_eq_true_eq];omega),if_neg (by rw[decide_eq_true_eq];omega)];simp only[Int.toNat_natCast,qi _ _ hi,U,Ea,List.length_map,iv k _ kN,if_true,List.getElem?_map,List.getElem?_eq_getElem kN,Option.map_some,Y9,HJ pre _ k hp kN,kI2,Nr,CB (jg k kN),Eb,Wa,Wb,WT,HM _ _ _ (show k<(outs pre N.runs[i].calls k).length by omega),List.set_set,wrap_small (show-100000000000≤a+hU N.runs[i].calls[k] by omega) (show a+hU N.runs[i].calls[k]≤100000000000 by omega),Wc,Ns,an (show k<9223372036854775807 by omega),HK pre _ k hp kN,decide_eq_true_eq];have eu:=HH (jg k kN) V9 ha1;by_cases ux:(late N.runs[i].calls[k] a).dep>hT
  ·rw[if_pos (show(late N.runs[i].calls[k] a).dep>3155932800 by omega),if_pos ux];rfl
  ·rw[if_neg (show¬(late N.runs[i].calls[k] a).dep>3155932800 by omega),if_neg ux];by_cases hn:k+1<N.runs[i].calls.length
   ·obtain⟨n0,n1⟩:=yX (jg k kN) (jg (k+1) hn) (ve ho k hn) V9 ux;obtain⟨t0,t1,t2⟩:=jg (k+1) hn;rw[if_pos (by omega),dif_pos hn,if_pos (iv _ _ hn),List.getElem?_eq_getElem hn];simp only[Option.map_some,U,kI1];rw[wrap_small (x:=N.runs[i].calls[k+1].arr+(late N.runs[i].calls[k] a).dep) (by omega) (by omega),wrap_small (by omega) (by omega)]
   ·rw[if_neg (by omega),dif_neg hn]
 ·unfold K5 dI;dsimp only;rw[List.getElem?_eq_getElem hi,Option.elim_some,if_neg (by simp)];simp only[Int.toNat_natCast,qi _ _ hi,U,Sz _ _ hi,if_true,U1]
 ·cases gb (N.runs[i].calls.drop c) a with
  |none=>rfl
  |some r=>simp only[sE,yY];simp only[FD,List.getElem?_eq_getElem hi];rfl
theorem FE(x:aH):PV.agg [cell x.pv 0,cell x.pv 1,cell x.pv 2,cell x.pv 3,cell x.pv 4]=x.pv:=rfl
def HN(i:Nat)(l:aH):Bool:= !(decide (l.a=(i:Int))||decide (l.b=(i:Int)))
theorem vg(x:aH)(i:Nat):bQ [x.pv,.rp [.int .i64 i]]=some (.bool (!HN i x)):=by have hA:asAgg 5 x.pv=some ():=rfl;simp only[bQ,lj,hA,DO,MU,link2,MV,G8,asInt,asBool,if_true,U,bn,ff,HN,Bool.not_not]
def Ye(N:af)(i:Nat)(runs:List PV)(j k:Nat)(x:List PV):=((j:Int),(k:Int),x,(i:Int),N.aO,N.within,N.cap,(0:Int),(0:Int),(0:Int),N.stops.map Stop.pv,N.ae.map av.pv,runs,N.paths.map Path.pv,N.ar.map aR.pv,())
def Nt(N:af)(runs:List PV)(x:List PV):Option PV:=some (.bl [.agg [.rs 4 (N.stops.map Stop.pv),.rs 3 (N.ae.map av.pv),.rs 8 (runs.map PV.strip),.rs 5 x,.rs 4 (N.paths.map Path.pv),.rs 6 (N.ar.map aR.pv),.int .i64 N.aO,.int .i64 N.within,.int .i64 N.cap],.int .i64 0])
theorem SB(N:af)(h:Pp N)(i:Nat)(runs:List PV):cd.run (jm cd) ((N.ah.length:Int),0,N.ah.map aH.pv,(i:Int),N.aO,N.within,N.cap,0,0,0,N.stops.map Stop.pv,N.ae.map av.pv,runs,N.paths.map Path.pv,N.ar.map aR.pv,())=Nt N runs ((N.ah.filter (HN i)).map aH.pv):=by
 have hk:=h.ah;have Zk:1003<rounds:=by decide
 refine Sx (fun k=>((N.ah.length:Int),(k:Int),N.ah.map aH.pv,(i:Int),N.aO,N.within,N.cap,0,0,0,N.stops.map Stop.pv,N.ae.map av.pv,runs,N.paths.map Path.pv,N.ar.map aR.pv,())) (Ye N i runs) (body3:=jn cd) N.ah (HN i) (Nt N runs) (fun j k x rec kN hx hj hg=>?_) (fun j x rec hx hj=>?_) (fun k rec kN=>?_) (fun rec=>?_) (by omega)
 ·unfold Ye jn;dsimp only;rw[if_pos (by rw[decide_eq_true_eq];omega),if_pos (iv _ _ (by omega)),Int.toNat_natCast,hg];simp only[U,FE,vg,asBool,Bool.not_not,an (show k<9223372036854775807 by omega),an (show j<9223372036854775807 by omega),iv j x.length (by omega),if_true,Int.toNat_natCast,List.getElem?_eq_getElem (show j<x.length by omega)]
 ·unfold Ye jn;dsimp only;rw[if_neg (by rw[hx];simp)];simp only[Int.toNat_natCast,Int.toNat_zero,Nat.sub_zero,List.drop_zero];rw[if_pos (by exact⟨by omega,by omega,by omega,trivial⟩),if_pos (by exact⟨trivial,trivial,by omega,by omega⟩),if_pos (by refine⟨by omega,by omega,?_,trivial⟩;simp only[List.length_append,List.length_take,List.length_replicate,List.length_drop];omega)];unfold Nt;rw[List.take_append_of_le_length (by simp;omega),List.take_take,Nat.min_self]
 ·unfold jm;dsimp only;rw[if_pos (by rw[decide_eq_true_eq];omega),if_pos (iv _ _ (by simpa using kN)),Int.toNat_natCast,List.getElem?_map,List.getElem?_eq_getElem kN];simp only[Option.map_some,U,FE,vg,asBool,an (show k<9223372036854775807 by omega),ff];cases hp:HN i N.ah[k]with
  |true=>simp only[Bool.not_true,Bool.false_eq_true,if_false,if_true]
  |false=>simp only[Bool.not_false,if_true,Bool.false_eq_true,if_false];rw[if_neg (by rw[decide_eq_true_eq];omega)];rfl
 ·unfold jm;dsimp only;rw[if_neg (by simp)];rfl
theorem SC(x:aw):setCells 5 x.pv 3 1 (.bool false)=({x with HC:=false}:aw).pv:=rfl
theorem SD(x:aw):setCells 5 x.pv 4 1 (.bool false)=({x with Cv:=false}:aw).pv:=rfl
theorem ab8(x:bx)(l:List aw):setRow 8 x.pO 7 (.fQ 5 (l.map aw.pv))=({x with calls:=l}:bx).pO:=rfl
theorem Pr(N:af)(m:gC)(h:Pp N)(hm:m.Ok)(hv:(dD N).2.2=0)(hc:m.calls.length≤1000)(rec:_→Option PV):jo cd (Sy N m N.runs.length) rec=some (Zj N m):=by
 have hr:=h.runs;have hp:=vN (N.ar.map aR.pv) (by simpa using h.ar);have ht:=qg N m (by
  have:1000≤maxLen:=by decide
  omega)
 unfold Sy jo;dsimp only;rw[if_neg (by simp),hp];simp only[U,ab,if_true,Pq,yI,UW,ht];rw[E7];unfold Zj xS CA;simp only[ff,decide_eq_true_eq];by_cases k5:m.kind=5
 ·simp only[k5,if_true];cases htg:vO N.runs m with
  |some i=>simp only[bV,List.length_cons,List.length_nil,Nat.reduceAdd,if_true,U,List.getD_cons_zero,List.getD_cons_succ,asInt,asBool,Option.isSome_some];rfl
  |none=>
   have gB:=nV m.calls N.stops.length 0 3155932800 hm.calls.1;simp only[res]at gB;have Yf:=vf m.calls (by omega);simp only[bV,List.length_cons,List.length_nil,Nat.reduceAdd,if_true,U,List.getD_cons_zero,List.getD_cons_succ,asInt,asBool,Option.isSome_none,Bool.false_eq_true,if_false,List.length_map,bn,Bool.or_eq_true,decide_eq_true_eq,gB,uA];by_cases mn:m.bj<0∨m.bj≥(N.ae.length:Int)
   ·rw[if_pos mn,if_pos mn];rfl
   ·rw[if_neg mn,if_neg mn];by_cases he:(br m.calls (N.stops.length:Int) 0 3155932800).2=0
    ·rw[if_pos he,if_neg (show¬((N.runs.length:Int)≥1024) by omega),Yf];simp only[U,ab,if_true,he,ne_eq,not_true,if_false,if_neg (show¬(N.runs.length≥1024) by omega)];rw[if_pos (by
      have:101*80≤aa:=by decide
      rw[List.length_append,List.length_map,List.length_singleton];omega)]
     rw[List.map_append,kv];have:(N.runs++[Fm m]).map bx.pv=N.runs.map bx.pv++[.agg [.int .i64 (-1),.int .i64 m.day,.int .i64 m.inst,.str m.dw,.int .i64 m.bj,.bool m.free,.bool false,.rs 5 (m.calls.map aw.pv)]]:=by simp[Fm,bx.pv]
     simp only[af.pv,this,if_true];rfl
    ·rw[if_neg he,if_neg he,if_pos he,if_neg he];rfl
 ·simp only[if_neg k5];cases htg:vO N.runs m with
  |none=>simp only[bV,List.length_cons,List.length_nil,Nat.reduceAdd,if_true,U,List.getD_cons_zero,List.getD_cons_succ,asInt,asBool,Bool.not_false];rfl
  |some i=>
   obtain⟨hi,zS,_⟩:=xD htg;have pT:ag (i:Int) N.runs.length:=⟨by omega,by omega⟩;have se:=ui hv N.runs[i] (List.getElem_mem hi);simp only[bV,List.length_cons,List.length_nil,Nat.reduceAdd,if_true,U,List.getD_cons_zero,List.getD_cons_succ,asInt,asBool,Bool.not_true,Bool.false_eq_true,if_false,qi _ _ hi,List.getElem?_eq_getElem hi,pT,Ea,Int.toNat_natCast,List.length_map,bn,dJ,Bool.or_eq_true,decide_eq_true_eq];have Tq:((decide (m.kind=1)||decide (m.kind=3))&&(decide (m.call<0)||decide (m.call≥(N.runs[i].calls.length:Int))))=decide ((m.kind=1∨m.kind=3)∧(m.call<0∨m.call≥(N.runs[i].calls.length:Int))):=by rw[Bool.eq_iff_iff];simp
   rw[Tq];simp only[decide_eq_true_eq];by_cases hn:(m.kind=1∨m.kind=3)∧(m.call<0∨m.call≥(N.runs[i].calls.length:Int))
   ·rw[if_pos hn,if_pos hn];rfl
   rw[if_neg hn,if_neg hn];by_cases k1:m.kind=1
   ·simp only[k1,if_true];have OZ:¬(m.call<0∨m.call≥(N.runs[i].calls.length:Int)):=fun hh=>hn ⟨.inl k1,hh⟩;have aeT:=not_or.1 OZ;unfold prop;rw[if_neg OZ,if_neg (show¬(m.call<0∨m.call≥(N.runs[i].calls.length:Int))from OZ)];by_cases hs:m.bS< -43200∨m.bS>43200
    ·rw[if_pos hs,if_pos hs];rfl
    rw[if_neg hs,if_neg hs];obtain⟨c,CQ⟩:∃c:Nat,m.call=(c:Int):=⟨m.call.toNat,by omega⟩;have tv:c<N.runs[i].calls.length:=by omega
    have hlen:=h.calls N.runs[i] (List.getElem_mem hi);have ho:=xI N.runs[i].calls (by
     have:1000≤maxLen:=by decide
     omega)
    have hrq:NP (cell N.runs[i].pO 7)=some (.rs 5 (N.runs[i].calls.map aw.pv)):=rfl;simp only[hrq,U,ho,asBool];cases Yg:sX N.runs[i].calls with
    |false=>rfl
    |true=>
     have ev:0≤(N.runs[i].calls.length:Int)∧(N.runs[i].calls.length:Int)≤(N.runs[i].calls.length:Int)∧(N.runs[i].calls.length:Int).toNat*32≤aa∧0<32∧0<5:=by
      have:1000*32≤aa:=by decide
      refine⟨by omega,by omega,?_,by decide,by decide⟩;rw[Int.toNat_natCast];omega
     rw[if_neg (by decide),if_pos (by rw[Int.toNat_natCast]at ev;exact ev)];simp only[CQ,Int.toNat_natCast];obtain⟨a1,a2⟩:=Nq Yg tv (show-43200≤m.bS by omega) (show m.bS≤43200 by omega);have hA:=SA N h i c hi tv Yg _ a1 (by omega);have Ts:∀z:PV,List.take (List.replicate N.runs[i].calls.length z).length (N.runs[i].calls.map aw.pv)++List.drop N.runs[i].calls.length (List.replicate N.runs[i].calls.length z)=N.runs[i].calls.map aw.pv:=fun z=>by rw[List.length_replicate,List.take_of_length_le (by simp),List.drop_eq_nil_of_le (by simp),List.append_nil]
     have hS:∀A out,K5 N i c A 0 out=((i:Int),(c:Int),A,(N.runs[i].calls.length:Int),0,(i:Int),N.runs.map bx.pO,out,N.aO,N.within,N.cap,0,0,0,N.stops.map Stop.pv,N.ae.map av.pv,N.ah.map aH.pv,N.paths.map Path.pv,N.ar.map aR.pv,()):=fun A out=>by unfold K5;rw[List.getElem?_eq_getElem hi];rfl
     rw[hS]at hA;have hF:∀o,(match gb (N.runs[i].calls.drop c) (mI N.runs[i].calls c m.bS)with|some r=>some (PV.bl [(FD N i (N.runs[i].calls.take c++r)).pv,.int .i64 0])|none=>some (PV.bl [z9,.int .i64 10]))=o→cd.run dI ((i:Int),(c:Int),mI N.runs[i].calls c m.bS,(N.runs[i].calls.length:Int),0,(i:Int),N.runs.map bx.pO,N.runs[i].calls.map aw.pv,N.aO,N.within,N.cap,0,0,0,N.stops.map Stop.pv,N.ae.map av.pv,N.ah.map aH.pv,N.paths.map Path.pv,N.ar.map aR.pv,())=o:=fun o ho=>hA.trans ho;have hlm:=mW;obtain⟨s0,s1,s2⟩:=nY Yg c tv;have tK:∀A,A=mI N.runs[i].calls c m.bS→cd.run dI ((i:Int),(c:Int),A,(N.runs[i].calls.length:Int),0,(i:Int),N.runs.map bx.pO,N.runs[i].calls.map aw.pv,N.aO,N.within,N.cap,0,0,0,N.stops.map Stop.pv,N.ae.map av.pv,N.ah.map aH.pv,N.paths.map Path.pv,N.ar.map aR.pv,())=some (if(match(match gb (N.runs[i].calls.drop c) (mI N.runs[i].calls c m.bS)with|some r=>(some (N.runs[i].calls.take c++r),(0:Int))|none=>(none,10))with|(some l,_)=>(({N with runs:=N.runs.set i {N.runs[i]with calls:=l}}:af),(0:Int))|(none,e)=>(N,e)).2=0 then PV.bl [(match(match gb (N.runs[i].calls.drop c) (mI N.runs[i].calls c m.bS)with|some r=>(some (N.runs[i].calls.take c++r),(0:Int))|none=>(none,10))with|(some l,_)=>(({N with runs:=N.runs.set i {N.runs[i]with calls:=l}}:af),(0:Int))|(none,e)=>(N,e)).1.pv,.int .i64 0]else .bl [z9,.int .i64 (match(match gb (N.runs[i].calls.drop c) (mI N.runs[i].calls c m.bS)with|some r=>(some (N.runs[i].calls.take c++r),(0:Int))|none=>(none,10))with|(some l,_)=>(({N with runs:=N.runs.set i {N.runs[i]with calls:=l}}:af),(0:Int))|(none,e)=>(N,e)).2]):=by
      intro A sY;subst sY;apply hF;cases gb (N.runs[i].calls.drop c) (mI N.runs[i].calls c m.bS)with
      |none=>rfl
      |some r=>simp only[FD,List.getElem?_eq_getElem hi];rfl
     cases c with
     |zero=>rw[if_neg (by decide),if_pos (iv _ _ tv)];simp only[List.getElem?_map,List.getElem?_eq_getElem tv,Option.map_some,U,zL,asInt,if_true,Ts];refine tK _ ?_;rw[wrap_small (by omega) (by omega)];unfold mI;rw[List.getElem?_eq_getElem tv];simp only[iD,Option.map_some,Option.map_none,Option.getD_none,Option.getD_some];by_cases hx:N.runs[i].calls[0].arr+m.bS<0<;>simp[hx]
     |succ j=>
      have hj:j<N.runs[i].calls.length:=by omega
      rw[if_pos (by omega),vb j (by omega),if_pos (iv _ _ hj)];simp only[Int.toNat_natCast,List.getElem?_map,List.getElem?_eq_getElem hj,Option.map_some,U,zL,zM,asInt,if_true,Ts,iv _ _ tv,List.getElem?_eq_getElem tv];refine tK _ ?_;rw[wrap_small (by omega) (by omega)];unfold mI;rw[List.getElem?_eq_getElem tv];simp only[iD,List.getElem?_eq_getElem hj,Option.map_some,Option.getD_some]
   simp only[if_neg k1];by_cases k2:m.kind=2
   ·simp only[k2,if_true,qi _ _ hi,U,Wd,yY];rfl
   simp only[if_neg k2];by_cases k3:m.kind=3
   ·simp only[k3,if_true];have OZ:=not_or.1 (fun hh=>hn ⟨.inr k3,hh⟩:¬(m.call<0∨m.call≥(N.runs[i].calls.length:Int)));obtain⟨c,CQ⟩:∃c:Nat,m.call=(c:Int):=⟨m.call.toNat,by omega⟩;have tv:c<N.runs[i].calls.length:=by omega
    simp only[CQ,Int.toNat_natCast,iv c _ tv,if_true,List.getElem?_map,List.getElem?_eq_getElem tv,Option.map_some,U,SC,←List.map_set,ab8,List.length_set,List.length_map,pT,List.getElem?_set_self hi,Ea,List.getElem?_set_self tv,SD,List.set_set,kv];simp only[zX,List.getElem?_eq_getElem tv];rfl
   simp only[if_neg k3];by_cases k4:m.kind=4
   ·simp only[k4,if_true];have gB:=nV m.calls N.stops.length 0 3155932800 hm.calls.1;simp only[res]at gB;have Yf:=vf m.calls (by omega);simp only[gB,U,bV,List.length_cons,List.length_nil,Nat.reduceAdd,if_true,List.getD_cons_zero,List.getD_cons_succ,asInt,uA];by_cases he:(br m.calls (N.stops.length:Int) 0 3155932800).2=0
    ·simp only[he,Yf,U,ab,if_true,ne_eq,not_true,if_false];rw[SB N h i,U1,sE];unfold Nt;rw[yY];rfl
    ·rw[if_neg he,if_neg he,if_pos he,if_neg he];rfl
   simp only[if_neg k4];rfl
theorem Nu(x:bx)(l:List PV):(if(8:Nat)=1 then PV.fQ 5 l else .agg (cell x.pv 0::cell x.pv 1::cell x.pv 2::cell x.pv 3::cell x.pv 4::cell x.pv 5::cell x.pv 6::.fQ 5 l::over [] []))=.agg [.int .i64 x.dw,.int .i64 x.day,.int .i64 x.inst,.str x.id,.int .i64 x.bj,.bool x.free,.bool x.pE,.fQ 5 l]:=rfl
theorem CD(N:af)(m:gC)(h:Pp N)(hm:m.Ok)(hc:m.calls.length≤1000):aZ [N.pv,m.pv]=some (uz N m):=by
 have hr:=h.runs;have Zk:1003<rounds:=by decide
 have Bf:=Ck N h.ok (by have:=h.paths;omega);have hmk:=HG m hm;have f1:=Cl (N.stops.map Stop.pv) (by simpa using h.stops);have f2:=zQ (N.ae.map av.pv) (by simpa using h.ae);have f3:=DQ (N.runs.map bx.pv) (by simp;omega);have f4:=Cm (N.ah.map aH.pv) (by simpa using h.ah);have f5:=uo (N.paths.map Path.pv) (by simpa using h.paths);simp only[aZ,my,qL,ry,rz,rA,rB,rC,rD,rE,rF,rG,U,yI,Bf];simp only[fZ,bV,List.length_cons,List.length_nil,Nat.reduceAdd,if_true,List.getD_cons_zero,List.getD_cons_succ,asInt,U,Fq,Fs,Ft,Fu,Fv,Fx,Fy,Fz,FA,FB,FC,xF,xG,D8,bB,ab,asBool,UW,hmk,uA,f1,f2,f3,f4,f5,List.length_map];unfold uz;by_cases hv:(dD N).2.2=0
 ·rw[if_pos hv,if_pos hv];by_cases he:fW m=0
  ·rw[if_pos he,if_pos he];refine bM (Sy N m) N.runs.length (fun k hk rec=>?_) (fun rec=>Pr N m h hm hv hc rec) (by omega) (by unfold Sy;rw[Hn];rfl);have fc:=Cn (N.runs[k].calls.map aw.pv) (by simpa using h.calls _ (List.getElem_mem hk));unfold Sy jo;dsimp only;rw[if_pos (by rw[decide_eq_true_eq];omega),if_pos (E8 _ _ _ _ hk),Int.toNat_natCast,M5 _ _ _ _ hk];simp only[U,EY,fc,ab,if_true,E8 _ _ _ _ hk,Nu,an (show k<9223372036854775807 by omega)];have:=M6 bx.pO bx.pv N.runs k hk;rw[←this];rfl
  ·rw[if_neg he,if_neg he];rfl
 ·rw[if_neg hv,if_neg hv];rfl
structure nC(q:PV)(m:gC):Prop where
 hA:asAgg 13 q=some ()
 h0:cell q 0=.int .i64 m.source
 h1:cell q 1=.int .i64 m.seq
 h2:cell q 2=.int .i64 m.lL
 h3:cell q 3=.int .i64 m.iH
 h4:cell q 4=.int .i64 m.kind
 h5:cell q 5=.str m.dw
 h6:cell q 6=.int .i64 m.day
 h7:cell q 7=.int .i64 m.inst
 h8:cell q 8=.int .i64 m.call
 h9:cell q 9=.int .i64 m.bS
 FW:cell q 10=.int .i64 m.bj
 Yh:cell q 11=.bool m.free
 Yi:ab 5 (cell q 12)=some (m.calls.map aw.pv)
def Nv(q:PV):PV:=.agg [cell q 0,cell q 1,cell q 2,cell q 3,cell q 4,cell q 5,cell q 6,cell q 7,cell q 8,cell q 9,cell q 10,cell q 11,cell q 12]
theorem nC.agg{q:PV}{m:gC}(h:nC q m):nC (Nv q) m:=⟨rfl,h.h0,h.h1,h.h2,h.h3,h.h4,h.h5,h.h6,h.h7,h.h8,h.h9,h.FW,h.Yh,h.Yi⟩
structure vP(p:PV)(N:af):Prop where
 hA:asAgg 9 p=some ()
 h0:ab 4 (cell p 0)=some (N.stops.map Stop.pv)
 h1:ab 3 (cell p 1)=some (N.ae.map av.pv)
 h2:ab 8 (cell p 2)=some (N.runs.map bx.pv)
 h3:ab 5 (cell p 3)=some (N.ah.map aH.pv)
 h4:ab 4 (cell p 4)=some (N.paths.map Path.pv)
 h5:ab 6 (cell p 5)=some (N.ar.map aR.pv)
 h6:asInt .i64 (cell p 6)=some N.aO
 h7:asInt .i64 (cell p 7)=some N.within
 h8:asInt .i64 (cell p 8)=some N.cap
theorem SE(N:af):vP N.pv N:=⟨rfl,rfl,rfl,rfl,rfl,rfl,rfl,rfl,rfl,rfl⟩
theorem Yj(x:gC):ab 5 (cell x.pv 12)=some (x.calls.map aw.pv):=rfl
theorem HO{q:PV}{m:gC}(hq:nC q m):cN [q]=cN [m.pv]:=by simp only[cN,mz,hq.hA,hq.h0,hq.h1,hq.h2,hq.h3,hq.h4,hq.h5,hq.h6,hq.h7,hq.h8,hq.h9,hq.FW,hq.Yh,hq.Yi,Fq,Fs,Ft,Fu,Fv,Fx,Fy,Fz,FA,FB,FC,xF,xG,Yj]
theorem Aa{p q:PV}{N:af}{m:gC}(hp:vP p N)(hq:nC q m):bw [p,q]=bw [N.pv,m.pv]:=by simp only[bw,la,hp.hA,hp.h0,hp.h1,hp.h2,hp.h3,hp.h4,hp.h5,hp.h6,hp.h7,hp.h8,hq.hA,hq.h0,hq.h1,hq.h2,hq.h3,hq.h4,hq.h5,hq.h6,hq.h7,hq.h8,hq.h9,hq.FW,hq.Yh,hq.Yi,qL,ry,rz,rA,rB,rC,rD,rE,rF,rG,Fq,Fs,Ft,Fu,Fv,Fx,Fy,Fz,FA,FB,FC,xF,xG,Yj]
theorem K6{p q:PV}{N:af}{m:gC}(hp:vP p N)(hq:nC q m):aZ [p,q]=aZ [N.pv,m.pv]:=by simp only[aZ,my,hp.hA,hp.h0,hp.h1,hp.h2,hp.h3,hp.h4,hp.h5,hp.h6,hp.h7,hp.h8,hq.hA,hq.h0,hq.h1,hq.h2,hq.h3,hq.h4,hq.h5,hq.h6,hq.h7,hq.h8,hq.h9,hq.FW,hq.Yh,hq.Yi,qL,ry,rz,rA,rB,rC,rD,rE,rF,rG,Fq,Fs,Ft,Fu,Fv,Fx,Fy,Fz,FA,FB,FC,xF,xG,Yj,U]
end Go.Ab.Tt
