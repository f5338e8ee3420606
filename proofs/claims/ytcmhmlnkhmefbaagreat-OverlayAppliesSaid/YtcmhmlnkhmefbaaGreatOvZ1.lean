import Derived.Test.YtcmhmlnkhmefbaaGreatNkP2
namespace Go.Ab.Tt
set_option maxRecDepth 100000
set_option linter.unusedVariables false
set_option linter.unusedSimpArgs false
structure fL where
 source:Int
 seq:Int
 eW:Int
 dt:Int
 kind:Int
 cX:Bytes
 day:Int
 inst:Int
 call:Int
 bm:Int
 bd:Int
 free:Bool
 calls:List an
 deriving DecidableEq
def fL.pv(x:fL):PV:=.agg [.int .i64 x.source,.int .i64 x.seq,.int .i64 x.eW,.int .i64 x.dt,.int .i64 x.kind,.str x.cX,.int .i64 x.day,.int .i64 x.inst,.int .i64 x.call,.int .i64 x.bm,.int .i64 x.bd,.bool x.free,.rs 5 (x.calls.map an.pv)]
structure fL.jx(M:Nat)(x:fL):Prop where
 source:j9 x.source
 seq:j9 x.seq
 eW:j9 x.eW
 dt:j9 x.dt
 kind:j9 x.kind
 cX:x.cX.length≤M
 day:j9 x.day
 inst:j9 x.inst
 call:j9 x.call
 bm:j9 x.bm
 bd:j9 x.bd
 calls:x.calls.length≤M∧∀y∈x.calls,y.jx M
abbrev fL.Ok(x:fL):Prop:=x.jx maxLen
def fL.key(x:fL):Bytes×Int×Int:=(x.cX,x.day,x.inst)
def yA(l:List bp)(m:fL):Option Nat:=(List.range l.length).find? fun k=>decide ((l.map bD)[k]?=some m.key)
theorem uV{l:List bp}{m:fL}{k:Nat}(h:yA l m=some k):∃hk:k<l.length,bD l[k]=m.key∧∀j,(hj:j<k)→bD (l[j]'(by omega))≠m.key:=by
 unfold yA at h;rw[List.find?_range_eq_some]at h;obtain⟨h1,h2,h3⟩:=h;have hk:k<l.length:=by simpa using h2
 refine⟨hk,?_,fun j hj hc=>?_⟩
 ·simpa[List.getElem?_eq_getElem hk]using h1
 ·have:=h3 j hj;simp[List.getElem?_eq_getElem (show j<l.length by omega),hc]at this
theorem Tv{l:List bp}{m:fL}(h:yA l m=none):m.key∉l.map bD:=by
 unfold yA at h;rw[List.find?_eq_none]at h;intro hm;obtain⟨k,hk⟩:=List.mem_iff_getElem?.1 hm;have jJ:k<l.length:=by have:=(List.getElem?_eq_some_iff.1 hk).1;simpa using this
 exact h k (by simpa using jJ) (by simpa using hk)
def gC:Int:=3155932800
def nV(l:List an):Bool:=(List.range l.length).all fun k=>(l[k]?).elim true fun c=> !(decide (c.arr<((eS l k).map an.dep).getD 0)||decide (c.dep<c.arr)||decide (c.dep>gC))
def fa(c:an):Int:=if c.dep-c.arr<30 then c.dep-c.arr else 30
def late(c:an)(L4:Int):an:={c with arr:=L4,dep:=if L4+fa c>c.dep then L4+fa c else c.dep}
def fb:List an→Int→Option (List an)
 |[],_=>some []
 |c::cs,a=>if(late c a).dep>gC then none else
  match cs with
  |[]=>some [late c a]
  |d::ds=>(fb (d::ds) (d.arr+(late c a).dep-c.dep)).map fun r=>late c a::r
def lr(l:List an)(n:Nat)(bm:Int):Int:=
 let before:=((eS l n).map an.dep).getD 0
 let x:=((l[n]?).map an.arr).getD 0+bm
 if x<before then before else x
def prop(l:List an)(n:Int)(bm:Int):Option (List an)×Int:=
 if n<0∨n≥(l.length:Int)then(none,1)else if bm< -43200∨bm>43200 then(none,2)else if nV l=false then(none,10)
 else match fb (l.drop n.toNat) (lr l n.toNat bm)with
 |some r=>(some (l.take n.toNat++r),0)
 |none=>(none,10)
end Go.Ab.Tt
namespace Go.Ab.Tt
set_option maxRecDepth 100000
set_option linter.unusedVariables false
set_option linter.unusedSimpArgs false
theorem nj(N:ag):(dp N).2.2=0↔(gQ N.stops).2=0∧(fB N.af).2=0∧(gh N.runs N.stops.length N.af.length).2=0∧(hU N.runs N.ah).2=0∧(cU N.paths N.stops.length).2=0∧(dF N.aw N.aQ N.within N.cap).2=0:=by
 unfold dp;by_cases h1:(gQ N.stops).2=0
 ·rw[if_pos h1];by_cases h2:(fB N.af).2=0
  ·rw[if_pos h2];by_cases h3:(gh N.runs N.stops.length N.af.length).2=0
   ·rw[if_pos h3];by_cases h4:(hU N.runs N.ah).2=0
    ·rw[if_pos h4];by_cases h5:(cU N.paths N.stops.length).2=0
     ·rw[if_pos h5];by_cases h6:(dF N.aw N.aQ N.within N.cap).2=0
      ·rw[if_pos h6];simp[h1,h2,h3,h4,h5,h6]
      ·rw[if_neg h6];simp[h6]
     ·rw[if_neg h5];simp[h5]
    ·rw[if_neg h4];simp[h4]
   ·rw[if_neg h3];simp[h3]
  ·rw[if_neg h2];simp[h2]
 ·rw[if_neg h1];simp[h1]
def ye(x:bp)(stops af:Int):Int:=
 if dR x.id=false then 12 else if(decide (x.cX< -1)||decide (x.inst<0))=true then 2
 else if(decide (x.day<0)||decide (x.day>36524))=true then 11 else if(decide (x.bd<0)||decide (x.bd≥af))=true then 9
 else(bj x.calls stops 0 3155932800).2
theorem AA(l:List bp)(s r:Int)(k:Nat)(hk:k<l.length):jb l s r k=0↔ye l[k] s r=0∧bD l[k]∉(l.map bD).take k:=by
 unfold jb ye;rw[List.getElem?_eq_getElem hk];simp only;by_cases h1:dR l[k].id=false
 ·rw[if_pos h1,if_pos h1];simp
 ·rw[if_neg h1,if_neg h1];by_cases h2:(decide (l[k].cX< -1)||decide (l[k].inst<0))=true
  ·rw[if_pos h2,if_pos h2];simp
  ·rw[if_neg h2,if_neg h2];by_cases h3:(decide (l[k].day<0)||decide (l[k].day>36524))=true
   ·rw[if_pos h3,if_pos h3];simp
   ·rw[if_neg h3,if_neg h3];by_cases h4:(decide (l[k].bd<0)||decide (l[k].bd≥r))=true
    ·rw[if_pos h4,if_pos h4];simp
    ·rw[if_neg h4,if_neg h4];by_cases h5:(bj l[k].calls s 0 3155932800).2=0
     ·rw[if_pos h5];by_cases h6:bD l[k]∈(l.map bD).take k
      ·simp[h6]
      ·simp[h6,h5]
     ·rw[if_neg h5];simp[h5]
theorem nW(l:List bp)(s r:Int):(gh l s r).2=0↔l.length≤1024∧∀k,(hk:k<l.length)→ye l[k] s r=0∧bD l[k]∉(l.map bD).take k:=by
 unfold gh;by_cases h:l.length>1024
 ·rw[if_pos h];constructor
  ·intro hc;cases hc
  ·rintro⟨h1,_⟩;omega
 ·rw[if_neg h,mD];constructor
  ·intro h0;exact⟨by omega,fun k hk=>(AA l s r k hk).1 (h0 k hk)⟩
  ·rintro⟨_,h0⟩ k hk;exact(AA l s r k hk).2 (h0 k hk)
theorem Tw{l:List bp}{s r:Int}{i:Nat}{x:bp}(hi:i<l.length)(hk:bD x=bD l[i])(hx:ye x s r=0)(h:(gh l s r).2=0):(gh (l.set i x) s r).2=0:=by
 rw[nW]at h⊢;have hm:(l.set i x).map bD=l.map bD:=by rw[List.map_set,hk,←List.getElem_map bD (h:=by simpa using hi),List.set_getElem_self]
 refine⟨by rw[List.length_set];exact h.1,fun k jA=>?_⟩;have ZA:k<l.length:=by simpa using jA
 rw[hm];obtain⟨h1,h2⟩:=h.2 k ZA;by_cases Ay:i=k
 ·subst Ay;rw[List.getElem_set_self];exact⟨hx,by rw[hk];exact h2⟩
 ·rw[List.getElem_set_ne Ay];exact⟨h1,h2⟩
theorem Tx{l:List bp}{s r:Int}{x:bp}(hk:bD x∉l.map bD)(hx:ye x s r=0)(hl:l.length<1024)(h:(gh l s r).2=0):(gh (l++[x]) s r).2=0:=by
 rw[nW]at h⊢;refine⟨by simp;omega,fun k jA=>?_⟩;simp only[List.length_append,List.length_cons,List.length_nil]at jA;rw[List.map_append];by_cases bu:k<l.length
 ·rw[List.getElem_append_left bu,List.take_append_of_le_length (by simp;omega)];exact h.2 k bu
 ·have:k=l.length:=by omega
  subst this;rw[List.getElem_append_right (Nat.le_refl _)];simp only[Nat.sub_self,List.getElem_cons_zero];refine⟨hx,?_⟩;rw[List.take_append_of_le_length (by simp),List.take_of_length_le (by simp)];exact hk
def EJ(runs:List bp)(p:List aD)(x:aD):Int:=
 if uG x runs.length=true then 9 else if uH x (aB runs x.a).length (aB runs x.b).length=true then 9
 else if ff (aB runs x.a) x.ac≠ff (aB runs x.b) x.bc then 13 else if pM p x (aB runs x.a).length=true then 19
 else if cn x∈p.map cn then 6 else 0
theorem EK(runs:List bp)(l:List aD)(k:Nat)(hk:k<l.length):cC runs l k=EJ runs (l.take k) l[k]:=by unfold cC EJ;rw[List.getElem?_eq_getElem hk,List.map_take]
def tf(runs:List bp)(l:List aD):Prop:=∀k,(hk:k<l.length)→EJ runs (l.take k) l[k]=0
theorem rj(runs:List bp)(l:List aD):(hU runs l).2=0↔l.length≤1024∧tf runs l:=by
 unfold hU tf;by_cases h:l.length>1024
 ·rw[if_pos h];constructor
  ·intro hc;cases hc
  ·rintro⟨h1,_⟩;omega
 ·rw[if_neg h,mD];constructor
  ·intro h0;exact⟨by omega,fun k hk=>by rw[←EK];exact h0 k hk⟩
  ·rintro⟨_,h0⟩ k hk;rw[EK runs l k hk];exact h0 k hk
theorem Qj(runs:List bp):tf runs []:=fun k hk=>by simp at hk
theorem w7(runs:List bp)(p:List aD)(x:aD):tf runs (p++[x])↔tf runs p∧EJ runs p x=0:=by
 constructor
 ·intro h;refine⟨fun k hk=>?_,?_⟩
  ·have:=h k (by simp;omega);rw[List.getElem_append_left hk,List.take_append_of_le_length (by omega)]at this;exact this
  ·have:=h p.length (by simp);rw[List.getElem_append_right (Nat.le_refl _),List.take_append_of_le_length (Nat.le_refl _),List.take_length]at this;simpa using this
 ·rintro⟨h1,h2⟩ k hk;simp only[List.length_append,List.length_cons,List.length_nil]at hk;by_cases bu:k<p.length
  ·rw[List.getElem_append_left bu,List.take_append_of_le_length (by omega)];exact h1 k bu
  ·have:k=p.length:=by omega
   subst this;rw[List.getElem_append_right (Nat.le_refl _),List.take_append_of_le_length (Nat.le_refl _),List.take_length];simpa using h2
theorem sT(runs:List bp)(p:List aD)(x:aD):EJ runs p x=0↔uG x runs.length=false∧uH x (aB runs x.a).length (aB runs x.b).length=false∧ff (aB runs x.a) x.ac=ff (aB runs x.b) x.bc∧pM p x (aB runs x.a).length=false∧cn x∉p.map cn:=by
 unfold EJ;cases uG x runs.length with
 |true=>simp
 |false=>
  cases uH x (aB runs x.a).length (aB runs x.b).length with
  |true=>simp
  |false=>
   by_cases h3:ff (aB runs x.a) x.ac=ff (aB runs x.b) x.bc
   ·cases pM p x (aB runs x.a).length with
    |true=>simp[h3]
    |false=>
     by_cases h5:cn x∈p.map cn
     ·simp[h3,h5]
     ·simp[h3,h5]
   ·simp[h3]
theorem CW{x:aD}{R:Int}(h:uG x R=false):(0≤x.a∧x.a<R)∧(0≤x.b∧x.b<R)∧x.a≠x.b:=by unfold uG at h;simp only[Bool.or_eq_false_iff,Bool.not_eq_false',Bool.and_eq_true,decide_eq_true_eq,decide_eq_false_iff_not]at h;exact⟨h.1.1,h.1.2,h.2⟩
variable{runs AB:List bp}
theorem pS{l:List aD}(h:tf runs l)(hR:runs.length≤AB.length)(hc:∀x∈l,∀v,v=x.a∨v=x.b→(aB AB v).length=(aB runs v).length∧∀c,ff (aB AB v) c=ff (aB runs v) c):tf AB l:=by intro k hk;have h0:=h k hk;rw[sT]at h0⊢;obtain⟨h1,h2,h3,h4,h5⟩:=h0;obtain⟨ea,sa⟩:=hc _ (List.getElem_mem hk) _ (Or.inl rfl);obtain⟨eb,sb⟩:=hc _ (List.getElem_mem hk) _ (Or.inr rfl);rw[ea,eb,sa,sb];refine⟨?_,h2,h3,h4,h5⟩;obtain⟨g1,g2,g3⟩:=CW h1;unfold uG;simp only[Bool.or_eq_false_iff,Bool.not_eq_false',Bool.and_eq_true,decide_eq_true_eq,decide_eq_false_iff_not];exact⟨⟨⟨g1.1,by omega⟩,⟨g2.1,by omega⟩⟩,g3⟩
theorem AD{p:List aD}{x:aD}{A:Int}(h:pM p x A=false):x.stay=false∨(x.ac+1=A∧x.bc=0∧nx p x.a=none∧x.b∉jO p∧lK p x.b x.a (p.length+1)=false):=by
 unfold pM at h;cases hs:x.stay with
 |false=>exact Or.inl rfl
 |true=>
  rw[hs,Bool.true_and]at h;simp only[Bool.or_eq_false_iff,Bool.not_eq_false',decide_eq_true_eq,decide_eq_false_iff_not]at h;obtain⟨⟨⟨⟨h1,h2⟩,h3⟩,h4⟩,h5⟩:=h;refine Or.inr ⟨h1,h2,?_,h4,h5⟩;cases hn:nx p x.a with
  |none=>rfl
  |some w=>rw[hn]at h3;cases h3
theorem acE(l:List aD)(h:tf runs l):∀x∈l,x.stay=true→nx l x.a=some x.b:=by
 induction l using uE with
 |h0=>intro x hx;cases hx
 |h1 p y ih=>
  rw[w7]at h;obtain⟨hp,hy⟩:=h;rw[sT]at hy;intro x hx hs;rw[qw];rcases List.mem_append.1 hx with hx|hx
  ·have h1:=ih hp x hx hs;by_cases hc:(y.stay&&decide (y.a=x.a))=true
   ·simp only[Bool.and_eq_true,decide_eq_true_eq]at hc;rcases AD hy.2.2.2.1 with h2|h2
    ·rw[h2]at hc;cases hc.1
    ·rw[hc.2]at h2;rw[h1]at h2;cases h2.2.2.1
   ·rw[if_neg hc];exact h1
  ·rw[List.mem_singleton]at hx;subst hx;rw[if_pos (by simp[hs])]
theorem F5(f:aD→Bool)(l:List aD)(h:tf runs l)(hR:runs.length≤AB.length)(hc:∀x∈l,f x=true→∀v,v=x.a∨v=x.b→(aB AB v).length=(aB runs v).length∧∀c,ff (aB AB v) c=ff (aB runs v) c):tf AB (l.filter f):=by
 refine pS (runs:=runs) ?_ hR (fun x hx=>hc x (List.mem_filter.1 hx).1 (List.mem_filter.1 hx).2);clear hc hR;induction l using uE with
 |h0=>exact Qj runs
 |h1 p x ih=>
  rw[w7]at h;obtain⟨hp,hx⟩:=h;rw[List.filter_append];by_cases hf:f x=true
  ·rw[List.filter_cons_of_pos hf,List.filter_nil,w7];refine⟨ih hp,?_⟩;rw[sT]at hx⊢;obtain⟨h1,h2,h3,h4,h5⟩:=hx;have Pr:∀y∈p.filter f,y∈p:=fun y hy=>(List.mem_filter.1 hy).1;refine⟨h1,h2,h3,?_,fun hm=>h5 ?_⟩
   ·rcases AD h4 with hs|⟨g1,g2,g3,g4,g5⟩
    ·unfold pM;rw[hs];rfl
    ·have hnx:∀v w,nx (p.filter f) v=some w→nx p v=some w:=fun v w Of=>by obtain⟨y,hy,hys,rfl,rfl⟩:=LH Of;exact acE p hp y (Pr y hy) hys
     have hit:∀t v w,it (nx (p.filter f)) t v=some w→it (nx p) t v=some w:=by
      intro t;induction t with
      |zero=>intro v w h;exact h
      |succ t iht=>
       intro v w Of;have V8:(nx (p.filter f) v).bind (it (nx (p.filter f)) t)=some w:=Of;cases hn:nx (p.filter f) v with
       |none=>rw[hn]at V8;cases V8
       |some u=>rw[hn]at V8;show(nx p v).bind (it (nx p) t)=some w;rw[hnx v u hn];exact iht u w V8
     have k1:(nx (p.filter f) x.a).isSome=false:=by
      cases hn:nx (p.filter f) x.a with
      |none=>rfl
      |some w=>rw[hnx _ _ hn]at g3;cases g3
     have k2:decide (x.b∈jO (p.filter f))=false:=by rw[decide_eq_false_iff_not];intro hm;apply g4;unfold jO at hm⊢;obtain⟨y,hy,hyb⟩:=List.mem_map.1 hm;obtain⟨hy1,hy2⟩:=List.mem_filter.1 hy;exact List.mem_map.2 ⟨y,List.mem_filter.2 ⟨Pr y hy1,hy2⟩,hyb⟩
     have k3:lK (p.filter f) x.b x.a ((p.filter f).length+1)=false:=by unfold lK at g5⊢;rw[List.any_eq_false]at g5⊢;intro t ht hc;have hle:=List.length_filter_le f p;refine g5 t (by simp at ht⊢;omega) ?_;rw[decide_eq_true_eq]at hc⊢;exact hit _ _ _ hc
     unfold pM;rw[k1,k2,k3,g1,g2];simp
   ·obtain⟨y,hy,hk⟩:=List.mem_map.1 hm;exact List.mem_map.2 ⟨y,Pr y hy,hk⟩
  ·rw[List.filter_cons_of_neg hf,List.filter_nil,List.append_nil];exact ih hp
end Go.Ab.Tt
namespace Go.Ab.Tt
set_option maxRecDepth 100000
set_option linter.unusedVariables false
set_option linter.unusedSimpArgs false
def GB(n a b:Int):Option an→List an→Prop
 |_,[]=>True
 |p,c::cs=>kR c p n a b=0∧GB n a b (some c) cs
theorem OC(n a b:Int)(l:List an):∀p,GB n a b p l↔∀k,(hk:k<l.length)→kR l[k] (if k=0 then p else l[k-1]?) n a b=0:=by
 induction l with
 |nil=>intro p;exact⟨fun _ k hk=>by simp at hk,fun _=>trivial⟩
 |cons c cs ih=>
  intro p;show(kR c p n a b=0∧GB n a b (some c) cs)↔_;rw[ih];constructor
  ·rintro⟨h1,h2⟩ k hk;cases k with
   |zero=>exact h1
   |succ k=>
    have:=h2 k (by simpa using hk);cases k with
    |zero=>simpa using this
    |succ k=>simpa using this
  ·intro h;refine⟨h 0 (Nat.zero_lt_succ _),fun k hk=>?_⟩;have:=h (k+1) (by simpa using hk);cases k with
   |zero=>simpa using this
   |succ k=>simpa using this
theorem uW(l:List an)(n a b:Int):(bj l n a b).2=0↔2≤l.length∧l.length≤32∧GB n a b none l:=by
 have he:(∀k,k<l.length→lG l n a b k=0)↔GB n a b none l:=by
  rw[OC];constructor
  ·intro h k hk;have:=h k hk;unfold lG at this;rw[List.getElem?_eq_getElem hk]at this;cases k with
   |zero=>exact this
   |succ k=>exact this
  ·intro h k hk;have:=h k hk;unfold lG;rw[List.getElem?_eq_getElem hk];cases k with
   |zero=>exact this
   |succ k=>exact this
 rw[←he];constructor
 ·intro h;exact⟨(uM h).1,(uM h).2,Av h⟩
 ·rintro⟨h1,h2,h3⟩;unfold bj;rw[if_neg (by simp;omega)];exact(mD _ _).2 h3
theorem w8(n a b:Int)(l1 l2:List an):∀p,GB n a b p (l1++l2)↔GB n a b p l1∧GB n a b (if l1.length=0 then p else l1[l1.length-1]?) l2:=by
 induction l1 with
 |nil=>intro p;simp[GB]
 |cons c cs ih=>
  intro p;show(kR c p n a b=0∧GB n a b (some c) (cs++l2))↔(kR c p n a b=0∧GB n a b (some c) cs)∧_;rw[ih,and_assoc];have:(if(c::cs).length=0 then p else(c::cs)[(c::cs).length-1]?)=if cs.length=0 then some c else cs[cs.length-1]?:=by
   cases cs with
   |nil=>rfl
   |cons d ds=>simp
  rw[this]
variable{p:Option an}
theorem CX{c:an}{n a b:Int}(h1:0≤c.stop)(h2:c.stop<n)(h3:∀q,p=some q→q.stop≠c.stop)(h4:a≤c.arr)(h5:c.arr≤c.dep)(h6:c.dep≤b)(h7:∀q,p=some q→q.dep≤c.arr):kR c p n a b=0:=by
 unfold kR;rw[if_neg (by simp;omega)];cases p with
 |none=>dsimp only;rw[if_neg (by simp),if_neg (by simp;omega)]
 |some q=>dsimp only;have:=h3 q rfl;have:=h7 q rfl;rw[if_neg (by simpa using h3 q rfl),if_neg (by simp;omega)]
theorem sU{c:an}{n a b:Int}(h:kR c p n a b=0):0≤c.stop∧c.stop<n∧∀q,p=some q→q.stop≠c.stop:=by
 unfold kR at h;by_cases hA:(decide (c.stop<0)||decide (c.stop≥n))=true
 ·rw[if_pos hA]at h;cases h
 ·rw[if_neg hA]at h;simp only[Bool.or_eq_true,decide_eq_true_eq,not_or]at hA;refine⟨by omega,by omega,fun q hq hc=>?_⟩;subst hq;dsimp only at h;rw[if_pos (by simpa using hc)]at h;cases h
theorem Ty(n:Int)(cs:List an):∀(a:Int)(p:Option an)(r:List an),GB n 0 gC p cs→fb cs a=some r→(∀q,p=some q→q.dep≤a)→0≤a→GB n 0 gC p r∧r.map an.stop=cs.map an.stop:=by
 induction cs with
 |nil=>intro a p r _ hr _ _;simp only[fb,Option.some.injEq]at hr;subst hr;exact⟨trivial,rfl⟩
 |cons c cs ih=>
  intro a p r xf hr hp ha;obtain⟨hc,Jo⟩:=xf;obtain⟨g1,g2,g3⟩:=sU hc;obtain⟨k1,k2,k3,k4⟩:=pO hc;have hd:0≤fa c:=by unfold fa;split<;>omega
  have afw:a≤(late c a).dep:=by show a≤if a+fa c>c.dep then a+fa c else c.dep;split<;>omega
  have hcd:c.dep≤(late c a).dep:=by show c.dep≤if a+fa c>c.dep then a+fa c else c.dep;split<;>omega
  unfold fb at hr;by_cases nX:(late c a).dep>gC
  ·rw[if_pos nX]at hr;cases hr
  ·rw[if_neg nX]at hr;have hE:kR (late c a) p n 0 gC=0:=CX g1 g2 g3 ha afw (by omega) hp;cases cs with
   |nil=>simp only[Option.some.injEq]at hr;subst hr;exact⟨⟨hE,trivial⟩,rfl⟩
   |cons d ds=>
    simp only[Option.map_eq_some_iff]at hr;obtain⟨r',ru,rfl⟩:=hr;obtain⟨hdE,hds⟩:=Jo;obtain⟨d1,d2,d3,d4⟩:=pO hdE;obtain⟨e1,e2,e3⟩:=sU hdE;have hdc:=d4 c rfl;have afx:GB n 0 gC (some (late c a)) (d::ds)→GB n 0 gC (some (late c a)) r'∧r'.map an.stop=(d::ds).map an.stop:=fun hh=>ih _ _ r' hh ru (fun q hq=>by cases hq;omega) (by omega);by_cases acF:(late c a).dep≤d.arr
    ·obtain⟨i1,i2⟩:=afx ⟨CX e1 e2 (fun q hq=>by cases hq;exact e3 c rfl) d2 d1 d3 (fun q hq=>by cases hq;exact acF),hds⟩;exact⟨⟨hE,i1⟩,by simp only[List.map_cons,i2];rfl⟩
    ·obtain⟨i1,i2⟩:=ih (d.arr+(late c a).dep-c.dep) (some c) r' ⟨hdE,hds⟩ ru (fun q hq=>by cases hq;omega) (by omega);refine⟨⟨hE,?_⟩,by simp only[List.map_cons,i2];rfl⟩;cases r' with
     |nil=>trivial
     |cons x xs=>
      obtain⟨j1,j2⟩:=i1;obtain⟨f1,f2,f3⟩:=sU j1;obtain⟨t1,t2,t3,t4⟩:=pO j1;refine⟨CX f1 f2 (fun q hq=>by cases hq;exact f3 c rfl) t2 t1 t3 (fun q hq=>?_),j2⟩;cases hq;have hx:x.arr=d.arr+(late c a).dep-c.dep:=by
       unfold fb at ru;by_cases oL:(late d (d.arr+(late c a).dep-c.dep)).dep>gC
       ·rw[if_pos oL]at ru;cases ru
       ·rw[if_neg oL]at ru;cases ds with
        |nil=>simp only[Option.some.injEq,List.cons.injEq]at ru;rw[←ru.1];rfl
        |cons d2 ds2=>simp only[Option.map_eq_some_iff,List.cons.injEq]at ru;obtain⟨_,_,h1,_⟩:=ru;rw[←h1];rfl
      omega
theorem V9{l r:List an}{n:Int}{at_ bm:Int}(h:(bj l n 0 gC).2=0)(hp:prop l at_ bm=(some r,0)):(bj r n 0 gC).2=0∧r.map an.stop=l.map an.stop:=by
 rw[uW]at h;obtain⟨h1,h2,h3⟩:=h;unfold prop at hp;by_cases ha:at_<0∨at_≥(l.length:Int)
 ·rw[if_pos ha]at hp;cases hp
 ·rw[if_neg ha]at hp;by_cases hs:bm< -43200∨bm>43200
  ·rw[if_pos hs]at hp;cases hp
  ·rw[if_neg hs]at hp;by_cases ho:nV l=false
   ·rw[if_pos ho]at hp;cases hp
   ·rw[if_neg ho]at hp;cases hl:fb (l.drop at_.toNat) (lr l at_.toNat bm)with
    |none=>rw[hl]at hp;cases hp
    |some r'=>
     rw[hl]at hp;simp only[Prod.mk.injEq,Option.some.injEq,and_true]at hp;generalize hn:at_.toNat=m at hl hp;have hm:m<l.length:=by omega
     rw[←List.take_append_drop m l,w8]at h3;obtain⟨g1,g2⟩:=h3;have hlen:(l.take m).length=m:=by simp;omega
     have Tz:(if(l.take m).length=0 then(none:Option an)else(l.take m)[(l.take m).length-1]?)=eS l m:=by
      rw[hlen];cases m with
      |zero=>rfl
      |succ m=>rw[if_neg (by omega),List.getElem?_take_of_lt (by omega)];rfl
     rw[Tz]at g2;have dK:∀q,eS l m=some q→0≤q.dep:=by
      intro q hq;have xf:GB n 0 gC none l:=by rw[←List.take_append_drop m l,w8,Tz];exact⟨g1,g2⟩
      cases m with
      |zero=>cases hq
      |succ m=>
       have Pc:l[m]?=some q:=hq;have UH:m<l.length:=by omega
       rw[List.getElem?_eq_getElem UH]at Pc;cases Pc;have:=(OC n 0 gC l none).1 xf m UH;obtain⟨z1,z2,_,_⟩:=pO this;omega
     have xI:(∀q,eS l m=some q→q.dep≤lr l m bm)∧0≤lr l m bm:=by
      unfold lr;cases hq:eS l m with
      |none=>refine⟨(fun q hq=>by cases hq),?_⟩;simp only[Option.map_none,Option.getD_none];split<;>omega
      |some q=>
       have:=dK q hq;simp only[Option.map_some,Option.getD_some];refine⟨fun q' Pc=>?_,?_⟩
       ·cases Pc;split<;>omega
       ·split<;>omega
     obtain⟨i1,i2⟩:=Ty n (l.drop m) _ _ r' g2 hl xI.1 xI.2;have Vy:r'.length=l.length-m:=by have:=congrArg List.length i2;simpa using this
     rw[←hp];refine⟨?_,?_⟩
     ·rw[uW,w8,Tz];refine⟨?_,?_,g1,i1⟩
      ·simp[Vy];omega
      ·simp[Vy];omega
     ·rw[List.map_append,i2,←List.map_append,List.take_append_drop]
def eX(m:fL):Int:=
 if wi m.source 0 7=false then 36 else if m.seq<1 then 2
 else if(!wi m.eW 0 3155932800|| !wi m.dt 0 3155932800||decide (m.eW≥m.dt))=true then 10
 else if wi m.kind 1 6=false then 35 else if dR m.cX=false then 12 else if wi m.day 0 36524=false then 11 else if m.inst<0 then 2
 else
  let uC:=decide (m.kind=1)||decide (m.kind=3)
  let uS:=decide (m.kind=1)
  let uR:=decide (m.kind=5)
  let uL:=decide (m.kind=4)||decide (m.kind=5)
  if(uC&& !wi m.call 0 31||uS&& !wi m.bm (-43200) 43200||uR&& !wi m.bd 0 63)=true then 2
  else if uL=true∧(bj m.calls 64 0 3155932800).2≠0 then(bj m.calls 64 0 3155932800).2
  else if(!uC&& !decide (m.call=0)|| !uS&& !decide (m.bm=0)|| !uR&& !decide (m.bd=0)|| !uR&&m.free|| !uL&&decide (m.calls.length>0))=true then 1 else 0
theorem TA{m:fL}(h:eX m=0):dR m.cX=true∧(0≤m.day∧m.day≤36524)∧0≤m.inst∧1≤m.kind∧m.kind≤6:=by
 unfold eX at h;by_cases h1:wi m.source 0 7=false
 ·rw[if_pos h1]at h;cases h
 rw[if_neg h1]at h;by_cases h2:m.seq<1
 ·rw[if_pos h2]at h;cases h
 rw[if_neg h2]at h;by_cases h3:(!wi m.eW 0 3155932800|| !wi m.dt 0 3155932800||decide (m.eW≥m.dt))=true
 ·rw[if_pos h3]at h;cases h
 rw[if_neg h3]at h;by_cases h4:wi m.kind 1 6=false
 ·rw[if_pos h4]at h;cases h
 rw[if_neg h4]at h;by_cases h5:dR m.cX=false
 ·rw[if_pos h5]at h;cases h
 rw[if_neg h5]at h;by_cases h6:wi m.day 0 36524=false
 ·rw[if_pos h6]at h;cases h
 rw[if_neg h6]at h;by_cases h7:m.inst<0
 ·rw[if_pos h7]at h;cases h
 simp only[wi,Bool.and_eq_false_iff,decide_eq_false_iff_not,not_or]at h4 h6;refine⟨by simpa using h5,⟨by omega,by omega⟩,by omega,by omega,by omega⟩
def CY(m:fL):bp:=⟨-1,m.day,m.inst,m.cX,m.bd,m.free,false,m.calls⟩
def AE(l:List an)(c:Nat):List an:=match l[c]? with|some k=>l.set c {k with yf:=false,sV:=false}|none=>l
def Bc(N:ag)(m:fL):ag×Int:=
 if m.kind=5 then
  if(yA N.runs m).isSome=true then(N,6)else if m.bd<0∨m.bd≥(N.af.length:Int)then(N,14)
  else if(bj m.calls N.stops.length 0 3155932800).2≠0 then(N,(bj m.calls N.stops.length 0 3155932800).2)
  else if N.runs.length≥1024 then(N,5)else({N with runs:=N.runs++[CY m]},0)
 else match yA N.runs m with
 |none=>(N,16)
 |some i=>match N.runs[i]? with
  |none=>(N,16)
  |some r=>
   if(m.kind=1∨m.kind=3)∧(m.call<0∨m.call≥(r.calls.length:Int))then(N,9)
   else if m.kind=1 then match prop r.calls m.call m.bm with
    |(some l,_)=>({N with runs:=N.runs.set i {r with calls:=l}},0)
    |(none,e)=>(N,e)
   else if m.kind=2 then({N with runs:=N.runs.set i {r with q9:=true}},0)
   else if m.kind=3 then({N with runs:=N.runs.set i {r with calls:=AE r.calls m.call.toNat}},0)
   else if m.kind=4 then
    if(bj m.calls N.stops.length 0 3155932800).2≠0 then(N,(bj m.calls N.stops.length 0 3155932800).2)
    else({N with runs:=N.runs.set i {r with calls:=m.calls},ah:=N.ah.filter fun l=> !(decide (l.a=(i:Int))||decide (l.b=(i:Int)))},0)
   else(N,0)
end Go.Ab.Tt
namespace Go.Ab.Tt
set_option maxRecDepth 100000
set_option linter.unusedVariables false
set_option linter.unusedSimpArgs false
def core(c:an):Int×Int×Int:=(c.stop,c.arr,c.dep)
theorem L5{c c':an}{p p':Option an}{n a b:Int}(h:core c=core c')(hp:p.map core=p'.map core):kR c p n a b=kR c' p' n a b:=by
 simp only[core,Prod.mk.injEq]at h;obtain⟨h1,h2,h3⟩:=h;unfold kR;rw[h1,h2,h3];cases p with
 |none=>cases p' with
  |none=>rfl
  |some q=>cases hp
 |some q=>cases p' with
  |none=>cases hp
  |some q'=>simp only[Option.map_some,Option.some.injEq,core,Prod.mk.injEq]at hp;obtain⟨g1,g2,g3⟩:=hp;simp only[g1,g3]
theorem Ib{n a b:Int}:∀{l l':List an}{p p':Option an},l.map core=l'.map core→p.map core=p'.map core→GB n a b p l→GB n a b p' l'
 |[],[],_,_,_,_,_=>trivial
 |[],_::_,_,_,h,_,_=>by cases h
 |_::_,[],_,_,h,_,_=>by cases h
 |c::cs,c'::DZ,p,p',h,hp,ho=>by simp only[List.map_cons,List.cons.injEq]at h;exact⟨by rw[←L5 h.1 hp];exact ho.1,Ib (p:=some c) (p':=some c') h.2 (by simp[h.1]) ho.2⟩
variable{l':List an}
theorem F6{n a b:Int}{l:List an}(h:l.map core=l'.map core)(hr:(bj l n a b).2=0):(bj l' n a b).2=0:=by
 rw[uW]at hr⊢;have hl:l.length=l'.length:=by simpa using congrArg List.length h
 exact⟨by omega,by omega,Ib h rfl hr.2.2⟩
theorem CZ(l:List an)(c:Nat):(AE l c).map core=l.map core:=by
 unfold AE;cases hc:l[c]? with
 |none=>rfl
 |some k=>
  simp only;rw[List.map_set];apply List.ext_getElem?;intro j;rw[List.getElem?_set];split
  ·rename_i e;subst e;have bu:=(List.getElem?_eq_some_iff.1 hc).1;rw[if_pos (by simpa using bu),List.getElem?_map,hc];rfl
  ·rfl
theorem Qk{l:List an}(h:l.map core=l'.map core):l.map an.stop=l'.map an.stop:=by
 have:∀l:List an,l.map an.stop=(l.map core).map Prod.fst:=fun l=>by rw[List.map_map];rfl
 rw[this,this,h]
theorem C0(cs:List an)(c:Int):ff cs c=((cs.map an.stop)[c.toNat]?).getD 0:=by unfold ff;rw[List.getElem?_map]
theorem L6{cs DZ:List an}(h:DZ.map an.stop=cs.map an.stop):DZ.length=cs.length∧∀c,ff DZ c=ff cs c:=by refine⟨by simpa using congrArg List.length h,fun c=>?_⟩;rw[C0,C0,h]
variable{runs:List bp}{x:bp}
theorem uX{i:Nat}{r:bp}(hr:runs[i]?=some r)(h:x.calls.map an.stop=r.calls.map an.stop)(v:Int):(aB (runs.set i x) v).length=(aB runs v).length∧∀c,ff (aB (runs.set i x) v) c=ff (aB runs v) c:=by
 by_cases hv:v.toNat=i
 ·subst hv;have bu:=(List.getElem?_eq_some_iff.1 hr).1;have h1:aB (runs.set v.toNat x) v=x.calls:=by unfold aB;rw[List.getElem?_set_self bu];rfl
  have h2:aB runs v=r.calls:=by unfold aB;rw[hr];rfl
  rw[h1,h2];exact L6 h
 ·have h1:aB (runs.set i x) v=aB runs v:=by unfold aB;rw[List.getElem?_set_ne (fun h=>hv h.symm)]
  rw[h1];exact⟨rfl,fun _=>rfl⟩
theorem L7{i:Nat}{v:Int}(hv:v.toNat≠i):aB (runs.set i x) v=aB runs v:=by unfold aB;rw[List.getElem?_set_ne (fun h=>hv h.symm)]
theorem Ic{v:Int}(hv:0≤v∧v<(runs.length:Int)):aB (runs++[x]) v=aB runs v:=by unfold aB;rw[List.getElem?_append_left (by omega)]
theorem EL{l:List aD}(h:tf runs l){x:aD}(hx:x∈l):(0≤x.a∧x.a<(runs.length:Int))∧0≤x.b∧x.b<(runs.length:Int):=by obtain⟨k,hk,rfl⟩:=List.getElem_of_mem hx;have:=h k hk;rw[sT]at this;obtain⟨g1,g2,_⟩:=CW this.1;exact⟨g1,g2⟩
theorem C1{s r:Int}(h:ye x s r=0):dR x.id=true∧(decide (x.cX< -1)||decide (x.inst<0))=false∧(decide (x.day<0)||decide (x.day>36524))=false∧(decide (x.bd<0)||decide (x.bd≥r))=false∧(bj x.calls s 0 3155932800).2=0:=by
 unfold ye at h;by_cases h1:dR x.id=false
 ·rw[if_pos h1]at h;cases h
 rw[if_neg h1]at h;by_cases h2:(decide (x.cX< -1)||decide (x.inst<0))=true
 ·rw[if_pos h2]at h;cases h
 rw[if_neg h2]at h;by_cases h3:(decide (x.day<0)||decide (x.day>36524))=true
 ·rw[if_pos h3]at h;cases h
 rw[if_neg h3]at h;by_cases h4:(decide (x.bd<0)||decide (x.bd≥r))=true
 ·rw[if_pos h4]at h;cases h
 rw[if_neg h4]at h;exact⟨by simpa using h1,by simpa using h2,by simpa using h3,by simpa using h4,h⟩
theorem Ie{s r:Int}(h1:dR x.id=true)(h2:(decide (x.cX< -1)||decide (x.inst<0))=false)(h3:(decide (x.day<0)||decide (x.day>36524))=false)(h4:(decide (x.bd<0)||decide (x.bd≥r))=false)(h5:(bj x.calls s 0 3155932800).2=0):ye x s r=0:=by unfold ye;rw[if_neg (by simp[h1]),if_neg (by simp[h2]),if_neg (by simp[h3]),if_neg (by simp[h4])];exact h5
theorem Bd{N:ag}(h:(dp N).2.2=0){i:Nat}{r:bp}(hr:N.runs[i]?=some r)(hk:bD x=bD r)(ht:x.cX=r.cX)(la:x.bd=r.bd)(hc:(bj x.calls N.stops.length 0 3155932800).2=0){l:List aD}(hl:l.length≤1024)(hg:tf (N.runs.set i x) l):(dp {N with runs:=N.runs.set i x,ah:=l}).2.2=0:=by
 rw[nj]at h⊢;obtain⟨g1,g2,g3,g4,g5,g6⟩:=h;have hi:=(List.getElem?_eq_some_iff.1 hr).1;have hri:N.runs[i]=r:=(List.getElem?_eq_some_iff.1 hr).2;have hE:=((nW _ _ _).1 g3).2 i hi;rw[hri]at hE;obtain⟨e1,e2,e3,e4,e5⟩:=C1 hE.1;simp only[bD,Prod.mk.injEq]at hk;refine⟨g1,g2,?_,(rj _ _).2 ⟨hl,hg⟩,g5,g6⟩;refine Tw hi (by rw[hri];simp[bD,hk]) (Ie ?_ ?_ ?_ ?_ hc) g3
 ·rw[hk.1];exact e1
 ·rw[ht,hk.2.2];exact e2
 ·rw[hk.2.1];exact e3
 ·rw[la];exact e4
theorem Ql(N:ag)(m:fL)(h:(dp N).2.2=0)(hm:eX m=0)(he:(Bc N m).2=0):(dp (Bc N m).1).2.2=0:=by
 obtain⟨m1,m2,m3,m4,m5⟩:=TA hm;have hz:=(nj N).1 h;obtain⟨g1,g2,g3,g4,g5,g6⟩:=hz;obtain⟨l1,l2⟩:=(rj _ _).1 g4;have acG:=(nW _ _ _).1 g3;unfold Bc at he⊢;by_cases k5:m.kind=5
 ·rw[if_pos k5]at he⊢;by_cases t1:(yA N.runs m).isSome=true
  ·rw[if_pos t1]at he;cases he
  rw[if_neg t1]at he⊢;by_cases t2:m.bd<0∨m.bd≥(N.af.length:Int)
  ·rw[if_pos t2]at he;cases he
  rw[if_neg t2]at he⊢;by_cases t3:(bj m.calls N.stops.length 0 3155932800).2≠0
  ·rw[if_pos t3]at he;exact absurd he t3
  rw[if_neg t3]at he⊢;by_cases t4:N.runs.length≥1024
  ·rw[if_pos t4]at he;cases he
  rw[if_neg t4]at he⊢;rw[nj];have Su:yA N.runs m=none:=by
   cases hx:yA N.runs m with
   |none=>rfl
   |some k=>rw[hx]at t1;exact absurd rfl t1
  refine⟨g1,g2,Tx (Tv Su) (Ie m1 (by show(decide ((-1:Int)< -1)||decide (m.inst<0))=false;simp;omega) (by show(decide (m.day<0)||decide (m.day>36524))=false;simp;omega) (by show(decide (m.bd<0)||decide (m.bd≥(N.af.length:Int)))=false;simp;omega) (Decidable.of_not_not t3)) (by omega) g3,(rj _ _).2 ⟨l1,pS l2 (by simp) fun x hx v hv=>?_⟩,g5,g6⟩;obtain⟨b1,b2⟩:=EL l2 hx;have:0≤v∧v<(N.runs.length:Int):=by
   rcases hv with rfl|rfl
   ·exact b1
   ·exact b2
  rw[Ic this];exact⟨rfl,fun _=>rfl⟩
 ·rw[if_neg k5]at he⊢;cases ht:yA N.runs m with
  |none=>rw[ht]at he;cases he
  |some i=>
   obtain⟨hi,qL,_⟩:=uV ht;have hr:N.runs[i]?=some N.runs[i]:=List.getElem?_eq_getElem hi;rw[ht]at he;simp only[hr]at he⊢;have L8:=(C1 (acG.2 i hi).1).2.2.2.2;have hlen:(N.runs.set i N.runs[i]).length=N.runs.length:=by simp
   by_cases t1:(m.kind=1∨m.kind=3)∧(m.call<0∨m.call≥(N.runs[i].calls.length:Int))
   ·rw[if_pos t1]at he;cases he
   rw[if_neg t1]at he⊢;by_cases k1:m.kind=1
   ·rw[if_pos k1]at he⊢;cases hp:prop N.runs[i].calls m.call m.bm with
    |mk o e=>
     rw[hp]at he;cases o with
     |none=>
      simp only at he;unfold prop at hp;subst he;split at hp
      ·cases hp
      ·split at hp
       ·cases hp
       ·split at hp
        ·cases hp
        ·split at hp
         ·cases hp
         ·cases hp
     |some l=>
      have Dh:e=0:=by
       unfold prop at hp;split at hp
       ·cases hp
       ·split at hp
        ·cases hp
        ·split at hp
         ·cases hp
         ·split at hp
          ·simp only[Prod.mk.injEq]at hp;exact hp.2.symm
          ·cases hp
      subst Dh;obtain⟨p1,p2⟩:=V9 L8 hp;simp only;exact Bd (x:={N.runs[i]with calls:=l}) (l:=N.ah) h hr rfl rfl rfl p1 l1 (pS l2 (by simp) fun x hx v _=>uX hr p2 v)
   ·rw[if_neg k1]at he⊢;by_cases k2:m.kind=2
    ·rw[if_pos k2];exact Bd (x:={N.runs[i]with q9:=true}) (l:=N.ah) h hr rfl rfl rfl L8 l1 (pS l2 (by simp) fun x hx v _=>uX (x:={N.runs[i]with q9:=true}) hr rfl v)
    ·rw[if_neg k2]at he⊢;by_cases k3:m.kind=3
     ·rw[if_pos k3];exact Bd (x:={N.runs[i]with calls:=AE N.runs[i].calls m.call.toNat}) (l:=N.ah) h hr rfl rfl rfl (F6 (CZ _ _).symm L8) l1 (pS l2 (by simp) fun x hx v _=>uX hr (Qk (CZ _ _)) v)
     ·rw[if_neg k3]at he⊢;by_cases k4:m.kind=4
      ·rw[if_pos k4]at he⊢;by_cases t3:(bj m.calls N.stops.length 0 3155932800).2≠0
       ·rw[if_pos t3]at he;exact absurd he t3
       rw[if_neg t3]at he⊢;refine Bd (x:={N.runs[i]with calls:=m.calls}) h hr rfl rfl rfl (Decidable.of_not_not t3) (Nat.le_trans (List.length_filter_le _ _) l1) (F5 _ _ l2 (by simp) fun x hx hf v hv=>?_);simp only[Bool.not_eq_true',Bool.or_eq_false_iff,decide_eq_false_iff_not]at hf;obtain⟨b1,b2⟩:=EL l2 hx;have cQ:v.toNat≠i:=by
        rcases hv with rfl|rfl
        ·intro hc;apply hf.1;omega
        ·intro hc;apply hf.2;omega
       rw[L7 cQ];exact⟨rfl,fun _=>rfl⟩
      ·rw[if_neg k4];exact h
end Go.Ab.Tt
namespace Go.Ab.Tt
set_option maxRecDepth 100000
set_option linter.unusedVariables false
set_option linter.unusedSimpArgs false
theorem zo(x:fL):asAgg 13 x.pv=some ():=rfl
theorem zp(x:fL):cell x.pv 0=.int .i64 x.source:=rfl
theorem zq(x:fL):cell x.pv 1=.int .i64 x.seq:=rfl
theorem zr(x:fL):cell x.pv 2=.int .i64 x.eW:=rfl
theorem zs(x:fL):cell x.pv 3=.int .i64 x.dt:=rfl
theorem zt(x:fL):cell x.pv 4=.int .i64 x.kind:=rfl
theorem zu(x:fL):cell x.pv 5=.str x.cX:=rfl
theorem zw(x:fL):cell x.pv 6=.int .i64 x.day:=rfl
theorem zx(x:fL):cell x.pv 7=.int .i64 x.inst:=rfl
theorem zy(x:fL):cell x.pv 8=.int .i64 x.call:=rfl
theorem zz(x:fL):cell x.pv 9=.int .i64 x.bm:=rfl
theorem rZ(x:fL):cell x.pv 10=.int .i64 x.bd:=rfl
theorem sc(x:fL):cell x.pv 11=.bool x.free:=rfl
theorem wk(x:fL):cell x.pv 12=.rs 5 (x.calls.map an.pv):=rfl
theorem Qm(x:fL):PV.agg [.int .i64 x.source,.int .i64 x.seq,.int .i64 x.eW,.int .i64 x.dt,.int .i64 x.kind,.str x.cX,.int .i64 x.day,.int .i64 x.inst,.int .i64 x.call,.int .i64 x.bm,.int .i64 x.bd,.bool x.free,.rs 5 (x.calls.map an.pv)]=x.pv:=rfl
theorem C2(n a b:Int):bH [.int .i64 n,.int .i64 a,.int .i64 b]=some (.bool (wi n a b)):=by simp only[bH,pc,asInt,if_true,U,cT];rfl
theorem Wa(n:Int):gM [.int .i64 n]=some (.bool (wi n 0 36524)):=by simp only[gM,wN,asInt,if_true,U,cT];rfl
def yg(k:Int):PV:=.agg [.bool (decide (k=1)||decide (k=3)),.bool (decide (k=1)),.bool (decide (k=5)),.bool (decide (k=5)),.bool (decide (k=4)||decide (k=5))]
theorem Wb(k:Int):fA [.int .i64 k]=some (yg k):=by
 simp only[fA,sM,asInt,if_true,U,ef];unfold yg;by_cases h1:k=1
 ·subst h1;rfl
 ·by_cases h3:k=3
  ·subst h3;rfl
  ·by_cases h4:k=4
   ·subst h4;rfl
   ·by_cases h5:k=5
    ·subst h5;rfl
    ·simp[h1,h3,h4,h5]
theorem acH(k:Int):asAgg 5 (yg k)=some ():=rfl
theorem afy(k:Int):cell (yg k) 0=.bool (decide (k=1)||decide (k=3)):=rfl
theorem afz(k:Int):cell (yg k) 1=.bool (decide (k=1)):=rfl
theorem afA(k:Int):cell (yg k) 2=.bool (decide (k=5)):=rfl
theorem afB(k:Int):cell (yg k) 3=.bool (decide (k=5)):=rfl
theorem afC(k:Int):cell (yg k) 4=.bool (decide (k=4)||decide (k=5)):=rfl
theorem OD(n:Nat):decide ((n:Int)>0)=decide (n>0):=by rw[Bool.eq_iff_iff];simp only[decide_eq_true_eq];omega
theorem Ig(m:fL)(h:m.Ok):cJ [m.pv]=some (.int .i64 (eX m)):=by
 have hid:=uD m.cX h.cX;have eR:=oh m.calls 64 0 3155932800 h.calls.1;simp only[res]at eR;simp only[cJ,mO,zo,zp,zq,zr,zs,zt,zu,zw,zx,zy,zz,rZ,sc,wk,U,C2,Wa,Wb,acH,asInt,bg,ab,if_true,asBool,hid,aW,Qm];unfold eX;simp only[decide_eq_true_eq];cases wi m.source 0 7 with
 |false=>rfl
 |true=>
  by_cases h2:m.seq<1
  ·simp only[h2,if_true,Bool.not_true,Bool.false_eq_true,Bool.true_eq_false,if_false]
  simp only[h2,if_true,Bool.not_true,Bool.false_eq_true,Bool.true_eq_false,if_false];cases(!wi m.eW 0 3155932800|| !wi m.dt 0 3155932800||decide (m.eW≥m.dt))with
  |true=>rfl
  |false=>
   cases wi m.kind 1 6 with
   |false=>rfl
   |true=>
    cases dR m.cX with
    |false=>rfl
    |true=>
     cases wi m.day 0 36524 with
     |false=>rfl
     |true=>
      by_cases h7:m.inst<0
      ·simp only[h7,if_true,Bool.not_true,Bool.false_eq_true,Bool.true_eq_false,if_false]
      simp only[h7,if_true,Bool.not_true,Bool.false_eq_true,Bool.true_eq_false,if_false];have e0:PV.agg [cell (yg m.kind) 0,cell (yg m.kind) 1,cell (yg m.kind) 2,cell (yg m.kind) 3,cell (yg m.kind) 4]=yg m.kind:=rfl;rw[e0];simp only[dV,ly,zo,zp,zq,zr,zs,zt,zu,zw,zx,zy,zz,rZ,sc,wk,U,acH,afy,afz,afA,afB,afC,C2,asBool,eR,bJ,List.length_cons,List.length_nil,Nat.reduceAdd,if_true,List.getD_cons_zero,List.getD_cons_succ,asInt,bg,ab,aW,cT,jw,List.length_map,OD];generalize (decide (m.kind=1)||decide (m.kind=3))=uC;generalize decide (m.kind=1)=uS;generalize decide (m.kind=5)=uR;generalize (decide (m.kind=4)||uR)=uL;generalize (bj m.calls 64 0 3155932800).2=e;cases(uC&& !wi m.call 0 31||uS&& !wi m.bm (-43200) 43200||uR&& !wi m.bd 0 63)with
      |true=>rfl
      |false=>
       cases uL with
       |true=>
        by_cases he:e=0
        ·subst he;cases(!uC&& !decide (m.call=0)|| !uS&& !decide (m.bm=0)|| !uR&& !decide (m.bd=0)|| !uR&&m.free|| !true&&decide (m.calls.length>0))<;>rfl
        ·simp[he]
       |false=>cases(!uC&& !decide (m.call=0)|| !uS&& !decide (m.bm=0)|| !uR&& !decide (m.bd=0)|| !uR&&m.free|| !false&&decide (m.calls.length>0))<;>rfl
end Go.Ab.Tt
namespace Go.Ab.Tt
set_option maxRecDepth 100000
set_option linter.unusedVariables false
set_option linter.unusedSimpArgs false
theorem Wc(l:List an)(stops low high:Int)(hl:l.length≤maxLen):jT [.rs 5 (l.map an.pv),.int .i64 stops,.int .i64 low,.int .i64 high]=some (res (bj l stops low high).1 (bj l stops low high).2):=by
 have hm:=aT;simp only[jT,uh,ab,asInt,if_true,U,List.length_map,aW];unfold bj;split
 ·rfl
 ·rw[←lD];refine aY (fun k=>(l.map an.pv,stops,low,high,(k:Int),())) l.length _ (fun k hk rec=>?_) (fun rec=>?_) ?_ rfl
  ·have h1:(k:Int)<(l.length:Int):=by omega
   simp only[pT,decide_eq_true_eq,List.length_map,h1,if_true,aq,List.getElem?_map,List.getElem?_eq_getElem hk,Option.map_some,U,xO,pz,pA,asInt,aW,al (show k<9223372036854775807 by omega)];unfold lG kR;rw[List.getElem?_eq_getElem hk];simp only;cases k with
   |zero=>
    have h0:decide (((0:Nat):Int)>0)=false:=by decide
    simp only[h0,cond_false,U,aW,Bool.or_false,eS];generalize (decide (l[0].stop<0)||decide (l[0].stop≥stops))=A;generalize (decide (l[0].arr<low)||decide (l[0].arr>l[0].dep)||decide (l[0].dep>high))=B;cases A<;>cases B<;>rfl
   |succ j=>
    have h0:decide (((j+1:Nat):Int)>0)=true:=by rw[decide_eq_true_eq];omega
    have hj:j<l.length:=by omega
    simp only[h0,cond_true,U,mC j (by omega),aq,List.getElem?_map,List.getElem?_eq_getElem hj,Option.map_some,xO,pA,asInt,if_true,eS,ef,aW];generalize (decide (l[j+1].stop<0)||decide (l[j+1].stop≥stops))=A;generalize (decide (l[j+1].arr<low)||decide (l[j+1].arr>l[j+1].dep)||decide (l[j+1].dep>high))=B;generalize decide (l[j].stop=l[j+1].stop)=C;generalize decide (l[j+1].arr<l[j].dep)=D;cases A<;>cases B<;>cases C<;>cases D<;>rfl
  ·simp only[pT,decide_eq_true_eq,List.length_map,Int.lt_irrefl,if_false];rfl
  ·have:=aP;omega
theorem ZB(s:Bytes)(hs:s.length≤maxLen):lX [.str s]=some (.bool (dR s)):=by
 have hm:=aT;simp only[lX,wR,bg,U,aW];refine Es s hs (fun k hk rec=>?_) (fun rec=>?_) ?_
 ·have h1:(k:Int)<(s.length:Int):=by omega
  simp only[rn,decide_eq_true_eq,h1,if_true,CD,List.getElem?_eq_getElem hk,U,cT,aW,al (show k<9223372036854775807 by omega),ef];generalize s[k]=b;unfold jm;simp only[ge_iff_le];generalize (decide (97≤(b.toNat:Int))&&decide ((b.toNat:Int)≤122))=x1;generalize (decide (65≤(b.toNat:Int))&&decide ((b.toNat:Int)≤90))=x2;generalize (decide (48≤(b.toNat:Int))&&decide ((b.toNat:Int)≤57))=x3;by_cases e4:(b.toNat:Int)=45<;>by_cases e5:(b.toNat:Int)=95<;>by_cases e6:(b.toNat:Int)=46<;>cases x1<;>cases x2<;>cases x3<;>simp[e4,e5,e6]
 ·simp only[rn,decide_eq_true_eq,Int.lt_irrefl,if_false]
 ·rw[Bool.eq_iff_iff];simp only[Bool.or_eq_true,Bool.not_eq_true',Bool.and_eq_false_iff,decide_eq_true_eq,decide_eq_false_iff_not];omega
theorem TB(n a b:Int):(decide (n<a)||decide (n>b))= !wi n a b:=by unfold wi;rw[Bool.eq_iff_iff];simp only[Bool.or_eq_true,Bool.not_eq_true',Bool.and_eq_false_iff,decide_eq_true_eq,decide_eq_false_iff_not];omega
theorem Wd(m:fL)(h:m.Ok):jU [m.pv]=some (.int .i64 (eX m)):=by
 have hid:=ZB m.cX h.cX;have eR:=Wc m.calls 64 0 3155932800 h.calls.1;simp only[res]at eR;have h4:(!wi m.eW 0 3155932800||decide (m.dt<0)||decide (m.dt>3155932800)||decide (m.eW≥m.dt))=(!wi m.eW 0 3155932800|| !wi m.dt 0 3155932800||decide (m.eW≥m.dt)):=by rw[←TB m.dt,Bool.or_assoc (!wi m.eW 0 3155932800)]
 simp only[jU,uo,zo,zp,zq,zr,zs,zt,zu,zw,zx,zy,zz,rZ,sc,wk,U,asInt,bg,ab,if_true,asBool,hid,aW,h4,TB,eR,bJ,List.length_cons,List.length_nil,Nat.reduceAdd,List.getD_cons_zero,List.getD_cons_succ,cT,jw,ef,List.length_map,OD];unfold eX;simp only[decide_eq_true_eq];cases wi m.source 0 7 with
 |false=>rfl
 |true=>
  by_cases h2:m.seq<1
  ·simp only[h2,if_true,Bool.not_true,Bool.false_eq_true,Bool.true_eq_false,if_false]
  simp only[h2,if_true,Bool.not_true,Bool.false_eq_true,Bool.true_eq_false,if_false];cases(!wi m.eW 0 3155932800|| !wi m.dt 0 3155932800||decide (m.eW≥m.dt))with
  |true=>rfl
  |false=>
   cases wi m.kind 1 6 with
   |false=>rfl
   |true=>
    cases dR m.cX with
    |false=>rfl
    |true=>
     cases wi m.day 0 36524 with
     |false=>rfl
     |true=>
      by_cases h7:m.inst<0
      ·simp only[h7,if_true,Bool.not_true,Bool.false_eq_true,Bool.true_eq_false,if_false]
      simp only[h7,if_true,Bool.not_true,Bool.false_eq_true,Bool.true_eq_false,if_false];generalize (decide (m.kind=1)||decide (m.kind=3))=uC;generalize decide (m.kind=1)=uS;generalize decide (m.kind=5)=uR;generalize (decide (m.kind=4)||uR)=uL;generalize (bj m.calls 64 0 3155932800).2=e;cases(uC&& !wi m.call 0 31||uS&& !wi m.bm (-43200) 43200||uR&& !wi m.bd 0 63)with
      |true=>rfl
      |false=>
       cases uL with
       |true=>
        by_cases he:e=0
        ·subst he;generalize decide (m.call=0)=c1;generalize decide (m.bm=0)=c2;generalize decide (m.bd=0)=c3;cases uC<;>cases uS<;>cases uR<;>cases c1<;>cases c2<;>cases c3<;>cases m.free<;>rfl
        ·simp[he]
       |false=>generalize decide (m.call=0)=c1;generalize decide (m.bm=0)=c2;generalize decide (m.bd=0)=c3;generalize decide (m.calls.length>0)=c4;cases uC<;>cases uS<;>cases uR<;>cases c1<;>cases c2<;>cases c3<;>cases c4<;>cases m.free<;>rfl
theorem Ih{R:Type}(l:List bp)(m:fL)(g:Nat→R)(fin:Option R):c8 ((List.range l.length).findSome? fun k=>if decide ((l.map bD)[k]?=some m.key)=true then some (some (g k))else none) fin=(match yA l m with|some k=>some (g k)|none=>fin):=by rw[qv (fun k=>decide ((l.map bD)[k]?=some m.key)) (fun k=>some (g k))];unfold yA;cases(List.range l.length).find? (fun k=>decide ((l.map bD)[k]?=some m.key))<;>rfl
theorem OE(l:List bp)(m:fL)(k:Nat)(hk:k<l.length):decide ((l.map bD)[k]?=some m.key)=(decide (l[k].id=m.cX)&&decide (l[k].day=m.day)&&decide (l[k].inst=m.inst)):=by rw[Bool.eq_iff_iff];simp[List.getElem?_eq_getElem hk,bD,fL.key,and_assoc]
def Ii(l:List bp)(m:fL):PV:=match yA l m with|some k=>.aZ [.int .i64 k,.bool true]|none=>.aZ [.int .i64 0,.bool false]
theorem uY(N:ag)(m:fL)(hr:N.runs.length≤maxLen):bI [N.pv,m.pv]=some (Ii N.runs m):=by
 have hm:=aT;simp only[bI,lx,nS,pC,pD,pE,pF,pG,pH,pI,pJ,pK,U];simp only[zo,zp,zq,zr,zs,zt,zu,zw,zx,zy,zz,rZ,sc,wk,U,asInt,bg,ab,if_true,asBool,List.length_map];generalize N.runs=l at hr⊢;have hs:=Ih l m (fun k=>PV.aZ [.int .i64 k,.bool true]) (some (PV.aZ [.int .i64 0,.bool false]));have hR:(match yA l m with|some k=>some (PV.aZ [.int .i64 k,.bool true])|none=>some (PV.aZ [.int .i64 0,.bool false]))=some (Ii l m):=by unfold Ii;cases yA l m<;>rfl
 rw[←hR,←hs];refine aY (fun k=>(l.map bp.pv,(l.length:Int),(k:Int),m.source,m.seq,m.eW,m.dt,m.kind,m.cX,m.day,m.inst,m.call,m.bm,m.bd,m.free,m.calls.map an.pv,())) l.length _ (fun k hk rec=>?_) (fun rec=>?_) (by have:=aP;omega) rfl
 ·have h1:decide ((k:Int)<(l.length:Int))=true:=by simp;omega
  rw[OE l m k hk];unfold lY;dsimp only;rw[if_pos h1,aq,List.getElem?_map,List.getElem?_eq_getElem hk];simp only[Option.map_some,U,Ly,Lz,LA,asInt,bg,if_true,ef,cT,al (show k<9223372036854775807 by omega)];cases decide (l[k].id=m.cX)&&decide (l[k].day=m.day)&&decide (l[k].inst=m.inst)<;>rfl
 ·unfold lY;dsimp only;rw[if_neg (by simp)]
def L9(l:List bp)(m:fL):Int:=match yA l m with|some k=>(k:Int)|none=> -1
theorem C3(N:ag)(m:fL)(hr:N.runs.length≤maxLen):gz [N.pv,m.pv]=some (.int .i64 (L9 N.runs m)):=by
 have hm:=aT;simp only[gz,sK,nS,pC,pD,pE,pF,pG,pH,pI,pJ,pK,U];simp only[zo,zp,zq,zr,zs,zt,zu,zw,zx,zy,zz,rZ,sc,wk,U,asInt,bg,ab,if_true,asBool];generalize GZ:N.runs=l at hr⊢;have hs:=Ih l m (fun k=>PV.int .i64 k) (some (PV.int .i64 (-1)));have hR:(match yA l m with|some k=>some (PV.int .i64 k)|none=>some (PV.int .i64 (-1)))=some (PV.int .i64 (L9 l m)):=by unfold L9;cases yA l m<;>rfl
 rw[←hR,←hs];refine aY (fun k=>((k:Int),N.stops.map Stop.pv,N.af.map ax.pv,l.map bp.pv,N.ah.map aD.pv,N.paths.map Path.pv,N.aw.map aS.pv,N.aQ,N.within,N.cap,m.source,m.seq,m.eW,m.dt,m.kind,m.cX,m.day,m.inst,m.call,m.bm,m.bd,m.free,m.calls.map an.pv,())) l.length _ (fun k hk rec=>?_) (fun rec=>?_) (by have:=aP;omega) rfl
 ·have h1:decide ((k:Int)<((l.map bp.pv).length:Int))=true:=by simp;omega
  rw[OE l m k hk];unfold nJ;dsimp only;rw[if_pos h1,aq,List.getElem?_map,List.getElem?_eq_getElem hk];simp only[Option.map_some,U,Ly,Lz,LA,asInt,bg,if_true,ef,cT,al (show k<9223372036854775807 by omega)];cases decide (l[k].id=m.cX)&&decide (l[k].day=m.day)&&decide (l[k].inst=m.inst)<;>rfl
 ·unfold nJ;dsimp only;rw[if_neg (by simp)]
end Go.Ab.Tt
namespace Go.Ab.Tt
set_option maxRecDepth 100000
set_option linter.unusedVariables false
set_option linter.unusedSimpArgs false
theorem TC(x:an):cell x.pv 3=.bool x.yf:=rfl
theorem TD(x:an):cell x.pv 4=.bool x.sV:=rfl
theorem Xu(x:an):asAgg 5 x.pv=some ():=rfl
theorem acI(x:an):PV.agg [.int .i64 x.stop,.int .i64 x.arr,.int .i64 x.dep,.bool x.yf,.bool x.sV]=x.pv:=rfl
def Span(c:an):Prop:=0≤c.arr∧c.arr≤c.dep∧c.dep≤gC
variable{c:an}
theorem pU(h:Span c):0≤fa c∧fa c≤30:=by obtain⟨h1,h2,h3⟩:=h;unfold fa;split<;>omega
theorem ig:gC=3155932800:=rfl
theorem wrap_small{x:Int}(h1: -100000000000≤x)(h2:x≤100000000000):IntKind.i64.wrap x=x:=fF (by omega) (by omega)
theorem C4(h:Span c):fi [c.pv]=some (.int .i64 (fa c)):=by
 have:=ig;obtain⟨h1,h2,h3⟩:=h;simp only[fi,ud,Xu,xO,pz,pA,TC,TD,asInt,asBool,U,if_true];rw[wrap_small (by omega) (by omega)];unfold fa;by_cases hd:c.dep-c.arr<30
 ·rw[if_neg (by omega),if_pos hd]
 ·rw[if_neg hd];by_cases he:30<c.dep-c.arr
  ·rw[if_pos he]
  ·rw[if_neg he];congr 2;omega
theorem Qn(h:Span c):iv [c.pv]=some (.int .i64 (fa c)):=by
 have:=ig;obtain⟨h1,h2,h3⟩:=h;simp only[iv,uA,Xu,xO,pz,pA,TC,TD,asInt,asBool,U,if_true];rw[wrap_small (by omega) (by omega)];unfold fa;by_cases hd:c.dep-c.arr<30
 ·rw[if_pos hd,if_pos (by simpa using hd)]
 ·rw[if_neg hd,if_neg (by simpa using hd)]
def sd(l:List an)(k:Nat):Bool:=(l[k]?).elim false fun c=>decide (c.arr<((eS l k).map an.dep).getD 0)||decide (c.dep<c.arr)||decide (c.dep>gC)
theorem EM{R:Type}(l:List an)(no fin:Option R):c8 ((List.range l.length).findSome? fun k=>if sd l k=true then some no else none) fin=if nV l=true then fin else no:=by
 rw[qv (sd l) (fun _=>no)];by_cases h:nV l=true
 ·rw[if_pos h];have:(List.range l.length).find? (sd l)=none:=by rw[List.find?_eq_none];intro k hk;have:=List.all_eq_true.1 h k hk;rw[List.mem_range]at hk;simp only[List.getElem?_eq_getElem hk,Option.elim_some]at this;simp only[sd,List.getElem?_eq_getElem hk,Option.elim_some];simpa using this
  rw[this];rfl
 ·rw[if_neg h];cases hf:(List.range l.length).find? (sd l)with
  |some k=>rfl
  |none=>exfalso;apply h;unfold nV;rw[List.all_eq_true];intro k hk;have:=List.find?_eq_none.1 hf k hk;rw[List.mem_range]at hk;simp only[sd,List.getElem?_eq_getElem hk,Option.elim_some]at this;simp only[List.getElem?_eq_getElem hk,Option.elim_some];simpa using this
variable{l:List an}
theorem Be(h:nV l=true){k:Nat}(hk:k<l.length):((eS l k).map an.dep).getD 0≤l[k].arr∧l[k].arr≤l[k].dep∧l[k].dep≤gC:=by have:=List.all_eq_true.1 h k (List.mem_range.2 hk);simp only[List.getElem?_eq_getElem hk,Option.elim_some,Bool.not_eq_true',Bool.or_eq_false_iff,decide_eq_false_iff_not]at this;omega
theorem kS(h:nV l=true):∀k,(hk:k<l.length)→Span l[k]:=by
 intro k;induction k with
 |zero=>intro hk;obtain⟨a,b,c⟩:=Be h hk;exact⟨a,b,c⟩
 |succ k ih=>
  intro hk;obtain⟨a,b,c⟩:=Be h hk;obtain⟨x,y,z⟩:=ih (by omega);have:((eS l (k+1)).map an.dep).getD 0=(l[k]'(by omega)).dep:=by show((l[k]?).map an.dep).getD 0=_;rw[List.getElem?_eq_getElem (by omega)];rfl
  rw[this]at a;exact⟨by omega,b,c⟩
theorem yj(l:List an)(hl:l.length≤maxLen):ee [.rs 5 (l.map an.pv)]=some (.bool (nV l)):=by
 have hm:=aT;simp only[ee,qV,ab,if_true,U,List.length_map];have hs:=EM l (some (PV.bool false)) (some (PV.bool true));have hR:(if nV l=true then some (PV.bool true)else some (PV.bool false))=some (.bool (nV l)):=by cases nV l<;>rfl
 rw[←hR,←hs];refine aY (fun k=>(((eS l k).map an.dep).getD 0,l.map an.pv,(l.length:Int),(k:Int),())) l.length _ (fun k hk rec=>?_) (fun rec=>?_) (by have:=aP;omega) rfl
 ·have h1:decide ((k:Int)<(l.length:Int))=true:=by simp;omega
  unfold mF;dsimp only;have hp:((eS l (k+1)).map an.dep).getD 0=l[k].dep:=by show((l[k]?).map an.dep).getD 0=_;rw[List.getElem?_eq_getElem hk];rfl
  rw[if_pos h1,aq,List.getElem?_map,List.getElem?_eq_getElem hk];simp only[Option.map_some,U,pz,pA,asInt,if_true,aW,al (show k<9223372036854775807 by omega),hp];have:sd l k=(decide (l[k].arr<((eS l k).map an.dep).getD 0)||decide (l[k].dep<l[k].arr)||decide (l[k].dep>3155932800)):=by simp only[sd,List.getElem?_eq_getElem hk,Option.elim_some];rfl
  rw[this];cases(decide (l[k].arr<((eS l k).map an.dep).getD 0)||decide (l[k].dep<l[k].arr)||decide (l[k].dep>3155932800))<;>rfl
 ·unfold mF;dsimp only;rw[if_neg (by simp)]
theorem Ij(l:List an)(hl:l.length≤maxLen):ic [.rs 5 (l.map an.pv)]=some (.bool (nV l)):=by
 have hm:=aT;simp only[ic,qU,ab,if_true,U];have hs:=EM l (some (PV.bool false)) (some (PV.bool true));have hR:(if nV l=true then some (PV.bool true)else some (PV.bool false))=some (.bool (nV l)):=by cases nV l<;>rfl
 rw[←hR,←hs];have hA:∀k,(hk:k<l.length)→(∀j,(hj:j<k)→sd l j=false)→sd l k=(decide (l[k].arr<0)||decide (l[k].arr>l[k].dep)||decide (l[k].dep>3155932800)||match eS l k with|some q=>decide (l[k].arr<q.dep)|none=>false):=by
  intro k hk vL;have dK:0≤((eS l k).map an.dep).getD 0:=by
   have:∀j,(hj:j≤k)→0≤((eS l j).map an.dep).getD 0:=by
    intro j;induction j with
    |zero=>intro _;exact Int.le_refl _
    |succ j ih=>intro hj;have h1:=vL j (by omega);have h2:=ih (by omega);simp only[sd,List.getElem?_eq_getElem (show j<l.length by omega),Option.elim_some,Bool.or_eq_false_iff,decide_eq_false_iff_not]at h1;show 0≤((l[j]?).map an.dep).getD 0;rw[List.getElem?_eq_getElem (by omega)];simp only[Option.map_some,Option.getD_some];omega
   exact this k (Nat.le_refl _)
  simp only[sd,List.getElem?_eq_getElem hk,Option.elim_some];rw[Bool.eq_iff_iff];have:=ig;cases hq:eS l k with
  |none=>rw[hq]at dK;simp only[Option.map_none,Option.getD_none,Bool.or_eq_true,decide_eq_true_eq,Bool.false_eq_true,or_false];omega
  |some q=>rw[hq]at dK;simp only[Option.map_some,Option.getD_some]at dK;simp only[Option.map_some,Option.getD_some,Bool.or_eq_true,decide_eq_true_eq];omega
 refine re (fun k=>(l.map an.pv,(k:Int),())) l.length _ (fun k hk vL rec=>?_) (fun _ rec=>?_) (by have:=aP;omega) rfl
 ·have h1:decide ((k:Int)<(l.length:Int))=true:=by simp;omega
  rw[hA k hk (fun j hj=>by have:=vL j hj;by_cases hx:sd l j=true;rw[if_pos hx]at this;cases this;simpa using hx)];unfold mG;dsimp only;rw[List.length_map,if_pos h1,aq,List.getElem?_map,List.getElem?_eq_getElem hk];simp only[Option.map_some,U,pz,pA,asInt,if_true,aW,al (show k<9223372036854775807 by omega)];cases k with
  |zero=>
   have h0:decide (((0:Nat):Int)>0)=false:=by decide
   simp only[h0,cond_false,U,aW,Bool.or_false,eS];cases(decide (l[0].arr<0)||decide (l[0].arr>l[0].dep)||decide (l[0].dep>3155932800))<;>rfl
  |succ j=>
   have h0:decide (((j+1:Nat):Int)>0)=true:=by rw[decide_eq_true_eq];omega
   have hj:j<l.length:=by omega
   simp only[h0,cond_true,U,mC j (by omega),aq,List.getElem?_map,List.getElem?_eq_getElem hj,Option.map_some,pz,pA,asInt,if_true,eS,aW];cases(decide (l[j+1].arr<0)||decide (l[j+1].arr>l[j+1].dep)||decide (l[j+1].dep>3155932800))<;>cases decide (l[j+1].arr<l[j].dep)<;>rfl
 ·unfold mG;dsimp only;rw[List.length_map,if_neg (by simp)]
theorem F7(h:nV l=true){n:Nat}(hn:n<l.length){bm:Int}(h1: -43200≤bm)(h2:bm≤43200):0≤lr l n bm∧lr l n bm≤3200000000:=by
 obtain⟨a,b,c⟩:=kS h n hn;obtain⟨x,y,z⟩:=Be h hn;have:=ig;have hb:0≤((eS l n).map an.dep).getD 0:=by
  cases n with
  |zero=>exact Int.le_refl _
  |succ n=>show 0≤((l[n]?).map an.dep).getD 0;rw[List.getElem?_eq_getElem (by omega)];obtain⟨a,b,c⟩:=kS h n (by omega);show 0≤l[n].dep;omega
 unfold lr;rw[List.getElem?_eq_getElem hn];simp only[Option.map_some,Option.getD_some];split<;>omega
theorem Qo(h:nV l=true){n:Nat}(hn:n<l.length)(hl:l.length≤maxLen){bm:Int}(h1: -43200≤bm)(h2:bm≤43200):jS [.rs 5 (l.map an.pv),.int .i64 n,.int .i64 bm]=some (.int .i64 (lr l n bm)):=by
 have hm:=aT;obtain⟨a,b,c⟩:=kS h n hn;have:=ig;simp only[jS,uk,ab,asInt,if_true,U,aq,List.getElem?_map,List.getElem?_eq_getElem hn,Option.map_some,pz,wrap_small (show-100000000000≤l[n].arr+bm by omega) (show l[n].arr+bm≤100000000000 by omega)];unfold lr;rw[List.getElem?_eq_getElem hn];cases n with
 |zero=>rw[if_neg (by decide)];simp only[eS,Option.map_some,Option.map_none,Option.getD_none,Option.getD_some,decide_eq_true_eq];by_cases hx:l[0].arr+bm<0<;>simp only[hx,if_true,if_false]
 |succ j=>
  have hj:j<l.length:=by omega
  rw[if_pos (by rw[decide_eq_true_eq];omega),mC j (by omega),aq,List.getElem?_map,List.getElem?_eq_getElem hj];simp only[eS,List.getElem?_eq_getElem hj,Option.map_some,Option.getD_some,decide_eq_true_eq,U,pA,asInt,if_true];by_cases hx:l[j+1].arr+bm<l[j].dep<;>simp only[hx,if_true,if_false]
def sW(pre:List an):Option (List an)→PV
 |some r=>.aZ [.rs 5 ((pre++r).map an.pv),.int .i64 0]
 |none=>.aZ [.rs 5 [],.int .i64 10]
theorem uZ(c d:an)(ds:List an)(a:Int):fb (c::d::ds) a=if(late c a).dep>gC then none else(fb (d::ds) (d.arr+(late c a).dep-c.dep)).map fun r=>late c a::r:=by rw[fb]
theorem zA(c:an)(a:Int):fb [c] a=if(late c a).dep>gC then none else some [late c a]:=by rw[fb]
theorem EN(c:an)(cs:List an)(a:Int)(h:(late c a).dep>gC):fb (c::cs) a=none:=by
 cases cs with
 |nil=>rw[zA,if_pos h]
 |cons d ds=>rw[uZ,if_pos h]
theorem F8(pre:List an)(x:an)(o:Option (List an)):sW pre (o.map fun r=>x::r)=sW (pre++[x]) o:=by cases o<;>simp[sW]
theorem C5{a:Int}(h:Span c)(h0:0≤a)(h1:a≤8000000000):0≤(late c a).dep∧(late c a).dep≤8000000030:=by obtain⟨p,q⟩:=pU h;obtain⟨x,y,z⟩:=h;have:=ig;show 0≤(if a+fa c>c.dep then a+fa c else c.dep)∧(if a+fa c>c.dep then a+fa c else c.dep)≤8000000030;split<;>omega
theorem vH{d:an}{a:Int}(h:Span c)(hd:Span d)(hcd:c.dep≤d.arr)(h0:0≤a)(h1:¬(late c a).dep>gC):0≤d.arr+(late c a).dep-c.dep∧d.arr+(late c a).dep-c.dep≤8000000000:=by
 obtain⟨p,q⟩:=pU h;obtain⟨x,y,z⟩:=h;obtain⟨x',y',z'⟩:=hd;have:=ig;have hh:c.dep≤(late c a).dep:=by show c.dep≤if a+fa c>c.dep then a+fa c else c.dep;split<;>omega
 omega
theorem Qp(l:List an)(hl:l.length≤1000)(il:∀k,(hk:k<l.length)→Span l[k])(hor:∀k,(hk:k+1<l.length)→(l[k]'(by omega)).dep≤l[k+1].arr):∀(j:Nat)(k:Nat)(a:Int)(out:List an)(fu:Nat),k+j=l.length→j<fu→0≤a→a≤8000000000→out.length=k→cj (eB bK) fu (l.map an.pv,a,(k:Int),out.map an.pv,())=some (sW out (fb (l.drop k) a)):=by
 intro j;induction j with
 |zero=>intro k a out fu hk hf _ _ _;obtain⟨fu,rfl⟩:∃f,fu=f+1:=⟨fu-1,by omega⟩;rw[cj];unfold eB;dsimp only;rw[List.length_map,if_neg (by simp;omega),List.drop_eq_nil_of_le (by omega)];simp[fb,sW]
 |succ j ih=>
  intro k a out fu hk hf Q3 Xv ho;obtain⟨fu,rfl⟩:∃f,fu=f+1:=⟨fu-1,by omega⟩;have jA:k<l.length:=by omega
  have hc:=il k jA;obtain⟨p1,p2⟩:=pU hc;obtain⟨c1,c2,c3⟩:=hc;have:=ig;have df:∀x:PV,(out.map an.pv++[x]).length*32≤aa∧0<32:=by
   intro x;have:(32032:Nat)≤aa:=by decide
   refine⟨?_,by decide⟩;simp only[List.length_append,List.length_map,List.length_singleton];omega
  have YX:IntKind.i64.wrap ((k:Int)+1)=((k+1:Nat):Int):=al (by omega);rw[cj];unfold eB;dsimp only;rw[List.length_map,if_pos (by rw[decide_eq_true_eq];omega),aq,List.getElem?_map,List.getElem?_eq_getElem jA];simp only[Option.map_some,U,xO,pz,pA,TC,TD,acI,Qn (il k jA),asInt,if_true,wrap_small (show-100000000000≤a+fa l[k] by omega) (show a+fa l[k]≤100000000000 by omega),df,YX,and_self,if_true];have Tf:l.drop k=l[k]::l.drop (k+1):=List.drop_eq_getElem_cons jA;have acJ:∀b:Int,b=(late l[k] a).dep→PV.agg [.int .i64 l[k].stop,.int .i64 a,.int .i64 b,.bool l[k].yf,.bool l[k].sV]=(late l[k] a).pv:=by intro b hb;rw[hb];rfl
  have acK:out.map an.pv++[(late l[k] a).pv]=(out++[late l[k] a]).map an.pv:=by simp
  have key:∀b:Int,b=(late l[k] a).dep→(if decide (b>3155932800)=true then some (PV.aZ [.rs 5 [],.int .i64 10])else
    if decide (((k+1:Nat):Int)<(l.length:Int))=true then(aR (l.map an.pv) ((k+1:Nat):Int)).bind fun We=>(asInt .i64 (cell We 1)).bind fun n20=>cj (eB bK) fu (l.map an.pv,IntKind.i64.wrap (IntKind.i64.wrap (n20+b)-l[k].dep),((k+1:Nat):Int),out.map an.pv++[.agg [.int .i64 l[k].stop,.int .i64 a,.int .i64 b,.bool l[k].yf,.bool l[k].sV]],())
    else cj (eB bK) fu (l.map an.pv,a,((k+1:Nat):Int),out.map an.pv++[.agg [.int .i64 l[k].stop,.int .i64 a,.int .i64 b,.bool l[k].yf,.bool l[k].sV]],()))=some (sW out (fb (l.drop k) a)):=by
   intro b hb;rw[acJ b hb,acK,Tf];by_cases nX:(late l[k] a).dep>gC
   ·rw[if_pos (by rw[decide_eq_true_eq,hb];exact nX)];rw[EN _ _ _ nX];rfl
   ·rw[if_neg (by rw[decide_eq_true_eq,hb];exact nX)];by_cases CM:k+1<l.length
    ·rw[if_pos (by rw[decide_eq_true_eq];omega),aq,List.getElem?_map,List.getElem?_eq_getElem CM];simp only[Option.map_some,U,pz,asInt,if_true];obtain⟨n1,n2⟩:=vH (il k jA) (il (k+1) CM) (hor k CM) Q3 nX;obtain⟨d1,d2⟩:=C5 (il k jA) Q3 Xv;obtain⟨e1,e2,e3⟩:=il (k+1) CM;rw[hb,wrap_small (show-100000000000≤l[k+1].arr+(late l[k] a).dep by omega) (by omega),wrap_small (show-100000000000≤l[k+1].arr+(late l[k] a).dep-l[k].dep by omega) (by omega)];have hd2:l.drop (k+1)=l[k+1]::l.drop (k+1+1):=List.drop_eq_getElem_cons CM;rw[ih (k+1) _ _ fu (by omega) (by omega) n1 n2 (by simp[ho]),hd2,uZ,if_neg nX,F8]
    ·rw[if_neg (by rw[decide_eq_true_eq];omega),ih (k+1) _ _ fu (by omega) (by omega) Q3 Xv (by simp[ho])];have hd2:l.drop (k+1)=[]:=List.drop_eq_nil_of_le (by omega);rw[hd2,zA,if_neg nX];simp[sW,fb]
  by_cases hg:a+fa l[k]>l[k].dep
  ·rw[if_pos (by rw[decide_eq_true_eq];exact hg)];exact key (a+fa l[k]) (by show _=if a+fa l[k]>l[k].dep then _ else _;rw[if_pos hg])
  ·rw[if_neg (by rw[decide_eq_true_eq];exact hg)];exact key l[k].dep (by show _=if a+fa l[k]>l[k].dep then _ else _;rw[if_neg hg])
def TE(x:Option (List an)×Int):PV:=.aZ [.rs 5 ((x.1.getD []).map an.pv),.int .i64 x.2]
theorem se(h:nV l=true):∀k,(hk:k+1<l.length)→(l[k]'(by omega)).dep≤l[k+1].arr:=by
 intro k hk;obtain⟨a,b,c⟩:=Be h hk;have:((eS l (k+1)).map an.dep).getD 0=(l[k]'(by omega)).dep:=by show((l[k]?).map an.dep).getD 0=_;rw[List.getElem?_eq_getElem (by omega)];rfl
 rw[this]at a;exact a
theorem TF(l:List an)(n bm:Int)(hl:l.length≤1000):fT [.rs 5 (l.map an.pv),.int .i64 n,.int .i64 bm]=some (TE (prop l n bm)):=by
 have hmx:(1000:Nat)≤maxLen:=by decide
 have hrg:=aP;simp only[fT,nF,ab,asInt,if_true,U,aW,Ij l (by omega),asBool,List.length_map,List.nil_append];unfold prop;by_cases h1:n<0∨n≥(l.length:Int)
 ·rw[if_pos h1,if_pos (by simp only[Bool.or_eq_true,decide_eq_true_eq];exact h1)];rfl
 rw[if_neg h1,if_neg (by simp only[Bool.or_eq_true,decide_eq_true_eq];exact h1)];by_cases h2:bm< -43200∨bm>43200
 ·rw[if_pos h2,if_pos (by simp only[Bool.or_eq_true,decide_eq_true_eq];exact h2)];rfl
 rw[if_neg h2,if_neg (by simp only[Bool.or_eq_true,decide_eq_true_eq];exact h2)];cases ho:nV l with
 |false=>rfl
 |true=>
  simp only[Bool.not_true,Bool.false_eq_true,Bool.true_eq_false,if_false];rw[if_pos (by refine⟨by omega,by omega,by omega,by decide,by decide⟩)];obtain⟨m,rfl⟩:∃m:Nat,n=m:=⟨n.toNat,by omega⟩;have hm:m<l.length:=by omega
  have hd:List.drop (Int.toNat 0) (List.take (Int.toNat (m:Int)) (l.map an.pv))=(l.take m).map an.pv:=by rw[Int.toNat_natCast];simp[List.map_take]
  have df:((l.take m).map an.pv).length*32≤aa∧0<32:=by
   have:(32032:Nat)≤aa:=by decide
   refine⟨?_,by decide⟩;simp only[List.length_map,List.length_take];omega
  rw[hd,if_pos df,Qo ho hm (by omega) (by omega) (by omega)];simp only[U,asInt,if_true,j4,Int.toNat_natCast];obtain⟨a1,a2⟩:=F7 ho hm (show-43200≤bm by omega) (by omega);rw[Qp l hl (kS ho) (se ho) (l.length-m) m _ (l.take m) rounds (by omega) (by omega) a1 (by omega) (by simp;omega)];cases fb (l.drop m) (lr l m bm)<;>rfl
theorem vI(l:List an)(hl:l.length≤1000000):db [.rs 5 (l.map an.pv)]=some (.rs 5 (l.map an.pv)):=by
 have hb:1000000*32≤aa:=by decide
 simp only[db,qW,ab,if_true,U,List.length_map];rw[if_pos (by refine⟨by omega,by omega,?_,by decide,by decide⟩;rw[Int.toNat_natCast];omega)];congr 2;rw[Int.toNat_natCast,List.length_replicate,List.take_of_length_le (by simp),List.drop_eq_nil_of_le (by simp),List.append_nil]
theorem Wf(x:aD):PV.agg [.int .i64 x.a,.int .i64 x.ac,.int .i64 x.b,.int .i64 x.bc,.bool x.stay]=x.pv:=rfl
theorem F9(l:List aD)(i:Nat)(hl:l.length≤1000000):bU [.rs 5 (l.map aD.pv),.int .i64 i]=some (.rs 5 ((l.filter fun x=> !(decide (x.a=(i:Int))||decide (x.b=(i:Int)))).map aD.pv)):=by
 have hmx:1000000≤maxLen:=by decide
 have hb:1000000*40≤aa:=by decide
 simp only[bU,pd,ab,asInt,if_true,U];refine br (fun k=>(l.map aD.pv,(i:Int),(k:Int),((l.take k).filter fun x=> !(decide (x.a=(i:Int))||decide (x.b=(i:Int)))).map aD.pv,())) l.length (fun k hk rec=>?_) (fun rec=>?_) (by have:=aP;omega) (by simp)
 ·unfold lZ;dsimp only;have hlen:((l.take k).filter fun x=> !(decide (x.a=(i:Int))||decide (x.b=(i:Int)))).length≤k:=Nat.le_trans (List.length_filter_le _ _) (by simp;omega);rw[List.length_map,if_pos (by rw[decide_eq_true_eq];omega),aq,List.getElem?_map,List.getElem?_eq_getElem hk];have df:∀x:PV,(((l.take k).filter fun x=> !(decide (x.a=(i:Int))||decide (x.b=(i:Int)))).map aD.pv++[x]).length*40≤aa∧0<40:=by intro x;refine⟨?_,by decide⟩;simp only[List.length_append,List.length_map,List.length_singleton];omega
  simp only[df,and_self,Option.map_some,U,Wf,CH,HH,link2,HI,Et,asInt,if_true,cT,al (show k<9223372036854775807 by omega),jw];rw[List.take_succ_eq_append_getElem hk,List.filter_append,List.map_append];have hc:(!decide (l[k].a=(i:Int))&& !decide (l[k].b=(i:Int)))= !(decide (l[k].a=(i:Int))||decide (l[k].b=(i:Int))):=by cases decide (l[k].a=(i:Int))<;>cases decide (l[k].b=(i:Int))<;>rfl
  rw[hc];by_cases hx:(!(decide (l[k].a=(i:Int))||decide (l[k].b=(i:Int))))=true
  ·rw[if_pos hx];simp only[List.filter_cons,hx,if_true,List.filter_nil,List.map_cons,List.map_nil];rw[if_pos (by decide)]
  ·rw[if_neg hx];simp only[List.filter_cons,hx,if_false,List.filter_nil,List.map_nil,List.append_nil,Bool.false_eq_true]
 ·unfold lZ;dsimp only;rw[List.length_map,if_neg (by simp),List.take_length]
end Go.Ab.Tt
namespace Go.Ab.Tt
set_option maxRecDepth 100000
set_option linter.unusedVariables false
set_option linter.unusedSimpArgs false
theorem C6(x:bp):aO 5 (cell x.mS 7)=some (x.calls.map an.pv):=rfl
def outs(pre:List an)(l:List an)(k:Nat):List PV:=pre.map an.pv++(l.drop k).map an.pv
theorem Ik(pre l:List an)(k:Nat)(hp:pre.length=k)(hk:k≤l.length):(outs pre l k).length=l.length:=by unfold outs;simp;omega
theorem Il(pre l:List an)(k:Nat)(hp:pre.length=k)(hk:k<l.length):(outs pre l k)[k]?=some l[k].pv:=by unfold outs;rw[List.getElem?_append_right (by simp;omega)];simp[hp,List.getElem?_eq_getElem hk]
theorem Im(pre l:List an)(k:Nat)(hp:pre.length=k)(hk:k<l.length)(x:an):(outs pre l k).set k x.pv=outs (pre++[x]) l (k+1):=by
 unfold outs;rw[List.set_append_right _ _ (by simp;omega)];have h0:k-(pre.map an.pv).length=0:=by simp;omega
 rw[h0,List.drop_eq_getElem_cons hk,List.map_cons,List.set_cons_zero,List.map_append,List.append_assoc];rfl
variable{S R:Type}
theorem C7{body:S→(S→Option R)→Option R}(st:Int→Nat→List PV→S)(l:List an)(i:Nat)(err:Option R)(fin:List PV→Option R)(vL:∀k a out rec,k<i→k<l.length→body (st a k out) rec=rec (st a (k+1) out))(tI:∀k a pre rec,i≤k→(hk:k<l.length)→pre.length=k→0≤a→a≤8000000000→body (st a k (outs pre l k)) rec=if(late l[k] a).dep>gC then err else if h:k+1<l.length then rec (st (l[k+1].arr+(late l[k] a).dep-l[k].dep) (k+1) (outs (pre++[late l[k] a]) l (k+1)))else rec (st a (k+1) (outs (pre++[late l[k] a]) l (k+1))))(nm:∀a out rec,body (st a l.length out) rec=fin out)(il:∀k,(hk:k<l.length)→Span l[k])(hor:∀k,(hk:k+1<l.length)→(l[k]'(by omega)).dep≤l[k+1].arr)(hi:i<l.length)(hl:l.length+1<rounds)(a:Int)(h0:0≤a)(h1:a≤8000000000):bK.run body (st a 0 (l.map an.pv))=match fb (l.drop i) a with|some r=>fin ((l.take i++r).map an.pv)|none=>err:=by
 rw[j4];have hA:∀k,k≤i→∀fu,cj body (k+fu) (st a (i-k) (l.map an.pv))=cj body fu (st a i (l.map an.pv)):=by
  intro k;induction k with
  |zero=>intro _ fu;rw[Nat.zero_add];rfl
  |succ k ih=>intro hk fu;rw[show k+1+fu=(k+fu)+1 by omega,cj,vL (i-(k+1)) a _ _ (by omega) (by omega),show i-(k+1)+1=i-k by omega];exact ih (by omega) fu
 have hB:∀(j:Nat)(k:Nat)(a:Int)(pre:List an)(fu:Nat),k+j=l.length→i≤k→j<fu→0≤a→a≤8000000000→pre.length=k→cj body fu (st a k (outs pre l k))=match fb (l.drop k) a with|some r=>fin ((pre++r).map an.pv)|none=>err:=by
  intro j;induction j with
  |zero=>
   intro k a pre fu hk Ay hf _ _ hp;obtain⟨fu,rfl⟩:∃f,fu=f+1:=⟨fu-1,by omega⟩;have jA:k=l.length:=by omega
   subst jA;rw[cj,nm,List.drop_length];simp[fb,outs]
  |succ j ih=>
   intro k a pre fu hk Ay hf Q3 Xv hp;obtain⟨fu,rfl⟩:∃f,fu=f+1:=⟨fu-1,by omega⟩;have jA:k<l.length:=by omega
   have hc:=il k jA;rw[cj,tI k a pre _ Ay jA hp Q3 Xv,List.drop_eq_getElem_cons jA];by_cases nX:(late l[k] a).dep>gC
   ·rw[if_pos nX,EN _ _ _ nX]
   ·rw[if_neg nX];by_cases hn:k+1<l.length
    ·rw[dif_pos hn];obtain⟨n0,n1⟩:=vH hc (il (k+1) hn) (hor k hn) Q3 nX;rw[ih (k+1) _ _ fu (by omega) (by omega) (by omega) n0 n1 (by simp[hp]),List.drop_eq_getElem_cons hn,uZ,if_neg nX];cases fb (l[k+1]::l.drop (k+1+1)) (l[k+1].arr+(late l[k] a).dep-l[k].dep)with
     |none=>rfl
     |some r=>simp
    ·rw[dif_neg hn];have hj:j=0:=by omega
     subst hj;obtain⟨fu,rfl⟩:∃f,fu=f+1:=⟨fu-1,by omega⟩;have ZA:k+1=l.length:=by omega
     rw[cj,List.drop_eq_nil_of_le (by omega),zA,if_neg nX];have:=nm a (outs (pre++[late l[k] a]) l (k+1)) (cj body fu);rw[←ZA]at this;rw[this];simp[outs,List.drop_eq_nil_of_le (show l.length≤k+1 by omega)]
 have e1:bK.run body (st a 0 (l.map an.pv))=cj body rounds (st a 0 (l.map an.pv)):=rfl;have e2:=hA i (Nat.le_refl _) (rounds-i);rw[Nat.sub_self,show i+(rounds-i)=rounds by omega]at e2;rw[e2];have e3:l.map an.pv=outs (l.take i) l i:=by unfold outs;rw[←List.map_append,List.take_append_drop]
 rw[e3];exact hB (l.length-i) i a (l.take i) (rounds-i) (by omega) (Nat.le_refl _) (by omega) h0 h1 (by simp;omega)
theorem ZC{body:S→(S→Option R)→Option R}(st:Nat→Nat→List PV→S)(l:List aD)(p:aD→Bool)(out:List PV→Option R)(tI:∀j i x rec,(hi:i<l.length)→x.length=l.length→j≤i→x[i]?=some l[i].pv→body (st j i x) rec=if p l[i]=true then rec (st (j+1) (i+1) (x.set j l[i].pv))else rec (st j (i+1) x))(nm:∀j x rec,x.length=l.length→j≤l.length→body (st j l.length x) rec=out (x.take j)):∀n j i x fu,i+n=l.length→j≤i→x.length=l.length→x.take j=((l.take i).filter p).map aD.pv→x.drop i=(l.drop i).map aD.pv→n<fu→cj body fu (st j i x)=out ((l.filter p).map aD.pv):=by
 intro n;induction n with
 |zero=>
  intro j i x fu hi hj hx ht hd hf;obtain⟨fu,rfl⟩:∃f,fu=f+1:=⟨fu-1,by omega⟩;have:i=l.length:=by omega
  subst this;rw[cj,nm j x _ hx hj,ht,List.take_length]
 |succ n ih=>
  intro j i x fu hi hj hx ht hd hf;obtain⟨fu,rfl⟩:∃f,fu=f+1:=⟨fu-1,by omega⟩;have QZ:i<l.length:=by omega
  have eH:x[i]?=some l[i].pv:=by have:=congrArg (fun y=>y[0]?) hd;simpa[List.getElem?_drop,QZ]using this
  have NM:x.drop (i+1)=(l.drop (i+1)).map aD.pv:=by rw[←List.drop_drop,hd,←List.map_drop,List.drop_drop]
  rw[cj,tI j i x _ QZ hx hj eH];by_cases hp:p l[i]=true
  ·rw[if_pos hp];refine ih (j+1) (i+1) _ fu (by omega) (by omega) (by rw[List.length_set,hx]) ?_ ?_ (by omega)
   ·rw[List.take_succ_eq_append_getElem QZ,List.filter_append,List.map_append,←ht];simp only[List.filter_cons,hp,if_true,List.filter_nil,List.map_cons,List.map_nil];have yz:j<(x.set j l[i].pv).length:=by rw[List.length_set];omega
    rw[List.take_succ_eq_append_getElem yz,List.getElem_set_self,List.take_set_of_le (Nat.le_refl j)]
   ·rw[List.drop_set_of_lt (by omega),NM]
  ·rw[if_neg hp];refine ih j (i+1) x fu (by omega) (by omega) hx ?_ NM (by omega);rw[List.take_succ_eq_append_getElem QZ,List.filter_append,List.map_append,←ht];simp[hp]
theorem TG{S':Type}{body:S→(S→Option R)→Option R}{body3:S'→(S'→Option R)→Option R}(st:Nat→S)(st3:Nat→Nat→List PV→S')(l:List aD)(p:aD→Bool)(out:List PV→Option R)(ZD:∀j i x rec,(hi:i<l.length)→x.length=l.length→j≤i→x[i]?=some l[i].pv→body3 (st3 j i x) rec=if p l[i]=true then rec (st3 (j+1) (i+1) (x.set j l[i].pv))else rec (st3 j (i+1) x))(acL:∀j x rec,x.length=l.length→j≤l.length→body3 (st3 j l.length x) rec=out (x.take j))(tI:∀k rec,(hk:k<l.length)→body (st k) rec=if p l[k]=true then rec (st (k+1))else bK.run body3 (st3 k (k+1) (l.map aD.pv)))(nm:∀rec,body (st l.length) rec=out (l.map aD.pv))(hl:l.length+1<rounds):bK.run body (st 0)=out ((l.filter p).map aD.pv):=by
 have:∀n k fu,k+n=l.length→n<fu→(l.take k).filter p=l.take k→cj body fu (st k)=out ((l.filter p).map aD.pv):=by
  intro n;induction n with
  |zero=>
   intro k fu hk hf ht;obtain⟨fu,rfl⟩:∃f,fu=f+1:=⟨fu-1,by omega⟩;have:k=l.length:=by omega
   subst this;rw[List.take_length]at ht;rw[cj,nm,ht]
  |succ n ih=>
   intro k fu hk hf ht;obtain⟨fu,rfl⟩:∃f,fu=f+1:=⟨fu-1,by omega⟩;have jA:k<l.length:=by omega
   rw[cj,tI k _ jA];by_cases hp:p l[k]=true
   ·rw[if_pos hp];refine ih (k+1) fu (by omega) (by omega) ?_;rw[List.take_succ_eq_append_getElem jA,List.filter_append,ht];simp[hp]
   ·rw[if_neg hp,j4];refine ZC st3 l p out ZD acL (l.length-(k+1)) k (k+1) _ rounds (by omega) (by omega) (by simp) ?_ (by rw[List.map_drop]) (by omega);rw[List.take_succ_eq_append_getElem jA,List.filter_append,ht,←List.map_take];simp[hp]
 rw[j4];exact this l.length 0 rounds (by omega) (by omega) (by simp)
structure Io(N:ag):Prop where
 ok:N.Ok
 stops:N.stops.length≤1000
 af:N.af.length≤1000
 runs:N.runs.length≤100
 ah:N.ah.length≤1000
 paths:N.paths.length≤1000
 aw:N.aw.length≤1000
 calls:∀r∈N.runs,r.calls.length≤1000
def z9:PV:=.agg [.rs 0 [],.rs 0 [],.rs 0 [],.rs 0 [],.rs 0 [],.rs 0 [],.int .i64 0,.int .i64 0,.int .i64 0]
theorem Ip(N:ag)(h:N.Ok)(hp:N.paths.length≤4096):iu [N.pv]=some (.bool (decide ((dp N).2.2=0))):=by have hc:=P2 N h hp;simp only[iu,uv,nS,pC,pD,pE,pF,pG,pH,pI,pJ,pK,U,vN,hc];simp only[gb,bJ,List.length_cons,List.length_nil,Nat.reduceAdd,if_true,List.getD_cons_zero,List.getD_cons_succ,asInt,U,Au]
end Go.Ab.Tt
namespace Go.Ab.Tt
set_option maxRecDepth 100000
set_option linter.unusedVariables false
set_option linter.unusedSimpArgs false
def Q4(N:ag)(m:fL):PV:=if(Bc N m).2=0 then .aZ [(Bc N m).1.pv,.int .i64 0]else .aZ [z9,.int .i64 (Bc N m).2]
def sf(N:ag)(m:fL):PV:=if(dp N).2.2=0 then(if eX m=0 then Q4 N m else .aZ [z9,.int .i64 (eX m)])else .aZ [z9,.int .i64 21]
def TH(N:ag)(m:fL)(k:Nat):=((N.runs.length:Int),(k:Int),N.stops.map Stop.pv,N.af.map ax.pv,N.runs.map bp.pv,N.ah.map aD.pv,N.paths.map Path.pv,N.aw.map aS.pv,N.aQ,N.within,N.cap,(0:Int),(0:Int),(0:Int),N.aw.map aS.pv,N.aQ,N.within,N.cap,m.source,m.seq,m.eW,m.dt,m.kind,m.cX,m.day,m.inst,m.call,m.bm,m.bd,m.free,m.calls.map an.pv,(0:Int),(0:Int),(0:Int),N.stops.map Stop.pv,N.af.map ax.pv,mix bp.mS bp.pv N.runs k,N.ah.map aD.pv,N.paths.map Path.pv,())
theorem Qq(l:List bp):(mix bp.mS bp.pv l l.length).map PV.strip=l.map bp.pv:=by rw[FQ,gR]
theorem l0{e:Int}{x y:Option PV}:(if(e !=0)=true then x else y)=if e=0 then y else x:=by by_cases h:e=0<;>simp[h]
theorem l5(l:List bp)(i:Nat)(hi:i<l.length):(l.map bp.mS)[i]?=some l[i].mS:=by simp[hi]
theorem TI(l:List bp)(i:Nat)(hi:i<l.length):ae (i:Int) (l.map bp.mS).length:=by rw[List.length_map];exact⟨by omega,by omega⟩
theorem pV(x:bp)(l:List an):PV.agg [.int .i64 x.cX,.int .i64 x.day,.int .i64 x.inst,.str x.id,.int .i64 x.bd,.bool x.free,.bool x.q9,.cK 5 (l.map an.pv)]=({x with calls:=l}:bp).mS:=rfl
theorem EO(n:Int):Ab.asInt .i64 (.int .i64 n)=some n:=rfl
theorem OG(x:an):PV.agg [cell x.pv 0,cell x.pv 1,cell x.pv 2,cell x.pv 3,cell x.pv 4]=x.pv:=rfl
theorem kI1(x:an):Ab.asInt .i64 (cell x.pv 1)=some x.arr:=rfl
theorem kI2(x:an):Ab.asInt .i64 (cell x.pv 2)=some x.dep:=rfl
theorem Xw(x:an)(a:Int):PV.agg (cell x.pv 0::.int .i64 a::over [] [cell x.pv 2,cell x.pv 3,cell x.pv 4])=({x with arr:=a}:an).pv:=rfl
theorem Xx(x:an)(d:Int):PV.agg (cell x.pv 0::cell x.pv 1::.int .i64 d::over [] [cell x.pv 3,cell x.pv 4])=({x with dep:=d}:an).pv:=rfl
theorem Xy(c:an)(a:Int):(if a+fa c>c.dep then a+fa c else c.dep)=(late c a).dep:=by cases c;exact id rfl
theorem OH(c:an)(a:Int):an.mk c.stop a (late c a).dep c.yf c.sV=late c a:=rfl
theorem TJ(x:bp)(l:List PV):(if(8:Nat)=1 then PV.cK 5 l else .agg (cell x.mS 0::cell x.mS 1::cell x.mS 2::cell x.mS 3::cell x.mS 4::cell x.mS 5::cell x.mS 6::.cK 5 l::over [] []))=.agg [.int .i64 x.cX,.int .i64 x.day,.int .i64 x.inst,.str x.id,.int .i64 x.bd,.bool x.free,.bool x.q9,.cK 5 l]:=rfl
theorem TK(x:bp):PV.agg (cell x.mS 0::cell x.mS 1::cell x.mS 2::cell x.mS 3::cell x.mS 4::cell x.mS 5::.bool true::over [] [cell x.mS 7])=({x with q9:=true}:bp).mS:=rfl
theorem ot(l:List bp)(i:Nat)(x:bp):((l.map bp.mS).set i x.mS).map PV.strip=(l.set i x).map bp.pv:=by rw[←List.map_set,gR]
theorem Iq{A:Type}(l:List A)(k:Nat)(x:A)(h:k<l.length):(l.set k x)[k]?=some x:=by simp[h]
theorem gU(k n:Nat)(h:k<n):ae (k:Int) n:=⟨by omega,by omega⟩
def Ma(N:ag)(i c:Nat)(a:Int)(k:Nat)(out:List PV):=((i:Int),(c:Int),a,((N.runs[i]?).elim 0 fun r=>(r.calls.length:Int)),(k:Int),(i:Int),N.runs.map bp.mS,out,N.aQ,N.within,N.cap,(0:Int),(0:Int),(0:Int),N.stops.map Stop.pv,N.af.map ax.pv,N.ah.map aD.pv,N.paths.map Path.pv,N.aw.map aS.pv,())
def Ga(N:ag)(i:Nat)(l:List an):ag:=match N.runs[i]? with|some r=>{N with runs:=N.runs.set i {r with calls:=l}}|none=>N
theorem TL(N:ag)(h:Io N)(i c:Nat)(hi:i<N.runs.length)(hc:c<N.runs[i].calls.length)(ho:nV N.runs[i].calls=true)(a:Int)(h0:0≤a)(h1:a≤8000000000):bK.run dE (Ma N i c a 0 (N.runs[i].calls.map an.pv))=match fb (N.runs[i].calls.drop c) a with|some r=>some (.aZ [(Ga N i (N.runs[i].calls.take c++r)).pv,.int .i64 0])|none=>some (.aZ [z9,.int .i64 10]):=by
 have hlen:=h.calls N.runs[i] (List.getElem_mem hi);have Xz:1003<rounds:=by decide
 have il:=kS ho;refine(C7 (Ma N i c) N.runs[i].calls c (some (.aZ [z9,.int .i64 10])) (fun out=>some (.aZ [.agg [.rs 4 (N.stops.map Stop.pv),.rs 3 (N.af.map ax.pv),.rs 8 (((N.runs.map bp.mS).set i (.agg [.int .i64 N.runs[i].cX,.int .i64 N.runs[i].day,.int .i64 N.runs[i].inst,.str N.runs[i].id,.int .i64 N.runs[i].bd,.bool N.runs[i].free,.bool N.runs[i].q9,.cK 5 out])).map PV.strip),.rs 5 (N.ah.map aD.pv),.rs 4 (N.paths.map Path.pv),.rs 6 (N.aw.map aS.pv),.int .i64 N.aQ,.int .i64 N.within,.int .i64 N.cap],.int .i64 0])) (fun k a out rec hk jA=>?_) (fun k a pre rec hk jA hp Q3 Xv=>?_) (fun a out rec=>?_) il (se ho) hc (by omega) a h0 h1).trans ?_
 ·unfold Ma dE;dsimp only;rw[List.getElem?_eq_getElem hi,Option.elim_some,if_pos (by rw[decide_eq_true_eq];omega),if_pos (by rw[decide_eq_true_eq];omega),al (by omega),Int.toNat_natCast]
 ·obtain⟨d0,d1⟩:=pU (il k jA);obtain⟨s0,s1,s2⟩:=il k jA;have hlm:=ig;have hol:=Ik pre N.runs[i].calls k hp (by omega);have Yq:∀x,((outs pre N.runs[i].calls k).set k x).length=N.runs[i].calls.length:=fun x=>by rw[List.length_set,hol]
  unfold Ma dE;dsimp only;rw[List.getElem?_eq_getElem hi,Option.elim_some,if_pos (by rw[decide_eq_true_eq];omega),if_neg (by rw[decide_eq_true_eq];omega)];simp only[Int.toNat_natCast,l5 _ _ hi,U,C6,List.length_map,gU k _ jA,if_true,List.getElem?_map,List.getElem?_eq_getElem jA,Option.map_some,hol,Il pre _ k hp jA,kI2,OG,C4 (il k jA),EO,Xw,Xx,Yq,Iq _ _ _ (show k<(outs pre N.runs[i].calls k).length by omega),List.set_set,wrap_small (show-100000000000≤a+fa N.runs[i].calls[k] by omega) (show a+fa N.runs[i].calls[k]≤100000000000 by omega),Xy,OH,al (show k<9223372036854775807 by omega),Im pre _ k hp jA,decide_eq_true_eq];have dK:=C5 (il k jA) Q3 Xv;by_cases nX:(late N.runs[i].calls[k] a).dep>gC
  ·rw[if_pos (show(late N.runs[i].calls[k] a).dep>3155932800 by omega),if_pos nX];rfl
  ·rw[if_neg (show¬(late N.runs[i].calls[k] a).dep>3155932800 by omega),if_neg nX];by_cases hn:k+1<N.runs[i].calls.length
   ·obtain⟨n0,n1⟩:=vH (il k jA) (il (k+1) hn) (se ho k hn) Q3 nX;obtain⟨t0,t1,t2⟩:=il (k+1) hn;rw[if_pos (by omega),dif_pos hn,if_pos (gU _ _ hn),List.getElem?_eq_getElem hn];simp only[Option.map_some,U,kI1];rw[wrap_small (x:=N.runs[i].calls[k+1].arr+(late N.runs[i].calls[k] a).dep) (by omega) (by omega),wrap_small (by omega) (by omega)]
   ·rw[if_neg (by omega),dif_neg hn]
 ·unfold Ma dE;dsimp only;rw[List.getElem?_eq_getElem hi,Option.elim_some,if_neg (by simp)];simp only[Int.toNat_natCast,l5 _ _ hi,U,TI _ _ hi,if_true,TJ]
 ·cases fb (N.runs[i].calls.drop c) a with
  |none=>rfl
  |some r=>simp only[pV,ot];simp only[Ga,List.getElem?_eq_getElem hi];rfl
theorem Gb(x:aD):PV.agg [cell x.pv 0,cell x.pv 1,cell x.pv 2,cell x.pv 3,cell x.pv 4]=x.pv:=rfl
def Ir(i:Nat)(l:aD):Bool:= !(decide (l.a=(i:Int))||decide (l.b=(i:Int)))
theorem vJ(x:aD)(i:Nat):bP [x.pv,.rp [.int .i64 i]]=some (.bool (!Ir i x)):=by have hA:asAgg 5 x.pv=some ():=rfl;simp only[bP,lB,hA,CH,HH,link2,HI,Et,asInt,asBool,if_true,U,aW,ef,Ir,Bool.not_not]
def ZE(N:ag)(i:Nat)(runs:List PV)(j k:Nat)(x:List PV):=((j:Int),(k:Int),x,(i:Int),N.aQ,N.within,N.cap,(0:Int),(0:Int),(0:Int),N.stops.map Stop.pv,N.af.map ax.pv,runs,N.paths.map Path.pv,N.aw.map aS.pv,())
def OI(N:ag)(runs:List PV)(x:List PV):Option PV:=some (.aZ [.agg [.rs 4 (N.stops.map Stop.pv),.rs 3 (N.af.map ax.pv),.rs 8 (runs.map PV.strip),.rs 5 x,.rs 4 (N.paths.map Path.pv),.rs 6 (N.aw.map aS.pv),.int .i64 N.aQ,.int .i64 N.within,.int .i64 N.cap],.int .i64 0])
theorem TM(N:ag)(h:Io N)(i:Nat)(runs:List PV):bK.run (jo bK) ((N.ah.length:Int),0,N.ah.map aD.pv,(i:Int),N.aQ,N.within,N.cap,0,0,0,N.stops.map Stop.pv,N.af.map ax.pv,runs,N.paths.map Path.pv,N.aw.map aS.pv,())=OI N runs ((N.ah.filter (Ir i)).map aD.pv):=by
 have hk:=h.ah;have Xz:1003<rounds:=by decide
 refine TG (fun k=>((N.ah.length:Int),(k:Int),N.ah.map aD.pv,(i:Int),N.aQ,N.within,N.cap,0,0,0,N.stops.map Stop.pv,N.af.map ax.pv,runs,N.paths.map Path.pv,N.aw.map aS.pv,())) (ZE N i runs) (body3:=jq bK) N.ah (Ir i) (OI N runs) (fun j k x rec jA hx hj hg=>?_) (fun j x rec hx hj=>?_) (fun k rec jA=>?_) (fun rec=>?_) (by omega)
 ·unfold ZE jq;dsimp only;rw[if_pos (by rw[decide_eq_true_eq];omega),if_pos (gU _ _ (by omega)),Int.toNat_natCast,hg];simp only[U,Gb,vJ,asBool,Bool.not_not,al (show k<9223372036854775807 by omega),al (show j<9223372036854775807 by omega),gU j x.length (by omega),if_true,Int.toNat_natCast,List.getElem?_eq_getElem (show j<x.length by omega)]
 ·unfold ZE jq;dsimp only;rw[if_neg (by rw[hx];simp)];simp only[Int.toNat_natCast,Int.toNat_zero,Nat.sub_zero,List.drop_zero];rw[if_pos (by exact⟨by omega,by omega,by omega,trivial⟩),if_pos (by exact⟨trivial,trivial,by omega,by omega⟩),if_pos (by refine⟨by omega,by omega,?_,trivial⟩;simp only[List.length_append,List.length_take,List.length_replicate,List.length_drop];omega)];unfold OI;rw[List.take_append_of_le_length (by simp;omega),List.take_take,Nat.min_self]
 ·unfold jo;dsimp only;rw[if_pos (by rw[decide_eq_true_eq];omega),if_pos (gU _ _ (by simpa using jA)),Int.toNat_natCast,List.getElem?_map,List.getElem?_eq_getElem jA];simp only[Option.map_some,U,Gb,vJ,asBool,al (show k<9223372036854775807 by omega),ef];cases hp:Ir i N.ah[k]with
  |true=>simp only[Bool.not_true,Bool.false_eq_true,if_false,if_true]
  |false=>simp only[Bool.not_false,if_true,Bool.false_eq_true,if_false];rw[if_neg (by rw[decide_eq_true_eq];omega)];rfl
 ·unfold jo;dsimp only;rw[if_neg (by simp)];rfl
theorem Mb(x:an):setCells 5 x.pv 3 1 (.bool false)=({x with yf:=false}:an).pv:=rfl
theorem Mc(x:an):setCells 5 x.pv 4 1 (.bool false)=({x with sV:=false}:an).pv:=rfl
theorem ZF(x:bp)(l:List an):setRow 8 x.mS 7 (.cK 5 (l.map an.pv))=({x with calls:=l}:bp).mS:=rfl
theorem Qr(N:ag)(m:fL)(h:Io N)(hm:m.Ok)(hv:(dp N).2.2=0)(hc:m.calls.length≤1000)(rec:_→Option PV):jr bK (TH N m N.runs.length) rec=some (Q4 N m):=by
 have hr:=h.runs;have hp:=wj (N.aw.map aS.pv) (by simpa using h.aw);have ht:=uY N m (by
  have:1000≤maxLen:=by decide
  omega)
 unfold TH jr;dsimp only;rw[if_neg (by simp),hp];simp only[U,ab,if_true,Qq,vN,Qm,ht];rw[FQ];unfold Q4 Bc Ii;simp only[ef,decide_eq_true_eq];by_cases k5:m.kind=5
 ·simp only[k5,if_true];cases Is:yA N.runs m with
  |some i=>simp only[bJ,List.length_cons,List.length_nil,Nat.reduceAdd,if_true,U,List.getD_cons_zero,List.getD_cons_succ,asInt,asBool,Option.isSome_some];rfl
  |none=>
   have eR:=oh m.calls N.stops.length 0 3155932800 hm.calls.1;simp only[res]at eR;have ZG:=vI m.calls (by omega);simp only[bJ,List.length_cons,List.length_nil,Nat.reduceAdd,if_true,U,List.getD_cons_zero,List.getD_cons_succ,asInt,asBool,Option.isSome_none,Bool.false_eq_true,if_false,List.length_map,aW,Bool.or_eq_true,decide_eq_true_eq,eR,l0];by_cases la:m.bd<0∨m.bd≥(N.af.length:Int)
   ·rw[if_pos la,if_pos la];rfl
   ·rw[if_neg la,if_neg la];by_cases he:(bj m.calls (N.stops.length:Int) 0 3155932800).2=0
    ·rw[if_pos he,if_neg (show¬((N.runs.length:Int)≥1024) by omega),ZG];simp only[U,ab,if_true,he,ne_eq,not_true,if_false,if_neg (show¬(N.runs.length≥1024) by omega)];rw[if_pos (by
      have:101*80≤aa:=by decide
      rw[List.length_append,List.length_map,List.length_singleton];omega)]
     rw[List.map_append,gR];have:(N.runs++[CY m]).map bp.pv=N.runs.map bp.pv++[.agg [.int .i64 (-1),.int .i64 m.day,.int .i64 m.inst,.str m.cX,.int .i64 m.bd,.bool m.free,.bool false,.rs 5 (m.calls.map an.pv)]]:=by simp[CY,bp.pv]
     simp only[ag.pv,this,if_true];rfl
    ·rw[if_neg he,if_neg he,if_pos he,if_neg he];rfl
 ·simp only[if_neg k5];cases Is:yA N.runs m with
  |none=>simp only[bJ,List.length_cons,List.length_nil,Nat.reduceAdd,if_true,U,List.getD_cons_zero,List.getD_cons_succ,asInt,asBool,Bool.not_false];rfl
  |some i=>
   obtain⟨hi,Ay,_⟩:=uV Is;have oV:ae (i:Int) N.runs.length:=⟨by omega,by omega⟩;have ta:=uK hv N.runs[i] (List.getElem_mem hi);simp only[bJ,List.length_cons,List.length_nil,Nat.reduceAdd,if_true,U,List.getD_cons_zero,List.getD_cons_succ,asInt,asBool,Bool.not_true,Bool.false_eq_true,if_false,l5 _ _ hi,List.getElem?_eq_getElem hi,oV,C6,Int.toNat_natCast,List.length_map,aW,cT,Bool.or_eq_true,decide_eq_true_eq];have QY:((decide (m.kind=1)||decide (m.kind=3))&&(decide (m.call<0)||decide (m.call≥(N.runs[i].calls.length:Int))))=decide ((m.kind=1∨m.kind=3)∧(m.call<0∨m.call≥(N.runs[i].calls.length:Int))):=by rw[Bool.eq_iff_iff];simp
   rw[QY];simp only[decide_eq_true_eq];by_cases hn:(m.kind=1∨m.kind=3)∧(m.call<0∨m.call≥(N.runs[i].calls.length:Int))
   ·rw[if_pos hn,if_pos hn];rfl
   rw[if_neg hn,if_neg hn];by_cases k1:m.kind=1
   ·simp only[k1,if_true];have GA:¬(m.call<0∨m.call≥(N.runs[i].calls.length:Int)):=fun hh=>hn ⟨.inl k1,hh⟩;have afD:=not_or.1 GA;unfold prop;rw[if_neg GA,if_neg (show¬(m.call<0∨m.call≥(N.runs[i].calls.length:Int))from GA)];by_cases hs:m.bm< -43200∨m.bm>43200
    ·rw[if_pos hs,if_pos hs];rfl
    rw[if_neg hs,if_neg hs];obtain⟨c,BB⟩:∃c:Nat,m.call=(c:Int):=⟨m.call.toNat,by omega⟩;have tp:c<N.runs[i].calls.length:=by omega
    have hlen:=h.calls N.runs[i] (List.getElem_mem hi);have ho:=yj N.runs[i].calls (by
     have:1000≤maxLen:=by decide
     omega)
    have hrq:OY (cell N.runs[i].mS 7)=some (.rs 5 (N.runs[i].calls.map an.pv)):=rfl;simp only[hrq,U,ho,asBool];cases ZH:nV N.runs[i].calls with
    |false=>rfl
    |true=>
     have df:0≤(N.runs[i].calls.length:Int)∧(N.runs[i].calls.length:Int)≤(N.runs[i].calls.length:Int)∧(N.runs[i].calls.length:Int).toNat*32≤aa∧0<32∧0<5:=by
      have:1000*32≤aa:=by decide
      refine⟨by omega,by omega,?_,by decide,by decide⟩;rw[Int.toNat_natCast];omega
     rw[if_neg (by decide),if_pos (by rw[Int.toNat_natCast]at df;exact df)];simp only[BB,Int.toNat_natCast];obtain⟨a1,a2⟩:=F7 ZH tp (show-43200≤m.bm by omega) (show m.bm≤43200 by omega);have hA:=TL N h i c hi tp ZH _ a1 (by omega);have UI:∀z:PV,List.take (List.replicate N.runs[i].calls.length z).length (N.runs[i].calls.map an.pv)++List.drop N.runs[i].calls.length (List.replicate N.runs[i].calls.length z)=N.runs[i].calls.map an.pv:=fun z=>by rw[List.length_replicate,List.take_of_length_le (by simp),List.drop_eq_nil_of_le (by simp),List.append_nil]
     have hS:∀A out,Ma N i c A 0 out=((i:Int),(c:Int),A,(N.runs[i].calls.length:Int),0,(i:Int),N.runs.map bp.mS,out,N.aQ,N.within,N.cap,0,0,0,N.stops.map Stop.pv,N.af.map ax.pv,N.ah.map aD.pv,N.paths.map Path.pv,N.aw.map aS.pv,()):=fun A out=>by unfold Ma;rw[List.getElem?_eq_getElem hi];rfl
     rw[hS]at hA;have hF:∀o,(match fb (N.runs[i].calls.drop c) (lr N.runs[i].calls c m.bm)with|some r=>some (PV.aZ [(Ga N i (N.runs[i].calls.take c++r)).pv,.int .i64 0])|none=>some (PV.aZ [z9,.int .i64 10]))=o→bK.run dE ((i:Int),(c:Int),lr N.runs[i].calls c m.bm,(N.runs[i].calls.length:Int),0,(i:Int),N.runs.map bp.mS,N.runs[i].calls.map an.pv,N.aQ,N.within,N.cap,0,0,0,N.stops.map Stop.pv,N.af.map ax.pv,N.ah.map aD.pv,N.paths.map Path.pv,N.aw.map aS.pv,())=o:=fun o ho=>hA.trans ho;have hlm:=ig;obtain⟨s0,s1,s2⟩:=kS ZH c tp;have tZ:∀A,A=lr N.runs[i].calls c m.bm→bK.run dE ((i:Int),(c:Int),A,(N.runs[i].calls.length:Int),0,(i:Int),N.runs.map bp.mS,N.runs[i].calls.map an.pv,N.aQ,N.within,N.cap,0,0,0,N.stops.map Stop.pv,N.af.map ax.pv,N.ah.map aD.pv,N.paths.map Path.pv,N.aw.map aS.pv,())=some (if(match(match fb (N.runs[i].calls.drop c) (lr N.runs[i].calls c m.bm)with|some r=>(some (N.runs[i].calls.take c++r),(0:Int))|none=>(none,10))with|(some l,_)=>(({N with runs:=N.runs.set i {N.runs[i]with calls:=l}}:ag),(0:Int))|(none,e)=>(N,e)).2=0 then PV.aZ [(match(match fb (N.runs[i].calls.drop c) (lr N.runs[i].calls c m.bm)with|some r=>(some (N.runs[i].calls.take c++r),(0:Int))|none=>(none,10))with|(some l,_)=>(({N with runs:=N.runs.set i {N.runs[i]with calls:=l}}:ag),(0:Int))|(none,e)=>(N,e)).1.pv,.int .i64 0]else .aZ [z9,.int .i64 (match(match fb (N.runs[i].calls.drop c) (lr N.runs[i].calls c m.bm)with|some r=>(some (N.runs[i].calls.take c++r),(0:Int))|none=>(none,10))with|(some l,_)=>(({N with runs:=N.runs.set i {N.runs[i]with calls:=l}}:ag),(0:Int))|(none,e)=>(N,e)).2]):=by
      intro A tu;subst tu;apply hF;cases fb (N.runs[i].calls.drop c) (lr N.runs[i].calls c m.bm)with
      |none=>rfl
      |some r=>simp only[Ga,List.getElem?_eq_getElem hi];rfl
     cases c with
     |zero=>rw[if_neg (by decide),if_pos (gU _ _ tp)];simp only[List.getElem?_map,List.getElem?_eq_getElem tp,Option.map_some,U,pz,asInt,if_true,UI];refine tZ _ ?_;rw[wrap_small (by omega) (by omega)];unfold lr;rw[List.getElem?_eq_getElem tp];simp only[eS,Option.map_some,Option.map_none,Option.getD_none,Option.getD_some];by_cases hx:N.runs[i].calls[0].arr+m.bm<0<;>simp[hx]
     |succ j=>
      have hj:j<N.runs[i].calls.length:=by omega
      rw[if_pos (by omega),mC j (by omega),if_pos (gU _ _ hj)];simp only[Int.toNat_natCast,List.getElem?_map,List.getElem?_eq_getElem hj,Option.map_some,U,pz,pA,asInt,if_true,UI,gU _ _ tp,List.getElem?_eq_getElem tp];refine tZ _ ?_;rw[wrap_small (by omega) (by omega)];unfold lr;rw[List.getElem?_eq_getElem tp];simp only[eS,List.getElem?_eq_getElem hj,Option.map_some,Option.getD_some]
   simp only[if_neg k1];by_cases k2:m.kind=2
   ·simp only[k2,if_true,l5 _ _ hi,U,TK,ot];rfl
   simp only[if_neg k2];by_cases k3:m.kind=3
   ·simp only[k3,if_true];have GA:=not_or.1 (fun hh=>hn ⟨.inr k3,hh⟩:¬(m.call<0∨m.call≥(N.runs[i].calls.length:Int)));obtain⟨c,BB⟩:∃c:Nat,m.call=(c:Int):=⟨m.call.toNat,by omega⟩;have tp:c<N.runs[i].calls.length:=by omega
    simp only[BB,Int.toNat_natCast,gU c _ tp,if_true,List.getElem?_map,List.getElem?_eq_getElem tp,Option.map_some,U,Mb,←List.map_set,ZF,List.length_set,List.length_map,oV,List.getElem?_set_self hi,C6,List.getElem?_set_self tp,Mc,List.set_set,gR];simp only[AE,List.getElem?_eq_getElem tp];rfl
   simp only[if_neg k3];by_cases k4:m.kind=4
   ·simp only[k4,if_true];have eR:=oh m.calls N.stops.length 0 3155932800 hm.calls.1;simp only[res]at eR;have ZG:=vI m.calls (by omega);simp only[eR,U,bJ,List.length_cons,List.length_nil,Nat.reduceAdd,if_true,List.getD_cons_zero,List.getD_cons_succ,asInt,l0];by_cases he:(bj m.calls (N.stops.length:Int) 0 3155932800).2=0
    ·simp only[he,ZG,U,ab,if_true,ne_eq,not_true,if_false];rw[TM N h i,TJ,pV];unfold OI;rw[ot];rfl
    ·rw[if_neg he,if_neg he,if_pos he,if_neg he];rfl
   simp only[if_neg k4];rfl
theorem OJ(x:bp)(l:List PV):(if(8:Nat)=1 then PV.cK 5 l else .agg (cell x.pv 0::cell x.pv 1::cell x.pv 2::cell x.pv 3::cell x.pv 4::cell x.pv 5::cell x.pv 6::.cK 5 l::over [] []))=.agg [.int .i64 x.cX,.int .i64 x.day,.int .i64 x.inst,.str x.id,.int .i64 x.bd,.bool x.free,.bool x.q9,.cK 5 l]:=rfl
theorem C8(N:ag)(m:fL)(h:Io N)(hm:m.Ok)(hc:m.calls.length≤1000):bf [N.pv,m.pv]=some (sf N m):=by
 have hr:=h.runs;have Xz:1003<rounds:=by decide
 have AN:=CN N h.ok (by have:=h.paths;omega);have hmk:=Ig m hm;have f1:=CO (N.stops.map Stop.pv) (by simpa using h.stops);have f2:=Aw (N.af.map ax.pv) (by simpa using h.af);have f3:=Ev (N.runs.map bp.pv) (by simp;omega);have f4:=CP (N.ah.map aD.pv) (by simpa using h.ah);have f5:=uO (N.paths.map Path.pv) (by simpa using h.paths);simp only[bf,mN,nS,pC,pD,pE,pF,pG,pH,pI,pJ,pK,U,vN,AN];simp only[gb,bJ,List.length_cons,List.length_nil,Nat.reduceAdd,if_true,List.getD_cons_zero,List.getD_cons_succ,asInt,U,zo,zp,zq,zr,zs,zt,zu,zw,zx,zy,zz,rZ,sc,wk,bg,ab,asBool,Qm,hmk,l0,f1,f2,f3,f4,f5,List.length_map];unfold sf;by_cases hv:(dp N).2.2=0
 ·rw[if_pos hv,if_pos hv];by_cases he:eX m=0
  ·rw[if_pos he,if_pos he];refine br (TH N m) N.runs.length (fun k hk rec=>?_) (fun rec=>Qr N m h hm hv hc rec) (by omega) (by unfold TH;rw[HX];rfl);have fc:=CQ (N.runs[k].calls.map an.pv) (by simpa using h.calls _ (List.getElem_mem hk));unfold TH jr;dsimp only;rw[if_pos (by rw[decide_eq_true_eq];omega),if_pos (FT _ _ _ _ hk),Int.toNat_natCast,Oj _ _ _ _ hk];simp only[U,AV,fc,ab,if_true,FT _ _ _ _ hk,OJ,al (show k<9223372036854775807 by omega)];have:=Ol bp.mS bp.pv N.runs k hk;rw[←this];rfl
  ·rw[if_neg he,if_neg he];rfl
 ·rw[if_neg hv,if_neg hv];rfl
structure nL(q:PV)(m:fL):Prop where
 hA:asAgg 13 q=some ()
 h0:cell q 0=.int .i64 m.source
 h1:cell q 1=.int .i64 m.seq
 h2:cell q 2=.int .i64 m.eW
 h3:cell q 3=.int .i64 m.dt
 h4:cell q 4=.int .i64 m.kind
 h5:cell q 5=.str m.cX
 h6:cell q 6=.int .i64 m.day
 h7:cell q 7=.int .i64 m.inst
 h8:cell q 8=.int .i64 m.call
 h9:cell q 9=.int .i64 m.bm
 Gy:cell q 10=.int .i64 m.bd
 ZI:cell q 11=.bool m.free
 ZJ:ab 5 (cell q 12)=some (m.calls.map an.pv)
def OK(q:PV):PV:=.agg [cell q 0,cell q 1,cell q 2,cell q 3,cell q 4,cell q 5,cell q 6,cell q 7,cell q 8,cell q 9,cell q 10,cell q 11,cell q 12]
theorem nL.agg{q:PV}{m:fL}(h:nL q m):nL (OK q) m:=⟨rfl,h.h0,h.h1,h.h2,h.h3,h.h4,h.h5,h.h6,h.h7,h.h8,h.h9,h.Gy,h.ZI,h.ZJ⟩
structure wm(p:PV)(N:ag):Prop where
 hA:asAgg 9 p=some ()
 h0:ab 4 (cell p 0)=some (N.stops.map Stop.pv)
 h1:ab 3 (cell p 1)=some (N.af.map ax.pv)
 h2:ab 8 (cell p 2)=some (N.runs.map bp.pv)
 h3:ab 5 (cell p 3)=some (N.ah.map aD.pv)
 h4:ab 4 (cell p 4)=some (N.paths.map Path.pv)
 h5:ab 6 (cell p 5)=some (N.aw.map aS.pv)
 h6:asInt .i64 (cell p 6)=some N.aQ
 h7:asInt .i64 (cell p 7)=some N.within
 h8:asInt .i64 (cell p 8)=some N.cap
theorem XA(N:ag):wm N.pv N:=⟨rfl,rfl,rfl,rfl,rfl,rfl,rfl,rfl,rfl,rfl⟩
theorem ZK(x:fL):ab 5 (cell x.pv 12)=some (x.calls.map an.pv):=rfl
theorem It{q:PV}{m:fL}(hq:nL q m):cJ [q]=cJ [m.pv]:=by simp only[cJ,mO,hq.hA,hq.h0,hq.h1,hq.h2,hq.h3,hq.h4,hq.h5,hq.h6,hq.h7,hq.h8,hq.h9,hq.Gy,hq.ZI,hq.ZJ,zo,zp,zq,zr,zs,zt,zu,zw,zx,zy,zz,rZ,sc,ZK]
theorem AF{p q:PV}{N:ag}{m:fL}(hp:wm p N)(hq:nL q m):bI [p,q]=bI [N.pv,m.pv]:=by simp only[bI,lx,hp.hA,hp.h0,hp.h1,hp.h2,hp.h3,hp.h4,hp.h5,hp.h6,hp.h7,hp.h8,hq.hA,hq.h0,hq.h1,hq.h2,hq.h3,hq.h4,hq.h5,hq.h6,hq.h7,hq.h8,hq.h9,hq.Gy,hq.ZI,hq.ZJ,nS,pC,pD,pE,pF,pG,pH,pI,pJ,pK,zo,zp,zq,zr,zs,zt,zu,zw,zx,zy,zz,rZ,sc,ZK]
theorem Md{p q:PV}{N:ag}{m:fL}(hp:wm p N)(hq:nL q m):bf [p,q]=bf [N.pv,m.pv]:=by simp only[bf,mN,hp.hA,hp.h0,hp.h1,hp.h2,hp.h3,hp.h4,hp.h5,hp.h6,hp.h7,hp.h8,hq.hA,hq.h0,hq.h1,hq.h2,hq.h3,hq.h4,hq.h5,hq.h6,hq.h7,hq.h8,hq.h9,hq.Gy,hq.ZI,hq.ZJ,nS,pC,pD,pE,pF,pG,pH,pI,pJ,pK,zo,zp,zq,zr,zs,zt,zu,zw,zx,zy,zz,rZ,sc,ZK,U]
end Go.Ab.Tt
