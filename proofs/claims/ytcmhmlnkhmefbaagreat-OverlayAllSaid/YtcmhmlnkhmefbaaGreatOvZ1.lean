import Derived.Test.YtcmhmlnkhmefbaaGreatNkP2
namespace Go.Ab.Tt
set_option maxRecDepth 100000
set_option linter.unusedVariables false
set_option linter.unusedSimpArgs false
structure eZ where
 source:Int
 seq:Int
 eY:Int
 du:Int
 kind:Int
 cX:Bytes
 day:Int
 inst:Int
 call:Int
 bm:Int
 bd:Int
 free:Bool
 calls:List ao
 deriving DecidableEq
def eZ.pv(x:eZ):PV:=.agg [.int .i64 x.source,.int .i64 x.seq,.int .i64 x.eY,.int .i64 x.du,.int .i64 x.kind,.str x.cX,.int .i64 x.day,.int .i64 x.inst,.int .i64 x.call,.int .i64 x.bm,.int .i64 x.bd,.bool x.free,.rs 5 (x.calls.map ao.pv)]
structure eZ.jo(M:Nat)(x:eZ):Prop where
 source:j9 x.source
 seq:j9 x.seq
 eY:j9 x.eY
 du:j9 x.du
 kind:j9 x.kind
 cX:x.cX.length≤M
 day:j9 x.day
 inst:j9 x.inst
 call:j9 x.call
 bm:j9 x.bm
 bd:j9 x.bd
 calls:x.calls.length≤M∧∀y∈x.calls,y.jo M
abbrev eZ.Ok(x:eZ):Prop:=x.jo maxLen
def eZ.key(x:eZ):Bytes×Int×Int:=(x.cX,x.day,x.inst)
def yC(l:List bq)(m:eZ):Option Nat:=(List.range l.length).find? fun k=>decide ((l.map bF)[k]?=some m.key)
theorem uX{l:List bq}{m:eZ}{k:Nat}(h:yC l m=some k):∃hk:k<l.length,bF l[k]=m.key∧∀j,(hj:j<k)→bF (l[j]'(by omega))≠m.key:=by
 unfold yC at h;rw[List.find?_range_eq_some]at h;obtain⟨h1,h2,h3⟩:=h;have hk:k<l.length:=by simpa using h2
 refine⟨hk,?_,fun j hj hc=>?_⟩
 ·simpa[List.getElem?_eq_getElem hk]using h1
 ·have:=h3 j hj;simp[List.getElem?_eq_getElem (show j<l.length by omega),hc]at this
theorem TP{l:List bq}{m:eZ}(h:yC l m=none):m.key∉l.map bF:=by
 unfold yC at h;rw[List.find?_eq_none]at h;intro hm;obtain⟨k,hk⟩:=List.mem_iff_getElem?.1 hm;have jK:k<l.length:=by have:=(List.getElem?_eq_some_iff.1 hk).1;simpa using this
 exact h k (by simpa using jK) (by simpa using hk)
def gC:Int:=3155932800
def ot(l:List ao):Bool:=(List.range l.length).all fun k=>(l[k]?).elim true fun c=> !(decide (c.arr<((eT l k).map ao.dep).getD 0)||decide (c.dep<c.arr)||decide (c.dep>gC))
def fa(c:ao):Int:=if c.dep-c.arr<30 then c.dep-c.arr else 30
def late(c:ao)(Mi:Int):ao:={c with arr:=Mi,dep:=if Mi+fa c>c.dep then Mi+fa c else c.dep}
def fb:List ao→Int→Option (List ao)
 |[],_=>some []
 |c::cs,a=>if(late c a).dep>gC then none else
  match cs with
  |[]=>some [late c a]
  |d::ds=>(fb (d::ds) (d.arr+(late c a).dep-c.dep)).map fun r=>late c a::r
def lr(l:List ao)(n:Nat)(bm:Int):Int:=
 let before:=((eT l n).map ao.dep).getD 0
 let x:=((l[n]?).map ao.arr).getD 0+bm
 if x<before then before else x
def prop(l:List ao)(n:Int)(bm:Int):Option (List ao)×Int:=
 if n<0∨n≥(l.length:Int)then(none,1)else if bm< -43200∨bm>43200 then(none,2)else if ot l=false then(none,10)
 else match fb (l.drop n.toNat) (lr l n.toNat bm)with
 |some r=>(some (l.take n.toNat++r),0)
 |none=>(none,10)
end Go.Ab.Tt
namespace Go.Ab.Tt
set_option maxRecDepth 100000
set_option linter.unusedVariables false
set_option linter.unusedSimpArgs false
theorem nr(N:ag):(dg N).2.2=0↔(gQ N.stops).2=0∧(fA N.af).2=0∧(gg N.runs N.stops.length N.af.length).2=0∧(hU N.runs N.ah).2=0∧(cU N.paths N.stops.length).2=0∧(dG N.au N.aR N.within N.cap).2=0:=by
 unfold dg;by_cases h1:(gQ N.stops).2=0
 ·rw[if_pos h1];by_cases h2:(fA N.af).2=0
  ·rw[if_pos h2];by_cases h3:(gg N.runs N.stops.length N.af.length).2=0
   ·rw[if_pos h3];by_cases h4:(hU N.runs N.ah).2=0
    ·rw[if_pos h4];by_cases h5:(cU N.paths N.stops.length).2=0
     ·rw[if_pos h5];by_cases h6:(dG N.au N.aR N.within N.cap).2=0
      ·rw[if_pos h6];simp[h1,h2,h3,h4,h5,h6]
      ·rw[if_neg h6];simp[h6]
     ·rw[if_neg h5];simp[h5]
    ·rw[if_neg h4];simp[h4]
   ·rw[if_neg h3];simp[h3]
  ·rw[if_neg h2];simp[h2]
 ·rw[if_neg h1];simp[h1]
def ye(x:bq)(stops af:Int):Int:=
 if dS x.id=false then 12 else if(decide (x.cX< -1)||decide (x.inst<0))=true then 2
 else if(decide (x.day<0)||decide (x.day>36524))=true then 11 else if(decide (x.bd<0)||decide (x.bd≥af))=true then 9
 else(bj x.calls stops 0 3155932800).2
theorem Av(l:List bq)(s r:Int)(k:Nat)(hk:k<l.length):jb l s r k=0↔ye l[k] s r=0∧bF l[k]∉(l.map bF).take k:=by
 unfold jb ye;rw[List.getElem?_eq_getElem hk];simp only;by_cases h1:dS l[k].id=false
 ·rw[if_pos h1,if_pos h1];simp
 ·rw[if_neg h1,if_neg h1];by_cases h2:(decide (l[k].cX< -1)||decide (l[k].inst<0))=true
  ·rw[if_pos h2,if_pos h2];simp
  ·rw[if_neg h2,if_neg h2];by_cases h3:(decide (l[k].day<0)||decide (l[k].day>36524))=true
   ·rw[if_pos h3,if_pos h3];simp
   ·rw[if_neg h3,if_neg h3];by_cases h4:(decide (l[k].bd<0)||decide (l[k].bd≥r))=true
    ·rw[if_pos h4,if_pos h4];simp
    ·rw[if_neg h4,if_neg h4];by_cases h5:(bj l[k].calls s 0 3155932800).2=0
     ·rw[if_pos h5];by_cases h6:bF l[k]∈(l.map bF).take k
      ·simp[h6]
      ·simp[h6,h5]
     ·rw[if_neg h5];simp[h5]
theorem ou(l:List bq)(s r:Int):(gg l s r).2=0↔l.length≤1024∧∀k,(hk:k<l.length)→ye l[k] s r=0∧bF l[k]∉(l.map bF).take k:=by
 unfold gg;by_cases h:l.length>1024
 ·rw[if_pos h];constructor
  ·intro hc;cases hc
  ·rintro⟨h1,_⟩;omega
 ·rw[if_neg h,mG];constructor
  ·intro h0;exact⟨by omega,fun k hk=>(Av l s r k hk).1 (h0 k hk)⟩
  ·rintro⟨_,h0⟩ k hk;exact(Av l s r k hk).2 (h0 k hk)
theorem TQ{l:List bq}{s r:Int}{i:Nat}{x:bq}(hi:i<l.length)(hk:bF x=bF l[i])(hx:ye x s r=0)(h:(gg l s r).2=0):(gg (l.set i x) s r).2=0:=by
 rw[ou]at h⊢;have hm:(l.set i x).map bF=l.map bF:=by rw[List.map_set,hk,←List.getElem_map bF (h:=by simpa using hi),List.set_getElem_self]
 refine⟨by rw[List.length_set];exact h.1,fun k iM=>?_⟩;have ZT:k<l.length:=by simpa using iM
 rw[hm];obtain⟨h1,h2⟩:=h.2 k ZT;by_cases As:i=k
 ·subst As;rw[List.getElem_set_self];exact⟨hx,by rw[hk];exact h2⟩
 ·rw[List.getElem_set_ne As];exact⟨h1,h2⟩
theorem TR{l:List bq}{s r:Int}{x:bq}(hk:bF x∉l.map bF)(hx:ye x s r=0)(hl:l.length<1024)(h:(gg l s r).2=0):(gg (l++[x]) s r).2=0:=by
 rw[ou]at h⊢;refine⟨by simp;omega,fun k iM=>?_⟩;simp only[List.length_append,List.length_cons,List.length_nil]at iM;rw[List.map_append];by_cases bu:k<l.length
 ·rw[List.getElem_append_left bu,List.take_append_of_le_length (by simp;omega)];exact h.2 k bu
 ·have:k=l.length:=by omega
  subst this;rw[List.getElem_append_right (Nat.le_refl _)];simp only[Nat.sub_self,List.getElem_cons_zero];refine⟨hx,?_⟩;rw[List.take_append_of_le_length (by simp),List.take_of_length_le (by simp)];exact hk
def EV(runs:List bq)(p:List aC)(x:aC):Int:=
 if uI x runs.length=true then 9 else if uJ x (aB runs x.a).length (aB runs x.b).length=true then 9
 else if ff (aB runs x.a) x.ac≠ff (aB runs x.b) x.bc then 13 else if pR p x (aB runs x.a).length=true then 19
 else if cn x∈p.map cn then 6 else 0
theorem EW(runs:List bq)(l:List aC)(k:Nat)(hk:k<l.length):cC runs l k=EV runs (l.take k) l[k]:=by unfold cC EV;rw[List.getElem?_eq_getElem hk,List.map_take]
def te(runs:List bq)(l:List aC):Prop:=∀k,(hk:k<l.length)→EV runs (l.take k) l[k]=0
theorem rq(runs:List bq)(l:List aC):(hU runs l).2=0↔l.length≤1024∧te runs l:=by
 unfold hU te;by_cases h:l.length>1024
 ·rw[if_pos h];constructor
  ·intro hc;cases hc
  ·rintro⟨h1,_⟩;omega
 ·rw[if_neg h,mG];constructor
  ·intro h0;exact⟨by omega,fun k hk=>by rw[←EW];exact h0 k hk⟩
  ·rintro⟨_,h0⟩ k hk;rw[EW runs l k hk];exact h0 k hk
theorem QD(runs:List bq):te runs []:=fun k hk=>by simp at hk
theorem w7(runs:List bq)(p:List aC)(x:aC):te runs (p++[x])↔te runs p∧EV runs p x=0:=by
 constructor
 ·intro h;refine⟨fun k hk=>?_,?_⟩
  ·have:=h k (by simp;omega);rw[List.getElem_append_left hk,List.take_append_of_le_length (by omega)]at this;exact this
  ·have:=h p.length (by simp);rw[List.getElem_append_right (Nat.le_refl _),List.take_append_of_le_length (Nat.le_refl _),List.take_length]at this;simpa using this
 ·rintro⟨h1,h2⟩ k hk;simp only[List.length_append,List.length_cons,List.length_nil]at hk;by_cases bu:k<p.length
  ·rw[List.getElem_append_left bu,List.take_append_of_le_length (by omega)];exact h1 k bu
  ·have:k=p.length:=by omega
   subst this;rw[List.getElem_append_right (Nat.le_refl _),List.take_append_of_le_length (Nat.le_refl _),List.take_length];simpa using h2
theorem sT(runs:List bq)(p:List aC)(x:aC):EV runs p x=0↔uI x runs.length=false∧uJ x (aB runs x.a).length (aB runs x.b).length=false∧ff (aB runs x.a) x.ac=ff (aB runs x.b) x.bc∧pR p x (aB runs x.a).length=false∧cn x∉p.map cn:=by
 unfold EV;cases uI x runs.length with
 |true=>simp
 |false=>
  cases uJ x (aB runs x.a).length (aB runs x.b).length with
  |true=>simp
  |false=>
   by_cases h3:ff (aB runs x.a) x.ac=ff (aB runs x.b) x.bc
   ·cases pR p x (aB runs x.a).length with
    |true=>simp[h3]
    |false=>
     by_cases h5:cn x∈p.map cn
     ·simp[h3,h5]
     ·simp[h3,h5]
   ·simp[h3]
theorem C0{x:aC}{R:Int}(h:uI x R=false):(0≤x.a∧x.a<R)∧(0≤x.b∧x.b<R)∧x.a≠x.b:=by unfold uI at h;simp only[Bool.or_eq_false_iff,Bool.not_eq_false',Bool.and_eq_true,decide_eq_true_eq,decide_eq_false_iff_not]at h;exact⟨h.1.1,h.1.2,h.2⟩
variable{runs Aw:List bq}
theorem pX{l:List aC}(h:te runs l)(hR:runs.length≤Aw.length)(hc:∀x∈l,∀v,v=x.a∨v=x.b→(aB Aw v).length=(aB runs v).length∧∀c,ff (aB Aw v) c=ff (aB runs v) c):te Aw l:=by intro k hk;have h0:=h k hk;rw[sT]at h0⊢;obtain⟨h1,h2,h3,h4,h5⟩:=h0;obtain⟨ea,sa⟩:=hc _ (List.getElem_mem hk) _ (Or.inl rfl);obtain⟨eb,sb⟩:=hc _ (List.getElem_mem hk) _ (Or.inr rfl);rw[ea,eb,sa,sb];refine⟨?_,h2,h3,h4,h5⟩;obtain⟨g1,g2,g3⟩:=C0 h1;unfold uI;simp only[Bool.or_eq_false_iff,Bool.not_eq_false',Bool.and_eq_true,decide_eq_true_eq,decide_eq_false_iff_not];exact⟨⟨⟨g1.1,by omega⟩,⟨g2.1,by omega⟩⟩,g3⟩
theorem Ax{p:List aC}{x:aC}{A:Int}(h:pR p x A=false):x.stay=false∨(x.ac+1=A∧x.bc=0∧nx p x.a=none∧x.b∉jP p∧lK p x.b x.a (p.length+1)=false):=by
 unfold pR at h;cases hs:x.stay with
 |false=>exact Or.inl rfl
 |true=>
  rw[hs,Bool.true_and]at h;simp only[Bool.or_eq_false_iff,Bool.not_eq_false',decide_eq_true_eq,decide_eq_false_iff_not]at h;obtain⟨⟨⟨⟨h1,h2⟩,h3⟩,h4⟩,h5⟩:=h;refine Or.inr ⟨h1,h2,?_,h4,h5⟩;cases hn:nx p x.a with
  |none=>rfl
  |some w=>rw[hn]at h3;cases h3
theorem acO(l:List aC)(h:te runs l):∀x∈l,x.stay=true→nx l x.a=some x.b:=by
 induction l using uG with
 |h0=>intro x hx;cases hx
 |h1 p y ih=>
  rw[w7]at h;obtain⟨hp,hy⟩:=h;rw[sT]at hy;intro x hx hs;rw[qB];rcases List.mem_append.1 hx with hx|hx
  ·have h1:=ih hp x hx hs;by_cases hc:(y.stay&&decide (y.a=x.a))=true
   ·simp only[Bool.and_eq_true,decide_eq_true_eq]at hc;rcases Ax hy.2.2.2.1 with h2|h2
    ·rw[h2]at hc;cases hc.1
    ·rw[hc.2]at h2;rw[h1]at h2;cases h2.2.2.1
   ·rw[if_neg hc];exact h1
  ·rw[List.mem_singleton]at hx;subst hx;rw[if_pos (by simp[hs])]
theorem Gj(f:aC→Bool)(l:List aC)(h:te runs l)(hR:runs.length≤Aw.length)(hc:∀x∈l,f x=true→∀v,v=x.a∨v=x.b→(aB Aw v).length=(aB runs v).length∧∀c,ff (aB Aw v) c=ff (aB runs v) c):te Aw (l.filter f):=by
 refine pX (runs:=runs) ?_ hR (fun x hx=>hc x (List.mem_filter.1 hx).1 (List.mem_filter.1 hx).2);clear hc hR;induction l using uG with
 |h0=>exact QD runs
 |h1 p x ih=>
  rw[w7]at h;obtain⟨hp,hx⟩:=h;rw[List.filter_append];by_cases hf:f x=true
  ·rw[List.filter_cons_of_pos hf,List.filter_nil,w7];refine⟨ih hp,?_⟩;rw[sT]at hx⊢;obtain⟨h1,h2,h3,h4,h5⟩:=hx;have PL:∀y∈p.filter f,y∈p:=fun y hy=>(List.mem_filter.1 hy).1;refine⟨h1,h2,h3,?_,fun hm=>h5 ?_⟩
   ·rcases Ax h4 with hs|⟨g1,g2,g3,g4,g5⟩
    ·unfold pR;rw[hs];rfl
    ·have hnx:∀v w,nx (p.filter f) v=some w→nx p v=some w:=fun v w OB=>by obtain⟨y,hy,hys,rfl,rfl⟩:=LW OB;exact acO p hp y (PL y hy) hys
     have hit:∀t v w,it (nx (p.filter f)) t v=some w→it (nx p) t v=some w:=by
      intro t;induction t with
      |zero=>intro v w h;exact h
      |succ t iht=>
       intro v w OB;have Wv:(nx (p.filter f) v).bind (it (nx (p.filter f)) t)=some w:=OB;cases hn:nx (p.filter f) v with
       |none=>rw[hn]at Wv;cases Wv
       |some u=>rw[hn]at Wv;show(nx p v).bind (it (nx p) t)=some w;rw[hnx v u hn];exact iht u w Wv
     have k1:(nx (p.filter f) x.a).isSome=false:=by
      cases hn:nx (p.filter f) x.a with
      |none=>rfl
      |some w=>rw[hnx _ _ hn]at g3;cases g3
     have k2:decide (x.b∈jP (p.filter f))=false:=by rw[decide_eq_false_iff_not];intro hm;apply g4;unfold jP at hm⊢;obtain⟨y,hy,hyb⟩:=List.mem_map.1 hm;obtain⟨hy1,hy2⟩:=List.mem_filter.1 hy;exact List.mem_map.2 ⟨y,List.mem_filter.2 ⟨PL y hy1,hy2⟩,hyb⟩
     have k3:lK (p.filter f) x.b x.a ((p.filter f).length+1)=false:=by unfold lK at g5⊢;rw[List.any_eq_false]at g5⊢;intro t ht hc;have hle:=List.length_filter_le f p;refine g5 t (by simp at ht⊢;omega) ?_;rw[decide_eq_true_eq]at hc⊢;exact hit _ _ _ hc
     unfold pR;rw[k1,k2,k3,g1,g2];simp
   ·obtain⟨y,hy,hk⟩:=List.mem_map.1 hm;exact List.mem_map.2 ⟨y,PL y hy,hk⟩
  ·rw[List.filter_cons_of_neg hf,List.filter_nil,List.append_nil];exact ih hp
end Go.Ab.Tt
namespace Go.Ab.Tt
set_option maxRecDepth 100000
set_option linter.unusedVariables false
set_option linter.unusedSimpArgs false
def GQ(n a b:Int):Option ao→List ao→Prop
 |_,[]=>True
 |p,c::cs=>kT c p n a b=0∧GQ n a b (some c) cs
theorem OV(n a b:Int)(l:List ao):∀p,GQ n a b p l↔∀k,(hk:k<l.length)→kT l[k] (if k=0 then p else l[k-1]?) n a b=0:=by
 induction l with
 |nil=>intro p;exact⟨fun _ k hk=>by simp at hk,fun _=>trivial⟩
 |cons c cs ih=>
  intro p;show(kT c p n a b=0∧GQ n a b (some c) cs)↔_;rw[ih];constructor
  ·rintro⟨h1,h2⟩ k hk;cases k with
   |zero=>exact h1
   |succ k=>
    have:=h2 k (by simpa using hk);cases k with
    |zero=>simpa using this
    |succ k=>simpa using this
  ·intro h;refine⟨h 0 (Nat.zero_lt_succ _),fun k hk=>?_⟩;have:=h (k+1) (by simpa using hk);cases k with
   |zero=>simpa using this
   |succ k=>simpa using this
theorem uY(l:List ao)(n a b:Int):(bj l n a b).2=0↔2≤l.length∧l.length≤32∧GQ n a b none l:=by
 have he:(∀k,k<l.length→lG l n a b k=0)↔GQ n a b none l:=by
  rw[OV];constructor
  ·intro h k hk;have:=h k hk;unfold lG at this;rw[List.getElem?_eq_getElem hk]at this;cases k with
   |zero=>exact this
   |succ k=>exact this
  ·intro h k hk;have:=h k hk;unfold lG;rw[List.getElem?_eq_getElem hk];cases k with
   |zero=>exact this
   |succ k=>exact this
 rw[←he];constructor
 ·intro h;exact⟨(uO h).1,(uO h).2,Ap h⟩
 ·rintro⟨h1,h2,h3⟩;unfold bj;rw[if_neg (by simp;omega)];exact(mG _ _).2 h3
theorem w8(n a b:Int)(l1 l2:List ao):∀p,GQ n a b p (l1++l2)↔GQ n a b p l1∧GQ n a b (if l1.length=0 then p else l1[l1.length-1]?) l2:=by
 induction l1 with
 |nil=>intro p;simp[GQ]
 |cons c cs ih=>
  intro p;show(kT c p n a b=0∧GQ n a b (some c) (cs++l2))↔(kT c p n a b=0∧GQ n a b (some c) cs)∧_;rw[ih,and_assoc];have:(if(c::cs).length=0 then p else(c::cs)[(c::cs).length-1]?)=if cs.length=0 then some c else cs[cs.length-1]?:=by
   cases cs with
   |nil=>rfl
   |cons d ds=>simp
  rw[this]
variable{p:Option ao}
theorem C1{c:ao}{n a b:Int}(h1:0≤c.stop)(h2:c.stop<n)(h3:∀q,p=some q→q.stop≠c.stop)(h4:a≤c.arr)(h5:c.arr≤c.dep)(h6:c.dep≤b)(h7:∀q,p=some q→q.dep≤c.arr):kT c p n a b=0:=by
 unfold kT;rw[if_neg (by simp;omega)];cases p with
 |none=>dsimp only;rw[if_neg (by simp),if_neg (by simp;omega)]
 |some q=>dsimp only;have:=h3 q rfl;have:=h7 q rfl;rw[if_neg (by simpa using h3 q rfl),if_neg (by simp;omega)]
theorem sU{c:ao}{n a b:Int}(h:kT c p n a b=0):0≤c.stop∧c.stop<n∧∀q,p=some q→q.stop≠c.stop:=by
 unfold kT at h;by_cases hA:(decide (c.stop<0)||decide (c.stop≥n))=true
 ·rw[if_pos hA]at h;cases h
 ·rw[if_neg hA]at h;simp only[Bool.or_eq_true,decide_eq_true_eq,not_or]at hA;refine⟨by omega,by omega,fun q hq hc=>?_⟩;subst hq;dsimp only at h;rw[if_pos (by simpa using hc)]at h;cases h
theorem TS(n:Int)(cs:List ao):∀(a:Int)(p:Option ao)(r:List ao),GQ n 0 gC p cs→fb cs a=some r→(∀q,p=some q→q.dep≤a)→0≤a→GQ n 0 gC p r∧r.map ao.stop=cs.map ao.stop:=by
 induction cs with
 |nil=>intro a p r _ hr _ _;simp only[fb,Option.some.injEq]at hr;subst hr;exact⟨trivial,rfl⟩
 |cons c cs ih=>
  intro a p r xf hr hp ha;obtain⟨hc,JC⟩:=xf;obtain⟨g1,g2,g3⟩:=sU hc;obtain⟨k1,k2,k3,k4⟩:=pT hc;have hd:0≤fa c:=by unfold fa;split<;>omega
  have afF:a≤(late c a).dep:=by show a≤if a+fa c>c.dep then a+fa c else c.dep;split<;>omega
  have hcd:c.dep≤(late c a).dep:=by show c.dep≤if a+fa c>c.dep then a+fa c else c.dep;split<;>omega
  unfold fb at hr;by_cases ov:(late c a).dep>gC
  ·rw[if_pos ov]at hr;cases hr
  ·rw[if_neg ov]at hr;have hE:kT (late c a) p n 0 gC=0:=C1 g1 g2 g3 ha afF (by omega) hp;cases cs with
   |nil=>simp only[Option.some.injEq]at hr;subst hr;exact⟨⟨hE,trivial⟩,rfl⟩
   |cons d ds=>
    simp only[Option.map_eq_some_iff]at hr;obtain⟨r',rz,rfl⟩:=hr;obtain⟨hdE,hds⟩:=JC;obtain⟨d1,d2,d3,d4⟩:=pT hdE;obtain⟨e1,e2,e3⟩:=sU hdE;have hdc:=d4 c rfl;have afG:GQ n 0 gC (some (late c a)) (d::ds)→GQ n 0 gC (some (late c a)) r'∧r'.map ao.stop=(d::ds).map ao.stop:=fun hh=>ih _ _ r' hh rz (fun q hq=>by cases hq;omega) (by omega);by_cases acP:(late c a).dep≤d.arr
    ·obtain⟨i1,i2⟩:=afG ⟨C1 e1 e2 (fun q hq=>by cases hq;exact e3 c rfl) d2 d1 d3 (fun q hq=>by cases hq;exact acP),hds⟩;exact⟨⟨hE,i1⟩,by simp only[List.map_cons,i2];rfl⟩
    ·obtain⟨i1,i2⟩:=ih (d.arr+(late c a).dep-c.dep) (some c) r' ⟨hdE,hds⟩ rz (fun q hq=>by cases hq;omega) (by omega);refine⟨⟨hE,?_⟩,by simp only[List.map_cons,i2];rfl⟩;cases r' with
     |nil=>trivial
     |cons x xs=>
      obtain⟨j1,j2⟩:=i1;obtain⟨f1,f2,f3⟩:=sU j1;obtain⟨t1,t2,t3,t4⟩:=pT j1;refine⟨C1 f1 f2 (fun q hq=>by cases hq;exact f3 c rfl) t2 t1 t3 (fun q hq=>?_),j2⟩;cases hq;have hx:x.arr=d.arr+(late c a).dep-c.dep:=by
       unfold fb at rz;by_cases oZ:(late d (d.arr+(late c a).dep-c.dep)).dep>gC
       ·rw[if_pos oZ]at rz;cases rz
       ·rw[if_neg oZ]at rz;cases ds with
        |nil=>simp only[Option.some.injEq,List.cons.injEq]at rz;rw[←rz.1];rfl
        |cons d2 ds2=>simp only[Option.map_eq_some_iff,List.cons.injEq]at rz;obtain⟨_,_,h1,_⟩:=rz;rw[←h1];rfl
      omega
theorem Ww{l r:List ao}{n:Int}{at_ bm:Int}(h:(bj l n 0 gC).2=0)(hp:prop l at_ bm=(some r,0)):(bj r n 0 gC).2=0∧r.map ao.stop=l.map ao.stop:=by
 rw[uY]at h;obtain⟨h1,h2,h3⟩:=h;unfold prop at hp;by_cases ha:at_<0∨at_≥(l.length:Int)
 ·rw[if_pos ha]at hp;cases hp
 ·rw[if_neg ha]at hp;by_cases hs:bm< -43200∨bm>43200
  ·rw[if_pos hs]at hp;cases hp
  ·rw[if_neg hs]at hp;by_cases ho:ot l=false
   ·rw[if_pos ho]at hp;cases hp
   ·rw[if_neg ho]at hp;cases hl:fb (l.drop at_.toNat) (lr l at_.toNat bm)with
    |none=>rw[hl]at hp;cases hp
    |some r'=>
     rw[hl]at hp;simp only[Prod.mk.injEq,Option.some.injEq,and_true]at hp;generalize hn:at_.toNat=m at hl hp;have hm:m<l.length:=by omega
     rw[←List.take_append_drop m l,w8]at h3;obtain⟨g1,g2⟩:=h3;have hlen:(l.take m).length=m:=by simp;omega
     have TT:(if(l.take m).length=0 then(none:Option ao)else(l.take m)[(l.take m).length-1]?)=eT l m:=by
      rw[hlen];cases m with
      |zero=>rfl
      |succ m=>rw[if_neg (by omega),List.getElem?_take_of_lt (by omega)];rfl
     rw[TT]at g2;have dK:∀q,eT l m=some q→0≤q.dep:=by
      intro q hq;have xf:GQ n 0 gC none l:=by rw[←List.take_append_drop m l,w8,TT];exact⟨g1,g2⟩
      cases m with
      |zero=>cases hq
      |succ m=>
       have Px:l[m]?=some q:=hq;have U5:m<l.length:=by omega
       rw[List.getElem?_eq_getElem U5]at Px;cases Px;have:=(OV n 0 gC l none).1 xf m U5;obtain⟨z1,z2,_,_⟩:=pT this;omega
     have xI:(∀q,eT l m=some q→q.dep≤lr l m bm)∧0≤lr l m bm:=by
      unfold lr;cases hq:eT l m with
      |none=>refine⟨(fun q hq=>by cases hq),?_⟩;simp only[Option.map_none,Option.getD_none];split<;>omega
      |some q=>
       have:=dK q hq;simp only[Option.map_some,Option.getD_some];refine⟨fun q' Px=>?_,?_⟩
       ·cases Px;split<;>omega
       ·split<;>omega
     obtain⟨i1,i2⟩:=TS n (l.drop m) _ _ r' g2 hl xI.1 xI.2;have VV:r'.length=l.length-m:=by have:=congrArg List.length i2;simpa using this
     rw[←hp];refine⟨?_,?_⟩
     ·rw[uY,w8,TT];refine⟨?_,?_,g1,i1⟩
      ·simp[VV];omega
      ·simp[VV];omega
     ·rw[List.map_append,i2,←List.map_append,List.take_append_drop]
def eM(m:eZ):Int:=
 if wi m.source 0 7=false then 36 else if m.seq<1 then 2
 else if(!wi m.eY 0 3155932800|| !wi m.du 0 3155932800||decide (m.eY≥m.du))=true then 10
 else if wi m.kind 1 6=false then 35 else if dS m.cX=false then 12 else if wi m.day 0 36524=false then 11 else if m.inst<0 then 2
 else
  let uC:=decide (m.kind=1)||decide (m.kind=3)
  let uS:=decide (m.kind=1)
  let uR:=decide (m.kind=5)
  let uL:=decide (m.kind=4)||decide (m.kind=5)
  if(uC&& !wi m.call 0 31||uS&& !wi m.bm (-43200) 43200||uR&& !wi m.bd 0 63)=true then 2
  else if uL=true∧(bj m.calls 64 0 3155932800).2≠0 then(bj m.calls 64 0 3155932800).2
  else if(!uC&& !decide (m.call=0)|| !uS&& !decide (m.bm=0)|| !uR&& !decide (m.bd=0)|| !uR&&m.free|| !uL&&decide (m.calls.length>0))=true then 1 else 0
theorem TU{m:eZ}(h:eM m=0):dS m.cX=true∧(0≤m.day∧m.day≤36524)∧0≤m.inst∧1≤m.kind∧m.kind≤6:=by
 unfold eM at h;by_cases h1:wi m.source 0 7=false
 ·rw[if_pos h1]at h;cases h
 rw[if_neg h1]at h;by_cases h2:m.seq<1
 ·rw[if_pos h2]at h;cases h
 rw[if_neg h2]at h;by_cases h3:(!wi m.eY 0 3155932800|| !wi m.du 0 3155932800||decide (m.eY≥m.du))=true
 ·rw[if_pos h3]at h;cases h
 rw[if_neg h3]at h;by_cases h4:wi m.kind 1 6=false
 ·rw[if_pos h4]at h;cases h
 rw[if_neg h4]at h;by_cases h5:dS m.cX=false
 ·rw[if_pos h5]at h;cases h
 rw[if_neg h5]at h;by_cases h6:wi m.day 0 36524=false
 ·rw[if_pos h6]at h;cases h
 rw[if_neg h6]at h;by_cases h7:m.inst<0
 ·rw[if_pos h7]at h;cases h
 simp only[wi,Bool.and_eq_false_iff,decide_eq_false_iff_not,not_or]at h4 h6;refine⟨by simpa using h5,⟨by omega,by omega⟩,by omega,by omega,by omega⟩
def C2(m:eZ):bq:=⟨-1,m.day,m.inst,m.cX,m.bd,m.free,false,m.calls⟩
def Ay(l:List ao)(c:Nat):List ao:=match l[c]? with|some k=>l.set c {k with yf:=false,sV:=false}|none=>l
def Bi(N:ag)(m:eZ):ag×Int:=
 if m.kind=5 then
  if(yC N.runs m).isSome=true then(N,6)else if m.bd<0∨m.bd≥(N.af.length:Int)then(N,14)
  else if(bj m.calls N.stops.length 0 3155932800).2≠0 then(N,(bj m.calls N.stops.length 0 3155932800).2)
  else if N.runs.length≥1024 then(N,5)else({N with runs:=N.runs++[C2 m]},0)
 else match yC N.runs m with
 |none=>(N,16)
 |some i=>match N.runs[i]? with
  |none=>(N,16)
  |some r=>
   if(m.kind=1∨m.kind=3)∧(m.call<0∨m.call≥(r.calls.length:Int))then(N,9)
   else if m.kind=1 then match prop r.calls m.call m.bm with
    |(some l,_)=>({N with runs:=N.runs.set i {r with calls:=l}},0)
    |(none,e)=>(N,e)
   else if m.kind=2 then({N with runs:=N.runs.set i {r with rj:=true}},0)
   else if m.kind=3 then({N with runs:=N.runs.set i {r with calls:=Ay r.calls m.call.toNat}},0)
   else if m.kind=4 then
    if(bj m.calls N.stops.length 0 3155932800).2≠0 then(N,(bj m.calls N.stops.length 0 3155932800).2)
    else({N with runs:=N.runs.set i {r with calls:=m.calls},ah:=N.ah.filter fun l=> !(decide (l.a=(i:Int))||decide (l.b=(i:Int)))},0)
   else(N,0)
end Go.Ab.Tt
namespace Go.Ab.Tt
set_option maxRecDepth 100000
set_option linter.unusedVariables false
set_option linter.unusedSimpArgs false
def core(c:ao):Int×Int×Int:=(c.stop,c.arr,c.dep)
theorem Mj{c c':ao}{p p':Option ao}{n a b:Int}(h:core c=core c')(hp:p.map core=p'.map core):kT c p n a b=kT c' p' n a b:=by
 simp only[core,Prod.mk.injEq]at h;obtain⟨h1,h2,h3⟩:=h;unfold kT;rw[h1,h2,h3];cases p with
 |none=>cases p' with
  |none=>rfl
  |some q=>cases hp
 |some q=>cases p' with
  |none=>cases hp
  |some q'=>simp only[Option.map_some,Option.some.injEq,core,Prod.mk.injEq]at hp;obtain⟨g1,g2,g3⟩:=hp;simp only[g1,g3]
theorem It{n a b:Int}:∀{l l':List ao}{p p':Option ao},l.map core=l'.map core→p.map core=p'.map core→GQ n a b p l→GQ n a b p' l'
 |[],[],_,_,_,_,_=>trivial
 |[],_::_,_,_,h,_,_=>by cases h
 |_::_,[],_,_,h,_,_=>by cases h
 |c::cs,c'::Ec,p,p',h,hp,ho=>by simp only[List.map_cons,List.cons.injEq]at h;exact⟨by rw[←Mj h.1 hp];exact ho.1,It (p:=some c) (p':=some c') h.2 (by simp[h.1]) ho.2⟩
variable{l':List ao}
theorem Gk{n a b:Int}{l:List ao}(h:l.map core=l'.map core)(hr:(bj l n a b).2=0):(bj l' n a b).2=0:=by
 rw[uY]at hr⊢;have hl:l.length=l'.length:=by simpa using congrArg List.length h
 exact⟨by omega,by omega,It h rfl hr.2.2⟩
theorem C3(l:List ao)(c:Nat):(Ay l c).map core=l.map core:=by
 unfold Ay;cases hc:l[c]? with
 |none=>rfl
 |some k=>
  simp only;rw[List.map_set];apply List.ext_getElem?;intro j;rw[List.getElem?_set];split
  ·rename_i e;subst e;have bu:=(List.getElem?_eq_some_iff.1 hc).1;rw[if_pos (by simpa using bu),List.getElem?_map,hc];rfl
  ·rfl
theorem QE{l:List ao}(h:l.map core=l'.map core):l.map ao.stop=l'.map ao.stop:=by
 have:∀l:List ao,l.map ao.stop=(l.map core).map Prod.fst:=fun l=>by rw[List.map_map];rfl
 rw[this,this,h]
theorem C4(cs:List ao)(c:Int):ff cs c=((cs.map ao.stop)[c.toNat]?).getD 0:=by unfold ff;rw[List.getElem?_map]
theorem Mk{cs Ec:List ao}(h:Ec.map ao.stop=cs.map ao.stop):Ec.length=cs.length∧∀c,ff Ec c=ff cs c:=by refine⟨by simpa using congrArg List.length h,fun c=>?_⟩;rw[C4,C4,h]
variable{runs:List bq}{x:bq}
theorem uZ{i:Nat}{r:bq}(hr:runs[i]?=some r)(h:x.calls.map ao.stop=r.calls.map ao.stop)(v:Int):(aB (runs.set i x) v).length=(aB runs v).length∧∀c,ff (aB (runs.set i x) v) c=ff (aB runs v) c:=by
 by_cases hv:v.toNat=i
 ·subst hv;have bu:=(List.getElem?_eq_some_iff.1 hr).1;have h1:aB (runs.set v.toNat x) v=x.calls:=by unfold aB;rw[List.getElem?_set_self bu];rfl
  have h2:aB runs v=r.calls:=by unfold aB;rw[hr];rfl
  rw[h1,h2];exact Mk h
 ·have h1:aB (runs.set i x) v=aB runs v:=by unfold aB;rw[List.getElem?_set_ne (fun h=>hv h.symm)]
  rw[h1];exact⟨rfl,fun _=>rfl⟩
theorem Ml{i:Nat}{v:Int}(hv:v.toNat≠i):aB (runs.set i x) v=aB runs v:=by unfold aB;rw[List.getElem?_set_ne (fun h=>hv h.symm)]
theorem Iu{v:Int}(hv:0≤v∧v<(runs.length:Int)):aB (runs++[x]) v=aB runs v:=by unfold aB;rw[List.getElem?_append_left (by omega)]
theorem EX{l:List aC}(h:te runs l){x:aC}(hx:x∈l):(0≤x.a∧x.a<(runs.length:Int))∧0≤x.b∧x.b<(runs.length:Int):=by obtain⟨k,hk,rfl⟩:=List.getElem_of_mem hx;have:=h k hk;rw[sT]at this;obtain⟨g1,g2,_⟩:=C0 this.1;exact⟨g1,g2⟩
theorem C5{s r:Int}(h:ye x s r=0):dS x.id=true∧(decide (x.cX< -1)||decide (x.inst<0))=false∧(decide (x.day<0)||decide (x.day>36524))=false∧(decide (x.bd<0)||decide (x.bd≥r))=false∧(bj x.calls s 0 3155932800).2=0:=by
 unfold ye at h;by_cases h1:dS x.id=false
 ·rw[if_pos h1]at h;cases h
 rw[if_neg h1]at h;by_cases h2:(decide (x.cX< -1)||decide (x.inst<0))=true
 ·rw[if_pos h2]at h;cases h
 rw[if_neg h2]at h;by_cases h3:(decide (x.day<0)||decide (x.day>36524))=true
 ·rw[if_pos h3]at h;cases h
 rw[if_neg h3]at h;by_cases h4:(decide (x.bd<0)||decide (x.bd≥r))=true
 ·rw[if_pos h4]at h;cases h
 rw[if_neg h4]at h;exact⟨by simpa using h1,by simpa using h2,by simpa using h3,by simpa using h4,h⟩
theorem Iv{s r:Int}(h1:dS x.id=true)(h2:(decide (x.cX< -1)||decide (x.inst<0))=false)(h3:(decide (x.day<0)||decide (x.day>36524))=false)(h4:(decide (x.bd<0)||decide (x.bd≥r))=false)(h5:(bj x.calls s 0 3155932800).2=0):ye x s r=0:=by unfold ye;rw[if_neg (by simp[h1]),if_neg (by simp[h2]),if_neg (by simp[h3]),if_neg (by simp[h4])];exact h5
theorem Bj{N:ag}(h:(dg N).2.2=0){i:Nat}{r:bq}(hr:N.runs[i]?=some r)(hk:bF x=bF r)(ht:x.cX=r.cX)(la:x.bd=r.bd)(hc:(bj x.calls N.stops.length 0 3155932800).2=0){l:List aC}(hl:l.length≤1024)(hg:te (N.runs.set i x) l):(dg {N with runs:=N.runs.set i x,ah:=l}).2.2=0:=by
 rw[nr]at h⊢;obtain⟨g1,g2,g3,g4,g5,g6⟩:=h;have hi:=(List.getElem?_eq_some_iff.1 hr).1;have hri:N.runs[i]=r:=(List.getElem?_eq_some_iff.1 hr).2;have hE:=((ou _ _ _).1 g3).2 i hi;rw[hri]at hE;obtain⟨e1,e2,e3,e4,e5⟩:=C5 hE.1;simp only[bF,Prod.mk.injEq]at hk;refine⟨g1,g2,?_,(rq _ _).2 ⟨hl,hg⟩,g5,g6⟩;refine TQ hi (by rw[hri];simp[bF,hk]) (Iv ?_ ?_ ?_ ?_ hc) g3
 ·rw[hk.1];exact e1
 ·rw[ht,hk.2.2];exact e2
 ·rw[hk.2.1];exact e3
 ·rw[la];exact e4
theorem QF(N:ag)(m:eZ)(h:(dg N).2.2=0)(hm:eM m=0)(he:(Bi N m).2=0):(dg (Bi N m).1).2.2=0:=by
 obtain⟨m1,m2,m3,m4,m5⟩:=TU hm;have hz:=(nr N).1 h;obtain⟨g1,g2,g3,g4,g5,g6⟩:=hz;obtain⟨l1,l2⟩:=(rq _ _).1 g4;have acQ:=(ou _ _ _).1 g3;unfold Bi at he⊢;by_cases k5:m.kind=5
 ·rw[if_pos k5]at he⊢;by_cases t1:(yC N.runs m).isSome=true
  ·rw[if_pos t1]at he;cases he
  rw[if_neg t1]at he⊢;by_cases t2:m.bd<0∨m.bd≥(N.af.length:Int)
  ·rw[if_pos t2]at he;cases he
  rw[if_neg t2]at he⊢;by_cases t3:(bj m.calls N.stops.length 0 3155932800).2≠0
  ·rw[if_pos t3]at he;exact absurd he t3
  rw[if_neg t3]at he⊢;by_cases t4:N.runs.length≥1024
  ·rw[if_pos t4]at he;cases he
  rw[if_neg t4]at he⊢;rw[nr];have SO:yC N.runs m=none:=by
   cases hx:yC N.runs m with
   |none=>rfl
   |some k=>rw[hx]at t1;exact absurd rfl t1
  refine⟨g1,g2,TR (TP SO) (Iv m1 (by show(decide ((-1:Int)< -1)||decide (m.inst<0))=false;simp;omega) (by show(decide (m.day<0)||decide (m.day>36524))=false;simp;omega) (by show(decide (m.bd<0)||decide (m.bd≥(N.af.length:Int)))=false;simp;omega) (Decidable.of_not_not t3)) (by omega) g3,(rq _ _).2 ⟨l1,pX l2 (by simp) fun x hx v hv=>?_⟩,g5,g6⟩;obtain⟨b1,b2⟩:=EX l2 hx;have:0≤v∧v<(N.runs.length:Int):=by
   rcases hv with rfl|rfl
   ·exact b1
   ·exact b2
  rw[Iu this];exact⟨rfl,fun _=>rfl⟩
 ·rw[if_neg k5]at he⊢;cases ht:yC N.runs m with
  |none=>rw[ht]at he;cases he
  |some i=>
   obtain⟨hi,qP,_⟩:=uX ht;have hr:N.runs[i]?=some N.runs[i]:=List.getElem?_eq_getElem hi;rw[ht]at he;simp only[hr]at he⊢;have Mm:=(C5 (acQ.2 i hi).1).2.2.2.2;have hlen:(N.runs.set i N.runs[i]).length=N.runs.length:=by simp
   by_cases t1:(m.kind=1∨m.kind=3)∧(m.call<0∨m.call≥(N.runs[i].calls.length:Int))
   ·rw[if_pos t1]at he;cases he
   rw[if_neg t1]at he⊢;by_cases k1:m.kind=1
   ·rw[if_pos k1]at he⊢;cases hp:prop N.runs[i].calls m.call m.bm with
    |mk o e=>
     rw[hp]at he;cases o with
     |none=>
      simp only at he;unfold prop at hp;subst he;split at hp
      ·cases hp
      ·split at hp
       ·cases hp
       ·split at hp
        ·cases hp
        ·split at hp
         ·cases hp
         ·cases hp
     |some l=>
      have Dr:e=0:=by
       unfold prop at hp;split at hp
       ·cases hp
       ·split at hp
        ·cases hp
        ·split at hp
         ·cases hp
         ·split at hp
          ·simp only[Prod.mk.injEq]at hp;exact hp.2.symm
          ·cases hp
      subst Dr;obtain⟨p1,p2⟩:=Ww Mm hp;simp only;exact Bj (x:={N.runs[i]with calls:=l}) (l:=N.ah) h hr rfl rfl rfl p1 l1 (pX l2 (by simp) fun x hx v _=>uZ hr p2 v)
   ·rw[if_neg k1]at he⊢;by_cases k2:m.kind=2
    ·rw[if_pos k2];exact Bj (x:={N.runs[i]with rj:=true}) (l:=N.ah) h hr rfl rfl rfl Mm l1 (pX l2 (by simp) fun x hx v _=>uZ (x:={N.runs[i]with rj:=true}) hr rfl v)
    ·rw[if_neg k2]at he⊢;by_cases k3:m.kind=3
     ·rw[if_pos k3];exact Bj (x:={N.runs[i]with calls:=Ay N.runs[i].calls m.call.toNat}) (l:=N.ah) h hr rfl rfl rfl (Gk (C3 _ _).symm Mm) l1 (pX l2 (by simp) fun x hx v _=>uZ hr (QE (C3 _ _)) v)
     ·rw[if_neg k3]at he⊢;by_cases k4:m.kind=4
      ·rw[if_pos k4]at he⊢;by_cases t3:(bj m.calls N.stops.length 0 3155932800).2≠0
       ·rw[if_pos t3]at he;exact absurd he t3
       rw[if_neg t3]at he⊢;refine Bj (x:={N.runs[i]with calls:=m.calls}) h hr rfl rfl rfl (Decidable.of_not_not t3) (Nat.le_trans (List.length_filter_le _ _) l1) (Gj _ _ l2 (by simp) fun x hx hf v hv=>?_);simp only[Bool.not_eq_true',Bool.or_eq_false_iff,decide_eq_false_iff_not]at hf;obtain⟨b1,b2⟩:=EX l2 hx;have cQ:v.toNat≠i:=by
        rcases hv with rfl|rfl
        ·intro hc;apply hf.1;omega
        ·intro hc;apply hf.2;omega
       rw[Ml cQ];exact⟨rfl,fun _=>rfl⟩
      ·rw[if_neg k4];exact h
end Go.Ab.Tt
namespace Go.Ab.Tt
set_option maxRecDepth 100000
set_option linter.unusedVariables false
set_option linter.unusedSimpArgs false
theorem AU(x:eZ):asAgg 13 x.pv=some ():=rfl
theorem AV(x:eZ):cell x.pv 0=.int .i64 x.source:=rfl
theorem AW(x:eZ):cell x.pv 1=.int .i64 x.seq:=rfl
theorem AX(x:eZ):cell x.pv 2=.int .i64 x.eY:=rfl
theorem AY(x:eZ):cell x.pv 3=.int .i64 x.du:=rfl
theorem AZ(x:eZ):cell x.pv 4=.int .i64 x.kind:=rfl
theorem A0(x:eZ):cell x.pv 5=.str x.cX:=rfl
theorem A1(x:eZ):cell x.pv 6=.int .i64 x.day:=rfl
theorem A2(x:eZ):cell x.pv 7=.int .i64 x.inst:=rfl
theorem A3(x:eZ):cell x.pv 8=.int .i64 x.call:=rfl
theorem A4(x:eZ):cell x.pv 9=.int .i64 x.bm:=rfl
theorem tf(x:eZ):cell x.pv 10=.int .i64 x.bd:=rfl
theorem tg(x:eZ):cell x.pv 11=.bool x.free:=rfl
theorem yg(x:eZ):cell x.pv 12=.rs 5 (x.calls.map ao.pv):=rfl
theorem TV(x:eZ):PV.agg [.int .i64 x.source,.int .i64 x.seq,.int .i64 x.eY,.int .i64 x.du,.int .i64 x.kind,.str x.cX,.int .i64 x.day,.int .i64 x.inst,.int .i64 x.call,.int .i64 x.bm,.int .i64 x.bd,.bool x.free,.rs 5 (x.calls.map ao.pv)]=x.pv:=rfl
theorem C6(n a b:Int):bJ [.int .i64 n,.int .i64 a,.int .i64 b]=some (.bool (wi n a b)):=by simp only[bJ,pz,asInt,if_true,U,cT];rfl
theorem Wx(n:Int):gM [.int .i64 n]=some (.bool (wi n 0 36524)):=by simp only[gM,wN,asInt,if_true,U,cT];rfl
def yj(k:Int):PV:=.agg [.bool (decide (k=1)||decide (k=3)),.bool (decide (k=1)),.bool (decide (k=5)),.bool (decide (k=5)),.bool (decide (k=4)||decide (k=5))]
theorem Wy(k:Int):fy [.int .i64 k]=some (yj k):=by
 simp only[fy,sM,asInt,if_true,U,dU];unfold yj;by_cases h1:k=1
 ·subst h1;rfl
 ·by_cases h3:k=3
  ·subst h3;rfl
  ·by_cases h4:k=4
   ·subst h4;rfl
   ·by_cases h5:k=5
    ·subst h5;rfl
    ·simp[h1,h3,h4,h5]
theorem acR(k:Int):asAgg 5 (yj k)=some ():=rfl
theorem afH(k:Int):cell (yj k) 0=.bool (decide (k=1)||decide (k=3)):=rfl
theorem afI(k:Int):cell (yj k) 1=.bool (decide (k=1)):=rfl
theorem afJ(k:Int):cell (yj k) 2=.bool (decide (k=5)):=rfl
theorem afK(k:Int):cell (yj k) 3=.bool (decide (k=5)):=rfl
theorem afL(k:Int):cell (yj k) 4=.bool (decide (k=4)||decide (k=5)):=rfl
theorem OW(n:Nat):decide ((n:Int)>0)=decide (n>0):=by rw[Bool.eq_iff_iff];simp only[decide_eq_true_eq];omega
theorem Iw(m:eZ)(h:m.Ok):cJ [m.pv]=some (.int .i64 (eM m)):=by
 have hid:=uF m.cX h.cX;have eS:=oG m.calls 64 0 3155932800 h.calls.1;simp only[res]at eS;simp only[cJ,mR,AU,AV,AW,AX,AY,AZ,A0,A1,A2,A3,A4,tf,tg,yg,U,C6,Wx,Wy,acR,asInt,bh,ab,if_true,asBool,hid,aW,TV];unfold eM;simp only[decide_eq_true_eq];cases wi m.source 0 7 with
 |false=>rfl
 |true=>
  by_cases h2:m.seq<1
  ·simp only[h2,if_true,Bool.not_true,Bool.false_eq_true,Bool.true_eq_false,if_false]
  simp only[h2,if_true,Bool.not_true,Bool.false_eq_true,Bool.true_eq_false,if_false];cases(!wi m.eY 0 3155932800|| !wi m.du 0 3155932800||decide (m.eY≥m.du))with
  |true=>rfl
  |false=>
   cases wi m.kind 1 6 with
   |false=>rfl
   |true=>
    cases dS m.cX with
    |false=>rfl
    |true=>
     cases wi m.day 0 36524 with
     |false=>rfl
     |true=>
      by_cases h7:m.inst<0
      ·simp only[h7,if_true,Bool.not_true,Bool.false_eq_true,Bool.true_eq_false,if_false]
      simp only[h7,if_true,Bool.not_true,Bool.false_eq_true,Bool.true_eq_false,if_false];have e0:PV.agg [cell (yj m.kind) 0,cell (yj m.kind) 1,cell (yj m.kind) 2,cell (yj m.kind) 3,cell (yj m.kind) 4]=yj m.kind:=rfl;rw[e0];simp only[dW,ly,AU,AV,AW,AX,AY,AZ,A0,A1,A2,A3,A4,tf,tg,yg,U,acR,afH,afI,afJ,afK,afL,C6,asBool,eS,bA,List.length_cons,List.length_nil,Nat.reduceAdd,if_true,List.getD_cons_zero,List.getD_cons_succ,asInt,bh,ab,aW,cT,jy,List.length_map,OW];generalize (decide (m.kind=1)||decide (m.kind=3))=uC;generalize decide (m.kind=1)=uS;generalize decide (m.kind=5)=uR;generalize (decide (m.kind=4)||uR)=uL;generalize (bj m.calls 64 0 3155932800).2=e;cases(uC&& !wi m.call 0 31||uS&& !wi m.bm (-43200) 43200||uR&& !wi m.bd 0 63)with
      |true=>rfl
      |false=>
       cases uL with
       |true=>
        by_cases he:e=0
        ·subst he;cases(!uC&& !decide (m.call=0)|| !uS&& !decide (m.bm=0)|| !uR&& !decide (m.bd=0)|| !uR&&m.free|| !true&&decide (m.calls.length>0))<;>rfl
        ·simp[he]
       |false=>cases(!uC&& !decide (m.call=0)|| !uS&& !decide (m.bm=0)|| !uR&& !decide (m.bd=0)|| !uR&&m.free|| !false&&decide (m.calls.length>0))<;>rfl
end Go.Ab.Tt
namespace Go.Ab.Tt
set_option maxRecDepth 100000
set_option linter.unusedVariables false
set_option linter.unusedSimpArgs false
theorem Wz(l:List ao)(stops low high:Int)(hl:l.length≤maxLen):jU [.rs 5 (l.map ao.pv),.int .i64 stops,.int .i64 low,.int .i64 high]=some (res (bj l stops low high).1 (bj l stops low high).2):=by
 have hm:=aT;simp only[jU,uj,ab,asInt,if_true,U,List.length_map,aW];unfold bj;split
 ·rfl
 ·rw[←lD];refine aY (fun k=>(l.map ao.pv,stops,low,high,(k:Int),())) l.length _ (fun k hk rec=>?_) (fun rec=>?_) ?_ rfl
  ·have h1:(k:Int)<(l.length:Int):=by omega
   simp only[pY,decide_eq_true_eq,List.length_map,h1,if_true,aq,List.getElem?_map,List.getElem?_eq_getElem hk,Option.map_some,U,xO,pN,pO,asInt,aW,ak (show k<9223372036854775807 by omega)];unfold lG kT;rw[List.getElem?_eq_getElem hk];simp only;cases k with
   |zero=>
    have h0:decide (((0:Nat):Int)>0)=false:=by decide
    simp only[h0,cond_false,U,aW,Bool.or_false,eT];generalize (decide (l[0].stop<0)||decide (l[0].stop≥stops))=A;generalize (decide (l[0].arr<low)||decide (l[0].arr>l[0].dep)||decide (l[0].dep>high))=B;cases A<;>cases B<;>rfl
   |succ j=>
    have h0:decide (((j+1:Nat):Int)>0)=true:=by rw[decide_eq_true_eq];omega
    have hj:j<l.length:=by omega
    simp only[h0,cond_true,U,mE j (by omega),aq,List.getElem?_map,List.getElem?_eq_getElem hj,Option.map_some,xO,pO,asInt,if_true,eT,dU,aW];generalize (decide (l[j+1].stop<0)||decide (l[j+1].stop≥stops))=A;generalize (decide (l[j+1].arr<low)||decide (l[j+1].arr>l[j+1].dep)||decide (l[j+1].dep>high))=B;generalize decide (l[j].stop=l[j+1].stop)=C;generalize decide (l[j+1].arr<l[j].dep)=D;cases A<;>cases B<;>cases C<;>cases D<;>rfl
  ·simp only[pY,decide_eq_true_eq,List.length_map,Int.lt_irrefl,if_false];rfl
  ·have:=aP;omega
theorem ZU(s:Bytes)(hs:s.length≤maxLen):lX [.str s]=some (.bool (dS s)):=by
 have hm:=aT;simp only[lX,wR,bh,U,aW];refine EE s hs (fun k hk rec=>?_) (fun rec=>?_) ?_
 ·have h1:(k:Int)<(s.length:Int):=by omega
  simp only[rr,decide_eq_true_eq,h1,if_true,CH,List.getElem?_eq_getElem hk,U,cT,aW,ak (show k<9223372036854775807 by omega),dU];generalize s[k]=b;unfold jn;simp only[ge_iff_le];generalize (decide (97≤(b.toNat:Int))&&decide ((b.toNat:Int)≤122))=x1;generalize (decide (65≤(b.toNat:Int))&&decide ((b.toNat:Int)≤90))=x2;generalize (decide (48≤(b.toNat:Int))&&decide ((b.toNat:Int)≤57))=x3;by_cases e4:(b.toNat:Int)=45<;>by_cases e5:(b.toNat:Int)=95<;>by_cases e6:(b.toNat:Int)=46<;>cases x1<;>cases x2<;>cases x3<;>simp[e4,e5,e6]
 ·simp only[rr,decide_eq_true_eq,Int.lt_irrefl,if_false]
 ·rw[Bool.eq_iff_iff];simp only[Bool.or_eq_true,Bool.not_eq_true',Bool.and_eq_false_iff,decide_eq_true_eq,decide_eq_false_iff_not];omega
theorem TW(n a b:Int):(decide (n<a)||decide (n>b))= !wi n a b:=by unfold wi;rw[Bool.eq_iff_iff];simp only[Bool.or_eq_true,Bool.not_eq_true',Bool.and_eq_false_iff,decide_eq_true_eq,decide_eq_false_iff_not];omega
theorem WA(m:eZ)(h:m.Ok):jV [m.pv]=some (.int .i64 (eM m)):=by
 have hid:=ZU m.cX h.cX;have eS:=Wz m.calls 64 0 3155932800 h.calls.1;simp only[res]at eS;have h4:(!wi m.eY 0 3155932800||decide (m.du<0)||decide (m.du>3155932800)||decide (m.eY≥m.du))=(!wi m.eY 0 3155932800|| !wi m.du 0 3155932800||decide (m.eY≥m.du)):=by rw[←TW m.du,Bool.or_assoc (!wi m.eY 0 3155932800)]
 simp only[jV,ur,AU,AV,AW,AX,AY,AZ,A0,A1,A2,A3,A4,tf,tg,yg,U,asInt,bh,ab,if_true,asBool,hid,aW,h4,TW,eS,bA,List.length_cons,List.length_nil,Nat.reduceAdd,List.getD_cons_zero,List.getD_cons_succ,cT,jy,dU,List.length_map,OW];unfold eM;simp only[decide_eq_true_eq];cases wi m.source 0 7 with
 |false=>rfl
 |true=>
  by_cases h2:m.seq<1
  ·simp only[h2,if_true,Bool.not_true,Bool.false_eq_true,Bool.true_eq_false,if_false]
  simp only[h2,if_true,Bool.not_true,Bool.false_eq_true,Bool.true_eq_false,if_false];cases(!wi m.eY 0 3155932800|| !wi m.du 0 3155932800||decide (m.eY≥m.du))with
  |true=>rfl
  |false=>
   cases wi m.kind 1 6 with
   |false=>rfl
   |true=>
    cases dS m.cX with
    |false=>rfl
    |true=>
     cases wi m.day 0 36524 with
     |false=>rfl
     |true=>
      by_cases h7:m.inst<0
      ·simp only[h7,if_true,Bool.not_true,Bool.false_eq_true,Bool.true_eq_false,if_false]
      simp only[h7,if_true,Bool.not_true,Bool.false_eq_true,Bool.true_eq_false,if_false];generalize (decide (m.kind=1)||decide (m.kind=3))=uC;generalize decide (m.kind=1)=uS;generalize decide (m.kind=5)=uR;generalize (decide (m.kind=4)||uR)=uL;generalize (bj m.calls 64 0 3155932800).2=e;cases(uC&& !wi m.call 0 31||uS&& !wi m.bm (-43200) 43200||uR&& !wi m.bd 0 63)with
      |true=>rfl
      |false=>
       cases uL with
       |true=>
        by_cases he:e=0
        ·subst he;generalize decide (m.call=0)=c1;generalize decide (m.bm=0)=c2;generalize decide (m.bd=0)=c3;cases uC<;>cases uS<;>cases uR<;>cases c1<;>cases c2<;>cases c3<;>cases m.free<;>rfl
        ·simp[he]
       |false=>generalize decide (m.call=0)=c1;generalize decide (m.bm=0)=c2;generalize decide (m.bd=0)=c3;generalize decide (m.calls.length>0)=c4;cases uC<;>cases uS<;>cases uR<;>cases c1<;>cases c2<;>cases c3<;>cases c4<;>cases m.free<;>rfl
theorem Ix{R:Type}(l:List bq)(m:eZ)(g:Nat→R)(fin:Option R):cY ((List.range l.length).findSome? fun k=>if decide ((l.map bF)[k]?=some m.key)=true then some (some (g k))else none) fin=(match yC l m with|some k=>some (g k)|none=>fin):=by rw[qA (fun k=>decide ((l.map bF)[k]?=some m.key)) (fun k=>some (g k))];unfold yC;cases(List.range l.length).find? (fun k=>decide ((l.map bF)[k]?=some m.key))<;>rfl
theorem OX(l:List bq)(m:eZ)(k:Nat)(hk:k<l.length):decide ((l.map bF)[k]?=some m.key)=(decide (l[k].id=m.cX)&&decide (l[k].day=m.day)&&decide (l[k].inst=m.inst)):=by rw[Bool.eq_iff_iff];simp[List.getElem?_eq_getElem hk,bF,eZ.key,and_assoc]
def Iy(l:List bq)(m:eZ):PV:=match yC l m with|some k=>.aZ [.int .i64 k,.bool true]|none=>.aZ [.int .i64 0,.bool false]
theorem u7(N:ag)(m:eZ)(hr:N.runs.length≤maxLen):bK [N.pv,m.pv]=some (Iy N.runs m):=by
 have hm:=aT;simp only[bK,lx,mF,nW,nX,nY,nZ,oa,ob,oc,od,og,U];simp only[AU,AV,AW,AX,AY,AZ,A0,A1,A2,A3,A4,tf,tg,yg,U,asInt,bh,ab,if_true,asBool,List.length_map];generalize N.runs=l at hr⊢;have hs:=Ix l m (fun k=>PV.aZ [.int .i64 k,.bool true]) (some (PV.aZ [.int .i64 0,.bool false]));have hR:(match yC l m with|some k=>some (PV.aZ [.int .i64 k,.bool true])|none=>some (PV.aZ [.int .i64 0,.bool false]))=some (Iy l m):=by unfold Iy;cases yC l m<;>rfl
 rw[←hR,←hs];refine aY (fun k=>(l.map bq.pv,(l.length:Int),(k:Int),m.source,m.seq,m.eY,m.du,m.kind,m.cX,m.day,m.inst,m.call,m.bm,m.bd,m.free,m.calls.map ao.pv,())) l.length _ (fun k hk rec=>?_) (fun rec=>?_) (by have:=aP;omega) rfl
 ·have h1:decide ((k:Int)<(l.length:Int))=true:=by simp;omega
  rw[OX l m k hk];unfold lY;dsimp only;rw[if_pos h1,aq,List.getElem?_map,List.getElem?_eq_getElem hk];simp only[Option.map_some,U,LN,LO,LP,asInt,bh,if_true,dU,cT,ak (show k<9223372036854775807 by omega)];cases decide (l[k].id=m.cX)&&decide (l[k].day=m.day)&&decide (l[k].inst=m.inst)<;>rfl
 ·unfold lY;dsimp only;rw[if_neg (by simp)]
def Mn(l:List bq)(m:eZ):Int:=match yC l m with|some k=>(k:Int)|none=> -1
theorem C7(N:ag)(m:eZ)(hr:N.runs.length≤maxLen):gz [N.pv,m.pv]=some (.int .i64 (Mn N.runs m)):=by
 have hm:=aT;simp only[gz,sK,mF,nW,nX,nY,nZ,oa,ob,oc,od,og,U];simp only[AU,AV,AW,AX,AY,AZ,A0,A1,A2,A3,A4,tf,tg,yg,U,asInt,bh,ab,if_true,asBool];generalize He:N.runs=l at hr⊢;have hs:=Ix l m (fun k=>PV.int .i64 k) (some (PV.int .i64 (-1)));have hR:(match yC l m with|some k=>some (PV.int .i64 k)|none=>some (PV.int .i64 (-1)))=some (PV.int .i64 (Mn l m)):=by unfold Mn;cases yC l m<;>rfl
 rw[←hR,←hs];refine aY (fun k=>((k:Int),N.stops.map Stop.pv,N.af.map ax.pv,l.map bq.pv,N.ah.map aC.pv,N.paths.map Path.pv,N.au.map aS.pv,N.aR,N.within,N.cap,m.source,m.seq,m.eY,m.du,m.kind,m.cX,m.day,m.inst,m.call,m.bm,m.bd,m.free,m.calls.map ao.pv,())) l.length _ (fun k hk rec=>?_) (fun rec=>?_) (by have:=aP;omega) rfl
 ·have h1:decide ((k:Int)<((l.map bq.pv).length:Int))=true:=by simp;omega
  rw[OX l m k hk];unfold nO;dsimp only;rw[if_pos h1,aq,List.getElem?_map,List.getElem?_eq_getElem hk];simp only[Option.map_some,U,LN,LO,LP,asInt,bh,if_true,dU,cT,ak (show k<9223372036854775807 by omega)];cases decide (l[k].id=m.cX)&&decide (l[k].day=m.day)&&decide (l[k].inst=m.inst)<;>rfl
 ·unfold nO;dsimp only;rw[if_neg (by simp)]
end Go.Ab.Tt
namespace Go.Ab.Tt
set_option maxRecDepth 100000
set_option linter.unusedVariables false
set_option linter.unusedSimpArgs false
theorem TX(x:ao):cell x.pv 3=.bool x.yf:=rfl
theorem TY(x:ao):cell x.pv 4=.bool x.sV:=rfl
theorem XP(x:ao):asAgg 5 x.pv=some ():=rfl
theorem acS(x:ao):PV.agg [.int .i64 x.stop,.int .i64 x.arr,.int .i64 x.dep,.bool x.yf,.bool x.sV]=x.pv:=rfl
def Span(c:ao):Prop:=0≤c.arr∧c.arr≤c.dep∧c.dep≤gC
variable{c:ao}
theorem pZ(h:Span c):0≤fa c∧fa c≤30:=by obtain⟨h1,h2,h3⟩:=h;unfold fa;split<;>omega
theorem ig:gC=3155932800:=rfl
theorem wrap_small{x:Int}(h1: -100000000000≤x)(h2:x≤100000000000):IntKind.i64.wrap x=x:=fF (by omega) (by omega)
theorem C8(h:Span c):fi [c.pv]=some (.int .i64 (fa c)):=by
 have:=ig;obtain⟨h1,h2,h3⟩:=h;simp only[fi,uf,XP,xO,pN,pO,TX,TY,asInt,asBool,U,if_true];rw[wrap_small (by omega) (by omega)];unfold fa;by_cases hd:c.dep-c.arr<30
 ·rw[if_neg (by omega),if_pos hd]
 ·rw[if_neg hd];by_cases he:30<c.dep-c.arr
  ·rw[if_pos he]
  ·rw[if_neg he];congr 2;omega
theorem QG(h:Span c):iw [c.pv]=some (.int .i64 (fa c)):=by
 have:=ig;obtain⟨h1,h2,h3⟩:=h;simp only[iw,uD,XP,xO,pN,pO,TX,TY,asInt,asBool,U,if_true];rw[wrap_small (by omega) (by omega)];unfold fa;by_cases hd:c.dep-c.arr<30
 ·rw[if_pos hd,if_pos (by simpa using hd)]
 ·rw[if_neg hd,if_neg (by simpa using hd)]
def sd(l:List ao)(k:Nat):Bool:=(l[k]?).elim false fun c=>decide (c.arr<((eT l k).map ao.dep).getD 0)||decide (c.dep<c.arr)||decide (c.dep>gC)
theorem EY{R:Type}(l:List ao)(no fin:Option R):cY ((List.range l.length).findSome? fun k=>if sd l k=true then some no else none) fin=if ot l=true then fin else no:=by
 rw[qA (sd l) (fun _=>no)];by_cases h:ot l=true
 ·rw[if_pos h];have:(List.range l.length).find? (sd l)=none:=by rw[List.find?_eq_none];intro k hk;have:=List.all_eq_true.1 h k hk;rw[List.mem_range]at hk;simp only[List.getElem?_eq_getElem hk,Option.elim_some]at this;simp only[sd,List.getElem?_eq_getElem hk,Option.elim_some];simpa using this
  rw[this];rfl
 ·rw[if_neg h];cases hf:(List.range l.length).find? (sd l)with
  |some k=>rfl
  |none=>exfalso;apply h;unfold ot;rw[List.all_eq_true];intro k hk;have:=List.find?_eq_none.1 hf k hk;rw[List.mem_range]at hk;simp only[sd,List.getElem?_eq_getElem hk,Option.elim_some]at this;simp only[List.getElem?_eq_getElem hk,Option.elim_some];simpa using this
variable{l:List ao}
theorem Bk(h:ot l=true){k:Nat}(hk:k<l.length):((eT l k).map ao.dep).getD 0≤l[k].arr∧l[k].arr≤l[k].dep∧l[k].dep≤gC:=by have:=List.all_eq_true.1 h k (List.mem_range.2 hk);simp only[List.getElem?_eq_getElem hk,Option.elim_some,Bool.not_eq_true',Bool.or_eq_false_iff,decide_eq_false_iff_not]at this;omega
theorem kU(h:ot l=true):∀k,(hk:k<l.length)→Span l[k]:=by
 intro k;induction k with
 |zero=>intro hk;obtain⟨a,b,c⟩:=Bk h hk;exact⟨a,b,c⟩
 |succ k ih=>
  intro hk;obtain⟨a,b,c⟩:=Bk h hk;obtain⟨x,y,z⟩:=ih (by omega);have:((eT l (k+1)).map ao.dep).getD 0=(l[k]'(by omega)).dep:=by show((l[k]?).map ao.dep).getD 0=_;rw[List.getElem?_eq_getElem (by omega)];rfl
  rw[this]at a;exact⟨by omega,b,c⟩
theorem yn(l:List ao)(hl:l.length≤maxLen):ef [.rs 5 (l.map ao.pv)]=some (.bool (ot l)):=by
 have hm:=aT;simp only[ef,qZ,ab,if_true,U,List.length_map];have hs:=EY l (some (PV.bool false)) (some (PV.bool true));have hR:(if ot l=true then some (PV.bool true)else some (PV.bool false))=some (.bool (ot l)):=by cases ot l<;>rfl
 rw[←hR,←hs];refine aY (fun k=>(((eT l k).map ao.dep).getD 0,l.map ao.pv,(l.length:Int),(k:Int),())) l.length _ (fun k hk rec=>?_) (fun rec=>?_) (by have:=aP;omega) rfl
 ·have h1:decide ((k:Int)<(l.length:Int))=true:=by simp;omega
  unfold mI;dsimp only;have hp:((eT l (k+1)).map ao.dep).getD 0=l[k].dep:=by show((l[k]?).map ao.dep).getD 0=_;rw[List.getElem?_eq_getElem hk];rfl
  rw[if_pos h1,aq,List.getElem?_map,List.getElem?_eq_getElem hk];simp only[Option.map_some,U,pN,pO,asInt,if_true,aW,ak (show k<9223372036854775807 by omega),hp];have:sd l k=(decide (l[k].arr<((eT l k).map ao.dep).getD 0)||decide (l[k].dep<l[k].arr)||decide (l[k].dep>3155932800)):=by simp only[sd,List.getElem?_eq_getElem hk,Option.elim_some];rfl
  rw[this];cases(decide (l[k].arr<((eT l k).map ao.dep).getD 0)||decide (l[k].dep<l[k].arr)||decide (l[k].dep>3155932800))<;>rfl
 ·unfold mI;dsimp only;rw[if_neg (by simp)]
theorem Iz(l:List ao)(hl:l.length≤maxLen):ic [.rs 5 (l.map ao.pv)]=some (.bool (ot l)):=by
 have hm:=aT;simp only[ic,qY,ab,if_true,U];have hs:=EY l (some (PV.bool false)) (some (PV.bool true));have hR:(if ot l=true then some (PV.bool true)else some (PV.bool false))=some (.bool (ot l)):=by cases ot l<;>rfl
 rw[←hR,←hs];have hA:∀k,(hk:k<l.length)→(∀j,(hj:j<k)→sd l j=false)→sd l k=(decide (l[k].arr<0)||decide (l[k].arr>l[k].dep)||decide (l[k].dep>3155932800)||match eT l k with|some q=>decide (l[k].arr<q.dep)|none=>false):=by
  intro k hk sJ;have dK:0≤((eT l k).map ao.dep).getD 0:=by
   have:∀j,(hj:j≤k)→0≤((eT l j).map ao.dep).getD 0:=by
    intro j;induction j with
    |zero=>intro _;exact Int.le_refl _
    |succ j ih=>intro hj;have h1:=sJ j (by omega);have h2:=ih (by omega);simp only[sd,List.getElem?_eq_getElem (show j<l.length by omega),Option.elim_some,Bool.or_eq_false_iff,decide_eq_false_iff_not]at h1;show 0≤((l[j]?).map ao.dep).getD 0;rw[List.getElem?_eq_getElem (by omega)];simp only[Option.map_some,Option.getD_some];omega
   exact this k (Nat.le_refl _)
  simp only[sd,List.getElem?_eq_getElem hk,Option.elim_some];rw[Bool.eq_iff_iff];have:=ig;cases hq:eT l k with
  |none=>rw[hq]at dK;simp only[Option.map_none,Option.getD_none,Bool.or_eq_true,decide_eq_true_eq,Bool.false_eq_true,or_false];omega
  |some q=>rw[hq]at dK;simp only[Option.map_some,Option.getD_some]at dK;simp only[Option.map_some,Option.getD_some,Bool.or_eq_true,decide_eq_true_eq];omega
 refine mS (fun k=>(l.map ao.pv,(k:Int),())) l.length _ (fun k hk sJ rec=>?_) (fun _ rec=>?_) (by have:=aP;omega) rfl
 ·have h1:decide ((k:Int)<(l.length:Int))=true:=by simp;omega
  rw[hA k hk (fun j hj=>by have:=sJ j hj;by_cases hx:sd l j=true;rw[if_pos hx]at this;cases this;simpa using hx)];unfold mJ;dsimp only;rw[List.length_map,if_pos h1,aq,List.getElem?_map,List.getElem?_eq_getElem hk];simp only[Option.map_some,U,pN,pO,asInt,if_true,aW,ak (show k<9223372036854775807 by omega)];cases k with
  |zero=>
   have h0:decide (((0:Nat):Int)>0)=false:=by decide
   simp only[h0,cond_false,U,aW,Bool.or_false,eT];cases(decide (l[0].arr<0)||decide (l[0].arr>l[0].dep)||decide (l[0].dep>3155932800))<;>rfl
  |succ j=>
   have h0:decide (((j+1:Nat):Int)>0)=true:=by rw[decide_eq_true_eq];omega
   have hj:j<l.length:=by omega
   simp only[h0,cond_true,U,mE j (by omega),aq,List.getElem?_map,List.getElem?_eq_getElem hj,Option.map_some,pN,pO,asInt,if_true,eT,aW];cases(decide (l[j+1].arr<0)||decide (l[j+1].arr>l[j+1].dep)||decide (l[j+1].dep>3155932800))<;>cases decide (l[j+1].arr<l[j].dep)<;>rfl
 ·unfold mJ;dsimp only;rw[List.length_map,if_neg (by simp)]
theorem Gl(h:ot l=true){n:Nat}(hn:n<l.length){bm:Int}(h1: -43200≤bm)(h2:bm≤43200):0≤lr l n bm∧lr l n bm≤3200000000:=by
 obtain⟨a,b,c⟩:=kU h n hn;obtain⟨x,y,z⟩:=Bk h hn;have:=ig;have hb:0≤((eT l n).map ao.dep).getD 0:=by
  cases n with
  |zero=>exact Int.le_refl _
  |succ n=>show 0≤((l[n]?).map ao.dep).getD 0;rw[List.getElem?_eq_getElem (by omega)];obtain⟨a,b,c⟩:=kU h n (by omega);show 0≤l[n].dep;omega
 unfold lr;rw[List.getElem?_eq_getElem hn];simp only[Option.map_some,Option.getD_some];split<;>omega
theorem QH(h:ot l=true){n:Nat}(hn:n<l.length)(hl:l.length≤maxLen){bm:Int}(h1: -43200≤bm)(h2:bm≤43200):jT [.rs 5 (l.map ao.pv),.int .i64 n,.int .i64 bm]=some (.int .i64 (lr l n bm)):=by
 have hm:=aT;obtain⟨a,b,c⟩:=kU h n hn;have:=ig;simp only[jT,uq,ab,asInt,if_true,U,aq,List.getElem?_map,List.getElem?_eq_getElem hn,Option.map_some,pN,wrap_small (show-100000000000≤l[n].arr+bm by omega) (show l[n].arr+bm≤100000000000 by omega)];unfold lr;rw[List.getElem?_eq_getElem hn];cases n with
 |zero=>rw[if_neg (by decide)];simp only[eT,Option.map_some,Option.map_none,Option.getD_none,Option.getD_some,decide_eq_true_eq];by_cases hx:l[0].arr+bm<0<;>simp only[hx,if_true,if_false]
 |succ j=>
  have hj:j<l.length:=by omega
  rw[if_pos (by rw[decide_eq_true_eq];omega),mE j (by omega),aq,List.getElem?_map,List.getElem?_eq_getElem hj];simp only[eT,List.getElem?_eq_getElem hj,Option.map_some,Option.getD_some,decide_eq_true_eq,U,pO,asInt,if_true];by_cases hx:l[j+1].arr+bm<l[j].dep<;>simp only[hx,if_true,if_false]
def sW(pre:List ao):Option (List ao)→PV
 |some r=>.aZ [.rs 5 ((pre++r).map ao.pv),.int .i64 0]
 |none=>.aZ [.rs 5 [],.int .i64 10]
theorem u9(c d:ao)(ds:List ao)(a:Int):fb (c::d::ds) a=if(late c a).dep>gC then none else(fb (d::ds) (d.arr+(late c a).dep-c.dep)).map fun r=>late c a::r:=by rw[fb]
theorem zr(c:ao)(a:Int):fb [c] a=if(late c a).dep>gC then none else some [late c a]:=by rw[fb]
theorem EZ(c:ao)(cs:List ao)(a:Int)(h:(late c a).dep>gC):fb (c::cs) a=none:=by
 cases cs with
 |nil=>rw[zr,if_pos h]
 |cons d ds=>rw[u9,if_pos h]
theorem Gm(pre:List ao)(x:ao)(o:Option (List ao)):sW pre (o.map fun r=>x::r)=sW (pre++[x]) o:=by cases o<;>simp[sW]
theorem C9{a:Int}(h:Span c)(h0:0≤a)(h1:a≤8000000000):0≤(late c a).dep∧(late c a).dep≤8000000030:=by obtain⟨p,q⟩:=pZ h;obtain⟨x,y,z⟩:=h;have:=ig;show 0≤(if a+fa c>c.dep then a+fa c else c.dep)∧(if a+fa c>c.dep then a+fa c else c.dep)≤8000000030;split<;>omega
theorem vK{d:ao}{a:Int}(h:Span c)(hd:Span d)(hcd:c.dep≤d.arr)(h0:0≤a)(h1:¬(late c a).dep>gC):0≤d.arr+(late c a).dep-c.dep∧d.arr+(late c a).dep-c.dep≤8000000000:=by
 obtain⟨p,q⟩:=pZ h;obtain⟨x,y,z⟩:=h;obtain⟨x',y',z'⟩:=hd;have:=ig;have hh:c.dep≤(late c a).dep:=by show c.dep≤if a+fa c>c.dep then a+fa c else c.dep;split<;>omega
 omega
theorem QI(l:List ao)(hl:l.length≤1000)(im:∀k,(hk:k<l.length)→Span l[k])(hor:∀k,(hk:k+1<l.length)→(l[k]'(by omega)).dep≤l[k+1].arr):∀(j:Nat)(k:Nat)(a:Int)(out:List ao)(fu:Nat),k+j=l.length→j<fu→0≤a→a≤8000000000→out.length=k→bW (eB bI) fu (l.map ao.pv,a,(k:Int),out.map ao.pv,())=some (sW out (fb (l.drop k) a)):=by
 intro j;induction j with
 |zero=>intro k a out fu hk hf _ _ _;obtain⟨fu,rfl⟩:∃f,fu=f+1:=⟨fu-1,by omega⟩;rw[bW];unfold eB;dsimp only;rw[List.length_map,if_neg (by simp;omega),List.drop_eq_nil_of_le (by omega)];simp[fb,sW]
 |succ j ih=>
  intro k a out fu hk hf Rr XQ ho;obtain⟨fu,rfl⟩:∃f,fu=f+1:=⟨fu-1,by omega⟩;have iM:k<l.length:=by omega
  have hc:=im k iM;obtain⟨p1,p2⟩:=pZ hc;obtain⟨c1,c2,c3⟩:=hc;have:=ig;have dh:∀x:PV,(out.map ao.pv++[x]).length*32≤aa∧0<32:=by
   intro x;have:(32032:Nat)≤aa:=by decide
   refine⟨?_,by decide⟩;simp only[List.length_append,List.length_map,List.length_singleton];omega
  have Zg:IntKind.i64.wrap ((k:Int)+1)=((k+1:Nat):Int):=ak (by omega);rw[bW];unfold eB;dsimp only;rw[List.length_map,if_pos (by rw[decide_eq_true_eq];omega),aq,List.getElem?_map,List.getElem?_eq_getElem iM];simp only[Option.map_some,U,xO,pN,pO,TX,TY,acS,QG (im k iM),asInt,if_true,wrap_small (show-100000000000≤a+fa l[k] by omega) (show a+fa l[k]≤100000000000 by omega),dh,Zg,and_self,if_true];have TA:l.drop k=l[k]::l.drop (k+1):=List.drop_eq_getElem_cons iM;have acT:∀b:Int,b=(late l[k] a).dep→PV.agg [.int .i64 l[k].stop,.int .i64 a,.int .i64 b,.bool l[k].yf,.bool l[k].sV]=(late l[k] a).pv:=by intro b hb;rw[hb];rfl
  have acU:out.map ao.pv++[(late l[k] a).pv]=(out++[late l[k] a]).map ao.pv:=by simp
  have key:∀b:Int,b=(late l[k] a).dep→(if decide (b>3155932800)=true then some (PV.aZ [.rs 5 [],.int .i64 10])else
    if decide (((k+1:Nat):Int)<(l.length:Int))=true then(aQ (l.map ao.pv) ((k+1:Nat):Int)).bind fun WB=>(asInt .i64 (cell WB 1)).bind fun n20=>bW (eB bI) fu (l.map ao.pv,IntKind.i64.wrap (IntKind.i64.wrap (n20+b)-l[k].dep),((k+1:Nat):Int),out.map ao.pv++[.agg [.int .i64 l[k].stop,.int .i64 a,.int .i64 b,.bool l[k].yf,.bool l[k].sV]],())
    else bW (eB bI) fu (l.map ao.pv,a,((k+1:Nat):Int),out.map ao.pv++[.agg [.int .i64 l[k].stop,.int .i64 a,.int .i64 b,.bool l[k].yf,.bool l[k].sV]],()))=some (sW out (fb (l.drop k) a)):=by
   intro b hb;rw[acT b hb,acU,TA];by_cases ov:(late l[k] a).dep>gC
   ·rw[if_pos (by rw[decide_eq_true_eq,hb];exact ov)];rw[EZ _ _ _ ov];rfl
   ·rw[if_neg (by rw[decide_eq_true_eq,hb];exact ov)];by_cases CQ:k+1<l.length
    ·rw[if_pos (by rw[decide_eq_true_eq];omega),aq,List.getElem?_map,List.getElem?_eq_getElem CQ];simp only[Option.map_some,U,pN,asInt,if_true];obtain⟨n1,n2⟩:=vK (im k iM) (im (k+1) CQ) (hor k CQ) Rr ov;obtain⟨d1,d2⟩:=C9 (im k iM) Rr XQ;obtain⟨e1,e2,e3⟩:=im (k+1) CQ;rw[hb,wrap_small (show-100000000000≤l[k+1].arr+(late l[k] a).dep by omega) (by omega),wrap_small (show-100000000000≤l[k+1].arr+(late l[k] a).dep-l[k].dep by omega) (by omega)];have hd2:l.drop (k+1)=l[k+1]::l.drop (k+1+1):=List.drop_eq_getElem_cons CQ;rw[ih (k+1) _ _ fu (by omega) (by omega) n1 n2 (by simp[ho]),hd2,u9,if_neg ov,Gm]
    ·rw[if_neg (by rw[decide_eq_true_eq];omega),ih (k+1) _ _ fu (by omega) (by omega) Rr XQ (by simp[ho])];have hd2:l.drop (k+1)=[]:=List.drop_eq_nil_of_le (by omega);rw[hd2,zr,if_neg ov];simp[sW,fb]
  by_cases hg:a+fa l[k]>l[k].dep
  ·rw[if_pos (by rw[decide_eq_true_eq];exact hg)];exact key (a+fa l[k]) (by show _=if a+fa l[k]>l[k].dep then _ else _;rw[if_pos hg])
  ·rw[if_neg (by rw[decide_eq_true_eq];exact hg)];exact key l[k].dep (by show _=if a+fa l[k]>l[k].dep then _ else _;rw[if_neg hg])
def TZ(x:Option (List ao)×Int):PV:=.aZ [.rs 5 ((x.1.getD []).map ao.pv),.int .i64 x.2]
theorem se(h:ot l=true):∀k,(hk:k+1<l.length)→(l[k]'(by omega)).dep≤l[k+1].arr:=by
 intro k hk;obtain⟨a,b,c⟩:=Bk h hk;have:((eT l (k+1)).map ao.dep).getD 0=(l[k]'(by omega)).dep:=by show((l[k]?).map ao.dep).getD 0=_;rw[List.getElem?_eq_getElem (by omega)];rfl
 rw[this]at a;exact a
theorem T2(l:List ao)(n bm:Int)(hl:l.length≤1000):fT [.rs 5 (l.map ao.pv),.int .i64 n,.int .i64 bm]=some (TZ (prop l n bm)):=by
 have hmx:(1000:Nat)≤maxLen:=by decide
 have hrg:=aP;simp only[fT,nK,ab,asInt,if_true,U,aW,Iz l (by omega),asBool,List.length_map,List.nil_append];unfold prop;by_cases h1:n<0∨n≥(l.length:Int)
 ·rw[if_pos h1,if_pos (by simp only[Bool.or_eq_true,decide_eq_true_eq];exact h1)];rfl
 rw[if_neg h1,if_neg (by simp only[Bool.or_eq_true,decide_eq_true_eq];exact h1)];by_cases h2:bm< -43200∨bm>43200
 ·rw[if_pos h2,if_pos (by simp only[Bool.or_eq_true,decide_eq_true_eq];exact h2)];rfl
 rw[if_neg h2,if_neg (by simp only[Bool.or_eq_true,decide_eq_true_eq];exact h2)];cases ho:ot l with
 |false=>rfl
 |true=>
  simp only[Bool.not_true,Bool.false_eq_true,Bool.true_eq_false,if_false];rw[if_pos (by refine⟨by omega,by omega,by omega,by decide,by decide⟩)];obtain⟨m,rfl⟩:∃m:Nat,n=m:=⟨n.toNat,by omega⟩;have hm:m<l.length:=by omega
  have hd:List.drop (Int.toNat 0) (List.take (Int.toNat (m:Int)) (l.map ao.pv))=(l.take m).map ao.pv:=by rw[Int.toNat_natCast];simp[List.map_take]
  have dh:((l.take m).map ao.pv).length*32≤aa∧0<32:=by
   have:(32032:Nat)≤aa:=by decide
   refine⟨?_,by decide⟩;simp only[List.length_map,List.length_take];omega
  rw[hd,if_pos dh,QH ho hm (by omega) (by omega) (by omega)];simp only[U,asInt,if_true,jg,Int.toNat_natCast];obtain⟨a1,a2⟩:=Gl ho hm (show-43200≤bm by omega) (by omega);rw[QI l hl (kU ho) (se ho) (l.length-m) m _ (l.take m) rounds (by omega) (by omega) a1 (by omega) (by simp;omega)];cases fb (l.drop m) (lr l m bm)<;>rfl
theorem vL(l:List ao)(hl:l.length≤1000000):dc [.rs 5 (l.map ao.pv)]=some (.rs 5 (l.map ao.pv)):=by
 have hb:1000000*32≤aa:=by decide
 simp only[dc,q6,ab,if_true,U,List.length_map];rw[if_pos (by refine⟨by omega,by omega,?_,by decide,by decide⟩;rw[Int.toNat_natCast];omega)];congr 2;rw[Int.toNat_natCast,List.length_replicate,List.take_of_length_le (by simp),List.drop_eq_nil_of_le (by simp),List.append_nil]
theorem WC(x:aC):PV.agg [.int .i64 x.a,.int .i64 x.ac,.int .i64 x.b,.int .i64 x.bc,.bool x.stay]=x.pv:=rfl
theorem Gn(l:List aC)(i:Nat)(hl:l.length≤1000000):bU [.rs 5 (l.map aC.pv),.int .i64 i]=some (.rs 5 ((l.filter fun x=> !(decide (x.a=(i:Int))||decide (x.b=(i:Int)))).map aC.pv)):=by
 have hmx:1000000≤maxLen:=by decide
 have hb:1000000*40≤aa:=by decide
 simp only[bU,pA,ab,asInt,if_true,U];refine bp (fun k=>(l.map aC.pv,(i:Int),(k:Int),((l.take k).filter fun x=> !(decide (x.a=(i:Int))||decide (x.b=(i:Int)))).map aC.pv,())) l.length (fun k hk rec=>?_) (fun rec=>?_) (by have:=aP;omega) (by simp)
 ·unfold lZ;dsimp only;have hlen:((l.take k).filter fun x=> !(decide (x.a=(i:Int))||decide (x.b=(i:Int)))).length≤k:=Nat.le_trans (List.length_filter_le _ _) (by simp;omega);rw[List.length_map,if_pos (by rw[decide_eq_true_eq];omega),aq,List.getElem?_map,List.getElem?_eq_getElem hk];have dh:∀x:PV,(((l.take k).filter fun x=> !(decide (x.a=(i:Int))||decide (x.b=(i:Int)))).map aC.pv++[x]).length*40≤aa∧0<40:=by intro x;refine⟨?_,by decide⟩;simp only[List.length_append,List.length_map,List.length_singleton];omega
  simp only[dh,and_self,Option.map_some,U,WC,CL,HW,link2,HX,EF,asInt,if_true,cT,ak (show k<9223372036854775807 by omega),jy];rw[List.take_succ_eq_append_getElem hk,List.filter_append,List.map_append];have hc:(!decide (l[k].a=(i:Int))&& !decide (l[k].b=(i:Int)))= !(decide (l[k].a=(i:Int))||decide (l[k].b=(i:Int))):=by cases decide (l[k].a=(i:Int))<;>cases decide (l[k].b=(i:Int))<;>rfl
  rw[hc];by_cases hx:(!(decide (l[k].a=(i:Int))||decide (l[k].b=(i:Int))))=true
  ·rw[if_pos hx];simp only[List.filter_cons,hx,if_true,List.filter_nil,List.map_cons,List.map_nil];rw[if_pos (by decide)]
  ·rw[if_neg hx];simp only[List.filter_cons,hx,if_false,List.filter_nil,List.map_nil,List.append_nil,Bool.false_eq_true]
 ·unfold lZ;dsimp only;rw[List.length_map,if_neg (by simp),List.take_length]
end Go.Ab.Tt
namespace Go.Ab.Tt
set_option maxRecDepth 100000
set_option linter.unusedVariables false
set_option linter.unusedSimpArgs false
theorem Da(x:bq):aO 5 (cell x.mW 7)=some (x.calls.map ao.pv):=rfl
def outs(pre:List ao)(l:List ao)(k:Nat):List PV:=pre.map ao.pv++(l.drop k).map ao.pv
theorem IA(pre l:List ao)(k:Nat)(hp:pre.length=k)(hk:k≤l.length):(outs pre l k).length=l.length:=by unfold outs;simp;omega
theorem IB(pre l:List ao)(k:Nat)(hp:pre.length=k)(hk:k<l.length):(outs pre l k)[k]?=some l[k].pv:=by unfold outs;rw[List.getElem?_append_right (by simp;omega)];simp[hp,List.getElem?_eq_getElem hk]
theorem IC(pre l:List ao)(k:Nat)(hp:pre.length=k)(hk:k<l.length)(x:ao):(outs pre l k).set k x.pv=outs (pre++[x]) l (k+1):=by
 unfold outs;rw[List.set_append_right _ _ (by simp;omega)];have h0:k-(pre.map ao.pv).length=0:=by simp;omega
 rw[h0,List.drop_eq_getElem_cons hk,List.map_cons,List.set_cons_zero,List.map_append,List.append_assoc];rfl
variable{S R:Type}
theorem Db{body:S→(S→Option R)→Option R}(st:Int→Nat→List PV→S)(l:List ao)(i:Nat)(err:Option R)(fin:List PV→Option R)(sJ:∀k a out rec,k<i→k<l.length→body (st a k out) rec=rec (st a (k+1) out))(tK:∀k a pre rec,i≤k→(hk:k<l.length)→pre.length=k→0≤a→a≤8000000000→body (st a k (outs pre l k)) rec=if(late l[k] a).dep>gC then err else if h:k+1<l.length then rec (st (l[k+1].arr+(late l[k] a).dep-l[k].dep) (k+1) (outs (pre++[late l[k] a]) l (k+1)))else rec (st a (k+1) (outs (pre++[late l[k] a]) l (k+1))))(nv:∀a out rec,body (st a l.length out) rec=fin out)(im:∀k,(hk:k<l.length)→Span l[k])(hor:∀k,(hk:k+1<l.length)→(l[k]'(by omega)).dep≤l[k+1].arr)(hi:i<l.length)(hl:l.length+1<rounds)(a:Int)(h0:0≤a)(h1:a≤8000000000):bI.run body (st a 0 (l.map ao.pv))=match fb (l.drop i) a with|some r=>fin ((l.take i++r).map ao.pv)|none=>err:=by
 rw[jg];have hA:∀k,k≤i→∀fu,bW body (k+fu) (st a (i-k) (l.map ao.pv))=bW body fu (st a i (l.map ao.pv)):=by
  intro k;induction k with
  |zero=>intro _ fu;rw[Nat.zero_add];rfl
  |succ k ih=>intro hk fu;rw[show k+1+fu=(k+fu)+1 by omega,bW,sJ (i-(k+1)) a _ _ (by omega) (by omega),show i-(k+1)+1=i-k by omega];exact ih (by omega) fu
 have hB:∀(j:Nat)(k:Nat)(a:Int)(pre:List ao)(fu:Nat),k+j=l.length→i≤k→j<fu→0≤a→a≤8000000000→pre.length=k→bW body fu (st a k (outs pre l k))=match fb (l.drop k) a with|some r=>fin ((pre++r).map ao.pv)|none=>err:=by
  intro j;induction j with
  |zero=>
   intro k a pre fu hk As hf _ _ hp;obtain⟨fu,rfl⟩:∃f,fu=f+1:=⟨fu-1,by omega⟩;have iM:k=l.length:=by omega
   subst iM;rw[bW,nv,List.drop_length];simp[fb,outs]
  |succ j ih=>
   intro k a pre fu hk As hf Rr XQ hp;obtain⟨fu,rfl⟩:∃f,fu=f+1:=⟨fu-1,by omega⟩;have iM:k<l.length:=by omega
   have hc:=im k iM;rw[bW,tK k a pre _ As iM hp Rr XQ,List.drop_eq_getElem_cons iM];by_cases ov:(late l[k] a).dep>gC
   ·rw[if_pos ov,EZ _ _ _ ov]
   ·rw[if_neg ov];by_cases hn:k+1<l.length
    ·rw[dif_pos hn];obtain⟨n0,n1⟩:=vK hc (im (k+1) hn) (hor k hn) Rr ov;rw[ih (k+1) _ _ fu (by omega) (by omega) (by omega) n0 n1 (by simp[hp]),List.drop_eq_getElem_cons hn,u9,if_neg ov];cases fb (l[k+1]::l.drop (k+1+1)) (l[k+1].arr+(late l[k] a).dep-l[k].dep)with
     |none=>rfl
     |some r=>simp
    ·rw[dif_neg hn];have hj:j=0:=by omega
     subst hj;obtain⟨fu,rfl⟩:∃f,fu=f+1:=⟨fu-1,by omega⟩;have ZT:k+1=l.length:=by omega
     rw[bW,List.drop_eq_nil_of_le (by omega),zr,if_neg ov];have:=nv a (outs (pre++[late l[k] a]) l (k+1)) (bW body fu);rw[←ZT]at this;rw[this];simp[outs,List.drop_eq_nil_of_le (show l.length≤k+1 by omega)]
 have e1:bI.run body (st a 0 (l.map ao.pv))=bW body rounds (st a 0 (l.map ao.pv)):=rfl;have e2:=hA i (Nat.le_refl _) (rounds-i);rw[Nat.sub_self,show i+(rounds-i)=rounds by omega]at e2;rw[e2];have e3:l.map ao.pv=outs (l.take i) l i:=by unfold outs;rw[←List.map_append,List.take_append_drop]
 rw[e3];exact hB (l.length-i) i a (l.take i) (rounds-i) (by omega) (Nat.le_refl _) (by omega) h0 h1 (by simp;omega)
theorem ZV{body:S→(S→Option R)→Option R}(st:Nat→Nat→List PV→S)(l:List aC)(p:aC→Bool)(out:List PV→Option R)(tK:∀j i x rec,(hi:i<l.length)→x.length=l.length→j≤i→x[i]?=some l[i].pv→body (st j i x) rec=if p l[i]=true then rec (st (j+1) (i+1) (x.set j l[i].pv))else rec (st j (i+1) x))(nv:∀j x rec,x.length=l.length→j≤l.length→body (st j l.length x) rec=out (x.take j)):∀n j i x fu,i+n=l.length→j≤i→x.length=l.length→x.take j=((l.take i).filter p).map aC.pv→x.drop i=(l.drop i).map aC.pv→n<fu→bW body fu (st j i x)=out ((l.filter p).map aC.pv):=by
 intro n;induction n with
 |zero=>
  intro j i x fu hi hj hx ht hd hf;obtain⟨fu,rfl⟩:∃f,fu=f+1:=⟨fu-1,by omega⟩;have:i=l.length:=by omega
  subst this;rw[bW,nv j x _ hx hj,ht,List.take_length]
 |succ n ih=>
  intro j i x fu hi hj hx ht hd hf;obtain⟨fu,rfl⟩:∃f,fu=f+1:=⟨fu-1,by omega⟩;have Rl:i<l.length:=by omega
  have eH:x[i]?=some l[i].pv:=by have:=congrArg (fun y=>y[0]?) hd;simpa[List.getElem?_drop,Rl]using this
  have N4:x.drop (i+1)=(l.drop (i+1)).map aC.pv:=by rw[←List.drop_drop,hd,←List.map_drop,List.drop_drop]
  rw[bW,tK j i x _ Rl hx hj eH];by_cases hp:p l[i]=true
  ·rw[if_pos hp];refine ih (j+1) (i+1) _ fu (by omega) (by omega) (by rw[List.length_set,hx]) ?_ ?_ (by omega)
   ·rw[List.take_succ_eq_append_getElem Rl,List.filter_append,List.map_append,←ht];simp only[List.filter_cons,hp,if_true,List.filter_nil,List.map_cons,List.map_nil];have yB:j<(x.set j l[i].pv).length:=by rw[List.length_set];omega
    rw[List.take_succ_eq_append_getElem yB,List.getElem_set_self,List.take_set_of_le (Nat.le_refl j)]
   ·rw[List.drop_set_of_lt (by omega),N4]
  ·rw[if_neg hp];refine ih j (i+1) x fu (by omega) (by omega) hx ?_ N4 (by omega);rw[List.take_succ_eq_append_getElem Rl,List.filter_append,List.map_append,←ht];simp[hp]
theorem T3{S':Type}{body:S→(S→Option R)→Option R}{body3:S'→(S'→Option R)→Option R}(st:Nat→S)(st3:Nat→Nat→List PV→S')(l:List aC)(p:aC→Bool)(out:List PV→Option R)(ZW:∀j i x rec,(hi:i<l.length)→x.length=l.length→j≤i→x[i]?=some l[i].pv→body3 (st3 j i x) rec=if p l[i]=true then rec (st3 (j+1) (i+1) (x.set j l[i].pv))else rec (st3 j (i+1) x))(acV:∀j x rec,x.length=l.length→j≤l.length→body3 (st3 j l.length x) rec=out (x.take j))(tK:∀k rec,(hk:k<l.length)→body (st k) rec=if p l[k]=true then rec (st (k+1))else bI.run body3 (st3 k (k+1) (l.map aC.pv)))(nv:∀rec,body (st l.length) rec=out (l.map aC.pv))(hl:l.length+1<rounds):bI.run body (st 0)=out ((l.filter p).map aC.pv):=by
 have:∀n k fu,k+n=l.length→n<fu→(l.take k).filter p=l.take k→bW body fu (st k)=out ((l.filter p).map aC.pv):=by
  intro n;induction n with
  |zero=>
   intro k fu hk hf ht;obtain⟨fu,rfl⟩:∃f,fu=f+1:=⟨fu-1,by omega⟩;have:k=l.length:=by omega
   subst this;rw[List.take_length]at ht;rw[bW,nv,ht]
  |succ n ih=>
   intro k fu hk hf ht;obtain⟨fu,rfl⟩:∃f,fu=f+1:=⟨fu-1,by omega⟩;have iM:k<l.length:=by omega
   rw[bW,tK k _ iM];by_cases hp:p l[k]=true
   ·rw[if_pos hp];refine ih (k+1) fu (by omega) (by omega) ?_;rw[List.take_succ_eq_append_getElem iM,List.filter_append,ht];simp[hp]
   ·rw[if_neg hp,jg];refine ZV st3 l p out ZW acV (l.length-(k+1)) k (k+1) _ rounds (by omega) (by omega) (by simp) ?_ (by rw[List.map_drop]) (by omega);rw[List.take_succ_eq_append_getElem iM,List.filter_append,ht,←List.map_take];simp[hp]
 rw[jg];exact this l.length 0 rounds (by omega) (by omega) (by simp)
structure Dv(N:ag):Prop where
 ok:N.Ok
 stops:N.stops.length≤1000
 af:N.af.length≤1000
 runs:N.runs.length≤100
 ah:N.ah.length≤1000
 paths:N.paths.length≤1000
 au:N.au.length≤1000
 calls:∀r∈N.runs,r.calls.length≤1000
def z9:PV:=.agg [.rs 0 [],.rs 0 [],.rs 0 [],.rs 0 [],.rs 0 [],.rs 0 [],.int .i64 0,.int .i64 0,.int .i64 0]
theorem ID(N:ag)(h:N.Ok)(hp:N.paths.length≤4096):iv [N.pv]=some (.bool (decide ((dg N).2.2=0))):=by have hc:=Qm N h hp;simp only[iv,ux,mF,nW,nX,nY,nZ,oa,ob,oc,od,og,U,tu,hc];simp only[ga,bA,List.length_cons,List.length_nil,Nat.reduceAdd,if_true,List.getD_cons_zero,List.getD_cons_succ,asInt,U,Ao]
end Go.Ab.Tt
namespace Go.Ab.Tt
set_option maxRecDepth 100000
set_option linter.unusedVariables false
set_option linter.unusedSimpArgs false
def Rs(N:ag)(m:eZ):PV:=if(Bi N m).2=0 then .aZ [(Bi N m).1.pv,.int .i64 0]else .aZ [z9,.int .i64 (Bi N m).2]
def va(N:ag)(m:eZ):PV:=if(dg N).2.2=0 then(if eM m=0 then Rs N m else .aZ [z9,.int .i64 (eM m)])else .aZ [z9,.int .i64 21]
def T4(N:ag)(m:eZ)(k:Nat):=((N.runs.length:Int),(k:Int),N.stops.map Stop.pv,N.af.map ax.pv,N.runs.map bq.pv,N.ah.map aC.pv,N.paths.map Path.pv,N.au.map aS.pv,N.aR,N.within,N.cap,(0:Int),(0:Int),(0:Int),N.au.map aS.pv,N.aR,N.within,N.cap,m.source,m.seq,m.eY,m.du,m.kind,m.cX,m.day,m.inst,m.call,m.bm,m.bd,m.free,m.calls.map ao.pv,(0:Int),(0:Int),(0:Int),N.stops.map Stop.pv,N.af.map ax.pv,mix bq.mW bq.pv N.runs k,N.ah.map aC.pv,N.paths.map Path.pv,())
theorem QJ(l:List bq):(mix bq.mW bq.pv l l.length).map PV.strip=l.map bq.pv:=by rw[F5,gR]
theorem l0{e:Int}{x y:Option PV}:(if(e !=0)=true then x else y)=if e=0 then y else x:=by by_cases h:e=0<;>simp[h]
theorem l5(l:List bq)(i:Nat)(hi:i<l.length):(l.map bq.mW)[i]?=some l[i].mW:=by simp[hi]
theorem T5(l:List bq)(i:Nat)(hi:i<l.length):ae (i:Int) (l.map bq.mW).length:=by rw[List.length_map];exact⟨by omega,by omega⟩
theorem qd(x:bq)(l:List ao):PV.agg [.int .i64 x.cX,.int .i64 x.day,.int .i64 x.inst,.str x.id,.int .i64 x.bd,.bool x.free,.bool x.rj,.cK 5 (l.map ao.pv)]=({x with calls:=l}:bq).mW:=rfl
theorem E0(n:Int):Ab.asInt .i64 (.int .i64 n)=some n:=rfl
theorem OY(x:ao):PV.agg [cell x.pv 0,cell x.pv 1,cell x.pv 2,cell x.pv 3,cell x.pv 4]=x.pv:=rfl
theorem kI1(x:ao):Ab.asInt .i64 (cell x.pv 1)=some x.arr:=rfl
theorem kI2(x:ao):Ab.asInt .i64 (cell x.pv 2)=some x.dep:=rfl
theorem XR(x:ao)(a:Int):PV.agg (cell x.pv 0::.int .i64 a::over [] [cell x.pv 2,cell x.pv 3,cell x.pv 4])=({x with arr:=a}:ao).pv:=rfl
theorem XS(x:ao)(d:Int):PV.agg (cell x.pv 0::cell x.pv 1::.int .i64 d::over [] [cell x.pv 3,cell x.pv 4])=({x with dep:=d}:ao).pv:=rfl
theorem XT(c:ao)(a:Int):(if a+fa c>c.dep then a+fa c else c.dep)=(late c a).dep:=by cases c;exact id rfl
theorem OZ(c:ao)(a:Int):ao.mk c.stop a (late c a).dep c.yf c.sV=late c a:=rfl
theorem T6(x:bq)(l:List PV):(if(8:Nat)=1 then PV.cK 5 l else .agg (cell x.mW 0::cell x.mW 1::cell x.mW 2::cell x.mW 3::cell x.mW 4::cell x.mW 5::cell x.mW 6::.cK 5 l::over [] []))=.agg [.int .i64 x.cX,.int .i64 x.day,.int .i64 x.inst,.str x.id,.int .i64 x.bd,.bool x.free,.bool x.rj,.cK 5 l]:=rfl
theorem T7(x:bq):PV.agg (cell x.mW 0::cell x.mW 1::cell x.mW 2::cell x.mW 3::cell x.mW 4::cell x.mW 5::.bool true::over [] [cell x.mW 7])=({x with rj:=true}:bq).mW:=rfl
theorem oJ(l:List bq)(i:Nat)(x:bq):((l.map bq.mW).set i x.mW).map PV.strip=(l.set i x).map bq.pv:=by rw[←List.map_set,gR]
theorem IE{A:Type}(l:List A)(k:Nat)(x:A)(h:k<l.length):(l.set k x)[k]?=some x:=by simp[h]
theorem gU(k n:Nat)(h:k<n):ae (k:Int) n:=⟨by omega,by omega⟩
def Mo(N:ag)(i c:Nat)(a:Int)(k:Nat)(out:List PV):=((i:Int),(c:Int),a,((N.runs[i]?).elim 0 fun r=>(r.calls.length:Int)),(k:Int),(i:Int),N.runs.map bq.mW,out,N.aR,N.within,N.cap,(0:Int),(0:Int),(0:Int),N.stops.map Stop.pv,N.af.map ax.pv,N.ah.map aC.pv,N.paths.map Path.pv,N.au.map aS.pv,())
def Gp(N:ag)(i:Nat)(l:List ao):ag:=match N.runs[i]? with|some r=>{N with runs:=N.runs.set i {r with calls:=l}}|none=>N
theorem T8(N:ag)(h:Dv N)(i c:Nat)(hi:i<N.runs.length)(hc:c<N.runs[i].calls.length)(ho:ot N.runs[i].calls=true)(a:Int)(h0:0≤a)(h1:a≤8000000000):bI.run dF (Mo N i c a 0 (N.runs[i].calls.map ao.pv))=match fb (N.runs[i].calls.drop c) a with|some r=>some (.aZ [(Gp N i (N.runs[i].calls.take c++r)).pv,.int .i64 0])|none=>some (.aZ [z9,.int .i64 10]):=by
 have hlen:=h.calls N.runs[i] (List.getElem_mem hi);have T9:1003<rounds:=by decide
 have im:=kU ho;refine(Db (Mo N i c) N.runs[i].calls c (some (.aZ [z9,.int .i64 10])) (fun out=>some (.aZ [.agg [.rs 4 (N.stops.map Stop.pv),.rs 3 (N.af.map ax.pv),.rs 8 (((N.runs.map bq.mW).set i (.agg [.int .i64 N.runs[i].cX,.int .i64 N.runs[i].day,.int .i64 N.runs[i].inst,.str N.runs[i].id,.int .i64 N.runs[i].bd,.bool N.runs[i].free,.bool N.runs[i].rj,.cK 5 out])).map PV.strip),.rs 5 (N.ah.map aC.pv),.rs 4 (N.paths.map Path.pv),.rs 6 (N.au.map aS.pv),.int .i64 N.aR,.int .i64 N.within,.int .i64 N.cap],.int .i64 0])) (fun k a out rec hk iM=>?_) (fun k a pre rec hk iM hp Rr XQ=>?_) (fun a out rec=>?_) im (se ho) hc (by omega) a h0 h1).trans ?_
 ·unfold Mo dF;dsimp only;rw[List.getElem?_eq_getElem hi,Option.elim_some,if_pos (by rw[decide_eq_true_eq];omega),if_pos (by rw[decide_eq_true_eq];omega),ak (by omega),Int.toNat_natCast]
 ·obtain⟨d0,d1⟩:=pZ (im k iM);obtain⟨s0,s1,s2⟩:=im k iM;have hlm:=ig;have hol:=IA pre N.runs[i].calls k hp (by omega);have YJ:∀x,((outs pre N.runs[i].calls k).set k x).length=N.runs[i].calls.length:=fun x=>by rw[List.length_set,hol]
  unfold Mo dF;dsimp only;rw[List.getElem?_eq_getElem hi,Option.elim_some,if_pos (by rw[decide_eq_true_eq];omega),if_neg (by rw[decide_eq_true_eq];omega)];simp only[Int.toNat_natCast,l5 _ _ hi,U,Da,List.length_map,gU k _ iM,if_true,List.getElem?_map,List.getElem?_eq_getElem iM,Option.map_some,hol,IB pre _ k hp iM,kI2,OY,C8 (im k iM),E0,XR,XS,YJ,IE _ _ _ (show k<(outs pre N.runs[i].calls k).length by omega),List.set_set,wrap_small (show-100000000000≤a+fa N.runs[i].calls[k] by omega) (show a+fa N.runs[i].calls[k]≤100000000000 by omega),XT,OZ,ak (show k<9223372036854775807 by omega),IC pre _ k hp iM,decide_eq_true_eq];have dK:=C9 (im k iM) Rr XQ;by_cases ov:(late N.runs[i].calls[k] a).dep>gC
  ·rw[if_pos (show(late N.runs[i].calls[k] a).dep>3155932800 by omega),if_pos ov];rfl
  ·rw[if_neg (show¬(late N.runs[i].calls[k] a).dep>3155932800 by omega),if_neg ov];by_cases hn:k+1<N.runs[i].calls.length
   ·obtain⟨n0,n1⟩:=vK (im k iM) (im (k+1) hn) (se ho k hn) Rr ov;obtain⟨t0,t1,t2⟩:=im (k+1) hn;rw[if_pos (by omega),dif_pos hn,if_pos (gU _ _ hn),List.getElem?_eq_getElem hn];simp only[Option.map_some,U,kI1];rw[wrap_small (x:=N.runs[i].calls[k+1].arr+(late N.runs[i].calls[k] a).dep) (by omega) (by omega),wrap_small (by omega) (by omega)]
   ·rw[if_neg (by omega),dif_neg hn]
 ·unfold Mo dF;dsimp only;rw[List.getElem?_eq_getElem hi,Option.elim_some,if_neg (by simp)];simp only[Int.toNat_natCast,l5 _ _ hi,U,T5 _ _ hi,if_true,T6]
 ·cases fb (N.runs[i].calls.drop c) a with
  |none=>rfl
  |some r=>simp only[qd,oJ];simp only[Gp,List.getElem?_eq_getElem hi];rfl
theorem Gq(x:aC):PV.agg [cell x.pv 0,cell x.pv 1,cell x.pv 2,cell x.pv 3,cell x.pv 4]=x.pv:=rfl
def IF(i:Nat)(l:aC):Bool:= !(decide (l.a=(i:Int))||decide (l.b=(i:Int)))
theorem vM(x:aC)(i:Nat):bP [x.pv,.rp [.int .i64 i]]=some (.bool (!IF i x)):=by have hA:asAgg 5 x.pv=some ():=rfl;simp only[bP,lB,hA,CL,HW,link2,HX,EF,asInt,asBool,if_true,U,aW,dU,IF,Bool.not_not]
def ZX(N:ag)(i:Nat)(runs:List PV)(j k:Nat)(x:List PV):=((j:Int),(k:Int),x,(i:Int),N.aR,N.within,N.cap,(0:Int),(0:Int),(0:Int),N.stops.map Stop.pv,N.af.map ax.pv,runs,N.paths.map Path.pv,N.au.map aS.pv,())
def O0(N:ag)(runs:List PV)(x:List PV):Option PV:=some (.aZ [.agg [.rs 4 (N.stops.map Stop.pv),.rs 3 (N.af.map ax.pv),.rs 8 (runs.map PV.strip),.rs 5 x,.rs 4 (N.paths.map Path.pv),.rs 6 (N.au.map aS.pv),.int .i64 N.aR,.int .i64 N.within,.int .i64 N.cap],.int .i64 0])
theorem Ua(N:ag)(h:Dv N)(i:Nat)(runs:List PV):bI.run (jr bI) ((N.ah.length:Int),0,N.ah.map aC.pv,(i:Int),N.aR,N.within,N.cap,0,0,0,N.stops.map Stop.pv,N.af.map ax.pv,runs,N.paths.map Path.pv,N.au.map aS.pv,())=O0 N runs ((N.ah.filter (IF i)).map aC.pv):=by
 have hk:=h.ah;have T9:1003<rounds:=by decide
 refine T3 (fun k=>((N.ah.length:Int),(k:Int),N.ah.map aC.pv,(i:Int),N.aR,N.within,N.cap,0,0,0,N.stops.map Stop.pv,N.af.map ax.pv,runs,N.paths.map Path.pv,N.au.map aS.pv,())) (ZX N i runs) (body3:=js bI) N.ah (IF i) (O0 N runs) (fun j k x rec iM hx hj hg=>?_) (fun j x rec hx hj=>?_) (fun k rec iM=>?_) (fun rec=>?_) (by omega)
 ·unfold ZX js;dsimp only;rw[if_pos (by rw[decide_eq_true_eq];omega),if_pos (gU _ _ (by omega)),Int.toNat_natCast,hg];simp only[U,Gq,vM,asBool,Bool.not_not,ak (show k<9223372036854775807 by omega),ak (show j<9223372036854775807 by omega),gU j x.length (by omega),if_true,Int.toNat_natCast,List.getElem?_eq_getElem (show j<x.length by omega)]
 ·unfold ZX js;dsimp only;rw[if_neg (by rw[hx];simp)];simp only[Int.toNat_natCast,Int.toNat_zero,Nat.sub_zero,List.drop_zero];rw[if_pos (by exact⟨by omega,by omega,by omega,trivial⟩),if_pos (by exact⟨trivial,trivial,by omega,by omega⟩),if_pos (by refine⟨by omega,by omega,?_,trivial⟩;simp only[List.length_append,List.length_take,List.length_replicate,List.length_drop];omega)];unfold O0;rw[List.take_append_of_le_length (by simp;omega),List.take_take,Nat.min_self]
 ·unfold jr;dsimp only;rw[if_pos (by rw[decide_eq_true_eq];omega),if_pos (gU _ _ (by simpa using iM)),Int.toNat_natCast,List.getElem?_map,List.getElem?_eq_getElem iM];simp only[Option.map_some,U,Gq,vM,asBool,ak (show k<9223372036854775807 by omega),dU];cases hp:IF i N.ah[k]with
  |true=>simp only[Bool.not_true,Bool.false_eq_true,if_false,if_true]
  |false=>simp only[Bool.not_false,if_true,Bool.false_eq_true,if_false];rw[if_neg (by rw[decide_eq_true_eq];omega)];rfl
 ·unfold jr;dsimp only;rw[if_neg (by simp)];rfl
theorem Mp(x:ao):setCells 5 x.pv 3 1 (.bool false)=({x with yf:=false}:ao).pv:=rfl
theorem Mq(x:ao):setCells 5 x.pv 4 1 (.bool false)=({x with sV:=false}:ao).pv:=rfl
theorem ZY(x:bq)(l:List ao):setRow 8 x.mW 7 (.cK 5 (l.map ao.pv))=({x with calls:=l}:bq).mW:=rfl
theorem QK(N:ag)(m:eZ)(h:Dv N)(hm:m.Ok)(hv:(dg N).2.2=0)(hc:m.calls.length≤1000)(rec:_→Option PV):jt bI (T4 N m N.runs.length) rec=some (Rs N m):=by
 have hr:=h.runs;have hp:=wm (N.au.map aS.pv) (by simpa using h.au);have ht:=u7 N m (by
  have:1000≤maxLen:=by decide
  omega)
 unfold T4 jt;dsimp only;rw[if_neg (by simp),hp];simp only[U,ab,if_true,QJ,tu,TV,ht];rw[F5];unfold Rs Bi Iy;simp only[dU,decide_eq_true_eq];by_cases k5:m.kind=5
 ·simp only[k5,if_true];cases IG:yC N.runs m with
  |some i=>simp only[bA,List.length_cons,List.length_nil,Nat.reduceAdd,if_true,U,List.getD_cons_zero,List.getD_cons_succ,asInt,asBool,Option.isSome_some];rfl
  |none=>
   have eS:=oG m.calls N.stops.length 0 3155932800 hm.calls.1;simp only[res]at eS;have ZZ:=vL m.calls (by omega);simp only[bA,List.length_cons,List.length_nil,Nat.reduceAdd,if_true,U,List.getD_cons_zero,List.getD_cons_succ,asInt,asBool,Option.isSome_none,Bool.false_eq_true,if_false,List.length_map,aW,Bool.or_eq_true,decide_eq_true_eq,eS,l0];by_cases la:m.bd<0∨m.bd≥(N.af.length:Int)
   ·rw[if_pos la,if_pos la];rfl
   ·rw[if_neg la,if_neg la];by_cases he:(bj m.calls (N.stops.length:Int) 0 3155932800).2=0
    ·rw[if_pos he,if_neg (show¬((N.runs.length:Int)≥1024) by omega),ZZ];simp only[U,ab,if_true,he,ne_eq,not_true,if_false,if_neg (show¬(N.runs.length≥1024) by omega)];rw[if_pos (by
      have:101*80≤aa:=by decide
      rw[List.length_append,List.length_map,List.length_singleton];omega)]
     rw[List.map_append,gR];have:(N.runs++[C2 m]).map bq.pv=N.runs.map bq.pv++[.agg [.int .i64 (-1),.int .i64 m.day,.int .i64 m.inst,.str m.cX,.int .i64 m.bd,.bool m.free,.bool false,.rs 5 (m.calls.map ao.pv)]]:=by simp[C2,bq.pv]
     simp only[ag.pv,this,if_true];rfl
    ·rw[if_neg he,if_neg he,if_pos he,if_neg he];rfl
 ·simp only[if_neg k5];cases IG:yC N.runs m with
  |none=>simp only[bA,List.length_cons,List.length_nil,Nat.reduceAdd,if_true,U,List.getD_cons_zero,List.getD_cons_succ,asInt,asBool,Bool.not_false];rfl
  |some i=>
   obtain⟨hi,As,_⟩:=uX IG;have pq:ae (i:Int) N.runs.length:=⟨by omega,by omega⟩;have s9:=uN hv N.runs[i] (List.getElem_mem hi);simp only[bA,List.length_cons,List.length_nil,Nat.reduceAdd,if_true,U,List.getD_cons_zero,List.getD_cons_succ,asInt,asBool,Bool.not_true,Bool.false_eq_true,if_false,l5 _ _ hi,List.getElem?_eq_getElem hi,pq,Da,Int.toNat_natCast,List.length_map,aW,cT,Bool.or_eq_true,decide_eq_true_eq];have Rk:((decide (m.kind=1)||decide (m.kind=3))&&(decide (m.call<0)||decide (m.call≥(N.runs[i].calls.length:Int))))=decide ((m.kind=1∨m.kind=3)∧(m.call<0∨m.call≥(N.runs[i].calls.length:Int))):=by rw[Bool.eq_iff_iff];simp
   rw[Rk];simp only[decide_eq_true_eq];by_cases hn:(m.kind=1∨m.kind=3)∧(m.call<0∨m.call≥(N.runs[i].calls.length:Int))
   ·rw[if_pos hn,if_pos hn];rfl
   rw[if_neg hn,if_neg hn];by_cases k1:m.kind=1
   ·simp only[k1,if_true];have GP:¬(m.call<0∨m.call≥(N.runs[i].calls.length:Int)):=fun hh=>hn ⟨.inl k1,hh⟩;have afM:=not_or.1 GP;unfold prop;rw[if_neg GP,if_neg (show¬(m.call<0∨m.call≥(N.runs[i].calls.length:Int))from GP)];by_cases hs:m.bm< -43200∨m.bm>43200
    ·rw[if_pos hs,if_pos hs];rfl
    rw[if_neg hs,if_neg hs];obtain⟨c,BG⟩:∃c:Nat,m.call=(c:Int):=⟨m.call.toNat,by omega⟩;have tq:c<N.runs[i].calls.length:=by omega
    have hlen:=h.calls N.runs[i] (List.getElem_mem hi);have ho:=yn N.runs[i].calls (by
     have:1000≤maxLen:=by decide
     omega)
    have hrq:Pj (cell N.runs[i].mW 7)=some (.rs 5 (N.runs[i].calls.map ao.pv)):=rfl;simp only[hrq,U,ho,asBool];cases Z0:ot N.runs[i].calls with
    |false=>rfl
    |true=>
     have dh:0≤(N.runs[i].calls.length:Int)∧(N.runs[i].calls.length:Int)≤(N.runs[i].calls.length:Int)∧(N.runs[i].calls.length:Int).toNat*32≤aa∧0<32∧0<5:=by
      have:1000*32≤aa:=by decide
      refine⟨by omega,by omega,?_,by decide,by decide⟩;rw[Int.toNat_natCast];omega
     rw[if_neg (by decide),if_pos (by rw[Int.toNat_natCast]at dh;exact dh)];simp only[BG,Int.toNat_natCast];obtain⟨a1,a2⟩:=Gl Z0 tq (show-43200≤m.bm by omega) (show m.bm≤43200 by omega);have hA:=T8 N h i c hi tq Z0 _ a1 (by omega);have U6:∀z:PV,List.take (List.replicate N.runs[i].calls.length z).length (N.runs[i].calls.map ao.pv)++List.drop N.runs[i].calls.length (List.replicate N.runs[i].calls.length z)=N.runs[i].calls.map ao.pv:=fun z=>by rw[List.length_replicate,List.take_of_length_le (by simp),List.drop_eq_nil_of_le (by simp),List.append_nil]
     have hS:∀A out,Mo N i c A 0 out=((i:Int),(c:Int),A,(N.runs[i].calls.length:Int),0,(i:Int),N.runs.map bq.mW,out,N.aR,N.within,N.cap,0,0,0,N.stops.map Stop.pv,N.af.map ax.pv,N.ah.map aC.pv,N.paths.map Path.pv,N.au.map aS.pv,()):=fun A out=>by unfold Mo;rw[List.getElem?_eq_getElem hi];rfl
     rw[hS]at hA;have hF:∀o,(match fb (N.runs[i].calls.drop c) (lr N.runs[i].calls c m.bm)with|some r=>some (PV.aZ [(Gp N i (N.runs[i].calls.take c++r)).pv,.int .i64 0])|none=>some (PV.aZ [z9,.int .i64 10]))=o→bI.run dF ((i:Int),(c:Int),lr N.runs[i].calls c m.bm,(N.runs[i].calls.length:Int),0,(i:Int),N.runs.map bq.mW,N.runs[i].calls.map ao.pv,N.aR,N.within,N.cap,0,0,0,N.stops.map Stop.pv,N.af.map ax.pv,N.ah.map aC.pv,N.paths.map Path.pv,N.au.map aS.pv,())=o:=fun o ho=>hA.trans ho;have hlm:=ig;obtain⟨s0,s1,s2⟩:=kU Z0 c tq;have ub:∀A,A=lr N.runs[i].calls c m.bm→bI.run dF ((i:Int),(c:Int),A,(N.runs[i].calls.length:Int),0,(i:Int),N.runs.map bq.mW,N.runs[i].calls.map ao.pv,N.aR,N.within,N.cap,0,0,0,N.stops.map Stop.pv,N.af.map ax.pv,N.ah.map aC.pv,N.paths.map Path.pv,N.au.map aS.pv,())=some (if(match(match fb (N.runs[i].calls.drop c) (lr N.runs[i].calls c m.bm)with|some r=>(some (N.runs[i].calls.take c++r),(0:Int))|none=>(none,10))with|(some l,_)=>(({N with runs:=N.runs.set i {N.runs[i]with calls:=l}}:ag),(0:Int))|(none,e)=>(N,e)).2=0 then PV.aZ [(match(match fb (N.runs[i].calls.drop c) (lr N.runs[i].calls c m.bm)with|some r=>(some (N.runs[i].calls.take c++r),(0:Int))|none=>(none,10))with|(some l,_)=>(({N with runs:=N.runs.set i {N.runs[i]with calls:=l}}:ag),(0:Int))|(none,e)=>(N,e)).1.pv,.int .i64 0]else .aZ [z9,.int .i64 (match(match fb (N.runs[i].calls.drop c) (lr N.runs[i].calls c m.bm)with|some r=>(some (N.runs[i].calls.take c++r),(0:Int))|none=>(none,10))with|(some l,_)=>(({N with runs:=N.runs.set i {N.runs[i]with calls:=l}}:ag),(0:Int))|(none,e)=>(N,e)).2]):=by
      intro A tw;subst tw;apply hF;cases fb (N.runs[i].calls.drop c) (lr N.runs[i].calls c m.bm)with
      |none=>rfl
      |some r=>simp only[Gp,List.getElem?_eq_getElem hi];rfl
     cases c with
     |zero=>rw[if_neg (by decide),if_pos (gU _ _ tq)];simp only[List.getElem?_map,List.getElem?_eq_getElem tq,Option.map_some,U,pN,asInt,if_true,U6];refine ub _ ?_;rw[wrap_small (by omega) (by omega)];unfold lr;rw[List.getElem?_eq_getElem tq];simp only[eT,Option.map_some,Option.map_none,Option.getD_none,Option.getD_some];by_cases hx:N.runs[i].calls[0].arr+m.bm<0<;>simp[hx]
     |succ j=>
      have hj:j<N.runs[i].calls.length:=by omega
      rw[if_pos (by omega),mE j (by omega),if_pos (gU _ _ hj)];simp only[Int.toNat_natCast,List.getElem?_map,List.getElem?_eq_getElem hj,Option.map_some,U,pN,pO,asInt,if_true,U6,gU _ _ tq,List.getElem?_eq_getElem tq];refine ub _ ?_;rw[wrap_small (by omega) (by omega)];unfold lr;rw[List.getElem?_eq_getElem tq];simp only[eT,List.getElem?_eq_getElem hj,Option.map_some,Option.getD_some]
   simp only[if_neg k1];by_cases k2:m.kind=2
   ·simp only[k2,if_true,l5 _ _ hi,U,T7,oJ];rfl
   simp only[if_neg k2];by_cases k3:m.kind=3
   ·simp only[k3,if_true];have GP:=not_or.1 (fun hh=>hn ⟨.inr k3,hh⟩:¬(m.call<0∨m.call≥(N.runs[i].calls.length:Int)));obtain⟨c,BG⟩:∃c:Nat,m.call=(c:Int):=⟨m.call.toNat,by omega⟩;have tq:c<N.runs[i].calls.length:=by omega
    simp only[BG,Int.toNat_natCast,gU c _ tq,if_true,List.getElem?_map,List.getElem?_eq_getElem tq,Option.map_some,U,Mp,←List.map_set,ZY,List.length_set,List.length_map,pq,List.getElem?_set_self hi,Da,List.getElem?_set_self tq,Mq,List.set_set,gR];simp only[Ay,List.getElem?_eq_getElem tq];rfl
   simp only[if_neg k3];by_cases k4:m.kind=4
   ·simp only[k4,if_true];have eS:=oG m.calls N.stops.length 0 3155932800 hm.calls.1;simp only[res]at eS;have ZZ:=vL m.calls (by omega);simp only[eS,U,bA,List.length_cons,List.length_nil,Nat.reduceAdd,if_true,List.getD_cons_zero,List.getD_cons_succ,asInt,l0];by_cases he:(bj m.calls (N.stops.length:Int) 0 3155932800).2=0
    ·simp only[he,ZZ,U,ab,if_true,ne_eq,not_true,if_false];rw[Ua N h i,T6,qd];unfold O0;rw[oJ];rfl
    ·rw[if_neg he,if_neg he,if_pos he,if_neg he];rfl
   simp only[if_neg k4];rfl
theorem O1(x:bq)(l:List PV):(if(8:Nat)=1 then PV.cK 5 l else .agg (cell x.pv 0::cell x.pv 1::cell x.pv 2::cell x.pv 3::cell x.pv 4::cell x.pv 5::cell x.pv 6::.cK 5 l::over [] []))=.agg [.int .i64 x.cX,.int .i64 x.day,.int .i64 x.inst,.str x.id,.int .i64 x.bd,.bool x.free,.bool x.rj,.cK 5 l]:=rfl
theorem Mr(N:ag)(m:eZ)(h:Dv N)(hm:m.Ok)(hc:m.calls.length≤1000):bl [N.pv,m.pv]=some (va N m):=by
 have hr:=h.runs;have T9:1003<rounds:=by decide
 have AJ:=CR N h.ok (by have:=h.paths;omega);have hmk:=Iw m hm;have f1:=CS (N.stops.map Stop.pv) (by simpa using h.stops);have f2:=Aq (N.af.map ax.pv) (by simpa using h.af);have f3:=EH (N.runs.map bq.pv) (by simp;omega);have f4:=CT (N.ah.map aC.pv) (by simpa using h.ah);have f5:=uQ (N.paths.map Path.pv) (by simpa using h.paths);simp only[bl,mQ,mF,nW,nX,nY,nZ,oa,ob,oc,od,og,U,tu,AJ];simp only[ga,bA,List.length_cons,List.length_nil,Nat.reduceAdd,if_true,List.getD_cons_zero,List.getD_cons_succ,asInt,U,AU,AV,AW,AX,AY,AZ,A0,A1,A2,A3,A4,tf,tg,yg,bh,ab,asBool,TV,hmk,l0,f1,f2,f3,f4,f5,List.length_map];unfold va;by_cases hv:(dg N).2.2=0
 ·rw[if_pos hv,if_pos hv];by_cases he:eM m=0
  ·rw[if_pos he,if_pos he];refine bp (T4 N m) N.runs.length (fun k hk rec=>?_) (fun rec=>QK N m h hm hv hc rec) (by omega) (by unfold T4;rw[Ie];rfl);have fc:=CU (N.runs[k].calls.map ao.pv) (by simpa using h.calls _ (List.getElem_mem hk));unfold T4 jt;dsimp only;rw[if_pos (by rw[decide_eq_true_eq];omega),if_pos (F6 _ _ _ _ hk),Int.toNat_natCast,OG _ _ _ _ hk];simp only[U,AQ,fc,ab,if_true,F6 _ _ _ _ hk,O1,ak (show k<9223372036854775807 by omega)];have:=OH bq.mW bq.pv N.runs k hk;rw[←this];rfl
  ·rw[if_neg he,if_neg he];rfl
 ·rw[if_neg hv,if_neg hv];rfl
structure nu(q:PV)(m:eZ):Prop where
 hA:asAgg 13 q=some ()
 h0:cell q 0=.int .i64 m.source
 h1:cell q 1=.int .i64 m.seq
 h2:cell q 2=.int .i64 m.eY
 h3:cell q 3=.int .i64 m.du
 h4:cell q 4=.int .i64 m.kind
 h5:cell q 5=.str m.cX
 h6:cell q 6=.int .i64 m.day
 h7:cell q 7=.int .i64 m.inst
 h8:cell q 8=.int .i64 m.call
 h9:cell q 9=.int .i64 m.bm
 GN:cell q 10=.int .i64 m.bd
 Z1:cell q 11=.bool m.free
 Z2:ab 5 (cell q 12)=some (m.calls.map ao.pv)
theorem acW(m:eZ):nu m.pv m:=⟨rfl,rfl,rfl,rfl,rfl,rfl,rfl,rfl,rfl,rfl,rfl,rfl,rfl,rfl⟩
def O2(q:PV):PV:=.agg [cell q 0,cell q 1,cell q 2,cell q 3,cell q 4,cell q 5,cell q 6,cell q 7,cell q 8,cell q 9,cell q 10,cell q 11,cell q 12]
theorem nu.agg{q:PV}{m:eZ}(h:nu q m):nu (O2 q) m:=⟨rfl,h.h0,h.h1,h.h2,h.h3,h.h4,h.h5,h.h6,h.h7,h.h8,h.h9,h.GN,h.Z1,h.Z2⟩
structure Az(p:PV)(N:ag):Prop where
 hA:asAgg 9 p=some ()
 h0:ab 4 (cell p 0)=some (N.stops.map Stop.pv)
 h1:ab 3 (cell p 1)=some (N.af.map ax.pv)
 h2:ab 8 (cell p 2)=some (N.runs.map bq.pv)
 h3:ab 5 (cell p 3)=some (N.ah.map aC.pv)
 h4:ab 4 (cell p 4)=some (N.paths.map Path.pv)
 h5:ab 6 (cell p 5)=some (N.au.map aS.pv)
 h6:asInt .i64 (cell p 6)=some N.aR
 h7:asInt .i64 (cell p 7)=some N.within
 h8:asInt .i64 (cell p 8)=some N.cap
theorem O3(N:ag):Az N.pv N:=⟨rfl,rfl,rfl,rfl,rfl,rfl,rfl,rfl,rfl,rfl⟩
theorem Z3(x:eZ):ab 5 (cell x.pv 12)=some (x.calls.map ao.pv):=rfl
theorem IH{q:PV}{m:eZ}(hq:nu q m):cJ [q]=cJ [m.pv]:=by simp only[cJ,mR,hq.hA,hq.h0,hq.h1,hq.h2,hq.h3,hq.h4,hq.h5,hq.h6,hq.h7,hq.h8,hq.h9,hq.GN,hq.Z1,hq.Z2,AU,AV,AW,AX,AY,AZ,A0,A1,A2,A3,A4,tf,tg,Z3]
theorem AA{p q:PV}{N:ag}{m:eZ}(hp:Az p N)(hq:nu q m):bK [p,q]=bK [N.pv,m.pv]:=by simp only[bK,lx,hp.hA,hp.h0,hp.h1,hp.h2,hp.h3,hp.h4,hp.h5,hp.h6,hp.h7,hp.h8,hq.hA,hq.h0,hq.h1,hq.h2,hq.h3,hq.h4,hq.h5,hq.h6,hq.h7,hq.h8,hq.h9,hq.GN,hq.Z1,hq.Z2,mF,nW,nX,nY,nZ,oa,ob,oc,od,og,AU,AV,AW,AX,AY,AZ,A0,A1,A2,A3,A4,tf,tg,Z3]
theorem Ms{p q:PV}{N:ag}{m:eZ}(hp:Az p N)(hq:nu q m):bl [p,q]=bl [N.pv,m.pv]:=by simp only[bl,mQ,hp.hA,hp.h0,hp.h1,hp.h2,hp.h3,hp.h4,hp.h5,hp.h6,hp.h7,hp.h8,hq.hA,hq.h0,hq.h1,hq.h2,hq.h3,hq.h4,hq.h5,hq.h6,hq.h7,hq.h8,hq.h9,hq.GN,hq.Z1,hq.Z2,mF,nW,nX,nY,nZ,oa,ob,oc,od,og,AU,AV,AW,AX,AY,AZ,A0,A1,A2,A3,A4,tf,tg,Z3,U]
end Go.Ab.Tt
