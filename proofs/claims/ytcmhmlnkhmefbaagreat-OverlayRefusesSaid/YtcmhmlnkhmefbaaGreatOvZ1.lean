import Derived.Test.YtcmhmlnkhmefbaaGreatNkP2
namespace Go.Ab.Tt
set_option maxRecDepth 100000
set_option linter.unusedVariables false
set_option linter.unusedSimpArgs false
structure iX where
 source:Int
 seq:Int
 lJ:Int
 iC:Int
 kind:Int
 dv:Bytes
 day:Int
 inst:Int
 call:Int
 bT:Int
 bj:Int
 free:Bool
 calls:List aw
 deriving DecidableEq
def iX.pv(x:iX):PV:=.agg [.int .i64 x.source,.int .i64 x.seq,.int .i64 x.lJ,.int .i64 x.iC,.int .i64 x.kind,.str x.dv,.int .i64 x.day,.int .i64 x.inst,.int .i64 x.call,.int .i64 x.bT,.int .i64 x.bj,.bool x.free,.rs 5 (x.calls.map aw.pv)]
structure iX.jq(M:Nat)(x:iX):Prop where
 source:jT x.source
 seq:jT x.seq
 lJ:jT x.lJ
 iC:jT x.iC
 kind:jT x.kind
 dv:x.dv.length≤M
 day:jT x.day
 inst:jT x.inst
 call:jT x.call
 bT:jT x.bT
 bj:jT x.bj
 calls:x.calls.length≤M∧∀y∈x.calls,y.jq M
abbrev iX.Ok(x:iX):Prop:=x.jq maxLen
def iX.key(x:iX):Bytes×Int×Int:=(x.dv,x.day,x.inst)
def DT(l:List bE)(m:iX):Option Nat:=(List.range l.length).find? fun k=>decide ((l.map bD)[k]?=some m.key)
theorem Cj{l:List bE}{m:iX}{k:Nat}(h:DT l m=some k):∃hk:k<l.length,bD l[k]=m.key∧∀j,(hj:j<k)→bD (l[j]'(by omega))≠m.key:=by
 unfold DT at h;rw[List.find?_range_eq_some]at h;obtain⟨h1,h2,h3⟩:=h;have hk:k<l.length:=by simpa using h2
 refine⟨hk,?_,fun j hj hc=>?_⟩
 ·simpa[List.getElem?_eq_getElem hk]using h1
 ·have:=h3 j hj;simp[List.getElem?_eq_getElem (show j<l.length by omega),hc]at this
theorem R6{l:List bE}{m:iX}(h:DT l m=none):m.key∉l.map bD:=by
 unfold DT at h;rw[List.find?_eq_none]at h;intro hm;obtain⟨k,hk⟩:=List.mem_iff_getElem?.1 hm;have jB:k<l.length:=by have:=(List.getElem?_eq_some_iff.1 hk).1;simpa using this
 exact h k (by simpa using jB) (by simpa using hk)
def gV:Int:=3155932800
def uj(l:List aw):Bool:=(List.range l.length).all fun k=>(l[k]?).elim true fun c=> !(decide (c.arr<((iw l k).map aw.dep).getD 0)||decide (c.dep<c.arr)||decide (c.dep>gV))
def gW(c:aw):Int:=if c.dep-c.arr<30 then c.dep-c.arr else 30
def late(c:aw)(KN:Int):aw:={c with arr:=KN,dep:=if KN+gW c>c.dep then KN+gW c else c.dep}
def gv:List aw→Int→Option (List aw)
 |[],_=>some []
 |c::cs,a=>if(late c a).dep>gV then none else
  match cs with
  |[]=>some [late c a]
  |d::ds=>(gv (d::ds) (d.arr+(late c a).dep-c.dep)).map fun r=>late c a::r
def nf(l:List aw)(n:Nat)(bT:Int):Int:=
 let before:=((iw l n).map aw.dep).getD 0
 let x:=((l[n]?).map aw.arr).getD 0+bT
 if x<before then before else x
def prop(l:List aw)(n:Int)(bT:Int):Option (List aw)×Int:=
 if n<0∨n≥(l.length:Int)then(none,1)else if bT< -43200∨bT>43200 then(none,2)else if uj l=false then(none,10)
 else match gv (l.drop n.toNat) (nf l n.toNat bT)with
 |some r=>(some (l.take n.toNat++r),0)
 |none=>(none,10)
end Go.Ab.Tt
namespace Go.Ab.Tt
set_option maxRecDepth 100000
set_option linter.unusedVariables false
set_option linter.unusedSimpArgs false
theorem pZ(N:ah):(eU N).2.2=0↔(gM N.stops).2=0∧(gm N.ab).2=0∧(ga N.runs N.stops.length N.ab.length).2=0∧(gT N.runs N.ai).2=0∧(cW N.paths N.stops.length).2=0∧(ei N.ar N.aO N.within N.cap).2=0:=by
 unfold eU;by_cases h1:(gM N.stops).2=0
 ·rw[if_pos h1];by_cases h2:(gm N.ab).2=0
  ·rw[if_pos h2];by_cases h3:(ga N.runs N.stops.length N.ab.length).2=0
   ·rw[if_pos h3];by_cases h4:(gT N.runs N.ai).2=0
    ·rw[if_pos h4];by_cases h5:(cW N.paths N.stops.length).2=0
     ·rw[if_pos h5];by_cases h6:(ei N.ar N.aO N.within N.cap).2=0
      ·rw[if_pos h6];simp[h1,h2,h3,h4,h5,h6]
      ·rw[if_neg h6];simp[h6]
     ·rw[if_neg h5];simp[h5]
    ·rw[if_neg h4];simp[h4]
   ·rw[if_neg h3];simp[h3]
  ·rw[if_neg h2];simp[h2]
 ·rw[if_neg h1];simp[h1]
def xw(x:bE)(stops ab:Int):Int:=
 if eM x.id=false then 12 else if(decide (x.dv< -1)||decide (x.inst<0))=true then 2
 else if(decide (x.day<0)||decide (x.day>36524))=true then 11 else if(decide (x.bj<0)||decide (x.bj≥ab))=true then 9
 else(bw x.calls stops 0 3155932800).2
theorem zL(l:List bE)(s r:Int)(k:Nat)(hk:k<l.length):iW l s r k=0↔xw l[k] s r=0∧bD l[k]∉(l.map bD).take k:=by
 unfold iW xw;rw[List.getElem?_eq_getElem hk];simp only;by_cases h1:eM l[k].id=false
 ·rw[if_pos h1,if_pos h1];simp
 ·rw[if_neg h1,if_neg h1];by_cases h2:(decide (l[k].dv< -1)||decide (l[k].inst<0))=true
  ·rw[if_pos h2,if_pos h2];simp
  ·rw[if_neg h2,if_neg h2];by_cases h3:(decide (l[k].day<0)||decide (l[k].day>36524))=true
   ·rw[if_pos h3,if_pos h3];simp
   ·rw[if_neg h3,if_neg h3];by_cases h4:(decide (l[k].bj<0)||decide (l[k].bj≥r))=true
    ·rw[if_pos h4,if_pos h4];simp
    ·rw[if_neg h4,if_neg h4];by_cases h5:(bw l[k].calls s 0 3155932800).2=0
     ·rw[if_pos h5];by_cases h6:bD l[k]∈(l.map bD).take k
      ·simp[h6]
      ·simp[h6,h5]
     ·rw[if_neg h5];simp[h5]
theorem nI(l:List bE)(s r:Int):(ga l s r).2=0↔l.length≤1024∧∀k,(hk:k<l.length)→xw l[k] s r=0∧bD l[k]∉(l.map bD).take k:=by
 unfold ga;by_cases h:l.length>1024
 ·rw[if_pos h];constructor
  ·intro hc;cases hc
  ·rintro⟨h1,_⟩;omega
 ·rw[if_neg h,mc];constructor
  ·intro h0;exact⟨by omega,fun k hk=>(zL l s r k hk).1 (h0 k hk)⟩
  ·rintro⟨_,h0⟩ k hk;exact(zL l s r k hk).2 (h0 k hk)
theorem R7{l:List bE}{s r:Int}{i:Nat}{x:bE}(hi:i<l.length)(hk:bD x=bD l[i])(hx:xw x s r=0)(h:(ga l s r).2=0):(ga (l.set i x) s r).2=0:=by
 rw[nI]at h⊢;have hm:(l.set i x).map bD=l.map bD:=by rw[List.map_set,hk,←List.getElem_map bD (h:=by simpa using hi),List.set_getElem_self]
 refine⟨by rw[List.length_set];exact h.1,fun k kL=>?_⟩;have XN:k<l.length:=by simpa using kL
 rw[hm];obtain⟨h1,h2⟩:=h.2 k XN;by_cases zJ:i=k
 ·subst zJ;rw[List.getElem_set_self];exact⟨hx,by rw[hk];exact h2⟩
 ·rw[List.getElem_set_ne zJ];exact⟨h1,h2⟩
theorem R8{l:List bE}{s r:Int}{x:bE}(hk:bD x∉l.map bD)(hx:xw x s r=0)(hl:l.length<1024)(h:(ga l s r).2=0):(ga (l++[x]) s r).2=0:=by
 rw[nI]at h⊢;refine⟨by simp;omega,fun k kL=>?_⟩;simp only[List.length_append,List.length_cons,List.length_nil]at kL;rw[List.map_append];by_cases bq:k<l.length
 ·rw[List.getElem_append_left bq,List.take_append_of_le_length (by simp;omega)];exact h.2 k bq
 ·have:k=l.length:=by omega
  subst this;rw[List.getElem_append_right (Nat.le_refl _)];simp only[Nat.sub_self,List.getElem_cons_zero];refine⟨hx,?_⟩;rw[List.take_append_of_le_length (by simp),List.take_of_length_le (by simp)];exact hk
def DU(runs:List bE)(p:List aH)(x:aH):Int:=
 if tX x runs.length=true then 9 else if tY x (aC runs x.a).length (aC runs x.b).length=true then 9
 else if eY (aC runs x.a) x.ac≠eY (aC runs x.b) x.bc then 13 else if pc p x (aC runs x.a).length=true then 19
 else if cn x∈p.map cn then 6 else 0
theorem DV(runs:List bE)(l:List aH)(k:Nat)(hk:k<l.length):cD runs l k=DU runs (l.take k) l[k]:=by unfold cD DU;rw[List.getElem?_eq_getElem hk,List.map_take]
def sK(runs:List bE)(l:List aH):Prop:=∀k,(hk:k<l.length)→DU runs (l.take k) l[k]=0
theorem qK(runs:List bE)(l:List aH):(gT runs l).2=0↔l.length≤1024∧sK runs l:=by
 unfold gT sK;by_cases h:l.length>1024
 ·rw[if_pos h];constructor
  ·intro hc;cases hc
  ·rintro⟨h1,_⟩;omega
 ·rw[if_neg h,mc];constructor
  ·intro h0;exact⟨by omega,fun k hk=>by rw[←DV];exact h0 k hk⟩
  ·rintro⟨_,h0⟩ k hk;rw[DV runs l k hk];exact h0 k hk
theorem O3(runs:List bE):sK runs []:=fun k hk=>by simp at hk
theorem wq(runs:List bE)(p:List aH)(x:aH):sK runs (p++[x])↔sK runs p∧DU runs p x=0:=by
 constructor
 ·intro h;refine⟨fun k hk=>?_,?_⟩
  ·have:=h k (by simp;omega);rw[List.getElem_append_left hk,List.take_append_of_le_length (by omega)]at this;exact this
  ·have:=h p.length (by simp);rw[List.getElem_append_right (Nat.le_refl _),List.take_append_of_le_length (Nat.le_refl _),List.take_length]at this;simpa using this
 ·rintro⟨h1,h2⟩ k hk;simp only[List.length_append,List.length_cons,List.length_nil]at hk;by_cases bq:k<p.length
  ·rw[List.getElem_append_left bq,List.take_append_of_le_length (by omega)];exact h1 k bq
  ·have:k=p.length:=by omega
   subst this;rw[List.getElem_append_right (Nat.le_refl _),List.take_append_of_le_length (Nat.le_refl _),List.take_length];simpa using h2
theorem su(runs:List bE)(p:List aH)(x:aH):DU runs p x=0↔tX x runs.length=false∧tY x (aC runs x.a).length (aC runs x.b).length=false∧eY (aC runs x.a) x.ac=eY (aC runs x.b) x.bc∧pc p x (aC runs x.a).length=false∧cn x∉p.map cn:=by
 unfold DU;cases tX x runs.length with
 |true=>simp
 |false=>
  cases tY x (aC runs x.a).length (aC runs x.b).length with
  |true=>simp
  |false=>
   by_cases h3:eY (aC runs x.a) x.ac=eY (aC runs x.b) x.bc
   ·cases pc p x (aC runs x.a).length with
    |true=>simp[h3]
    |false=>
     by_cases h5:cn x∈p.map cn
     ·simp[h3,h5]
     ·simp[h3,h5]
   ·simp[h3]
theorem Ck{x:aH}{R:Int}(h:tX x R=false):(0≤x.a∧x.a<R)∧(0≤x.b∧x.b<R)∧x.a≠x.b:=by unfold tX at h;simp only[Bool.or_eq_false_iff,Bool.not_eq_false',Bool.and_eq_true,decide_eq_true_eq,decide_eq_false_iff_not]at h;exact⟨h.1.1,h.1.2,h.2⟩
variable{runs zM:List bE}
theorem pn{l:List aH}(h:sK runs l)(hR:runs.length≤zM.length)(hc:∀x∈l,∀v,v=x.a∨v=x.b→(aC zM v).length=(aC runs v).length∧∀c,eY (aC zM v) c=eY (aC runs v) c):sK zM l:=by intro k hk;have h0:=h k hk;rw[su]at h0⊢;obtain⟨h1,h2,h3,h4,h5⟩:=h0;obtain⟨ea,sa⟩:=hc _ (List.getElem_mem hk) _ (Or.inl rfl);obtain⟨eb,sb⟩:=hc _ (List.getElem_mem hk) _ (Or.inr rfl);rw[ea,eb,sa,sb];refine⟨?_,h2,h3,h4,h5⟩;obtain⟨g1,g2,g3⟩:=Ck h1;unfold tX;simp only[Bool.or_eq_false_iff,Bool.not_eq_false',Bool.and_eq_true,decide_eq_true_eq,decide_eq_false_iff_not];exact⟨⟨⟨g1.1,by omega⟩,⟨g2.1,by omega⟩⟩,g3⟩
theorem zN{p:List aH}{x:aH}{A:Int}(h:pc p x A=false):x.stay=false∨(x.ac+1=A∧x.bc=0∧nx p x.a=none∧x.b∉jH p∧lv p x.b x.a (p.length+1)=false):=by
 unfold pc at h;cases hs:x.stay with
 |false=>exact Or.inl rfl
 |true=>
  rw[hs,Bool.true_and]at h;simp only[Bool.or_eq_false_iff,Bool.not_eq_false',decide_eq_true_eq,decide_eq_false_iff_not]at h;obtain⟨⟨⟨⟨h1,h2⟩,h3⟩,h4⟩,h5⟩:=h;refine Or.inr ⟨h1,h2,?_,h4,h5⟩;cases hn:nx p x.a with
  |none=>rfl
  |some w=>rw[hn]at h3;cases h3
theorem abR(l:List aH)(h:sK runs l):∀x∈l,x.stay=true→nx l x.a=some x.b:=by
 induction l using tV with
 |h0=>intro x hx;cases hx
 |h1 p y ih=>
  rw[wq]at h;obtain⟨hp,hy⟩:=h;rw[su]at hy;intro x hx hs;rw[pS];rcases List.mem_append.1 hx with hx|hx
  ·have h1:=ih hp x hx hs;by_cases hc:(y.stay&&decide (y.a=x.a))=true
   ·simp only[Bool.and_eq_true,decide_eq_true_eq]at hc;rcases zN hy.2.2.2.1 with h2|h2
    ·rw[h2]at hc;cases hc.1
    ·rw[hc.2]at h2;rw[h1]at h2;cases h2.2.2.1
   ·rw[if_neg hc];exact h1
  ·rw[List.mem_singleton]at hx;subst hx;rw[if_pos (by simp[hs])]
theorem Fa(f:aH→Bool)(l:List aH)(h:sK runs l)(hR:runs.length≤zM.length)(hc:∀x∈l,f x=true→∀v,v=x.a∨v=x.b→(aC zM v).length=(aC runs v).length∧∀c,eY (aC zM v) c=eY (aC runs v) c):sK zM (l.filter f):=by
 refine pn (runs:=runs) ?_ hR (fun x hx=>hc x (List.mem_filter.1 hx).1 (List.mem_filter.1 hx).2);clear hc hR;induction l using tV with
 |h0=>exact O3 runs
 |h1 p x ih=>
  rw[wq]at h;obtain⟨hp,hx⟩:=h;rw[List.filter_append];by_cases hf:f x=true
  ·rw[List.filter_cons_of_pos hf,List.filter_nil,wq];refine⟨ih hp,?_⟩;rw[su]at hx⊢;obtain⟨h1,h2,h3,h4,h5⟩:=hx;have N2:∀y∈p.filter f,y∈p:=fun y hy=>(List.mem_filter.1 hy).1;refine⟨h1,h2,h3,?_,fun hm=>h5 ?_⟩
   ·rcases zN h4 with hs|⟨g1,g2,g3,g4,g5⟩
    ·unfold pc;rw[hs];rfl
    ·have hnx:∀v w,nx (p.filter f) v=some w→nx p v=some w:=fun v w MN=>by obtain⟨y,hy,YF,rfl,rfl⟩:=Kt MN;exact abR p hp y (N2 y hy) YF
     have hit:∀t v w,it (nx (p.filter f)) t v=some w→it (nx p) t v=some w:=by
      intro t;induction t with
      |zero=>intro v w h;exact h
      |succ t iht=>
       intro v w MN;have UF:(nx (p.filter f) v).bind (it (nx (p.filter f)) t)=some w:=MN;cases hn:nx (p.filter f) v with
       |none=>rw[hn]at UF;cases UF
       |some u=>rw[hn]at UF;show(nx p v).bind (it (nx p) t)=some w;rw[hnx v u hn];exact iht u w UF
     have k1:(nx (p.filter f) x.a).isSome=false:=by
      cases hn:nx (p.filter f) x.a with
      |none=>rfl
      |some w=>rw[hnx _ _ hn]at g3;cases g3
     have k2:decide (x.b∈jH (p.filter f))=false:=by rw[decide_eq_false_iff_not];intro hm;apply g4;unfold jH at hm⊢;obtain⟨y,hy,hyb⟩:=List.mem_map.1 hm;obtain⟨hy1,hy2⟩:=List.mem_filter.1 hy;exact List.mem_map.2 ⟨y,List.mem_filter.2 ⟨N2 y hy1,hy2⟩,hyb⟩
     have k3:lv (p.filter f) x.b x.a ((p.filter f).length+1)=false:=by unfold lv at g5⊢;rw[List.any_eq_false]at g5⊢;intro t ht hc;have hle:=List.length_filter_le f p;refine g5 t (by simp at ht⊢;omega) ?_;rw[decide_eq_true_eq]at hc⊢;exact hit _ _ _ hc
     unfold pc;rw[k1,k2,k3,g1,g2];simp
   ·obtain⟨y,hy,hk⟩:=List.mem_map.1 hm;exact List.mem_map.2 ⟨y,N2 y hy,hk⟩
  ·rw[List.filter_cons_of_neg hf,List.filter_nil,List.append_nil];exact ih hp
end Go.Ab.Tt
namespace Go.Ab.Tt
set_option maxRecDepth 100000
set_option linter.unusedVariables false
set_option linter.unusedSimpArgs false
def FO(n a b:Int):Option aw→List aw→Prop
 |_,[]=>True
 |p,c::cs=>ll c p n a b=0∧FO n a b (some c) cs
theorem M7(n a b:Int)(l:List aw):∀p,FO n a b p l↔∀k,(hk:k<l.length)→ll l[k] (if k=0 then p else l[k-1]?) n a b=0:=by
 induction l with
 |nil=>intro p;exact⟨fun _ k hk=>by simp at hk,fun _=>trivial⟩
 |cons c cs ih=>
  intro p;show(ll c p n a b=0∧FO n a b (some c) cs)↔_;rw[ih];constructor
  ·rintro⟨h1,h2⟩ k hk;cases k with
   |zero=>exact h1
   |succ k=>
    have:=h2 k (by simpa using hk);cases k with
    |zero=>simpa using this
    |succ k=>simpa using this
  ·intro h;refine⟨h 0 (Nat.zero_lt_succ _),fun k hk=>?_⟩;have:=h (k+1) (by simpa using hk);cases k with
   |zero=>simpa using this
   |succ k=>simpa using this
theorem uk(l:List aw)(n a b:Int):(bw l n a b).2=0↔2≤l.length∧l.length≤32∧FO n a b none l:=by
 have he:(∀k,k<l.length→my l n a b k=0)↔FO n a b none l:=by
  rw[M7];constructor
  ·intro h k hk;have:=h k hk;unfold my at this;rw[List.getElem?_eq_getElem hk]at this;cases k with
   |zero=>exact this
   |succ k=>exact this
  ·intro h k hk;have:=h k hk;unfold my;rw[List.getElem?_eq_getElem hk];cases k with
   |zero=>exact this
   |succ k=>exact this
 rw[←he];constructor
 ·intro h;exact⟨(uc h).1,(uc h).2,zG h⟩
 ·rintro⟨h1,h2,h3⟩;unfold bw;rw[if_neg (by simp;omega)];exact(mc _ _).2 h3
theorem wu(n a b:Int)(l1 l2:List aw):∀p,FO n a b p (l1++l2)↔FO n a b p l1∧FO n a b (if l1.length=0 then p else l1[l1.length-1]?) l2:=by
 induction l1 with
 |nil=>intro p;simp[FO]
 |cons c cs ih=>
  intro p;show(ll c p n a b=0∧FO n a b (some c) (cs++l2))↔(ll c p n a b=0∧FO n a b (some c) cs)∧_;rw[ih,and_assoc];have:(if(c::cs).length=0 then p else(c::cs)[(c::cs).length-1]?)=if cs.length=0 then some c else cs[cs.length-1]?:=by
   cases cs with
   |nil=>rfl
   |cons d ds=>simp
  rw[this]
variable{p:Option aw}
theorem Cl{c:aw}{n a b:Int}(h1:0≤c.stop)(h2:c.stop<n)(h3:∀q,p=some q→q.stop≠c.stop)(h4:a≤c.arr)(h5:c.arr≤c.dep)(h6:c.dep≤b)(h7:∀q,p=some q→q.dep≤c.arr):ll c p n a b=0:=by
 unfold ll;rw[if_neg (by simp;omega)];cases p with
 |none=>dsimp only;rw[if_neg (by simp),if_neg (by simp;omega)]
 |some q=>dsimp only;have:=h3 q rfl;have:=h7 q rfl;rw[if_neg (by simpa using h3 q rfl),if_neg (by simp;omega)]
theorem sw{c:aw}{n a b:Int}(h:ll c p n a b=0):0≤c.stop∧c.stop<n∧∀q,p=some q→q.stop≠c.stop:=by
 unfold ll at h;by_cases hA:(decide (c.stop<0)||decide (c.stop≥n))=true
 ·rw[if_pos hA]at h;cases h
 ·rw[if_neg hA]at h;simp only[Bool.or_eq_true,decide_eq_true_eq,not_or]at hA;refine⟨by omega,by omega,fun q hq hc=>?_⟩;subst hq;dsimp only at h;rw[if_pos (by simpa using hc)]at h;cases h
theorem R9(n:Int)(cs:List aw):∀(a:Int)(p:Option aw)(r:List aw),FO n 0 gV p cs→gv cs a=some r→(∀q,p=some q→q.dep≤a)→0≤a→FO n 0 gV p r∧r.map aw.stop=cs.map aw.stop:=by
 induction cs with
 |nil=>intro a p r _ hr _ _;simp only[gv,Option.some.injEq]at hr;subst hr;exact⟨trivial,rfl⟩
 |cons c cs ih=>
  intro a p r wB hr hp ha;obtain⟨hc,Io⟩:=wB;obtain⟨g1,g2,g3⟩:=sw hc;obtain⟨k1,k2,k3,k4⟩:=pe hc;have hd:0≤gW c:=by unfold gW;split<;>omega
  have aeD:a≤(late c a).dep:=by show a≤if a+gW c>c.dep then a+gW c else c.dep;split<;>omega
  have hcd:c.dep≤(late c a).dep:=by show c.dep≤if a+gW c>c.dep then a+gW c else c.dep;split<;>omega
  unfold gv at hr;by_cases uo:(late c a).dep>gV
  ·rw[if_pos uo]at hr;cases hr
  ·rw[if_neg uo]at hr;have hE:ll (late c a) p n 0 gV=0:=Cl g1 g2 g3 ha aeD (by omega) hp;cases cs with
   |nil=>simp only[Option.some.injEq]at hr;subst hr;exact⟨⟨hE,trivial⟩,rfl⟩
   |cons d ds=>
    simp only[Option.map_eq_some_iff]at hr;obtain⟨r',qM,rfl⟩:=hr;obtain⟨hdE,YQ⟩:=Io;obtain⟨d1,d2,d3,d4⟩:=pe hdE;obtain⟨e1,e2,e3⟩:=sw hdE;have hdc:=d4 c rfl;have aeE:FO n 0 gV (some (late c a)) (d::ds)→FO n 0 gV (some (late c a)) r'∧r'.map aw.stop=(d::ds).map aw.stop:=fun hh=>ih _ _ r' hh qM (fun q hq=>by cases hq;omega) (by omega);by_cases abS:(late c a).dep≤d.arr
    ·obtain⟨i1,i2⟩:=aeE ⟨Cl e1 e2 (fun q hq=>by cases hq;exact e3 c rfl) d2 d1 d3 (fun q hq=>by cases hq;exact abS),YQ⟩;exact⟨⟨hE,i1⟩,by simp only[List.map_cons,i2];rfl⟩
    ·obtain⟨i1,i2⟩:=ih (d.arr+(late c a).dep-c.dep) (some c) r' ⟨hdE,YQ⟩ qM (fun q hq=>by cases hq;omega) (by omega);refine⟨⟨hE,?_⟩,by simp only[List.map_cons,i2];rfl⟩;cases r' with
     |nil=>trivial
     |cons x xs=>
      obtain⟨j1,j2⟩:=i1;obtain⟨f1,f2,f3⟩:=sw j1;obtain⟨t1,t2,t3,t4⟩:=pe j1;refine⟨Cl f1 f2 (fun q hq=>by cases hq;exact f3 c rfl) t2 t1 t3 (fun q hq=>?_),j2⟩;cases hq;have hx:x.arr=d.arr+(late c a).dep-c.dep:=by
       unfold gv at qM;by_cases pz:(late d (d.arr+(late c a).dep-c.dep)).dep>gV
       ·rw[if_pos pz]at qM;cases qM
       ·rw[if_neg pz]at qM;cases ds with
        |nil=>simp only[Option.some.injEq,List.cons.injEq]at qM;rw[←qM.1];rfl
        |cons d2 ds2=>simp only[Option.map_eq_some_iff,List.cons.injEq]at qM;obtain⟨_,_,h1,_⟩:=qM;rw[←h1];rfl
      omega
theorem UG{l r:List aw}{n:Int}{at_ bT:Int}(h:(bw l n 0 gV).2=0)(hp:prop l at_ bT=(some r,0)):(bw r n 0 gV).2=0∧r.map aw.stop=l.map aw.stop:=by
 rw[uk]at h;obtain⟨h1,h2,h3⟩:=h;unfold prop at hp;by_cases ha:at_<0∨at_≥(l.length:Int)
 ·rw[if_pos ha]at hp;cases hp
 ·rw[if_neg ha]at hp;by_cases hs:bT< -43200∨bT>43200
  ·rw[if_pos hs]at hp;cases hp
  ·rw[if_neg hs]at hp;by_cases ho:uj l=false
   ·rw[if_pos ho]at hp;cases hp
   ·rw[if_neg ho]at hp;cases hl:gv (l.drop at_.toNat) (nf l at_.toNat bT)with
    |none=>rw[hl]at hp;cases hp
    |some r'=>
     rw[hl]at hp;simp only[Prod.mk.injEq,Option.some.injEq,and_true]at hp;generalize hn:at_.toNat=m at hl hp;have hm:m<l.length:=by omega
     rw[←List.take_append_drop m l,wu]at h3;obtain⟨g1,g2⟩:=h3;have hlen:(l.take m).length=m:=by simp;omega
     have Sa:(if(l.take m).length=0 then(none:Option aw)else(l.take m)[(l.take m).length-1]?)=iw l m:=by
      rw[hlen];cases m with
      |zero=>rfl
      |succ m=>rw[if_neg (by omega),List.getElem?_take_of_lt (by omega)];rfl
     rw[Sa]at g2;have eo:∀q,iw l m=some q→0≤q.dep:=by
      intro q hq;have wB:FO n 0 gV none l:=by rw[←List.take_append_drop m l,wu,Sa];exact⟨g1,g2⟩
      cases m with
      |zero=>cases hq
      |succ m=>
       have NO:l[m]?=some q:=hq;have Tg:m<l.length:=by omega
       rw[List.getElem?_eq_getElem Tg]at NO;cases NO;have:=(M7 n 0 gV l none).1 wB m Tg;obtain⟨z1,z2,_,_⟩:=pe this;omega
     have xb:(∀q,iw l m=some q→q.dep≤nf l m bT)∧0≤nf l m bT:=by
      unfold nf;cases hq:iw l m with
      |none=>refine⟨(fun q hq=>by cases hq),?_⟩;simp only[Option.map_none,Option.getD_none];split<;>omega
      |some q=>
       have:=eo q hq;simp only[Option.map_some,Option.getD_some];refine⟨fun q' NO=>?_,?_⟩
       ·cases NO;split<;>omega
       ·split<;>omega
     obtain⟨i1,i2⟩:=R9 n (l.drop m) _ _ r' g2 hl xb.1 xb.2;have T8:r'.length=l.length-m:=by have:=congrArg List.length i2;simpa using this
     rw[←hp];refine⟨?_,?_⟩
     ·rw[uk,wu,Sa];refine⟨?_,?_,g1,i1⟩
      ·simp[T8];omega
      ·simp[T8];omega
     ·rw[List.map_append,i2,←List.map_append,List.take_append_drop]
def ij(m:iX):Int:=
 if wi m.source 0 7=false then 36 else if m.seq<1 then 2
 else if(!wi m.lJ 0 3155932800|| !wi m.iC 0 3155932800||decide (m.lJ≥m.iC))=true then 10
 else if wi m.kind 1 6=false then 35 else if eM m.dv=false then 12 else if wi m.day 0 36524=false then 11 else if m.inst<0 then 2
 else
  let uC:=decide (m.kind=1)||decide (m.kind=3)
  let uS:=decide (m.kind=1)
  let uR:=decide (m.kind=5)
  let uL:=decide (m.kind=4)||decide (m.kind=5)
  if(uC&& !wi m.call 0 31||uS&& !wi m.bT (-43200) 43200||uR&& !wi m.bj 0 63)=true then 2
  else if uL=true∧(bw m.calls 64 0 3155932800).2≠0 then(bw m.calls 64 0 3155932800).2
  else if(!uC&& !decide (m.call=0)|| !uS&& !decide (m.bT=0)|| !uR&& !decide (m.bj=0)|| !uR&&m.free|| !uL&&decide (m.calls.length>0))=true then 1 else 0
theorem Sb{m:iX}(h:ij m=0):eM m.dv=true∧(0≤m.day∧m.day≤36524)∧0≤m.inst∧1≤m.kind∧m.kind≤6:=by
 unfold ij at h;by_cases h1:wi m.source 0 7=false
 ·rw[if_pos h1]at h;cases h
 rw[if_neg h1]at h;by_cases h2:m.seq<1
 ·rw[if_pos h2]at h;cases h
 rw[if_neg h2]at h;by_cases h3:(!wi m.lJ 0 3155932800|| !wi m.iC 0 3155932800||decide (m.lJ≥m.iC))=true
 ·rw[if_pos h3]at h;cases h
 rw[if_neg h3]at h;by_cases h4:wi m.kind 1 6=false
 ·rw[if_pos h4]at h;cases h
 rw[if_neg h4]at h;by_cases h5:eM m.dv=false
 ·rw[if_pos h5]at h;cases h
 rw[if_neg h5]at h;by_cases h6:wi m.day 0 36524=false
 ·rw[if_pos h6]at h;cases h
 rw[if_neg h6]at h;by_cases h7:m.inst<0
 ·rw[if_pos h7]at h;cases h
 simp only[wi,Bool.and_eq_false_iff,decide_eq_false_iff_not,not_or]at h4 h6;refine⟨by simpa using h5,⟨by omega,by omega⟩,by omega,by omega,by omega⟩
def KO(m:iX):bE:=⟨-1,m.day,m.inst,m.dv,m.bj,m.free,false,m.calls⟩
def Cm(l:List aw)(c:Nat):List aw:=match l[c]? with|some k=>l.set c {k with Ho:=false,Cn:=false}|none=>l
def Fb(N:ah)(m:iX):ah×Int:=
 if m.kind=5 then
  if(DT N.runs m).isSome=true then(N,6)else if m.bj<0∨m.bj≥(N.ab.length:Int)then(N,14)
  else if(bw m.calls N.stops.length 0 3155932800).2≠0 then(N,(bw m.calls N.stops.length 0 3155932800).2)
  else if N.runs.length≥1024 then(N,5)else({N with runs:=N.runs++[KO m]},0)
 else match DT N.runs m with
 |none=>(N,16)
 |some i=>match N.runs[i]? with
  |none=>(N,16)
  |some r=>
   if(m.kind=1∨m.kind=3)∧(m.call<0∨m.call≥(r.calls.length:Int))then(N,9)
   else if m.kind=1 then match prop r.calls m.call m.bT with
    |(some l,_)=>({N with runs:=N.runs.set i {r with calls:=l}},0)
    |(none,e)=>(N,e)
   else if m.kind=2 then({N with runs:=N.runs.set i {r with qH:=true}},0)
   else if m.kind=3 then({N with runs:=N.runs.set i {r with calls:=Cm r.calls m.call.toNat}},0)
   else if m.kind=4 then
    if(bw m.calls N.stops.length 0 3155932800).2≠0 then(N,(bw m.calls N.stops.length 0 3155932800).2)
    else({N with runs:=N.runs.set i {r with calls:=m.calls},ai:=N.ai.filter fun l=> !(decide (l.a=(i:Int))||decide (l.b=(i:Int)))},0)
   else(N,0)
end Go.Ab.Tt
namespace Go.Ab.Tt
set_option maxRecDepth 100000
set_option linter.unusedVariables false
set_option linter.unusedSimpArgs false
def core(c:aw):Int×Int×Int:=(c.stop,c.arr,c.dep)
theorem KP{c c':aw}{p p':Option aw}{n a b:Int}(h:core c=core c')(hp:p.map core=p'.map core):ll c p n a b=ll c' p' n a b:=by
 simp only[core,Prod.mk.injEq]at h;obtain⟨h1,h2,h3⟩:=h;unfold ll;rw[h1,h2,h3];cases p with
 |none=>cases p' with
  |none=>rfl
  |some q=>cases hp
 |some q=>cases p' with
  |none=>cases hp
  |some q'=>simp only[Option.map_some,Option.some.injEq,core,Prod.mk.injEq]at hp;obtain⟨g1,g2,g3⟩:=hp;simp only[g1,g3]
theorem Hq{n a b:Int}:∀{l l':List aw}{p p':Option aw},l.map core=l'.map core→p.map core=p'.map core→FO n a b p l→FO n a b p' l'
 |[],[],_,_,_,_,_=>trivial
 |[],_::_,_,_,h,_,_=>by cases h
 |_::_,[],_,_,h,_,_=>by cases h
 |c::cs,c'::Dc,p,p',h,hp,ho=>by simp only[List.map_cons,List.cons.injEq]at h;exact⟨by rw[←KP h.1 hp];exact ho.1,Hq (p:=some c) (p':=some c') h.2 (by simp[h.1]) ho.2⟩
variable{l':List aw}
theorem Fc{n a b:Int}{l:List aw}(h:l.map core=l'.map core)(hr:(bw l n a b).2=0):(bw l' n a b).2=0:=by
 rw[uk]at hr⊢;have hl:l.length=l'.length:=by simpa using congrArg List.length h
 exact⟨by omega,by omega,Hq h rfl hr.2.2⟩
theorem Co(l:List aw)(c:Nat):(Cm l c).map core=l.map core:=by
 unfold Cm;cases hc:l[c]? with
 |none=>rfl
 |some k=>
  simp only;rw[List.map_set];apply List.ext_getElem?;intro j;rw[List.getElem?_set];split
  ·rename_i e;subst e;have bq:=(List.getElem?_eq_some_iff.1 hc).1;rw[if_pos (by simpa using bq),List.getElem?_map,hc];rfl
  ·rfl
theorem O4{l:List aw}(h:l.map core=l'.map core):l.map aw.stop=l'.map aw.stop:=by
 have:∀l:List aw,l.map aw.stop=(l.map core).map Prod.fst:=fun l=>by rw[List.map_map];rfl
 rw[this,this,h]
theorem Cp(cs:List aw)(c:Int):eY cs c=((cs.map aw.stop)[c.toNat]?).getD 0:=by unfold eY;rw[List.getElem?_map]
theorem KQ{cs Dc:List aw}(h:Dc.map aw.stop=cs.map aw.stop):Dc.length=cs.length∧∀c,eY Dc c=eY cs c:=by refine⟨by simpa using congrArg List.length h,fun c=>?_⟩;rw[Cp,Cp,h]
variable{runs:List bE}{x:bE}
theorem uq{i:Nat}{r:bE}(hr:runs[i]?=some r)(h:x.calls.map aw.stop=r.calls.map aw.stop)(v:Int):(aC (runs.set i x) v).length=(aC runs v).length∧∀c,eY (aC (runs.set i x) v) c=eY (aC runs v) c:=by
 by_cases hv:v.toNat=i
 ·subst hv;have bq:=(List.getElem?_eq_some_iff.1 hr).1;have h1:aC (runs.set v.toNat x) v=x.calls:=by unfold aC;rw[List.getElem?_set_self bq];rfl
  have h2:aC runs v=r.calls:=by unfold aC;rw[hr];rfl
  rw[h1,h2];exact KQ h
 ·have h1:aC (runs.set i x) v=aC runs v:=by unfold aC;rw[List.getElem?_set_ne (fun h=>hv h.symm)]
  rw[h1];exact⟨rfl,fun _=>rfl⟩
theorem KS{i:Nat}{v:Int}(hv:v.toNat≠i):aC (runs.set i x) v=aC runs v:=by unfold aC;rw[List.getElem?_set_ne (fun h=>hv h.symm)]
theorem Hr{v:Int}(hv:0≤v∧v<(runs.length:Int)):aC (runs++[x]) v=aC runs v:=by unfold aC;rw[List.getElem?_append_left (by omega)]
theorem DW{l:List aH}(h:sK runs l){x:aH}(hx:x∈l):(0≤x.a∧x.a<(runs.length:Int))∧0≤x.b∧x.b<(runs.length:Int):=by obtain⟨k,hk,rfl⟩:=List.getElem_of_mem hx;have:=h k hk;rw[su]at this;obtain⟨g1,g2,_⟩:=Ck this.1;exact⟨g1,g2⟩
theorem Cq{s r:Int}(h:xw x s r=0):eM x.id=true∧(decide (x.dv< -1)||decide (x.inst<0))=false∧(decide (x.day<0)||decide (x.day>36524))=false∧(decide (x.bj<0)||decide (x.bj≥r))=false∧(bw x.calls s 0 3155932800).2=0:=by
 unfold xw at h;by_cases h1:eM x.id=false
 ·rw[if_pos h1]at h;cases h
 rw[if_neg h1]at h;by_cases h2:(decide (x.dv< -1)||decide (x.inst<0))=true
 ·rw[if_pos h2]at h;cases h
 rw[if_neg h2]at h;by_cases h3:(decide (x.day<0)||decide (x.day>36524))=true
 ·rw[if_pos h3]at h;cases h
 rw[if_neg h3]at h;by_cases h4:(decide (x.bj<0)||decide (x.bj≥r))=true
 ·rw[if_pos h4]at h;cases h
 rw[if_neg h4]at h;exact⟨by simpa using h1,by simpa using h2,by simpa using h3,by simpa using h4,h⟩
theorem Hs{s r:Int}(h1:eM x.id=true)(h2:(decide (x.dv< -1)||decide (x.inst<0))=false)(h3:(decide (x.day<0)||decide (x.day>36524))=false)(h4:(decide (x.bj<0)||decide (x.bj≥r))=false)(h5:(bw x.calls s 0 3155932800).2=0):xw x s r=0:=by unfold xw;rw[if_neg (by simp[h1]),if_neg (by simp[h2]),if_neg (by simp[h3]),if_neg (by simp[h4])];exact h5
theorem Ay{N:ah}(h:(eU N).2.2=0){i:Nat}{r:bE}(hr:N.runs[i]?=some r)(hk:bD x=bD r)(ht:x.dv=r.dv)(mj:x.bj=r.bj)(hc:(bw x.calls N.stops.length 0 3155932800).2=0){l:List aH}(hl:l.length≤1024)(hg:sK (N.runs.set i x) l):(eU {N with runs:=N.runs.set i x,ai:=l}).2.2=0:=by
 rw[pZ]at h⊢;obtain⟨g1,g2,g3,g4,g5,g6⟩:=h;have hi:=(List.getElem?_eq_some_iff.1 hr).1;have hri:N.runs[i]=r:=(List.getElem?_eq_some_iff.1 hr).2;have hE:=((nI _ _ _).1 g3).2 i hi;rw[hri]at hE;obtain⟨e1,e2,e3,e4,e5⟩:=Cq hE.1;simp only[bD,Prod.mk.injEq]at hk;refine⟨g1,g2,?_,(qK _ _).2 ⟨hl,hg⟩,g5,g6⟩;refine R7 hi (by rw[hri];simp[bD,hk]) (Hs ?_ ?_ ?_ ?_ hc) g3
 ·rw[hk.1];exact e1
 ·rw[ht,hk.2.2];exact e2
 ·rw[hk.2.1];exact e3
 ·rw[mj];exact e4
theorem O5(N:ah)(m:iX)(h:(eU N).2.2=0)(hm:ij m=0)(he:(Fb N m).2=0):(eU (Fb N m).1).2.2=0:=by
 obtain⟨m1,m2,m3,m4,m5⟩:=Sb hm;have hz:=(pZ N).1 h;obtain⟨g1,g2,g3,g4,g5,g6⟩:=hz;obtain⟨l1,l2⟩:=(qK _ _).1 g4;have abT:=(nI _ _ _).1 g3;unfold Fb at he⊢;by_cases k5:m.kind=5
 ·rw[if_pos k5]at he⊢;by_cases t1:(DT N.runs m).isSome=true
  ·rw[if_pos t1]at he;cases he
  rw[if_neg t1]at he⊢;by_cases t2:m.bj<0∨m.bj≥(N.ab.length:Int)
  ·rw[if_pos t2]at he;cases he
  rw[if_neg t2]at he⊢;by_cases t3:(bw m.calls N.stops.length 0 3155932800).2≠0
  ·rw[if_pos t3]at he;exact absurd he t3
  rw[if_neg t3]at he⊢;by_cases t4:N.runs.length≥1024
  ·rw[if_pos t4]at he;cases he
  rw[if_neg t4]at he⊢;rw[pZ];have Q7:DT N.runs m=none:=by
   cases hx:DT N.runs m with
   |none=>rfl
   |some k=>rw[hx]at t1;exact absurd rfl t1
  refine⟨g1,g2,R8 (R6 Q7) (Hs m1 (by show(decide ((-1:Int)< -1)||decide (m.inst<0))=false;simp;omega) (by show(decide (m.day<0)||decide (m.day>36524))=false;simp;omega) (by show(decide (m.bj<0)||decide (m.bj≥(N.ab.length:Int)))=false;simp;omega) (Decidable.of_not_not t3)) (by omega) g3,(qK _ _).2 ⟨l1,pn l2 (by simp) fun x hx v hv=>?_⟩,g5,g6⟩;obtain⟨b1,b2⟩:=DW l2 hx;have:0≤v∧v<(N.runs.length:Int):=by
   rcases hv with rfl|rfl
   ·exact b1
   ·exact b2
  rw[Hr this];exact⟨rfl,fun _=>rfl⟩
 ·rw[if_neg k5]at he⊢;cases ht:DT N.runs m with
  |none=>rw[ht]at he;cases he
  |some i=>
   obtain⟨hi,qo,_⟩:=Cj ht;have hr:N.runs[i]?=some N.runs[i]:=List.getElem?_eq_getElem hi;rw[ht]at he;simp only[hr]at he⊢;have KT:=(Cq (abT.2 i hi).1).2.2.2.2;have hlen:(N.runs.set i N.runs[i]).length=N.runs.length:=by simp
   by_cases t1:(m.kind=1∨m.kind=3)∧(m.call<0∨m.call≥(N.runs[i].calls.length:Int))
   ·rw[if_pos t1]at he;cases he
   rw[if_neg t1]at he⊢;by_cases k1:m.kind=1
   ·rw[if_pos k1]at he⊢;cases hp:prop N.runs[i].calls m.call m.bT with
    |mk o e=>
     rw[hp]at he;cases o with
     |none=>
      simp only at he;unfold prop at hp;subst he;split at hp
      ·cases hp
      ·split at hp
       ·cases hp
       ·split at hp
        ·cases hp
        ·split at hp
         ·cases hp
         ·cases hp
     |some l=>
      have CA:e=0:=by
       unfold prop at hp;split at hp
       ·cases hp
       ·split at hp
        ·cases hp
        ·split at hp
         ·cases hp
         ·split at hp
          ·simp only[Prod.mk.injEq]at hp;exact hp.2.symm
          ·cases hp
      subst CA;obtain⟨p1,p2⟩:=UG KT hp;simp only;exact Ay (x:={N.runs[i]with calls:=l}) (l:=N.ai) h hr rfl rfl rfl p1 l1 (pn l2 (by simp) fun x hx v _=>uq hr p2 v)
   ·rw[if_neg k1]at he⊢;by_cases k2:m.kind=2
    ·rw[if_pos k2];exact Ay (x:={N.runs[i]with qH:=true}) (l:=N.ai) h hr rfl rfl rfl KT l1 (pn l2 (by simp) fun x hx v _=>uq (x:={N.runs[i]with qH:=true}) hr rfl v)
    ·rw[if_neg k2]at he⊢;by_cases k3:m.kind=3
     ·rw[if_pos k3];exact Ay (x:={N.runs[i]with calls:=Cm N.runs[i].calls m.call.toNat}) (l:=N.ai) h hr rfl rfl rfl (Fc (Co _ _).symm KT) l1 (pn l2 (by simp) fun x hx v _=>uq hr (O4 (Co _ _)) v)
     ·rw[if_neg k3]at he⊢;by_cases k4:m.kind=4
      ·rw[if_pos k4]at he⊢;by_cases t3:(bw m.calls N.stops.length 0 3155932800).2≠0
       ·rw[if_pos t3]at he;exact absurd he t3
       rw[if_neg t3]at he⊢;refine Ay (x:={N.runs[i]with calls:=m.calls}) h hr rfl rfl rfl (Decidable.of_not_not t3) (Nat.le_trans (List.length_filter_le _ _) l1) (Fa _ _ l2 (by simp) fun x hx hf v hv=>?_);simp only[Bool.not_eq_true',Bool.or_eq_false_iff,decide_eq_false_iff_not]at hf;obtain⟨b1,b2⟩:=DW l2 hx;have cT:v.toNat≠i:=by
        rcases hv with rfl|rfl
        ·intro hc;apply hf.1;omega
        ·intro hc;apply hf.2;omega
       rw[KS cT];exact⟨rfl,fun _=>rfl⟩
      ·rw[if_neg k4];exact h
end Go.Ab.Tt
namespace Go.Ab.Tt
set_option maxRecDepth 100000
set_option linter.unusedVariables false
set_option linter.unusedSimpArgs false
theorem Fe(x:iX):asAgg 13 x.pv=some ():=rfl
theorem Ff(x:iX):cell x.pv 0=.int .i64 x.source:=rfl
theorem Fg(x:iX):cell x.pv 1=.int .i64 x.seq:=rfl
theorem Fh(x:iX):cell x.pv 2=.int .i64 x.lJ:=rfl
theorem Fi(x:iX):cell x.pv 3=.int .i64 x.iC:=rfl
theorem Fj(x:iX):cell x.pv 4=.int .i64 x.kind:=rfl
theorem Fk(x:iX):cell x.pv 5=.str x.dv:=rfl
theorem Fl(x:iX):cell x.pv 6=.int .i64 x.day:=rfl
theorem Fm(x:iX):cell x.pv 7=.int .i64 x.inst:=rfl
theorem Fo(x:iX):cell x.pv 8=.int .i64 x.call:=rfl
theorem Fq(x:iX):cell x.pv 9=.int .i64 x.bT:=rfl
theorem xx(x:iX):cell x.pv 10=.int .i64 x.bj:=rfl
theorem xy(x:iX):cell x.pv 11=.bool x.free:=rfl
theorem DX(x:iX):cell x.pv 12=.rs 5 (x.calls.map aw.pv):=rfl
theorem UH(x:iX):PV.agg [.int .i64 x.source,.int .i64 x.seq,.int .i64 x.lJ,.int .i64 x.iC,.int .i64 x.kind,.str x.dv,.int .i64 x.day,.int .i64 x.inst,.int .i64 x.call,.int .i64 x.bT,.int .i64 x.bj,.bool x.free,.rs 5 (x.calls.map aw.pv)]=x.pv:=rfl
theorem Cr(n a b:Int):bH [.int .i64 n,.int .i64 a,.int .i64 b]=some (.bool (wi n a b)):=by simp only[bH,oL,asInt,if_true,U,dG];rfl
theorem UI(n:Int):gI [.int .i64 n]=some (.bool (wi n 0 36524)):=by simp only[gI,v8,asInt,if_true,U,dG];rfl
def xz(k:Int):PV:=.agg [.bool (decide (k=1)||decide (k=3)),.bool (decide (k=1)),.bool (decide (k=5)),.bool (decide (k=5)),.bool (decide (k=4)||decide (k=5))]
theorem UJ(k:Int):fp [.int .i64 k]=some (xz k):=by
 simp only[fp,sj,asInt,if_true,U,fb];unfold xz;by_cases h1:k=1
 ·subst h1;rfl
 ·by_cases h3:k=3
  ·subst h3;rfl
  ·by_cases h4:k=4
   ·subst h4;rfl
   ·by_cases h5:k=5
    ·subst h5;rfl
    ·simp[h1,h3,h4,h5]
theorem abU(k:Int):asAgg 5 (xz k)=some ():=rfl
theorem aeF(k:Int):cell (xz k) 0=.bool (decide (k=1)||decide (k=3)):=rfl
theorem aeG(k:Int):cell (xz k) 1=.bool (decide (k=1)):=rfl
theorem aeH(k:Int):cell (xz k) 2=.bool (decide (k=5)):=rfl
theorem aeI(k:Int):cell (xz k) 3=.bool (decide (k=5)):=rfl
theorem aeJ(k:Int):cell (xz k) 4=.bool (decide (k=4)||decide (k=5)):=rfl
theorem UK(n:Nat):decide ((n:Int)>0)=decide (n>0):=by rw[Bool.eq_iff_iff];simp only[decide_eq_true_eq];omega
theorem Ht(m:iX)(h:m.Ok):cM [m.pv]=some (.int .i64 (ij m)):=by
 have hid:=tU m.dv h.dv;have gy:=nS m.calls 64 0 3155932800 h.calls.1;simp only[res]at gy;simp only[cM,mw,Fe,Ff,Fg,Fh,Fi,Fj,Fk,Fl,Fm,Fo,Fq,xx,xy,DX,U,Cr,UI,UJ,abU,asInt,bu,ae,if_true,asBool,hid,bm,UH];unfold ij;simp only[decide_eq_true_eq];cases wi m.source 0 7 with
 |false=>rfl
 |true=>
  by_cases h2:m.seq<1
  ·simp only[h2,if_true,Bool.not_true,Bool.false_eq_true,Bool.true_eq_false,if_false]
  simp only[h2,if_true,Bool.not_true,Bool.false_eq_true,Bool.true_eq_false,if_false];cases(!wi m.lJ 0 3155932800|| !wi m.iC 0 3155932800||decide (m.lJ≥m.iC))with
  |true=>rfl
  |false=>
   cases wi m.kind 1 6 with
   |false=>rfl
   |true=>
    cases eM m.dv with
    |false=>rfl
    |true=>
     cases wi m.day 0 36524 with
     |false=>rfl
     |true=>
      by_cases h7:m.inst<0
      ·simp only[h7,if_true,Bool.not_true,Bool.false_eq_true,Bool.true_eq_false,if_false]
      simp only[h7,if_true,Bool.not_true,Bool.false_eq_true,Bool.true_eq_false,if_false];have e0:PV.agg [cell (xz m.kind) 0,cell (xz m.kind) 1,cell (xz m.kind) 2,cell (xz m.kind) 3,cell (xz m.kind) 4]=xz m.kind:=rfl;rw[e0];simp only[dU,k9,Fe,Ff,Fg,Fh,Fi,Fj,Fk,Fl,Fm,Fo,Fq,xx,xy,DX,U,abU,aeF,aeG,aeH,aeI,aeJ,Cr,asBool,gy,ca,List.length_cons,List.length_nil,Nat.reduceAdd,if_true,List.getD_cons_zero,List.getD_cons_succ,asInt,bu,ae,bm,dG,kF,List.length_map,UK];generalize (decide (m.kind=1)||decide (m.kind=3))=uC;generalize decide (m.kind=1)=uS;generalize decide (m.kind=5)=uR;generalize (decide (m.kind=4)||uR)=uL;generalize (bw m.calls 64 0 3155932800).2=e;cases(uC&& !wi m.call 0 31||uS&& !wi m.bT (-43200) 43200||uR&& !wi m.bj 0 63)with
      |true=>rfl
      |false=>
       cases uL with
       |true=>
        by_cases he:e=0
        ·subst he;cases(!uC&& !decide (m.call=0)|| !uS&& !decide (m.bT=0)|| !uR&& !decide (m.bj=0)|| !uR&&m.free|| !true&&decide (m.calls.length>0))<;>rfl
        ·simp[he]
       |false=>cases(!uC&& !decide (m.call=0)|| !uS&& !decide (m.bT=0)|| !uR&& !decide (m.bj=0)|| !uR&&m.free|| !false&&decide (m.calls.length>0))<;>rfl
end Go.Ab.Tt
namespace Go.Ab.Tt
set_option maxRecDepth 100000
set_option linter.unusedVariables false
set_option linter.unusedSimpArgs false
theorem Sc{R:Type}(l:List bE)(m:iX)(g:Nat→R)(fin:Option R):c9 ((List.range l.length).findSome? fun k=>if decide ((l.map bD)[k]?=some m.key)=true then some (some (g k))else none) fin=(match DT l m with|some k=>some (g k)|none=>fin):=by rw[pR (fun k=>decide ((l.map bD)[k]?=some m.key)) (fun k=>some (g k))];unfold DT;cases(List.range l.length).find? (fun k=>decide ((l.map bD)[k]?=some m.key))<;>rfl
theorem UL(l:List bE)(m:iX)(k:Nat)(hk:k<l.length):decide ((l.map bD)[k]?=some m.key)=(decide (l[k].id=m.dv)&&decide (l[k].day=m.day)&&decide (l[k].inst=m.inst)):=by rw[Bool.eq_iff_iff];simp[List.getElem?_eq_getElem hk,bD,iX.key,and_assoc]
def Hu(l:List bE)(m:iX):PV:=match DT l m with|some k=>.bl [.int .i64 k,.bool true]|none=>.bl [.int .i64 0,.bool false]
theorem ur(N:ah)(m:iX)(hr:N.runs.length≤maxLen):bI [N.pv,m.pv]=some (Hu N.runs m):=by
 have hm:=aW;simp only[bI,k8,qI,rq,rr,ru,ry,rz,rA,rB,rC,rD,U];simp only[Fe,Ff,Fg,Fh,Fi,Fj,Fk,Fl,Fm,Fo,Fq,xx,xy,DX,U,asInt,bu,ae,if_true,asBool,List.length_map];generalize N.runs=l at hr⊢;have hs:=Sc l m (fun k=>PV.bl [.int .i64 k,.bool true]) (some (PV.bl [.int .i64 0,.bool false]));have hR:(match DT l m with|some k=>some (PV.bl [.int .i64 k,.bool true])|none=>some (PV.bl [.int .i64 0,.bool false]))=some (Hu l m):=by unfold Hu;cases DT l m<;>rfl
 rw[←hR,←hs];refine aX (fun k=>(l.map bE.pv,(l.length:Int),(k:Int),m.source,m.seq,m.lJ,m.iC,m.kind,m.dv,m.day,m.inst,m.call,m.bT,m.bj,m.free,m.calls.map aw.pv,())) l.length _ (fun k hk rec=>?_) (fun rec=>?_) (by have:=aS;omega) rfl
 ·have h1:decide ((k:Int)<(l.length:Int))=true:=by simp;omega
  rw[UL l m k hk];unfold lK;dsimp only;rw[if_pos h1,az,List.getElem?_map,List.getElem?_eq_getElem hk];simp only[Option.map_some,U,OA,OB,OC,asInt,bu,if_true,fb,dG,an (show k<9223372036854775807 by omega)];cases decide (l[k].id=m.dv)&&decide (l[k].day=m.day)&&decide (l[k].inst=m.inst)<;>rfl
 ·unfold lK;dsimp only;rw[if_neg (by simp)]
end Go.Ab.Tt
namespace Go.Ab.Tt
set_option maxRecDepth 100000
set_option linter.unusedVariables false
set_option linter.unusedSimpArgs false
theorem abV(x:aw):cell x.pv 3=.bool x.Ho:=rfl
theorem abW(x:aw):cell x.pv 4=.bool x.Cn:=rfl
theorem abX(x:aw):asAgg 5 x.pv=some ():=rfl
def Span(c:aw):Prop:=0≤c.arr∧c.arr≤c.dep∧c.dep≤gV
variable{c:aw}
theorem sx(h:Span c):0≤gW c∧gW c≤30:=by obtain⟨h1,h2,h3⟩:=h;unfold gW;split<;>omega
theorem mR:gV=3155932800:=rfl
theorem wrap_small{x:Int}(h1: -100000000000≤x)(h2:x≤100000000000):IntKind.i64.wrap x=x:=fy (by omega) (by omega)
theorem Cs(h:Span c):e9 [c.pv]=some (.int .i64 (gW c)):=by
 have:=mR;obtain⟨h1,h2,h3⟩:=h;simp only[e9,tH,abX,GS,zB,zC,abV,abW,asInt,asBool,U,if_true];rw[wrap_small (by omega) (by omega)];unfold gW;by_cases hd:c.dep-c.arr<30
 ·rw[if_neg (by omega),if_pos hd]
 ·rw[if_neg hd];by_cases he:30<c.dep-c.arr
  ·rw[if_pos he]
  ·rw[if_neg he];congr 2;omega
def zO(l:List aw)(k:Nat):Bool:=(l[k]?).elim false fun c=>decide (c.arr<((iw l k).map aw.dep).getD 0)||decide (c.dep<c.arr)||decide (c.dep>gV)
theorem O6{R:Type}(l:List aw)(no fin:Option R):c9 ((List.range l.length).findSome? fun k=>if zO l k=true then some no else none) fin=if uj l=true then fin else no:=by
 rw[pR (zO l) (fun _=>no)];by_cases h:uj l=true
 ·rw[if_pos h];have:(List.range l.length).find? (zO l)=none:=by rw[List.find?_eq_none];intro k hk;have:=List.all_eq_true.1 h k hk;rw[List.mem_range]at hk;simp only[List.getElem?_eq_getElem hk,Option.elim_some]at this;simp only[zO,List.getElem?_eq_getElem hk,Option.elim_some];simpa using this
  rw[this];rfl
 ·rw[if_neg h];cases hf:(List.range l.length).find? (zO l)with
  |some k=>rfl
  |none=>exfalso;apply h;unfold uj;rw[List.all_eq_true];intro k hk;have:=List.find?_eq_none.1 hf k hk;rw[List.mem_range]at hk;simp only[zO,List.getElem?_eq_getElem hk,Option.elim_some]at this;simp only[List.getElem?_eq_getElem hk,Option.elim_some];simpa using this
variable{l:List aw}
theorem Az(h:uj l=true){k:Nat}(hk:k<l.length):((iw l k).map aw.dep).getD 0≤l[k].arr∧l[k].arr≤l[k].dep∧l[k].dep≤gV:=by have:=List.all_eq_true.1 h k (List.mem_range.2 hk);simp only[List.getElem?_eq_getElem hk,Option.elim_some,Bool.not_eq_true',Bool.or_eq_false_iff,decide_eq_false_iff_not]at this;omega
theorem nV(h:uj l=true):∀k,(hk:k<l.length)→Span l[k]:=by
 intro k;induction k with
 |zero=>intro hk;obtain⟨a,b,c⟩:=Az h hk;exact⟨a,b,c⟩
 |succ k ih=>
  intro hk;obtain⟨a,b,c⟩:=Az h hk;obtain⟨x,y,z⟩:=ih (by omega);have:((iw l (k+1)).map aw.dep).getD 0=(l[k]'(by omega)).dep:=by show((l[k]?).map aw.dep).getD 0=_;rw[List.getElem?_eq_getElem (by omega)];rfl
  rw[this]at a;exact⟨by omega,b,c⟩
theorem xA(l:List aw)(hl:l.length≤maxLen):dZ [.rs 5 (l.map aw.pv)]=some (.bool (uj l)):=by
 have hm:=aW;simp only[dZ,qz,ae,if_true,U,List.length_map];have hs:=O6 l (some (PV.bool false)) (some (PV.bool true));have hR:(if uj l=true then some (PV.bool true)else some (PV.bool false))=some (.bool (uj l)):=by cases uj l<;>rfl
 rw[←hR,←hs];refine aX (fun k=>(((iw l k).map aw.dep).getD 0,l.map aw.pv,(l.length:Int),(k:Int),())) l.length _ (fun k hk rec=>?_) (fun rec=>?_) (by have:=aS;omega) rfl
 ·have h1:decide ((k:Int)<(l.length:Int))=true:=by simp;omega
  unfold mf;dsimp only;have hp:((iw l (k+1)).map aw.dep).getD 0=l[k].dep:=by show((l[k]?).map aw.dep).getD 0=_;rw[List.getElem?_eq_getElem hk];rfl
  rw[if_pos h1,az,List.getElem?_map,List.getElem?_eq_getElem hk];simp only[Option.map_some,U,zB,zC,asInt,if_true,bm,an (show k<9223372036854775807 by omega),hp];have:zO l k=(decide (l[k].arr<((iw l k).map aw.dep).getD 0)||decide (l[k].dep<l[k].arr)||decide (l[k].dep>3155932800)):=by simp only[zO,List.getElem?_eq_getElem hk,Option.elim_some];rfl
  rw[this];cases(decide (l[k].arr<((iw l k).map aw.dep).getD 0)||decide (l[k].dep<l[k].arr)||decide (l[k].dep>3155932800))<;>rfl
 ·unfold mf;dsimp only;rw[if_neg (by simp)]
theorem M8(h:uj l=true){n:Nat}(hn:n<l.length){bT:Int}(h1: -43200≤bT)(h2:bT≤43200):0≤nf l n bT∧nf l n bT≤3200000000:=by
 obtain⟨a,b,c⟩:=nV h n hn;obtain⟨x,y,z⟩:=Az h hn;have:=mR;have hb:0≤((iw l n).map aw.dep).getD 0:=by
  cases n with
  |zero=>exact Int.le_refl _
  |succ n=>show 0≤((l[n]?).map aw.dep).getD 0;rw[List.getElem?_eq_getElem (by omega)];obtain⟨a,b,c⟩:=nV h n (by omega);show 0≤l[n].dep;omega
 unfold nf;rw[List.getElem?_eq_getElem hn];simp only[Option.map_some,Option.getD_some];split<;>omega
theorem zP(c d:aw)(ds:List aw)(a:Int):gv (c::d::ds) a=if(late c a).dep>gV then none else(gv (d::ds) (d.arr+(late c a).dep-c.dep)).map fun r=>late c a::r:=by rw[gv]
theorem DY(c:aw)(a:Int):gv [c] a=if(late c a).dep>gV then none else some [late c a]:=by rw[gv]
theorem O7(c:aw)(cs:List aw)(a:Int)(h:(late c a).dep>gV):gv (c::cs) a=none:=by
 cases cs with
 |nil=>rw[DY,if_pos h]
 |cons d ds=>rw[zP,if_pos h]
theorem Hv{a:Int}(h:Span c)(h0:0≤a)(h1:a≤8000000000):0≤(late c a).dep∧(late c a).dep≤8000000030:=by obtain⟨p,q⟩:=sx h;obtain⟨x,y,z⟩:=h;have:=mR;show 0≤(if a+gW c>c.dep then a+gW c else c.dep)∧(if a+gW c>c.dep then a+gW c else c.dep)≤8000000030;split<;>omega
theorem yO{d:aw}{a:Int}(h:Span c)(hd:Span d)(hcd:c.dep≤d.arr)(h0:0≤a)(h1:¬(late c a).dep>gV):0≤d.arr+(late c a).dep-c.dep∧d.arr+(late c a).dep-c.dep≤8000000000:=by
 obtain⟨p,q⟩:=sx h;obtain⟨x,y,z⟩:=h;obtain⟨x',y',z'⟩:=hd;have:=mR;have hh:c.dep≤(late c a).dep:=by show c.dep≤if a+gW c>c.dep then a+gW c else c.dep;split<;>omega
 omega
theorem va(h:uj l=true):∀k,(hk:k+1<l.length)→(l[k]'(by omega)).dep≤l[k+1].arr:=by
 intro k hk;obtain⟨a,b,c⟩:=Az h hk;have:((iw l (k+1)).map aw.dep).getD 0=(l[k]'(by omega)).dep:=by show((l[k]?).map aw.dep).getD 0=_;rw[List.getElem?_eq_getElem (by omega)];rfl
 rw[this]at a;exact a
theorem vb(l:List aw)(hl:l.length≤1000000):dc [.rs 5 (l.map aw.pv)]=some (.rs 5 (l.map aw.pv)):=by
 have hb:1000000*32≤aa:=by decide
 simp only[dc,qA,ae,if_true,U,List.length_map];rw[if_pos (by refine⟨by omega,by omega,?_,by decide,by decide⟩;rw[Int.toNat_natCast];omega)];congr 2;rw[Int.toNat_natCast,List.length_replicate,List.take_of_length_le (by simp),List.drop_eq_nil_of_le (by simp),List.append_nil]
end Go.Ab.Tt
namespace Go.Ab.Tt
set_option maxRecDepth 100000
set_option linter.unusedVariables false
set_option linter.unusedSimpArgs false
theorem DZ(x:bE):aY 5 (cell x.pK 7)=some (x.calls.map aw.pv):=rfl
def outs(pre:List aw)(l:List aw)(k:Nat):List PV:=pre.map aw.pv++(l.drop k).map aw.pv
theorem Hw(pre l:List aw)(k:Nat)(hp:pre.length=k)(hk:k≤l.length):(outs pre l k).length=l.length:=by unfold outs;simp;omega
theorem Hx(pre l:List aw)(k:Nat)(hp:pre.length=k)(hk:k<l.length):(outs pre l k)[k]?=some l[k].pv:=by unfold outs;rw[List.getElem?_append_right (by simp;omega)];simp[hp,List.getElem?_eq_getElem hk]
theorem Hy(pre l:List aw)(k:Nat)(hp:pre.length=k)(hk:k<l.length)(x:aw):(outs pre l k).set k x.pv=outs (pre++[x]) l (k+1):=by
 unfold outs;rw[List.set_append_right _ _ (by simp;omega)];have h0:k-(pre.map aw.pv).length=0:=by simp;omega
 rw[h0,List.drop_eq_getElem_cons hk,List.map_cons,List.set_cons_zero,List.map_append,List.append_assoc];rfl
variable{S R:Type}
theorem Ct{body:S→(S→Option R)→Option R}(st:Int→Nat→List PV→S)(l:List aw)(i:Nat)(err:Option R)(fin:List PV→Option R)(zZ:∀k a out rec,k<i→k<l.length→body (st a k out) rec=rec (st a (k+1) out))(tg:∀k a pre rec,i≤k→(hk:k<l.length)→pre.length=k→0≤a→a≤8000000000→body (st a k (outs pre l k)) rec=if(late l[k] a).dep>gV then err else if h:k+1<l.length then rec (st (l[k+1].arr+(late l[k] a).dep-l[k].dep) (k+1) (outs (pre++[late l[k] a]) l (k+1)))else rec (st a (k+1) (outs (pre++[late l[k] a]) l (k+1))))(mW:∀a out rec,body (st a l.length out) rec=fin out)(je:∀k,(hk:k<l.length)→Span l[k])(hor:∀k,(hk:k+1<l.length)→(l[k]'(by omega)).dep≤l[k+1].arr)(hi:i<l.length)(hl:l.length+1<rounds)(a:Int)(h0:0≤a)(h1:a≤8000000000):cd.run body (st a 0 (l.map aw.pv))=match gv (l.drop i) a with|some r=>fin ((l.take i++r).map aw.pv)|none=>err:=by
 rw[kR];have hA:∀k,k≤i→∀fu,cF body (k+fu) (st a (i-k) (l.map aw.pv))=cF body fu (st a i (l.map aw.pv)):=by
  intro k;induction k with
  |zero=>intro _ fu;rw[Nat.zero_add];rfl
  |succ k ih=>intro hk fu;rw[show k+1+fu=(k+fu)+1 by omega,cF,zZ (i-(k+1)) a _ _ (by omega) (by omega),show i-(k+1)+1=i-k by omega];exact ih (by omega) fu
 have hB:∀(j:Nat)(k:Nat)(a:Int)(pre:List aw)(fu:Nat),k+j=l.length→i≤k→j<fu→0≤a→a≤8000000000→pre.length=k→cF body fu (st a k (outs pre l k))=match gv (l.drop k) a with|some r=>fin ((pre++r).map aw.pv)|none=>err:=by
  intro j;induction j with
  |zero=>
   intro k a pre fu hk zJ hf _ _ hp;obtain⟨fu,rfl⟩:∃f,fu=f+1:=⟨fu-1,by omega⟩;have kL:k=l.length:=by omega
   subst kL;rw[cF,mW,List.drop_length];simp[gv,outs]
  |succ j ih=>
   intro k a pre fu hk zJ hf VS ha1 hp;obtain⟨fu,rfl⟩:∃f,fu=f+1:=⟨fu-1,by omega⟩;have kL:k<l.length:=by omega
   have hc:=je k kL;rw[cF,tg k a pre _ zJ kL hp VS ha1,List.drop_eq_getElem_cons kL];by_cases uo:(late l[k] a).dep>gV
   ·rw[if_pos uo,O7 _ _ _ uo]
   ·rw[if_neg uo];by_cases hn:k+1<l.length
    ·rw[dif_pos hn];obtain⟨n0,n1⟩:=yO hc (je (k+1) hn) (hor k hn) VS uo;rw[ih (k+1) _ _ fu (by omega) (by omega) (by omega) n0 n1 (by simp[hp]),List.drop_eq_getElem_cons hn,zP,if_neg uo];cases gv (l[k+1]::l.drop (k+1+1)) (l[k+1].arr+(late l[k] a).dep-l[k].dep)with
     |none=>rfl
     |some r=>simp
    ·rw[dif_neg hn];have hj:j=0:=by omega
     subst hj;obtain⟨fu,rfl⟩:∃f,fu=f+1:=⟨fu-1,by omega⟩;have XN:k+1=l.length:=by omega
     rw[cF,List.drop_eq_nil_of_le (by omega),DY,if_neg uo];have:=mW a (outs (pre++[late l[k] a]) l (k+1)) (cF body fu);rw[←XN]at this;rw[this];simp[outs,List.drop_eq_nil_of_le (show l.length≤k+1 by omega)]
 have e1:cd.run body (st a 0 (l.map aw.pv))=cF body rounds (st a 0 (l.map aw.pv)):=rfl;have e2:=hA i (Nat.le_refl _) (rounds-i);rw[Nat.sub_self,show i+(rounds-i)=rounds by omega]at e2;rw[e2];have e3:l.map aw.pv=outs (l.take i) l i:=by unfold outs;rw[←List.map_append,List.take_append_drop]
 rw[e3];exact hB (l.length-i) i a (l.take i) (rounds-i) (by omega) (Nat.le_refl _) (by omega) h0 h1 (by simp;omega)
theorem XO{body:S→(S→Option R)→Option R}(st:Nat→Nat→List PV→S)(l:List aH)(p:aH→Bool)(out:List PV→Option R)(tg:∀j i x rec,(hi:i<l.length)→x.length=l.length→j≤i→x[i]?=some l[i].pv→body (st j i x) rec=if p l[i]=true then rec (st (j+1) (i+1) (x.set j l[i].pv))else rec (st j (i+1) x))(mW:∀j x rec,x.length=l.length→j≤l.length→body (st j l.length x) rec=out (x.take j)):∀n j i x fu,i+n=l.length→j≤i→x.length=l.length→x.take j=((l.take i).filter p).map aH.pv→x.drop i=(l.drop i).map aH.pv→n<fu→cF body fu (st j i x)=out ((l.filter p).map aH.pv):=by
 intro n;induction n with
 |zero=>
  intro j i x fu hi hj hx ht hd hf;obtain⟨fu,rfl⟩:∃f,fu=f+1:=⟨fu-1,by omega⟩;have:i=l.length:=by omega
  subst this;rw[cF,mW j x _ hx hj,ht,List.take_length]
 |succ n ih=>
  intro j i x fu hi hj hx ht hd hf;obtain⟨fu,rfl⟩:∃f,fu=f+1:=⟨fu-1,by omega⟩;have PG:i<l.length:=by omega
  have eH:x[i]?=some l[i].pv:=by have:=congrArg (fun y=>y[0]?) hd;simpa[List.getElem?_drop,PG]using this
  have Mi:x.drop (i+1)=(l.drop (i+1)).map aH.pv:=by rw[←List.drop_drop,hd,←List.map_drop,List.drop_drop]
  rw[cF,tg j i x _ PG hx hj eH];by_cases hp:p l[i]=true
  ·rw[if_pos hp];refine ih (j+1) (i+1) _ fu (by omega) (by omega) (by rw[List.length_set,hx]) ?_ ?_ (by omega)
   ·rw[List.take_succ_eq_append_getElem PG,List.filter_append,List.map_append,←ht];simp only[List.filter_cons,hp,if_true,List.filter_nil,List.map_cons,List.map_nil];have xK:j<(x.set j l[i].pv).length:=by rw[List.length_set];omega
    rw[List.take_succ_eq_append_getElem xK,List.getElem_set_self,List.take_set_of_le (Nat.le_refl j)]
   ·rw[List.drop_set_of_lt (by omega),Mi]
  ·rw[if_neg hp];refine ih j (i+1) x fu (by omega) (by omega) hx ?_ Mi (by omega);rw[List.take_succ_eq_append_getElem PG,List.filter_append,List.map_append,←ht];simp[hp]
theorem Sd{S':Type}{body:S→(S→Option R)→Option R}{body3:S'→(S'→Option R)→Option R}(st:Nat→S)(YV:Nat→Nat→List PV→S')(l:List aH)(p:aH→Bool)(out:List PV→Option R)(XP:∀j i x rec,(hi:i<l.length)→x.length=l.length→j≤i→x[i]?=some l[i].pv→body3 (YV j i x) rec=if p l[i]=true then rec (YV (j+1) (i+1) (x.set j l[i].pv))else rec (YV j (i+1) x))(abY:∀j x rec,x.length=l.length→j≤l.length→body3 (YV j l.length x) rec=out (x.take j))(tg:∀k rec,(hk:k<l.length)→body (st k) rec=if p l[k]=true then rec (st (k+1))else cd.run body3 (YV k (k+1) (l.map aH.pv)))(mW:∀rec,body (st l.length) rec=out (l.map aH.pv))(hl:l.length+1<rounds):cd.run body (st 0)=out ((l.filter p).map aH.pv):=by
 have:∀n k fu,k+n=l.length→n<fu→(l.take k).filter p=l.take k→cF body fu (st k)=out ((l.filter p).map aH.pv):=by
  intro n;induction n with
  |zero=>
   intro k fu hk hf ht;obtain⟨fu,rfl⟩:∃f,fu=f+1:=⟨fu-1,by omega⟩;have:k=l.length:=by omega
   subst this;rw[List.take_length]at ht;rw[cF,mW,ht]
  |succ n ih=>
   intro k fu hk hf ht;obtain⟨fu,rfl⟩:∃f,fu=f+1:=⟨fu-1,by omega⟩;have kL:k<l.length:=by omega
   rw[cF,tg k _ kL];by_cases hp:p l[k]=true
   ·rw[if_pos hp];refine ih (k+1) fu (by omega) (by omega) ?_;rw[List.take_succ_eq_append_getElem kL,List.filter_append,ht];simp[hp]
   ·rw[if_neg hp,kR];refine XO YV l p out XP abY (l.length-(k+1)) k (k+1) _ rounds (by omega) (by omega) (by simp) ?_ (by rw[List.map_drop]) (by omega);rw[List.take_succ_eq_append_getElem kL,List.filter_append,ht,←List.map_take];simp[hp]
 rw[kR];exact this l.length 0 rounds (by omega) (by omega) (by simp)
structure O8(N:ah):Prop where
 ok:N.Ok
 stops:N.stops.length≤1000
 ab:N.ab.length≤1000
 runs:N.runs.length≤100
 ai:N.ai.length≤1000
 paths:N.paths.length≤1000
 ar:N.ar.length≤1000
 calls:∀r∈N.runs,r.calls.length≤1000
def z9:PV:=.agg [.rs 0 [],.rs 0 [],.rs 0 [],.rs 0 [],.rs 0 [],.rs 0 [],.int .i64 0,.int .i64 0,.int .i64 0]
theorem Se(N:ah)(h:N.Ok)(hp:N.paths.length≤4096):jK [N.pv]=some (.bool (decide ((eU N).2.2=0))):=by have hc:=OM N h hp;simp only[jK,tP,qI,rq,rr,ru,ry,rz,rA,rB,rC,rD,U,Ad,hc];simp only[fW,ca,List.length_cons,List.length_nil,Nat.reduceAdd,if_true,List.getD_cons_zero,List.getD_cons_succ,asInt,U,zF]
end Go.Ab.Tt
namespace Go.Ab.Tt
set_option maxRecDepth 100000
set_option linter.unusedVariables false
set_option linter.unusedSimpArgs false
def aPV(N:ah)(m:iX):PV:=if(Fb N m).2=0 then .bl [(Fb N m).1.pv,.int .i64 0]else .bl [z9,.int .i64 (Fb N m).2]
def xB(N:ah)(m:iX):PV:=if(eU N).2.2=0 then(if ij m=0 then aPV N m else .bl [z9,.int .i64 (ij m)])else .bl [z9,.int .i64 21]
def Sf(N:ah)(m:iX)(k:Nat):=((N.runs.length:Int),(k:Int),N.stops.map Stop.pv,N.ab.map av.pv,N.runs.map bE.pv,N.ai.map aH.pv,N.paths.map Path.pv,N.ar.map aR.pv,N.aO,N.within,N.cap,(0:Int),(0:Int),(0:Int),N.ar.map aR.pv,N.aO,N.within,N.cap,m.source,m.seq,m.lJ,m.iC,m.kind,m.dv,m.day,m.inst,m.call,m.bT,m.bj,m.free,m.calls.map aw.pv,(0:Int),(0:Int),(0:Int),N.stops.map Stop.pv,N.ab.map av.pv,mix bE.pK bE.pv N.runs k,N.ai.map aH.pv,N.paths.map Path.pv,())
theorem O9(l:List bE):(mix bE.pK bE.pv l l.length).map PV.strip=l.map bE.pv:=by rw[EW,kq]
theorem uu{e:Int}{x y:Option PV}:(if(e !=0)=true then x else y)=if e=0 then y else x:=by by_cases h:e=0<;>simp[h]
theorem qd(l:List bE)(i:Nat)(hi:i<l.length):(l.map bE.pK)[i]?=some l[i].pK:=by simp[hi]
theorem Sg(l:List bE)(i:Nat)(hi:i<l.length):af (i:Int) (l.map bE.pK).length:=by rw[List.length_map];exact⟨by omega,by omega⟩
theorem sy(x:bE)(l:List aw):PV.agg [.int .i64 x.dv,.int .i64 x.day,.int .i64 x.inst,.str x.id,.int .i64 x.bj,.bool x.free,.bool x.qH,.fO 5 (l.map aw.pv)]=({x with calls:=l}:bE).pK:=rfl
theorem D2(n:Int):Ab.asInt .i64 (.int .i64 n)=some n:=rfl
theorem M9(x:aw):PV.agg [cell x.pv 0,cell x.pv 1,cell x.pv 2,cell x.pv 3,cell x.pv 4]=x.pv:=rfl
theorem kI1(x:aw):Ab.asInt .i64 (cell x.pv 1)=some x.arr:=rfl
theorem kI2(x:aw):Ab.asInt .i64 (cell x.pv 2)=some x.dep:=rfl
theorem VT(x:aw)(a:Int):PV.agg (cell x.pv 0::.int .i64 a::over [] [cell x.pv 2,cell x.pv 3,cell x.pv 4])=({x with arr:=a}:aw).pv:=rfl
theorem VU(x:aw)(d:Int):PV.agg (cell x.pv 0::cell x.pv 1::.int .i64 d::over [] [cell x.pv 3,cell x.pv 4])=({x with dep:=d}:aw).pv:=rfl
theorem VV(c:aw)(a:Int):(if a+gW c>c.dep then a+gW c else c.dep)=(late c a).dep:=by cases c;exact id rfl
theorem Na(c:aw)(a:Int):aw.mk c.stop a (late c a).dep c.Ho c.Cn=late c a:=rfl
theorem UM(x:bE)(l:List PV):(if(8:Nat)=1 then PV.fO 5 l else .agg (cell x.pK 0::cell x.pK 1::cell x.pK 2::cell x.pK 3::cell x.pK 4::cell x.pK 5::cell x.pK 6::.fO 5 l::over [] []))=.agg [.int .i64 x.dv,.int .i64 x.day,.int .i64 x.inst,.str x.id,.int .i64 x.bj,.bool x.free,.bool x.qH,.fO 5 l]:=rfl
theorem VW(x:bE):PV.agg (cell x.pK 0::cell x.pK 1::cell x.pK 2::cell x.pK 3::cell x.pK 4::cell x.pK 5::.bool true::over [] [cell x.pK 7])=({x with qH:=true}:bE).pK:=rfl
theorem yP(l:List bE)(i:Nat)(x:bE):((l.map bE.pK).set i x.pK).map PV.strip=(l.set i x).map bE.pv:=by rw[←List.map_set,kq]
theorem Hz{A:Type}(l:List A)(k:Nat)(x:A)(h:k<l.length):(l.set k x)[k]?=some x:=by simp[h]
theorem il(k n:Nat)(h:k<n):af (k:Int) n:=⟨by omega,by omega⟩
def KU(N:ah)(i c:Nat)(a:Int)(k:Nat)(out:List PV):=((i:Int),(c:Int),a,((N.runs[i]?).elim 0 fun r=>(r.calls.length:Int)),(k:Int),(i:Int),N.runs.map bE.pK,out,N.aO,N.within,N.cap,(0:Int),(0:Int),(0:Int),N.stops.map Stop.pv,N.ab.map av.pv,N.ai.map aH.pv,N.paths.map Path.pv,N.ar.map aR.pv,())
def Fs(N:ah)(i:Nat)(l:List aw):ah:=match N.runs[i]? with|some r=>{N with runs:=N.runs.set i {r with calls:=l}}|none=>N
theorem Si(N:ah)(h:O8 N)(i c:Nat)(hi:i<N.runs.length)(hc:c<N.runs[i].calls.length)(ho:uj N.runs[i].calls=true)(a:Int)(h0:0≤a)(h1:a≤8000000000):cd.run dF (KU N i c a 0 (N.runs[i].calls.map aw.pv))=match gv (N.runs[i].calls.drop c) a with|some r=>some (.bl [(Fs N i (N.runs[i].calls.take c++r)).pv,.int .i64 0])|none=>some (.bl [z9,.int .i64 10]):=by
 have hlen:=h.calls N.runs[i] (List.getElem_mem hi);have YW:1003<rounds:=by decide
 have je:=nV ho;refine(Ct (KU N i c) N.runs[i].calls c (some (.bl [z9,.int .i64 10])) (fun out=>some (.bl [.agg [.rs 4 (N.stops.map Stop.pv),.rs 3 (N.ab.map av.pv),.rs 8 (((N.runs.map bE.pK).set i (.agg [.int .i64 N.runs[i].dv,.int .i64 N.runs[i].day,.int .i64 N.runs[i].inst,.str N.runs[i].id,.int .i64 N.runs[i].bj,.bool N.runs[i].free,.bool N.runs[i].qH,.fO 5 out])).map PV.strip),.rs 5 (N.ai.map aH.pv),.rs 4 (N.paths.map Path.pv),.rs 6 (N.ar.map aR.pv),.int .i64 N.aO,.int .i64 N.within,.int .i64 N.cap],.int .i64 0])) (fun k a out rec hk kL=>?_) (fun k a pre rec hk kL hp VS ha1=>?_) (fun a out rec=>?_) je (va ho) hc (by omega) a h0 h1).trans ?_
 ·unfold KU dF;dsimp only;rw[List.getElem?_eq_getElem hi,Option.elim_some,if_pos (by rw[decide_eq_true_eq];omega),if_pos (by rw[decide_eq_true_eq];omega),an (by omega),Int.toNat_natCast]
 ·obtain⟨d0,d1⟩:=sx (je k kL);obtain⟨s0,s1,s2⟩:=je k kL;have hlm:=mR;have YK:=Hw pre N.runs[i].calls k hp (by omega);have WB:∀x,((outs pre N.runs[i].calls k).set k x).length=N.runs[i].calls.length:=fun x=>by rw[List.length_set,YK]
  unfold KU dF;dsimp only;rw[List.getElem?_eq_getElem hi,Option.elim_some,if_pos (by rw[decide_eq_true_eq];omega),if_neg (by rw[decide_eq_true_eq];omega)];simp only[Int.toNat_natCast,qd _ _ hi,U,DZ,List.length_map,il k _ kL,if_true,List.getElem?_map,List.getElem?_eq_getElem kL,Option.map_some,YK,Hx pre _ k hp kL,kI2,M9,Cs (je k kL),D2,VT,VU,WB,Hz _ _ _ (show k<(outs pre N.runs[i].calls k).length by omega),List.set_set,wrap_small (show-100000000000≤a+gW N.runs[i].calls[k] by omega) (show a+gW N.runs[i].calls[k]≤100000000000 by omega),VV,Na,an (show k<9223372036854775807 by omega),Hy pre _ k hp kL,decide_eq_true_eq];have eo:=Hv (je k kL) VS ha1;by_cases uo:(late N.runs[i].calls[k] a).dep>gV
  ·rw[if_pos (show(late N.runs[i].calls[k] a).dep>3155932800 by omega),if_pos uo];rfl
  ·rw[if_neg (show¬(late N.runs[i].calls[k] a).dep>3155932800 by omega),if_neg uo];by_cases hn:k+1<N.runs[i].calls.length
   ·obtain⟨n0,n1⟩:=yO (je k kL) (je (k+1) hn) (va ho k hn) VS uo;obtain⟨t0,t1,t2⟩:=je (k+1) hn;rw[if_pos (by omega),dif_pos hn,if_pos (il _ _ hn),List.getElem?_eq_getElem hn];simp only[Option.map_some,U,kI1];rw[wrap_small (x:=N.runs[i].calls[k+1].arr+(late N.runs[i].calls[k] a).dep) (by omega) (by omega),wrap_small (by omega) (by omega)]
   ·rw[if_neg (by omega),dif_neg hn]
 ·unfold KU dF;dsimp only;rw[List.getElem?_eq_getElem hi,Option.elim_some,if_neg (by simp)];simp only[Int.toNat_natCast,qd _ _ hi,U,Sg _ _ hi,if_true,UM]
 ·cases gv (N.runs[i].calls.drop c) a with
  |none=>rfl
  |some r=>simp only[sy,yP];simp only[Fs,List.getElem?_eq_getElem hi];rfl
theorem Ft(x:aH):PV.agg [cell x.pv 0,cell x.pv 1,cell x.pv 2,cell x.pv 3,cell x.pv 4]=x.pv:=rfl
def HA(i:Nat)(l:aH):Bool:= !(decide (l.a=(i:Int))||decide (l.b=(i:Int)))
theorem vc(x:aH)(i:Nat):bP [x.pv,.rp [.int .i64 i]]=some (.bool (!HA i x)):=by have hA:asAgg 5 x.pv=some ():=rfl;simp only[bP,lf,hA,DD,MH,link2,MI,GW,asInt,asBool,if_true,U,bm,fb,HA,Bool.not_not]
def XQ(N:ah)(i:Nat)(runs:List PV)(j k:Nat)(x:List PV):=((j:Int),(k:Int),x,(i:Int),N.aO,N.within,N.cap,(0:Int),(0:Int),(0:Int),N.stops.map Stop.pv,N.ab.map av.pv,runs,N.paths.map Path.pv,N.ar.map aR.pv,())
def Nb(N:ah)(runs:List PV)(x:List PV):Option PV:=some (.bl [.agg [.rs 4 (N.stops.map Stop.pv),.rs 3 (N.ab.map av.pv),.rs 8 (runs.map PV.strip),.rs 5 x,.rs 4 (N.paths.map Path.pv),.rs 6 (N.ar.map aR.pv),.int .i64 N.aO,.int .i64 N.within,.int .i64 N.cap],.int .i64 0])
theorem Sj(N:ah)(h:O8 N)(i:Nat)(runs:List PV):cd.run (jj cd) ((N.ai.length:Int),0,N.ai.map aH.pv,(i:Int),N.aO,N.within,N.cap,0,0,0,N.stops.map Stop.pv,N.ab.map av.pv,runs,N.paths.map Path.pv,N.ar.map aR.pv,())=Nb N runs ((N.ai.filter (HA i)).map aH.pv):=by
 have hk:=h.ai;have YW:1003<rounds:=by decide
 refine Sd (fun k=>((N.ai.length:Int),(k:Int),N.ai.map aH.pv,(i:Int),N.aO,N.within,N.cap,0,0,0,N.stops.map Stop.pv,N.ab.map av.pv,runs,N.paths.map Path.pv,N.ar.map aR.pv,())) (XQ N i runs) (body3:=jl cd) N.ai (HA i) (Nb N runs) (fun j k x rec kL hx hj hg=>?_) (fun j x rec hx hj=>?_) (fun k rec kL=>?_) (fun rec=>?_) (by omega)
 ·unfold XQ jl;dsimp only;rw[if_pos (by rw[decide_eq_true_eq];omega),if_pos (il _ _ (by omega)),Int.toNat_natCast,hg];simp only[U,Ft,vc,asBool,Bool.not_not,an (show k<9223372036854775807 by omega),an (show j<9223372036854775807 by omega),il j x.length (by omega),if_true,Int.toNat_natCast,List.getElem?_eq_getElem (show j<x.length by omega)]
 ·unfold XQ jl;dsimp only;rw[if_neg (by rw[hx];simp)];simp only[Int.toNat_natCast,Int.toNat_zero,Nat.sub_zero,List.drop_zero];rw[if_pos (by exact⟨by omega,by omega,by omega,trivial⟩),if_pos (by exact⟨trivial,trivial,by omega,by omega⟩),if_pos (by refine⟨by omega,by omega,?_,trivial⟩;simp only[List.length_append,List.length_take,List.length_replicate,List.length_drop];omega)];unfold Nb;rw[List.take_append_of_le_length (by simp;omega),List.take_take,Nat.min_self]
 ·unfold jj;dsimp only;rw[if_pos (by rw[decide_eq_true_eq];omega),if_pos (il _ _ (by simpa using kL)),Int.toNat_natCast,List.getElem?_map,List.getElem?_eq_getElem kL];simp only[Option.map_some,U,Ft,vc,asBool,an (show k<9223372036854775807 by omega),fb];cases hp:HA i N.ai[k]with
  |true=>simp only[Bool.not_true,Bool.false_eq_true,if_false,if_true]
  |false=>simp only[Bool.not_false,if_true,Bool.false_eq_true,if_false];rw[if_neg (by rw[decide_eq_true_eq];omega)];rfl
 ·unfold jj;dsimp only;rw[if_neg (by simp)];rfl
theorem Sk(x:aw):setCells 5 x.pv 3 1 (.bool false)=({x with Ho:=false}:aw).pv:=rfl
theorem Sl(x:aw):setCells 5 x.pv 4 1 (.bool false)=({x with Cn:=false}:aw).pv:=rfl
theorem abZ(x:bE)(l:List aw):setRow 8 x.pK 7 (.fO 5 (l.map aw.pv))=({x with calls:=l}:bE).pK:=rfl
theorem Pa(N:ah)(m:iX)(h:O8 N)(hm:m.Ok)(hv:(eU N).2.2=0)(hc:m.calls.length≤1000)(rec:_→Option PV):jm cd (Sf N m N.runs.length) rec=some (aPV N m):=by
 have hr:=h.runs;have hp:=vH (N.ar.map aR.pv) (by simpa using h.ar);have ht:=ur N m (by
  have:1000≤maxLen:=by decide
  omega)
 unfold Sf jm;dsimp only;rw[if_neg (by simp),hp];simp only[U,ae,if_true,O9,Ad,UH,ht];rw[EW];unfold aPV Fb Hu;simp only[fb,decide_eq_true_eq];by_cases k5:m.kind=5
 ·simp only[k5,if_true];cases htg:DT N.runs m with
  |some i=>simp only[ca,List.length_cons,List.length_nil,Nat.reduceAdd,if_true,U,List.getD_cons_zero,List.getD_cons_succ,asInt,asBool,Option.isSome_some];rfl
  |none=>
   have gy:=nS m.calls N.stops.length 0 3155932800 hm.calls.1;simp only[res]at gy;have XR:=vb m.calls (by omega);simp only[ca,List.length_cons,List.length_nil,Nat.reduceAdd,if_true,U,List.getD_cons_zero,List.getD_cons_succ,asInt,asBool,Option.isSome_none,Bool.false_eq_true,if_false,List.length_map,bm,Bool.or_eq_true,decide_eq_true_eq,gy,uu];by_cases mj:m.bj<0∨m.bj≥(N.ab.length:Int)
   ·rw[if_pos mj,if_pos mj];rfl
   ·rw[if_neg mj,if_neg mj];by_cases he:(bw m.calls (N.stops.length:Int) 0 3155932800).2=0
    ·rw[if_pos he,if_neg (show¬((N.runs.length:Int)≥1024) by omega),XR];simp only[U,ae,if_true,he,ne_eq,not_true,if_false,if_neg (show¬(N.runs.length≥1024) by omega)];rw[if_pos (by
      have:101*80≤aa:=by decide
      rw[List.length_append,List.length_map,List.length_singleton];omega)]
     rw[List.map_append,kq];have:(N.runs++[KO m]).map bE.pv=N.runs.map bE.pv++[.agg [.int .i64 (-1),.int .i64 m.day,.int .i64 m.inst,.str m.dv,.int .i64 m.bj,.bool m.free,.bool false,.rs 5 (m.calls.map aw.pv)]]:=by simp[KO,bE.pv]
     simp only[ah.pv,this,if_true];rfl
    ·rw[if_neg he,if_neg he,if_pos he,if_neg he];rfl
 ·simp only[if_neg k5];cases htg:DT N.runs m with
  |none=>simp only[ca,List.length_cons,List.length_nil,Nat.reduceAdd,if_true,U,List.getD_cons_zero,List.getD_cons_succ,asInt,asBool,Bool.not_false];rfl
  |some i=>
   obtain⟨hi,zJ,_⟩:=Cj htg;have pP:af (i:Int) N.runs.length:=⟨by omega,by omega⟩;have sF:=ub hv N.runs[i] (List.getElem_mem hi);simp only[ca,List.length_cons,List.length_nil,Nat.reduceAdd,if_true,U,List.getD_cons_zero,List.getD_cons_succ,asInt,asBool,Bool.not_true,Bool.false_eq_true,if_false,qd _ _ hi,List.getElem?_eq_getElem hi,pP,DZ,Int.toNat_natCast,List.length_map,bm,dG,Bool.or_eq_true,decide_eq_true_eq];have Tf:((decide (m.kind=1)||decide (m.kind=3))&&(decide (m.call<0)||decide (m.call≥(N.runs[i].calls.length:Int))))=decide ((m.kind=1∨m.kind=3)∧(m.call<0∨m.call≥(N.runs[i].calls.length:Int))):=by rw[Bool.eq_iff_iff];simp
   rw[Tf];simp only[decide_eq_true_eq];by_cases hn:(m.kind=1∨m.kind=3)∧(m.call<0∨m.call≥(N.runs[i].calls.length:Int))
   ·rw[if_pos hn,if_pos hn];rfl
   rw[if_neg hn,if_neg hn];by_cases k1:m.kind=1
   ·simp only[k1,if_true];have OJ:¬(m.call<0∨m.call≥(N.runs[i].calls.length:Int)):=fun hh=>hn ⟨.inl k1,hh⟩;have aeK:=not_or.1 OJ;unfold prop;rw[if_neg OJ,if_neg (show¬(m.call<0∨m.call≥(N.runs[i].calls.length:Int))from OJ)];by_cases hs:m.bT< -43200∨m.bT>43200
    ·rw[if_pos hs,if_pos hs];rfl
    rw[if_neg hs,if_neg hs];obtain⟨c,CI⟩:∃c:Nat,m.call=(c:Int):=⟨m.call.toNat,by omega⟩;have vw:c<N.runs[i].calls.length:=by omega
    have hlen:=h.calls N.runs[i] (List.getElem_mem hi);have ho:=xA N.runs[i].calls (by
     have:1000≤maxLen:=by decide
     omega)
    have hrq:Nz (cell N.runs[i].pK 7)=some (.rs 5 (N.runs[i].calls.map aw.pv)):=rfl;simp only[hrq,U,ho,asBool];cases XS:uj N.runs[i].calls with
    |false=>rfl
    |true=>
     have ep:0≤(N.runs[i].calls.length:Int)∧(N.runs[i].calls.length:Int)≤(N.runs[i].calls.length:Int)∧(N.runs[i].calls.length:Int).toNat*32≤aa∧0<32∧0<5:=by
      have:1000*32≤aa:=by decide
      refine⟨by omega,by omega,?_,by decide,by decide⟩;rw[Int.toNat_natCast];omega
     rw[if_neg (by decide),if_pos (by rw[Int.toNat_natCast]at ep;exact ep)];simp only[CI,Int.toNat_natCast];obtain⟨a1,a2⟩:=M8 XS vw (show-43200≤m.bT by omega) (show m.bT≤43200 by omega);have hA:=Si N h i c hi vw XS _ a1 (by omega);have Th:∀z:PV,List.take (List.replicate N.runs[i].calls.length z).length (N.runs[i].calls.map aw.pv)++List.drop N.runs[i].calls.length (List.replicate N.runs[i].calls.length z)=N.runs[i].calls.map aw.pv:=fun z=>by rw[List.length_replicate,List.take_of_length_le (by simp),List.drop_eq_nil_of_le (by simp),List.append_nil]
     have hS:∀A out,KU N i c A 0 out=((i:Int),(c:Int),A,(N.runs[i].calls.length:Int),0,(i:Int),N.runs.map bE.pK,out,N.aO,N.within,N.cap,0,0,0,N.stops.map Stop.pv,N.ab.map av.pv,N.ai.map aH.pv,N.paths.map Path.pv,N.ar.map aR.pv,()):=fun A out=>by unfold KU;rw[List.getElem?_eq_getElem hi];rfl
     rw[hS]at hA;have hF:∀o,(match gv (N.runs[i].calls.drop c) (nf N.runs[i].calls c m.bT)with|some r=>some (PV.bl [(Fs N i (N.runs[i].calls.take c++r)).pv,.int .i64 0])|none=>some (PV.bl [z9,.int .i64 10]))=o→cd.run dF ((i:Int),(c:Int),nf N.runs[i].calls c m.bT,(N.runs[i].calls.length:Int),0,(i:Int),N.runs.map bE.pK,N.runs[i].calls.map aw.pv,N.aO,N.within,N.cap,0,0,0,N.stops.map Stop.pv,N.ab.map av.pv,N.ai.map aH.pv,N.paths.map Path.pv,N.ar.map aR.pv,())=o:=fun o ho=>hA.trans ho;have hlm:=mR;obtain⟨s0,s1,s2⟩:=nV XS c vw;have tD:∀A,A=nf N.runs[i].calls c m.bT→cd.run dF ((i:Int),(c:Int),A,(N.runs[i].calls.length:Int),0,(i:Int),N.runs.map bE.pK,N.runs[i].calls.map aw.pv,N.aO,N.within,N.cap,0,0,0,N.stops.map Stop.pv,N.ab.map av.pv,N.ai.map aH.pv,N.paths.map Path.pv,N.ar.map aR.pv,())=some (if(match(match gv (N.runs[i].calls.drop c) (nf N.runs[i].calls c m.bT)with|some r=>(some (N.runs[i].calls.take c++r),(0:Int))|none=>(none,10))with|(some l,_)=>(({N with runs:=N.runs.set i {N.runs[i]with calls:=l}}:ah),(0:Int))|(none,e)=>(N,e)).2=0 then PV.bl [(match(match gv (N.runs[i].calls.drop c) (nf N.runs[i].calls c m.bT)with|some r=>(some (N.runs[i].calls.take c++r),(0:Int))|none=>(none,10))with|(some l,_)=>(({N with runs:=N.runs.set i {N.runs[i]with calls:=l}}:ah),(0:Int))|(none,e)=>(N,e)).1.pv,.int .i64 0]else .bl [z9,.int .i64 (match(match gv (N.runs[i].calls.drop c) (nf N.runs[i].calls c m.bT)with|some r=>(some (N.runs[i].calls.take c++r),(0:Int))|none=>(none,10))with|(some l,_)=>(({N with runs:=N.runs.set i {N.runs[i]with calls:=l}}:ah),(0:Int))|(none,e)=>(N,e)).2]):=by
      intro A sT;subst sT;apply hF;cases gv (N.runs[i].calls.drop c) (nf N.runs[i].calls c m.bT)with
      |none=>rfl
      |some r=>simp only[Fs,List.getElem?_eq_getElem hi];rfl
     cases c with
     |zero=>rw[if_neg (by decide),if_pos (il _ _ vw)];simp only[List.getElem?_map,List.getElem?_eq_getElem vw,Option.map_some,U,zB,asInt,if_true,Th];refine tD _ ?_;rw[wrap_small (by omega) (by omega)];unfold nf;rw[List.getElem?_eq_getElem vw];simp only[iw,Option.map_some,Option.map_none,Option.getD_none,Option.getD_some];by_cases hx:N.runs[i].calls[0].arr+m.bT<0<;>simp[hx]
     |succ j=>
      have hj:j<N.runs[i].calls.length:=by omega
      rw[if_pos (by omega),uZ j (by omega),if_pos (il _ _ hj)];simp only[Int.toNat_natCast,List.getElem?_map,List.getElem?_eq_getElem hj,Option.map_some,U,zB,zC,asInt,if_true,Th,il _ _ vw,List.getElem?_eq_getElem vw];refine tD _ ?_;rw[wrap_small (by omega) (by omega)];unfold nf;rw[List.getElem?_eq_getElem vw];simp only[iw,List.getElem?_eq_getElem hj,Option.map_some,Option.getD_some]
   simp only[if_neg k1];by_cases k2:m.kind=2
   ·simp only[k2,if_true,qd _ _ hi,U,VW,yP];rfl
   simp only[if_neg k2];by_cases k3:m.kind=3
   ·simp only[k3,if_true];have OJ:=not_or.1 (fun hh=>hn ⟨.inr k3,hh⟩:¬(m.call<0∨m.call≥(N.runs[i].calls.length:Int)));obtain⟨c,CI⟩:∃c:Nat,m.call=(c:Int):=⟨m.call.toNat,by omega⟩;have vw:c<N.runs[i].calls.length:=by omega
    simp only[CI,Int.toNat_natCast,il c _ vw,if_true,List.getElem?_map,List.getElem?_eq_getElem vw,Option.map_some,U,Sk,←List.map_set,abZ,List.length_set,List.length_map,pP,List.getElem?_set_self hi,DZ,List.getElem?_set_self vw,Sl,List.set_set,kq];simp only[Cm,List.getElem?_eq_getElem vw];rfl
   simp only[if_neg k3];by_cases k4:m.kind=4
   ·simp only[k4,if_true];have gy:=nS m.calls N.stops.length 0 3155932800 hm.calls.1;simp only[res]at gy;have XR:=vb m.calls (by omega);simp only[gy,U,ca,List.length_cons,List.length_nil,Nat.reduceAdd,if_true,List.getD_cons_zero,List.getD_cons_succ,asInt,uu];by_cases he:(bw m.calls (N.stops.length:Int) 0 3155932800).2=0
    ·simp only[he,XR,U,ae,if_true,ne_eq,not_true,if_false];rw[Sj N h i,UM,sy];unfold Nb;rw[yP];rfl
    ·rw[if_neg he,if_neg he,if_pos he,if_neg he];rfl
   simp only[if_neg k4];rfl
theorem Nc(x:bE)(l:List PV):(if(8:Nat)=1 then PV.fO 5 l else .agg (cell x.pv 0::cell x.pv 1::cell x.pv 2::cell x.pv 3::cell x.pv 4::cell x.pv 5::cell x.pv 6::.fO 5 l::over [] []))=.agg [.int .i64 x.dv,.int .i64 x.day,.int .i64 x.inst,.str x.id,.int .i64 x.bj,.bool x.free,.bool x.qH,.fO 5 l]:=rfl
theorem Cu(N:ah)(m:iX)(h:O8 N)(hm:m.Ok)(hc:m.calls.length≤1000):aZ [N.pv,m.pv]=some (xB N m):=by
 have hr:=h.runs;have YW:1003<rounds:=by decide
 have A6:=Ca N h.ok (by have:=h.paths;omega);have hmk:=Ht m hm;have f1:=Cb (N.stops.map Stop.pv) (by simpa using h.stops);have f2:=zH (N.ab.map av.pv) (by simpa using h.ab);have f3:=DF (N.runs.map bE.pv) (by simp;omega);have f4:=Cc (N.ai.map aH.pv) (by simpa using h.ai);have f5:=ue (N.paths.map Path.pv) (by simpa using h.paths);simp only[aZ,mr,qI,rq,rr,ru,ry,rz,rA,rB,rC,rD,U,Ad,A6];simp only[fW,ca,List.length_cons,List.length_nil,Nat.reduceAdd,if_true,List.getD_cons_zero,List.getD_cons_succ,asInt,U,Fe,Ff,Fg,Fh,Fi,Fj,Fk,Fl,Fm,Fo,Fq,xx,xy,DX,bu,ae,asBool,UH,hmk,uu,f1,f2,f3,f4,f5,List.length_map];unfold xB;by_cases hv:(eU N).2.2=0
 ·rw[if_pos hv,if_pos hv];by_cases he:ij m=0
  ·rw[if_pos he,if_pos he];refine bL (Sf N m) N.runs.length (fun k hk rec=>?_) (fun rec=>Pa N m h hm hv hc rec) (by omega) (by unfold Sf;rw[Hb];rfl);have fc:=Cd (N.runs[k].calls.map aw.pv) (by simpa using h.calls _ (List.getElem_mem hk));unfold Sf jm;dsimp only;rw[if_pos (by rw[decide_eq_true_eq];omega),if_pos (EX _ _ _ _ hk),Int.toNat_natCast,MR _ _ _ _ hk];simp only[U,EM,fc,ae,if_true,EX _ _ _ _ hk,Nc,an (show k<9223372036854775807 by omega)];have:=MS bE.pK bE.pv N.runs k hk;rw[←this];rfl
  ·rw[if_neg he,if_neg he];rfl
 ·rw[if_neg hv,if_neg hv];rfl
structure nv(q:PV)(m:iX):Prop where
 hA:asAgg 13 q=some ()
 h0:cell q 0=.int .i64 m.source
 h1:cell q 1=.int .i64 m.seq
 h2:cell q 2=.int .i64 m.lJ
 h3:cell q 3=.int .i64 m.iC
 h4:cell q 4=.int .i64 m.kind
 h5:cell q 5=.str m.dv
 h6:cell q 6=.int .i64 m.day
 h7:cell q 7=.int .i64 m.inst
 h8:cell q 8=.int .i64 m.call
 h9:cell q 9=.int .i64 m.bT
 FL:cell q 10=.int .i64 m.bj
 XT:cell q 11=.bool m.free
 XU:ae 5 (cell q 12)=some (m.calls.map aw.pv)
def Nf(q:PV):PV:=.agg [cell q 0,cell q 1,cell q 2,cell q 3,cell q 4,cell q 5,cell q 6,cell q 7,cell q 8,cell q 9,cell q 10,cell q 11,cell q 12]
theorem nv.agg{q:PV}{m:iX}(h:nv q m):nv (Nf q) m:=⟨rfl,h.h0,h.h1,h.h2,h.h3,h.h4,h.h5,h.h6,h.h7,h.h8,h.h9,h.FL,h.XT,h.XU⟩
structure xC(p:PV)(N:ah):Prop where
 hA:asAgg 9 p=some ()
 h0:ae 4 (cell p 0)=some (N.stops.map Stop.pv)
 h1:ae 3 (cell p 1)=some (N.ab.map av.pv)
 h2:ae 8 (cell p 2)=some (N.runs.map bE.pv)
 h3:ae 5 (cell p 3)=some (N.ai.map aH.pv)
 h4:ae 4 (cell p 4)=some (N.paths.map Path.pv)
 h5:ae 6 (cell p 5)=some (N.ar.map aR.pv)
 h6:asInt .i64 (cell p 6)=some N.aO
 h7:asInt .i64 (cell p 7)=some N.within
 h8:asInt .i64 (cell p 8)=some N.cap
theorem ab0(N:ah):xC N.pv N:=⟨rfl,rfl,rfl,rfl,rfl,rfl,rfl,rfl,rfl,rfl⟩
theorem XV(x:iX):ae 5 (cell x.pv 12)=some (x.calls.map aw.pv):=rfl
theorem HB{q:PV}{m:iX}(hq:nv q m):cM [q]=cM [m.pv]:=by simp only[cM,mw,hq.hA,hq.h0,hq.h1,hq.h2,hq.h3,hq.h4,hq.h5,hq.h6,hq.h7,hq.h8,hq.h9,hq.FL,hq.XT,hq.XU,Fe,Ff,Fg,Fh,Fi,Fj,Fk,Fl,Fm,Fo,Fq,xx,xy,XV]
theorem zQ{p q:PV}{N:ah}{m:iX}(hp:xC p N)(hq:nv q m):bI [p,q]=bI [N.pv,m.pv]:=by simp only[bI,k8,hp.hA,hp.h0,hp.h1,hp.h2,hp.h3,hp.h4,hp.h5,hp.h6,hp.h7,hp.h8,hq.hA,hq.h0,hq.h1,hq.h2,hq.h3,hq.h4,hq.h5,hq.h6,hq.h7,hq.h8,hq.h9,hq.FL,hq.XT,hq.XU,qI,rq,rr,ru,ry,rz,rA,rB,rC,rD,Fe,Ff,Fg,Fh,Fi,Fj,Fk,Fl,Fm,Fo,Fq,xx,xy,XV]
theorem KV{p q:PV}{N:ah}{m:iX}(hp:xC p N)(hq:nv q m):aZ [p,q]=aZ [N.pv,m.pv]:=by simp only[aZ,mr,hp.hA,hp.h0,hp.h1,hp.h2,hp.h3,hp.h4,hp.h5,hp.h6,hp.h7,hp.h8,hq.hA,hq.h0,hq.h1,hq.h2,hq.h3,hq.h4,hq.h5,hq.h6,hq.h7,hq.h8,hq.h9,hq.FL,hq.XT,hq.XU,qI,rq,rr,ru,ry,rz,rA,rB,rC,rD,Fe,Ff,Fg,Fh,Fi,Fj,Fk,Fl,Fm,Fo,Fq,xx,xy,XV,U]
end Go.Ab.Tt
