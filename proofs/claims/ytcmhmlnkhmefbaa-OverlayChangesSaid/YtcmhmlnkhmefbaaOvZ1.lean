import Derived.Test.YtcmhmlnkhmefbaaNkP2
namespace Go.Ab.Tt
set_option maxRecDepth 100000
set_option linter.unusedVariables false
set_option linter.unusedSimpArgs false
structure iS where
 source:Int
 seq:Int
 kn:Int
 gK:Int
 kind:Int
 dA:Bytes
 day:Int
 inst:Int
 call:Int
 bP:Int
 bd:Int
 free:Bool
 calls:List an
 deriving DecidableEq
def iS.pv(x:iS):PV:=.agg [.int .i64 x.source,.int .i64 x.seq,.int .i64 x.kn,.int .i64 x.gK,.int .i64 x.kind,.str x.dA,.int .i64 x.day,.int .i64 x.inst,.int .i64 x.call,.int .i64 x.bP,.int .i64 x.bd,.bool x.free,.rs 5 (x.calls.map an.pv)]
structure iS.iQ(M:Nat)(x:iS):Prop where
 source:ja x.source
 seq:ja x.seq
 kn:ja x.kn
 gK:ja x.gK
 kind:ja x.kind
 dA:x.dA.length≤M
 day:ja x.day
 inst:ja x.inst
 call:ja x.call
 bP:ja x.bP
 bd:ja x.bd
 calls:x.calls.length≤M∧∀y∈x.calls,y.iQ M
abbrev iS.Ok(x:iS):Prop:=x.iQ maxLen
def iS.key(x:iS):Bytes×Int×Int:=(x.dA,x.day,x.inst)
def BS(l:List cz)(m:iS):Option Nat:=(List.range l.length).find? fun k=>decide ((l.map bQ)[k]?=some m.key)
theorem zS{l:List cz}{m:iS}{k:Nat}(h:BS l m=some k):∃hk:k<l.length,bQ l[k]=m.key∧∀j,(hj:j<k)→bQ (l[j]'(by omega))≠m.key:=by
 unfold BS at h;rw[List.find?_range_eq_some]at h;obtain⟨h1,h2,h3⟩:=h;have hk:k<l.length:=by simpa using h2
 refine⟨hk,?_,fun j hj hc=>?_⟩
 ·simpa[List.getElem?_eq_getElem hk]using h1
 ·have:=h3 j hj;simp[List.getElem?_eq_getElem (show j<l.length by omega),hc]at this
theorem OB{l:List cz}{m:iS}(h:BS l m=none):m.key∉l.map bQ:=by
 unfold BS at h;rw[List.find?_eq_none]at h;intro hm;obtain⟨k,hk⟩:=List.mem_iff_getElem?.1 hm;have sx:k<l.length:=by have:=(List.getElem?_eq_some_iff.1 hk).1;simpa using this
 exact h k (by simpa using sx) (by simpa using hk)
def gp:Int:=3155932800
def rG(l:List an):Bool:=(List.range l.length).all fun k=>(l[k]?).elim true fun c=> !(decide (c.arr<((iE l k).map an.dep).getD 0)||decide (c.dep<c.arr)||decide (c.dep>gp))
def gq(c:an):Int:=if c.dep-c.arr<30 then c.dep-c.arr else 30
def late(c:an)(HF:Int):an:={c with arr:=HF,dep:=if HF+gq c>c.dep then HF+gq c else c.dep}
def fN:List an→Int→Option (List an)
 |[],_=>some []
 |c::cs,a=>if(late c a).dep>gp then none else
  match cs with
  |[]=>some [late c a]
  |d::ds=>(fN (d::ds) (d.arr+(late c a).dep-c.dep)).map fun r=>late c a::r
def lJ(l:List an)(n:Nat)(bP:Int):Int:=
 let before:=((iE l n).map an.dep).getD 0
 let x:=((l[n]?).map an.arr).getD 0+bP
 if x<before then before else x
def prop(l:List an)(n:Int)(bP:Int):Option (List an)×Int:=
 if n<0∨n≥(l.length:Int)then(none,1)else if bP< -43200∨bP>43200 then(none,2)else if rG l=false then(none,10)
 else match fN (l.drop n.toNat) (lJ l n.toNat bP)with
 |some r=>(some (l.take n.toNat++r),0)
 |none=>(none,10)
end Go.Ab.Tt
namespace Go.Ab.Tt
set_option maxRecDepth 100000
set_option linter.unusedVariables false
set_option linter.unusedSimpArgs false
theorem nO(N:aj):(fv N).2.2=0↔(j7 N.stops).2=0∧(j8 N.ao).2=0∧(gh N.runs N.stops.length N.ao.length).2=0∧(ke N.runs N.aJ).2=0∧(lx N.paths N.stops.length).2=0∧(nI N.aU N.cM N.within N.cap).2=0:=by
 unfold fv;by_cases h1:(j7 N.stops).2=0
 ·rw[if_pos h1];by_cases h2:(j8 N.ao).2=0
  ·rw[if_pos h2];by_cases h3:(gh N.runs N.stops.length N.ao.length).2=0
   ·rw[if_pos h3];by_cases h4:(ke N.runs N.aJ).2=0
    ·rw[if_pos h4];by_cases h5:(lx N.paths N.stops.length).2=0
     ·rw[if_pos h5];by_cases h6:(nI N.aU N.cM N.within N.cap).2=0
      ·rw[if_pos h6];simp[h1,h2,h3,h4,h5,h6]
      ·rw[if_neg h6];simp[h6]
     ·rw[if_neg h5];simp[h5]
    ·rw[if_neg h4];simp[h4]
   ·rw[if_neg h3];simp[h3]
  ·rw[if_neg h2];simp[h2]
 ·rw[if_neg h1];simp[h1]
def uN(x:cz)(stops ao:Int):Int:=
 if gg x.id=false then 12 else if(decide (x.dA< -1)||decide (x.inst<0))=true then 2
 else if(decide (x.day<0)||decide (x.day>36524))=true then 11 else if(decide (x.bd<0)||decide (x.bd≥ao))=true then 9
 else(bx x.calls stops 0 3155932800).2
theorem xh(l:List cz)(s r:Int)(k:Nat)(hk:k<l.length):kc l s r k=0↔uN l[k] s r=0∧bQ l[k]∉(l.map bQ).take k:=by
 unfold kc uN;rw[List.getElem?_eq_getElem hk];simp only;by_cases h1:gg l[k].id=false
 ·rw[if_pos h1,if_pos h1];simp
 ·rw[if_neg h1,if_neg h1];by_cases h2:(decide (l[k].dA< -1)||decide (l[k].inst<0))=true
  ·rw[if_pos h2,if_pos h2];simp
  ·rw[if_neg h2,if_neg h2];by_cases h3:(decide (l[k].day<0)||decide (l[k].day>36524))=true
   ·rw[if_pos h3,if_pos h3];simp
   ·rw[if_neg h3,if_neg h3];by_cases h4:(decide (l[k].bd<0)||decide (l[k].bd≥r))=true
    ·rw[if_pos h4,if_pos h4];simp
    ·rw[if_neg h4,if_neg h4];by_cases h5:(bx l[k].calls s 0 3155932800).2=0
     ·rw[if_pos h5];by_cases h6:bQ l[k]∈(l.map bQ).take k
      ·simp[h6]
      ·simp[h6,h5]
     ·rw[if_neg h5];simp[h5]
theorem lZ(l:List cz)(s r:Int):(gh l s r).2=0↔l.length≤1024∧∀k,(hk:k<l.length)→uN l[k] s r=0∧bQ l[k]∉(l.map bQ).take k:=by
 unfold gh;by_cases h:l.length>1024
 ·rw[if_pos h];constructor
  ·intro hc;cases hc
  ·rintro⟨h1,_⟩;omega
 ·rw[if_neg h,kO];constructor
  ·intro h0;exact⟨by omega,fun k hk=>(xh l s r k hk).1 (h0 k hk)⟩
  ·rintro⟨_,h0⟩ k hk;exact(xh l s r k hk).2 (h0 k hk)
theorem OC{l:List cz}{s r:Int}{i:Nat}{x:cz}(hi:i<l.length)(hk:bQ x=bQ l[i])(hx:uN x s r=0)(h:(gh l s r).2=0):(gh (l.set i x) s r).2=0:=by
 rw[lZ]at h⊢;have hm:(l.set i x).map bQ=l.map bQ:=by rw[List.map_set,hk,←List.getElem_map bQ (h:=by simpa using hi),List.set_getElem_self]
 refine⟨by rw[List.length_set];exact h.1,fun k jI=>?_⟩;have T2:k<l.length:=by simpa using jI
 rw[hm];obtain⟨h1,h2⟩:=h.2 k T2;by_cases zR:i=k
 ·subst zR;rw[List.getElem_set_self];exact⟨hx,by rw[hk];exact h2⟩
 ·rw[List.getElem_set_ne zR];exact⟨h1,h2⟩
theorem OD{l:List cz}{s r:Int}{x:cz}(hk:bQ x∉l.map bQ)(hx:uN x s r=0)(hl:l.length<1024)(h:(gh l s r).2=0):(gh (l++[x]) s r).2=0:=by
 rw[lZ]at h⊢;refine⟨by simp;omega,fun k jI=>?_⟩;simp only[List.length_append,List.length_cons,List.length_nil]at jI;rw[List.map_append];by_cases ba:k<l.length
 ·rw[List.getElem_append_left ba,List.take_append_of_le_length (by simp;omega)];exact h.2 k ba
 ·have:k=l.length:=by omega
  subst this;rw[List.getElem_append_right (Nat.le_refl _)];simp only[Nat.sub_self,List.getElem_cons_zero];refine⟨hx,?_⟩;rw[List.take_append_of_le_length (by simp),List.take_of_length_le (by simp)];exact hk
def BT(runs:List cz)(p:List aM)(x:aM):Int:=
 if vZ x runs.length=true then 9 else if zH x (aF runs x.a).length (aF runs x.b).length=true then 9
 else if e8 (aF runs x.a) x.ac≠e8 (aF runs x.b) x.bc then 13 else if nK p x (aF runs x.a).length=true then 19
 else if eD x∈p.map eD then 6 else 0
theorem BU(runs:List cz)(l:List aM)(k:Nat)(hk:k<l.length):fC runs l k=BT runs (l.take k) l[k]:=by unfold fC BT;rw[List.getElem?_eq_getElem hk,List.map_take]
def qj(runs:List cz)(l:List aM):Prop:=∀k,(hk:k<l.length)→BT runs (l.take k) l[k]=0
theorem oE(runs:List cz)(l:List aM):(ke runs l).2=0↔l.length≤1024∧qj runs l:=by
 unfold ke qj;by_cases h:l.length>1024
 ·rw[if_pos h];constructor
  ·intro hc;cases hc
  ·rintro⟨h1,_⟩;omega
 ·rw[if_neg h,kO];constructor
  ·intro h0;exact⟨by omega,fun k hk=>by rw[←BU];exact h0 k hk⟩
  ·rintro⟨_,h0⟩ k hk;rw[BU runs l k hk];exact h0 k hk
theorem Ll(runs:List cz):qj runs []:=fun k hk=>by simp at hk
theorem tH(runs:List cz)(p:List aM)(x:aM):qj runs (p++[x])↔qj runs p∧BT runs p x=0:=by
 constructor
 ·intro h;refine⟨fun k hk=>?_,?_⟩
  ·have:=h k (by simp;omega);rw[List.getElem_append_left hk,List.take_append_of_le_length (by omega)]at this;exact this
  ·have:=h p.length (by simp);rw[List.getElem_append_right (Nat.le_refl _),List.take_append_of_le_length (Nat.le_refl _),List.take_length]at this;simpa using this
 ·rintro⟨h1,h2⟩ k hk;simp only[List.length_append,List.length_cons,List.length_nil]at hk;by_cases ba:k<p.length
  ·rw[List.getElem_append_left ba,List.take_append_of_le_length (by omega)];exact h1 k ba
  ·have:k=p.length:=by omega
   subst this;rw[List.getElem_append_right (Nat.le_refl _),List.take_append_of_le_length (Nat.le_refl _),List.take_length];simpa using h2
theorem pP(runs:List cz)(p:List aM)(x:aM):BT runs p x=0↔vZ x runs.length=false∧zH x (aF runs x.a).length (aF runs x.b).length=false∧e8 (aF runs x.a) x.ac=e8 (aF runs x.b) x.bc∧nK p x (aF runs x.a).length=false∧eD x∉p.map eD:=by
 unfold BT;cases vZ x runs.length with
 |true=>simp
 |false=>
  cases zH x (aF runs x.a).length (aF runs x.b).length with
  |true=>simp
  |false=>
   by_cases h3:e8 (aF runs x.a) x.ac=e8 (aF runs x.b) x.bc
   ·cases nK p x (aF runs x.a).length with
    |true=>simp[h3]
    |false=>
     by_cases h5:eD x∈p.map eD
     ·simp[h3,h5]
     ·simp[h3,h5]
   ·simp[h3]
theorem zT{x:aM}{R:Int}(h:vZ x R=false):(0≤x.a∧x.a<R)∧(0≤x.b∧x.b<R)∧x.a≠x.b:=by unfold vZ at h;simp only[Bool.or_eq_false_iff,Bool.not_eq_false',Bool.and_eq_true,decide_eq_true_eq,decide_eq_false_iff_not]at h;exact⟨h.1.1,h.1.2,h.2⟩
variable{runs xi:List cz}
theorem nf{l:List aM}(h:qj runs l)(hR:runs.length≤xi.length)(hc:∀x∈l,∀v,v=x.a∨v=x.b→(aF xi v).length=(aF runs v).length∧∀c,e8 (aF xi v) c=e8 (aF runs v) c):qj xi l:=by intro k hk;have h0:=h k hk;rw[pP]at h0⊢;obtain⟨h1,h2,h3,h4,h5⟩:=h0;obtain⟨ea,sa⟩:=hc _ (List.getElem_mem hk) _ (Or.inl rfl);obtain⟨eb,sb⟩:=hc _ (List.getElem_mem hk) _ (Or.inr rfl);rw[ea,eb,sa,sb];refine⟨?_,h2,h3,h4,h5⟩;obtain⟨g1,g2,g3⟩:=zT h1;unfold vZ;simp only[Bool.or_eq_false_iff,Bool.not_eq_false',Bool.and_eq_true,decide_eq_true_eq,decide_eq_false_iff_not];exact⟨⟨⟨g1.1,by omega⟩,⟨g2.1,by omega⟩⟩,g3⟩
theorem xj{p:List aM}{x:aM}{A:Int}(h:nK p x A=false):x.stay=false∨(x.ac+1=A∧x.bc=0∧nx p x.a=none∧x.b∉lQ p∧pL p x.b x.a (p.length+1)=false):=by
 unfold nK at h;cases hs:x.stay with
 |false=>exact Or.inl rfl
 |true=>
  rw[hs,Bool.true_and]at h;simp only[Bool.or_eq_false_iff,Bool.not_eq_false',decide_eq_true_eq,decide_eq_false_iff_not]at h;obtain⟨⟨⟨⟨h1,h2⟩,h3⟩,h4⟩,h5⟩:=h;refine Or.inr ⟨h1,h2,?_,h4,h5⟩;cases hn:nx p x.a with
  |none=>rfl
  |some w=>rw[hn]at h3;cases h3
theorem XX(l:List aM)(h:qj runs l):∀x∈l,x.stay=true→nx l x.a=some x.b:=by
 induction l using uH with
 |h0=>intro x hx;cases hx
 |h1 p y ih=>
  rw[tH]at h;obtain⟨hp,hy⟩:=h;rw[pP]at hy;intro x hx hs;rw[sl];rcases List.mem_append.1 hx with hx|hx
  ·have h1:=ih hp x hx hs;by_cases hc:(y.stay&&decide (y.a=x.a))=true
   ·simp only[Bool.and_eq_true,decide_eq_true_eq]at hc;rcases xj hy.2.2.2.1 with h2|h2
    ·rw[h2]at hc;cases hc.1
    ·rw[hc.2]at h2;rw[h1]at h2;cases h2.2.2.1
   ·rw[if_neg hc];exact h1
  ·rw[List.mem_singleton]at hx;subst hx;rw[if_pos (by simp[hs])]
theorem C4(f:aM→Bool)(l:List aM)(h:qj runs l)(hR:runs.length≤xi.length)(hc:∀x∈l,f x=true→∀v,v=x.a∨v=x.b→(aF xi v).length=(aF runs v).length∧∀c,e8 (aF xi v) c=e8 (aF runs v) c):qj xi (l.filter f):=by
 refine nf (runs:=runs) ?_ hR (fun x hx=>hc x (List.mem_filter.1 hx).1 (List.mem_filter.1 hx).2);clear hc hR;induction l using uH with
 |h0=>exact Ll runs
 |h1 p x ih=>
  rw[tH]at h;obtain⟨hp,hx⟩:=h;rw[List.filter_append];by_cases hf:f x=true
  ·rw[List.filter_cons_of_pos hf,List.filter_nil,tH];refine⟨ih hp,?_⟩;rw[pP]at hx⊢;obtain⟨h1,h2,h3,h4,h5⟩:=hx;have KD:∀y∈p.filter f,y∈p:=fun y hy=>(List.mem_filter.1 hy).1;refine⟨h1,h2,h3,?_,fun hm=>h5 ?_⟩
   ·rcases xj h4 with hs|⟨g1,g2,g3,g4,g5⟩
    ·unfold nK;rw[hs];rfl
    ·have hnx:∀v w,nx (p.filter f) v=some w→nx p v=some w:=fun v w Jx=>by obtain⟨y,hy,UI,rfl,rfl⟩:=N9 Jx;exact XX p hp y (KD y hy) UI
     have hit:∀t v w,it (nx (p.filter f)) t v=some w→it (nx p) t v=some w:=by
      intro t;induction t with
      |zero=>intro v w h;exact h
      |succ t iht=>
       intro v w Jx;have QU:(nx (p.filter f) v).bind (it (nx (p.filter f)) t)=some w:=Jx;cases hn:nx (p.filter f) v with
       |none=>rw[hn]at QU;cases QU
       |some u=>rw[hn]at QU;show(nx p v).bind (it (nx p) t)=some w;rw[hnx v u hn];exact iht u w QU
     have k1:(nx (p.filter f) x.a).isSome=false:=by
      cases hn:nx (p.filter f) x.a with
      |none=>rfl
      |some w=>rw[hnx _ _ hn]at g3;cases g3
     have k2:decide (x.b∈lQ (p.filter f))=false:=by rw[decide_eq_false_iff_not];intro hm;apply g4;unfold lQ at hm⊢;obtain⟨y,hy,hyb⟩:=List.mem_map.1 hm;obtain⟨hy1,hy2⟩:=List.mem_filter.1 hy;exact List.mem_map.2 ⟨y,List.mem_filter.2 ⟨KD y hy1,hy2⟩,hyb⟩
     have k3:pL (p.filter f) x.b x.a ((p.filter f).length+1)=false:=by unfold pL at g5⊢;rw[List.any_eq_false]at g5⊢;intro t ht hc;have hle:=List.length_filter_le f p;refine g5 t (by simp at ht⊢;omega) ?_;rw[decide_eq_true_eq]at hc⊢;exact hit _ _ _ hc
     unfold nK;rw[k1,k2,k3,g1,g2];simp
   ·obtain⟨y,hy,hk⟩:=List.mem_map.1 hm;exact List.mem_map.2 ⟨y,KD y hy,hk⟩
  ·rw[List.filter_cons_of_neg hf,List.filter_nil,List.append_nil];exact ih hp
end Go.Ab.Tt
namespace Go.Ab.Tt
set_option maxRecDepth 100000
set_option linter.unusedVariables false
set_option linter.unusedSimpArgs false
def Di(n a b:Int):Option an→List an→Prop
 |_,[]=>True
 |p,c::cs=>kB c p n a b=0∧Di n a b (some c) cs
theorem JP(n a b:Int)(l:List an):∀p,Di n a b p l↔∀k,(hk:k<l.length)→kB l[k] (if k=0 then p else l[k-1]?) n a b=0:=by
 induction l with
 |nil=>intro p;exact⟨fun _ k hk=>by simp at hk,fun _=>trivial⟩
 |cons c cs ih=>
  intro p;show(kB c p n a b=0∧Di n a b (some c) cs)↔_;rw[ih];constructor
  ·rintro⟨h1,h2⟩ k hk;cases k with
   |zero=>exact h1
   |succ k=>
    have:=h2 k (by simpa using hk);cases k with
    |zero=>simpa using this
    |succ k=>simpa using this
  ·intro h;refine⟨h 0 (Nat.zero_lt_succ _),fun k hk=>?_⟩;have:=h (k+1) (by simpa using hk);cases k with
   |zero=>simpa using this
   |succ k=>simpa using this
theorem rH(l:List an)(n a b:Int):(bx l n a b).2=0↔2≤l.length∧l.length≤32∧Di n a b none l:=by
 have he:(∀k,k<l.length→lY l n a b k=0)↔Di n a b none l:=by
  rw[JP];constructor
  ·intro h k hk;have:=h k hk;unfold lY at this;rw[List.getElem?_eq_getElem hk]at this;cases k with
   |zero=>exact this
   |succ k=>exact this
  ·intro h k hk;have:=h k hk;unfold lY;rw[List.getElem?_eq_getElem hk];cases k with
   |zero=>exact this
   |succ k=>exact this
 rw[←he];constructor
 ·intro h;exact⟨(rC h).1,(rC h).2,xb h⟩
 ·rintro⟨h1,h2,h3⟩;unfold bx;rw[if_neg (by simp;omega)];exact(kO _ _).2 h3
theorem tI(n a b:Int)(l1 l2:List an):∀p,Di n a b p (l1++l2)↔Di n a b p l1∧Di n a b (if l1.length=0 then p else l1[l1.length-1]?) l2:=by
 induction l1 with
 |nil=>intro p;simp[Di]
 |cons c cs ih=>
  intro p;show(kB c p n a b=0∧Di n a b (some c) (cs++l2))↔(kB c p n a b=0∧Di n a b (some c) cs)∧_;rw[ih,and_assoc];have:(if(c::cs).length=0 then p else(c::cs)[(c::cs).length-1]?)=if cs.length=0 then some c else cs[cs.length-1]?:=by
   cases cs with
   |nil=>rfl
   |cons d ds=>simp
  rw[this]
variable{p:Option an}
theorem zU{c:an}{n a b:Int}(h1:0≤c.stop)(h2:c.stop<n)(h3:∀q,p=some q→q.stop≠c.stop)(h4:a≤c.arr)(h5:c.arr≤c.dep)(h6:c.dep≤b)(h7:∀q,p=some q→q.dep≤c.arr):kB c p n a b=0:=by
 unfold kB;rw[if_neg (by simp;omega)];cases p with
 |none=>dsimp only;rw[if_neg (by simp),if_neg (by simp;omega)]
 |some q=>dsimp only;have:=h3 q rfl;have:=h7 q rfl;rw[if_neg (by simpa using h3 q rfl),if_neg (by simp;omega)]
theorem pQ{c:an}{n a b:Int}(h:kB c p n a b=0):0≤c.stop∧c.stop<n∧∀q,p=some q→q.stop≠c.stop:=by
 unfold kB at h;by_cases hA:(decide (c.stop<0)||decide (c.stop≥n))=true
 ·rw[if_pos hA]at h;cases h
 ·rw[if_neg hA]at h;simp only[Bool.or_eq_true,decide_eq_true_eq,not_or]at hA;refine⟨by omega,by omega,fun q hq hc=>?_⟩;subst hq;dsimp only at h;rw[if_pos (by simpa using hc)]at h;cases h
theorem OE(n:Int)(cs:List an):∀(a:Int)(p:Option an)(r:List an),Di n 0 gp p cs→fN cs a=some r→(∀q,p=some q→q.dep≤a)→0≤a→Di n 0 gp p r∧r.map an.stop=cs.map an.stop:=by
 induction cs with
 |nil=>intro a p r _ hr _ _;simp only[fN,Option.some.injEq]at hr;subst hr;exact⟨trivial,rfl⟩
 |cons c cs ih=>
  intro a p r tO hr hp ha;obtain⟨hc,Fx⟩:=tO;obtain⟨g1,g2,g3⟩:=pQ hc;obtain⟨k1,k2,k3,k4⟩:=nb hc;have hd:0≤gq c:=by unfold gq;split<;>omega
  have aa9:a≤(late c a).dep:=by show a≤if a+gq c>c.dep then a+gq c else c.dep;split<;>omega
  have hcd:c.dep≤(late c a).dep:=by show c.dep≤if a+gq c>c.dep then a+gq c else c.dep;split<;>omega
  unfold fN at hr;by_cases rI:(late c a).dep>gp
  ·rw[if_pos rI]at hr;cases hr
  ·rw[if_neg rI]at hr;have hE:kB (late c a) p n 0 gp=0:=zU g1 g2 g3 ha aa9 (by omega) hp;cases cs with
   |nil=>simp only[Option.some.injEq]at hr;subst hr;exact⟨⟨hE,trivial⟩,rfl⟩
   |cons d ds=>
    simp only[Option.map_eq_some_iff]at hr;obtain⟨r',oQ,rfl⟩:=hr;obtain⟨hdE,US⟩:=Fx;obtain⟨d1,d2,d3,d4⟩:=nb hdE;obtain⟨e1,e2,e3⟩:=pQ hdE;have hdc:=d4 c rfl;have aba:Di n 0 gp (some (late c a)) (d::ds)→Di n 0 gp (some (late c a)) r'∧r'.map an.stop=(d::ds).map an.stop:=fun hh=>ih _ _ r' hh oQ (fun q hq=>by cases hq;omega) (by omega);by_cases XY:(late c a).dep≤d.arr
    ·obtain⟨i1,i2⟩:=aba ⟨zU e1 e2 (fun q hq=>by cases hq;exact e3 c rfl) d2 d1 d3 (fun q hq=>by cases hq;exact XY),US⟩;exact⟨⟨hE,i1⟩,by simp only[List.map_cons,i2];rfl⟩
    ·obtain⟨i1,i2⟩:=ih (d.arr+(late c a).dep-c.dep) (some c) r' ⟨hdE,US⟩ oQ (fun q hq=>by cases hq;omega) (by omega);refine⟨⟨hE,?_⟩,by simp only[List.map_cons,i2];rfl⟩;cases r' with
     |nil=>trivial
     |cons x xs=>
      obtain⟨j1,j2⟩:=i1;obtain⟨f1,f2,f3⟩:=pQ j1;obtain⟨t1,t2,t3,t4⟩:=nb j1;refine⟨zU f1 f2 (fun q hq=>by cases hq;exact f3 c rfl) t2 t1 t3 (fun q hq=>?_),j2⟩;cases hq;have hx:x.arr=d.arr+(late c a).dep-c.dep:=by
       unfold fN at oQ;by_cases nq:(late d (d.arr+(late c a).dep-c.dep)).dep>gp
       ·rw[if_pos nq]at oQ;cases oQ
       ·rw[if_neg nq]at oQ;cases ds with
        |nil=>simp only[Option.some.injEq,List.cons.injEq]at oQ;rw[←oQ.1];rfl
        |cons d2 ds2=>simp only[Option.map_eq_some_iff,List.cons.injEq]at oQ;obtain⟨_,_,h1,_⟩:=oQ;rw[←h1];rfl
      omega
theorem QV{l r:List an}{n:Int}{at_ bP:Int}(h:(bx l n 0 gp).2=0)(hp:prop l at_ bP=(some r,0)):(bx r n 0 gp).2=0∧r.map an.stop=l.map an.stop:=by
 rw[rH]at h;obtain⟨h1,h2,h3⟩:=h;unfold prop at hp;by_cases ha:at_<0∨at_≥(l.length:Int)
 ·rw[if_pos ha]at hp;cases hp
 ·rw[if_neg ha]at hp;by_cases hs:bP< -43200∨bP>43200
  ·rw[if_pos hs]at hp;cases hp
  ·rw[if_neg hs]at hp;by_cases ho:rG l=false
   ·rw[if_pos ho]at hp;cases hp
   ·rw[if_neg ho]at hp;cases hl:fN (l.drop at_.toNat) (lJ l at_.toNat bP)with
    |none=>rw[hl]at hp;cases hp
    |some r'=>
     rw[hl]at hp;simp only[Prod.mk.injEq,Option.some.injEq,and_true]at hp;generalize hn:at_.toNat=m at hl hp;have hm:m<l.length:=by omega
     rw[←List.take_append_drop m l,tI]at h3;obtain⟨g1,g2⟩:=h3;have hlen:(l.take m).length=m:=by simp;omega
     have OG:(if(l.take m).length=0 then(none:Option an)else(l.take m)[(l.take m).length-1]?)=iE l m:=by
      rw[hlen];cases m with
      |zero=>rfl
      |succ m=>rw[if_neg (by omega),List.getElem?_take_of_lt (by omega)];rfl
     rw[OG]at g2;have dQ:∀q,iE l m=some q→0≤q.dep:=by
      intro q hq;have tO:Di n 0 gp none l:=by rw[←List.take_append_drop m l,tI,OG];exact⟨g1,g2⟩
      cases m with
      |zero=>cases hq
      |succ m=>
       have Kp:l[m]?=some q:=hq;have PB:m<l.length:=by omega
       rw[List.getElem?_eq_getElem PB]at Kp;cases Kp;have:=(JP n 0 gp l none).1 tO m PB;obtain⟨z1,z2,_,_⟩:=nb this;omega
     have uz:(∀q,iE l m=some q→q.dep≤lJ l m bP)∧0≤lJ l m bP:=by
      unfold lJ;cases hq:iE l m with
      |none=>refine⟨(fun q hq=>by cases hq),?_⟩;simp only[Option.map_none,Option.getD_none];split<;>omega
      |some q=>
       have:=dQ q hq;simp only[Option.map_some,Option.getD_some];refine⟨fun q' Kp=>?_,?_⟩
       ·cases Kp;split<;>omega
       ·split<;>omega
     obtain⟨i1,i2⟩:=OE n (l.drop m) _ _ r' g2 hl uz.1 uz.2;have Ts:r'.length=l.length-m:=by have:=congrArg List.length i2;simpa using this
     rw[←hp];refine⟨?_,?_⟩
     ·rw[rH,tI,OG];refine⟨?_,?_,g1,i1⟩
      ·simp[Ts];omega
      ·simp[Ts];omega
     ·rw[List.map_append,i2,←List.map_append,List.take_append_drop]
def gA(m:iS):Int:=
 if wi m.source 0 7=false then 36 else if m.seq<1 then 2
 else if(!wi m.kn 0 3155932800|| !wi m.gK 0 3155932800||decide (m.kn≥m.gK))=true then 10
 else if wi m.kind 1 6=false then 35 else if gg m.dA=false then 12 else if wi m.day 0 36524=false then 11 else if m.inst<0 then 2
 else
  let uC:=decide (m.kind=1)||decide (m.kind=3)
  let uS:=decide (m.kind=1)
  let uR:=decide (m.kind=5)
  let uL:=decide (m.kind=4)||decide (m.kind=5)
  if(uC&& !wi m.call 0 31||uS&& !wi m.bP (-43200) 43200||uR&& !wi m.bd 0 63)=true then 2
  else if uL=true∧(bx m.calls 64 0 3155932800).2≠0 then(bx m.calls 64 0 3155932800).2
  else if(!uC&& !decide (m.call=0)|| !uS&& !decide (m.bP=0)|| !uR&& !decide (m.bd=0)|| !uR&&m.free|| !uL&&decide (m.calls.length>0))=true then 1 else 0
theorem OH{m:iS}(h:gA m=0):gg m.dA=true∧(0≤m.day∧m.day≤36524)∧0≤m.inst∧1≤m.kind∧m.kind≤6:=by
 unfold gA at h;by_cases h1:wi m.source 0 7=false
 ·rw[if_pos h1]at h;cases h
 rw[if_neg h1]at h;by_cases h2:m.seq<1
 ·rw[if_pos h2]at h;cases h
 rw[if_neg h2]at h;by_cases h3:(!wi m.kn 0 3155932800|| !wi m.gK 0 3155932800||decide (m.kn≥m.gK))=true
 ·rw[if_pos h3]at h;cases h
 rw[if_neg h3]at h;by_cases h4:wi m.kind 1 6=false
 ·rw[if_pos h4]at h;cases h
 rw[if_neg h4]at h;by_cases h5:gg m.dA=false
 ·rw[if_pos h5]at h;cases h
 rw[if_neg h5]at h;by_cases h6:wi m.day 0 36524=false
 ·rw[if_pos h6]at h;cases h
 rw[if_neg h6]at h;by_cases h7:m.inst<0
 ·rw[if_pos h7]at h;cases h
 simp only[wi,Bool.and_eq_false_iff,decide_eq_false_iff_not,not_or]at h4 h6;refine⟨by simpa using h5,⟨by omega,by omega⟩,by omega,by omega,by omega⟩
def HG(m:iS):cz:=⟨-1,m.day,m.inst,m.dA,m.bd,m.free,false,m.calls⟩
def zV(l:List an)(c:Nat):List an:=match l[c]? with|some k=>l.set c {k with EP:=false,zW:=false}|none=>l
def C5(N:aj)(m:iS):aj×Int:=
 if m.kind=5 then
  if(BS N.runs m).isSome=true then(N,6)else if m.bd<0∨m.bd≥(N.ao.length:Int)then(N,14)
  else if(bx m.calls N.stops.length 0 3155932800).2≠0 then(N,(bx m.calls N.stops.length 0 3155932800).2)
  else if N.runs.length≥1024 then(N,5)else({N with runs:=N.runs++[HG m]},0)
 else match BS N.runs m with
 |none=>(N,16)
 |some i=>match N.runs[i]? with
  |none=>(N,16)
  |some r=>
   if(m.kind=1∨m.kind=3)∧(m.call<0∨m.call≥(r.calls.length:Int))then(N,9)
   else if m.kind=1 then match prop r.calls m.call m.bP with
    |(some l,_)=>({N with runs:=N.runs.set i {r with calls:=l}},0)
    |(none,e)=>(N,e)
   else if m.kind=2 then({N with runs:=N.runs.set i {r with pJ:=true}},0)
   else if m.kind=3 then({N with runs:=N.runs.set i {r with calls:=zV r.calls m.call.toNat}},0)
   else if m.kind=4 then
    if(bx m.calls N.stops.length 0 3155932800).2≠0 then(N,(bx m.calls N.stops.length 0 3155932800).2)
    else({N with runs:=N.runs.set i {r with calls:=m.calls},aJ:=N.aJ.filter fun l=> !(decide (l.a=(i:Int))||decide (l.b=(i:Int)))},0)
   else(N,0)
end Go.Ab.Tt
namespace Go.Ab.Tt
set_option maxRecDepth 100000
set_option linter.unusedVariables false
set_option linter.unusedSimpArgs false
def core(c:an):Int×Int×Int:=(c.stop,c.arr,c.dep)
theorem HH{c c':an}{p p':Option an}{n a b:Int}(h:core c=core c')(hp:p.map core=p'.map core):kB c p n a b=kB c' p' n a b:=by
 simp only[core,Prod.mk.injEq]at h;obtain⟨h1,h2,h3⟩:=h;unfold kB;rw[h1,h2,h3];cases p with
 |none=>cases p' with
  |none=>rfl
  |some q=>cases hp
 |some q=>cases p' with
  |none=>cases hp
  |some q'=>simp only[Option.map_some,Option.some.injEq,core,Prod.mk.injEq]at hp;obtain⟨g1,g2,g3⟩:=hp;simp only[g1,g3]
theorem ER{n a b:Int}:∀{l l':List an}{p p':Option an},l.map core=l'.map core→p.map core=p'.map core→Di n a b p l→Di n a b p' l'
 |[],[],_,_,_,_,_=>trivial
 |[],_::_,_,_,h,_,_=>by cases h
 |_::_,[],_,_,h,_,_=>by cases h
 |c::cs,c'::A6,p,p',h,hp,ho=>by simp only[List.map_cons,List.cons.injEq]at h;exact⟨by rw[←HH h.1 hp];exact ho.1,ER (p:=some c) (p':=some c') h.2 (by simp[h.1]) ho.2⟩
variable{l':List an}
theorem C6{n a b:Int}{l:List an}(h:l.map core=l'.map core)(hr:(bx l n a b).2=0):(bx l' n a b).2=0:=by
 rw[rH]at hr⊢;have hl:l.length=l'.length:=by simpa using congrArg List.length h
 exact⟨by omega,by omega,ER h rfl hr.2.2⟩
theorem zX(l:List an)(c:Nat):(zV l c).map core=l.map core:=by
 unfold zV;cases hc:l[c]? with
 |none=>rfl
 |some k=>
  simp only;rw[List.map_set];apply List.ext_getElem?;intro j;rw[List.getElem?_set];split
  ·rename_i e;subst e;have ba:=(List.getElem?_eq_some_iff.1 hc).1;rw[if_pos (by simpa using ba),List.getElem?_map,hc];rfl
  ·rfl
theorem Ln{l:List an}(h:l.map core=l'.map core):l.map an.stop=l'.map an.stop:=by
 have:∀l:List an,l.map an.stop=(l.map core).map Prod.fst:=fun l=>by rw[List.map_map];rfl
 rw[this,this,h]
theorem zY(cs:List an)(c:Int):e8 cs c=((cs.map an.stop)[c.toNat]?).getD 0:=by unfold e8;rw[List.getElem?_map]
theorem HI{cs A6:List an}(h:A6.map an.stop=cs.map an.stop):A6.length=cs.length∧∀c,e8 A6 c=e8 cs c:=by refine⟨by simpa using congrArg List.length h,fun c=>?_⟩;rw[zY,zY,h]
variable{runs:List cz}{x:cz}
theorem rJ{i:Nat}{r:cz}(hr:runs[i]?=some r)(h:x.calls.map an.stop=r.calls.map an.stop)(v:Int):(aF (runs.set i x) v).length=(aF runs v).length∧∀c,e8 (aF (runs.set i x) v) c=e8 (aF runs v) c:=by
 by_cases hv:v.toNat=i
 ·subst hv;have ba:=(List.getElem?_eq_some_iff.1 hr).1;have h1:aF (runs.set v.toNat x) v=x.calls:=by unfold aF;rw[List.getElem?_set_self ba];rfl
  have h2:aF runs v=r.calls:=by unfold aF;rw[hr];rfl
  rw[h1,h2];exact HI h
 ·have h1:aF (runs.set i x) v=aF runs v:=by unfold aF;rw[List.getElem?_set_ne (fun h=>hv h.symm)]
  rw[h1];exact⟨rfl,fun _=>rfl⟩
theorem HJ{i:Nat}{v:Int}(hv:v.toNat≠i):aF (runs.set i x) v=aF runs v:=by unfold aF;rw[List.getElem?_set_ne (fun h=>hv h.symm)]
theorem ES{v:Int}(hv:0≤v∧v<(runs.length:Int)):aF (runs++[x]) v=aF runs v:=by unfold aF;rw[List.getElem?_append_left (by omega)]
theorem BV{l:List aM}(h:qj runs l){x:aM}(hx:x∈l):(0≤x.a∧x.a<(runs.length:Int))∧0≤x.b∧x.b<(runs.length:Int):=by obtain⟨k,hk,rfl⟩:=List.getElem_of_mem hx;have:=h k hk;rw[pP]at this;obtain⟨g1,g2,_⟩:=zT this.1;exact⟨g1,g2⟩
theorem zZ{s r:Int}(h:uN x s r=0):gg x.id=true∧(decide (x.dA< -1)||decide (x.inst<0))=false∧(decide (x.day<0)||decide (x.day>36524))=false∧(decide (x.bd<0)||decide (x.bd≥r))=false∧(bx x.calls s 0 3155932800).2=0:=by
 unfold uN at h;by_cases h1:gg x.id=false
 ·rw[if_pos h1]at h;cases h
 rw[if_neg h1]at h;by_cases h2:(decide (x.dA< -1)||decide (x.inst<0))=true
 ·rw[if_pos h2]at h;cases h
 rw[if_neg h2]at h;by_cases h3:(decide (x.day<0)||decide (x.day>36524))=true
 ·rw[if_pos h3]at h;cases h
 rw[if_neg h3]at h;by_cases h4:(decide (x.bd<0)||decide (x.bd≥r))=true
 ·rw[if_pos h4]at h;cases h
 rw[if_neg h4]at h;exact⟨by simpa using h1,by simpa using h2,by simpa using h3,by simpa using h4,h⟩
theorem ET{s r:Int}(h1:gg x.id=true)(h2:(decide (x.dA< -1)||decide (x.inst<0))=false)(h3:(decide (x.day<0)||decide (x.day>36524))=false)(h4:(decide (x.bd<0)||decide (x.bd≥r))=false)(h5:(bx x.calls s 0 3155932800).2=0):uN x s r=0:=by unfold uN;rw[if_neg (by simp[h1]),if_neg (by simp[h2]),if_neg (by simp[h3]),if_neg (by simp[h4])];exact h5
theorem xQ{N:aj}(h:(fv N).2.2=0){i:Nat}{r:cz}(hr:N.runs[i]?=some r)(hk:bQ x=bQ r)(ht:x.dA=r.dA)(kU:x.bd=r.bd)(hc:(bx x.calls N.stops.length 0 3155932800).2=0){l:List aM}(hl:l.length≤1024)(hg:qj (N.runs.set i x) l):(fv {N with runs:=N.runs.set i x,aJ:=l}).2.2=0:=by
 rw[nO]at h⊢;obtain⟨g1,g2,g3,g4,g5,g6⟩:=h;have hi:=(List.getElem?_eq_some_iff.1 hr).1;have hri:N.runs[i]=r:=(List.getElem?_eq_some_iff.1 hr).2;have hE:=((lZ _ _ _).1 g3).2 i hi;rw[hri]at hE;obtain⟨e1,e2,e3,e4,e5⟩:=zZ hE.1;simp only[bQ,Prod.mk.injEq]at hk;refine⟨g1,g2,?_,(oE _ _).2 ⟨hl,hg⟩,g5,g6⟩;refine OC hi (by rw[hri];simp[bQ,hk]) (ET ?_ ?_ ?_ ?_ hc) g3
 ·rw[hk.1];exact e1
 ·rw[ht,hk.2.2];exact e2
 ·rw[hk.2.1];exact e3
 ·rw[kU];exact e4
theorem Lo(N:aj)(m:iS)(h:(fv N).2.2=0)(hm:gA m=0)(he:(C5 N m).2=0):(fv (C5 N m).1).2.2=0:=by
 obtain⟨m1,m2,m3,m4,m5⟩:=OH hm;have hz:=(nO N).1 h;obtain⟨g1,g2,g3,g4,g5,g6⟩:=hz;obtain⟨l1,l2⟩:=(oE _ _).1 g4;have XZ:=(lZ _ _ _).1 g3;unfold C5 at he⊢;by_cases k5:m.kind=5
 ·rw[if_pos k5]at he⊢;by_cases t1:(BS N.runs m).isSome=true
  ·rw[if_pos t1]at he;cases he
  rw[if_neg t1]at he⊢;by_cases t2:m.bd<0∨m.bd≥(N.ao.length:Int)
  ·rw[if_pos t2]at he;cases he
  rw[if_neg t2]at he⊢;by_cases t3:(bx m.calls N.stops.length 0 3155932800).2≠0
  ·rw[if_pos t3]at he;exact absurd he t3
  rw[if_neg t3]at he⊢;by_cases t4:N.runs.length≥1024
  ·rw[if_pos t4]at he;cases he
  rw[if_neg t4]at he⊢;rw[nO];have Nx:BS N.runs m=none:=by
   cases hx:BS N.runs m with
   |none=>rfl
   |some k=>rw[hx]at t1;exact absurd rfl t1
  refine⟨g1,g2,OD (OB Nx) (ET m1 (by show(decide ((-1:Int)< -1)||decide (m.inst<0))=false;simp;omega) (by show(decide (m.day<0)||decide (m.day>36524))=false;simp;omega) (by show(decide (m.bd<0)||decide (m.bd≥(N.ao.length:Int)))=false;simp;omega) (Decidable.of_not_not t3)) (by omega) g3,(oE _ _).2 ⟨l1,nf l2 (by simp) fun x hx v hv=>?_⟩,g5,g6⟩;obtain⟨b1,b2⟩:=BV l2 hx;have:0≤v∧v<(N.runs.length:Int):=by
   rcases hv with rfl|rfl
   ·exact b1
   ·exact b2
  rw[ES this];exact⟨rfl,fun _=>rfl⟩
 ·rw[if_neg k5]at he⊢;cases ht:BS N.runs m with
  |none=>rw[ht]at he;cases he
  |some i=>
   obtain⟨hi,oa,_⟩:=zS ht;have hr:N.runs[i]?=some N.runs[i]:=List.getElem?_eq_getElem hi;rw[ht]at he;simp only[hr]at he⊢;have HK:=(zZ (XZ.2 i hi).1).2.2.2.2;have hlen:(N.runs.set i N.runs[i]).length=N.runs.length:=by simp
   by_cases t1:(m.kind=1∨m.kind=3)∧(m.call<0∨m.call≥(N.runs[i].calls.length:Int))
   ·rw[if_pos t1]at he;cases he
   rw[if_neg t1]at he⊢;by_cases k1:m.kind=1
   ·rw[if_pos k1]at he⊢;cases hp:prop N.runs[i].calls m.call m.bP with
    |mk o e=>
     rw[hp]at he;cases o with
     |none=>
      simp only at he;unfold prop at hp;subst he;split at hp
      ·cases hp
      ·split at hp
       ·cases hp
       ·split at hp
        ·cases hp
        ·split at hp
         ·cases hp
         ·cases hp
     |some l=>
      have Ao:e=0:=by
       unfold prop at hp;split at hp
       ·cases hp
       ·split at hp
        ·cases hp
        ·split at hp
         ·cases hp
         ·split at hp
          ·simp only[Prod.mk.injEq]at hp;exact hp.2.symm
          ·cases hp
      subst Ao;obtain⟨p1,p2⟩:=QV HK hp;simp only;exact xQ (x:={N.runs[i]with calls:=l}) (l:=N.aJ) h hr rfl rfl rfl p1 l1 (nf l2 (by simp) fun x hx v _=>rJ hr p2 v)
   ·rw[if_neg k1]at he⊢;by_cases k2:m.kind=2
    ·rw[if_pos k2];exact xQ (x:={N.runs[i]with pJ:=true}) (l:=N.aJ) h hr rfl rfl rfl HK l1 (nf l2 (by simp) fun x hx v _=>rJ (x:={N.runs[i]with pJ:=true}) hr rfl v)
    ·rw[if_neg k2]at he⊢;by_cases k3:m.kind=3
     ·rw[if_pos k3];exact xQ (x:={N.runs[i]with calls:=zV N.runs[i].calls m.call.toNat}) (l:=N.aJ) h hr rfl rfl rfl (C6 (zX _ _).symm HK) l1 (nf l2 (by simp) fun x hx v _=>rJ hr (Ln (zX _ _)) v)
     ·rw[if_neg k3]at he⊢;by_cases k4:m.kind=4
      ·rw[if_pos k4]at he⊢;by_cases t3:(bx m.calls N.stops.length 0 3155932800).2≠0
       ·rw[if_pos t3]at he;exact absurd he t3
       rw[if_neg t3]at he⊢;refine xQ (x:={N.runs[i]with calls:=m.calls}) h hr rfl rfl rfl (Decidable.of_not_not t3) (Nat.le_trans (List.length_filter_le _ _) l1) (C4 _ _ l2 (by simp) fun x hx hf v hv=>?_);simp only[Bool.not_eq_true',Bool.or_eq_false_iff,decide_eq_false_iff_not]at hf;obtain⟨b1,b2⟩:=BV l2 hx;have cq:v.toNat≠i:=by
        rcases hv with rfl|rfl
        ·intro hc;apply hf.1;omega
        ·intro hc;apply hf.2;omega
       rw[HJ cq];exact⟨rfl,fun _=>rfl⟩
      ·rw[if_neg k4];exact h
end Go.Ab.Tt
namespace Go.Ab.Tt
set_option maxRecDepth 100000
set_option linter.unusedVariables false
set_option linter.unusedSimpArgs false
theorem HL(x:iS):asAgg 13 x.pv=some ():=rfl
theorem HM(x:iS):cell x.pv 0=.int .i64 x.source:=rfl
theorem HN(x:iS):cell x.pv 1=.int .i64 x.seq:=rfl
theorem HO(x:iS):cell x.pv 2=.int .i64 x.kn:=rfl
theorem HP(x:iS):cell x.pv 3=.int .i64 x.gK:=rfl
theorem HQ(x:iS):cell x.pv 4=.int .i64 x.kind:=rfl
theorem HR(x:iS):cell x.pv 5=.str x.dA:=rfl
theorem HS(x:iS):cell x.pv 6=.int .i64 x.day:=rfl
theorem HT(x:iS):cell x.pv 7=.int .i64 x.inst:=rfl
theorem HU(x:iS):cell x.pv 8=.int .i64 x.call:=rfl
theorem HV(x:iS):cell x.pv 9=.int .i64 x.bP:=rfl
theorem Aa(x:iS):cell x.pv 10=.int .i64 x.bd:=rfl
theorem Ac(x:iS):cell x.pv 11=.bool x.free:=rfl
theorem JQ(x:iS):cell x.pv 12=.rs 5 (x.calls.map an.pv):=rfl
theorem T3(x:iS):PV.agg [.int .i64 x.source,.int .i64 x.seq,.int .i64 x.kn,.int .i64 x.gK,.int .i64 x.kind,.str x.dA,.int .i64 x.day,.int .i64 x.inst,.int .i64 x.call,.int .i64 x.bP,.int .i64 x.bd,.bool x.free,.rs 5 (x.calls.map an.pv)]=x.pv:=rfl
theorem Ad(n a b:Int):bp [.int .i64 n,.int .i64 a,.int .i64 b]=some (.bool (wi n a b)):=by simp only[bp,mR,asInt,if_true,U,iu];rfl
theorem QW(n:Int):ga [.int .i64 n]=some (.bool (wi n 0 36524)):=by simp only[ga,tx,asInt,if_true,U,iu];rfl
def uO(k:Int):PV:=.agg [.bool (decide (k=1)||decide (k=3)),.bool (decide (k=1)),.bool (decide (k=5)),.bool (decide (k=5)),.bool (decide (k=4)||decide (k=5))]
theorem QX(k:Int):eX [.int .i64 k]=some (uO k):=by
 simp only[eX,pG,asInt,if_true,U,j6];unfold uO;by_cases h1:k=1
 ·subst h1;rfl
 ·by_cases h3:k=3
  ·subst h3;rfl
  ·by_cases h4:k=4
   ·subst h4;rfl
   ·by_cases h5:k=5
    ·subst h5;rfl
    ·simp[h1,h3,h4,h5]
theorem X0(k:Int):asAgg 5 (uO k)=some ():=rfl
theorem abb(k:Int):cell (uO k) 0=.bool (decide (k=1)||decide (k=3)):=rfl
theorem abc(k:Int):cell (uO k) 1=.bool (decide (k=1)):=rfl
theorem abd(k:Int):cell (uO k) 2=.bool (decide (k=5)):=rfl
theorem abe(k:Int):cell (uO k) 3=.bool (decide (k=5)):=rfl
theorem abf(k:Int):cell (uO k) 4=.bool (decide (k=4)||decide (k=5)):=rfl
theorem QY(n:Nat):decide ((n:Int)>0)=decide (n>0):=by rw[Bool.eq_iff_iff];simp only[decide_eq_true_eq];omega
theorem EU(m:iS)(h:m.Ok):cm [m.pv]=some (.int .i64 (gA m)):=by
 have hid:=ru m.dA h.dA;have gI:=me m.calls 64 0 3155932800 h.calls.1;simp only[res]at gI;simp only[cm,k9,HL,HM,HN,HO,HP,HQ,HR,HS,HT,HU,HV,Aa,Ac,JQ,U,Ad,QW,QX,X0,asInt,dh,ae,if_true,asBool,hid,cC,T3];unfold gA;simp only[decide_eq_true_eq];cases wi m.source 0 7 with
 |false=>rfl
 |true=>
  by_cases h2:m.seq<1
  ·simp only[h2,if_true,Bool.not_true,Bool.false_eq_true,Bool.true_eq_false,if_false]
  simp only[h2,if_true,Bool.not_true,Bool.false_eq_true,Bool.true_eq_false,if_false];cases(!wi m.kn 0 3155932800|| !wi m.gK 0 3155932800||decide (m.kn≥m.gK))with
  |true=>rfl
  |false=>
   cases wi m.kind 1 6 with
   |false=>rfl
   |true=>
    cases gg m.dA with
    |false=>rfl
    |true=>
     cases wi m.day 0 36524 with
     |false=>rfl
     |true=>
      by_cases h7:m.inst<0
      ·simp only[h7,if_true,Bool.not_true,Bool.false_eq_true,Bool.true_eq_false,if_false]
      simp only[h7,if_true,Bool.not_true,Bool.false_eq_true,Bool.true_eq_false,if_false];have e0:PV.agg [cell (uO m.kind) 0,cell (uO m.kind) 1,cell (uO m.kind) 2,cell (uO m.kind) 3,cell (uO m.kind) 4]=uO m.kind:=rfl;rw[e0];simp only[dN,jY,HL,HM,HN,HO,HP,HQ,HR,HS,HT,HU,HV,Aa,Ac,JQ,U,X0,abb,abc,abd,abe,abf,Ad,asBool,gI,cB,List.length_cons,List.length_nil,Nat.reduceAdd,if_true,List.getD_cons_zero,List.getD_cons_succ,asInt,dh,ae,cC,iu,sV,List.length_map,QY];generalize (decide (m.kind=1)||decide (m.kind=3))=uC;generalize decide (m.kind=1)=uS;generalize decide (m.kind=5)=uR;generalize (decide (m.kind=4)||uR)=uL;generalize (bx m.calls 64 0 3155932800).2=e;cases(uC&& !wi m.call 0 31||uS&& !wi m.bP (-43200) 43200||uR&& !wi m.bd 0 63)with
      |true=>rfl
      |false=>
       cases uL with
       |true=>
        by_cases he:e=0
        ·subst he;cases(!uC&& !decide (m.call=0)|| !uS&& !decide (m.bP=0)|| !uR&& !decide (m.bd=0)|| !uR&&m.free|| !true&&decide (m.calls.length>0))<;>rfl
        ·simp[he]
       |false=>cases(!uC&& !decide (m.call=0)|| !uS&& !decide (m.bP=0)|| !uR&& !decide (m.bd=0)|| !uR&&m.free|| !false&&decide (m.calls.length>0))<;>rfl
end Go.Ab.Tt
namespace Go.Ab.Tt
set_option maxRecDepth 100000
set_option linter.unusedVariables false
set_option linter.unusedSimpArgs false
theorem OI{R:Type}(l:List cz)(m:iS)(g:Nat→R)(fin:Option R):eP ((List.range l.length).findSome? fun k=>if decide ((l.map bQ)[k]?=some m.key)=true then some (some (g k))else none) fin=(match BS l m with|some k=>some (g k)|none=>fin):=by rw[rK (fun k=>decide ((l.map bQ)[k]?=some m.key)) (fun k=>some (g k))];unfold BS;cases(List.range l.length).find? (fun k=>decide ((l.map bQ)[k]?=some m.key))<;>rfl
theorem QZ(l:List cz)(m:iS)(k:Nat)(hk:k<l.length):decide ((l.map bQ)[k]?=some m.key)=(decide (l[k].id=m.dA)&&decide (l[k].day=m.day)&&decide (l[k].inst=m.inst)):=by rw[Bool.eq_iff_iff];simp[List.getElem?_eq_getElem hk,bQ,iS.key,and_assoc]
def EV(l:List cz)(m:iS):PV:=match BS l m with|some k=>.bA [.int .i64 k,.bool true]|none=>.bA [.int .i64 0,.bool false]
theorem rL(N:aj)(m:iS)(hr:N.runs.length≤maxLen):bq [N.pv,m.pv]=some (EV N.runs m):=by
 have hm:=c8;simp only[bq,jW,uF,vN,vO,vP,vQ,vR,vS,vT,vU,vV,U];simp only[HL,HM,HN,HO,HP,HQ,HR,HS,HT,HU,HV,Aa,Ac,JQ,U,asInt,dh,ae,if_true,asBool,List.length_map];generalize N.runs=l at hr⊢;have hs:=OI l m (fun k=>PV.bA [.int .i64 k,.bool true]) (some (PV.bA [.int .i64 0,.bool false]));have hR:(match BS l m with|some k=>some (PV.bA [.int .i64 k,.bool true])|none=>some (PV.bA [.int .i64 0,.bool false]))=some (EV l m):=by unfold EV;cases BS l m<;>rfl
 rw[←hR,←hs];refine cG (fun k=>(l.map cz.pv,(l.length:Int),(k:Int),m.source,m.seq,m.kn,m.gK,m.kind,m.dA,m.day,m.inst,m.call,m.bP,m.bd,m.free,m.calls.map an.pv,())) l.length _ (fun k hk rec=>?_) (fun rec=>?_) (by have:=c9;omega) rfl
 ·have h1:decide ((k:Int)<(l.length:Int))=true:=by simp;omega
  rw[QZ l m k hk];unfold ko;dsimp only;rw[if_pos h1,aV,List.getElem?_map,List.getElem?_eq_getElem hk];simp only[Option.map_some,U,QC,QD,QE,asInt,dh,if_true,j6,iu,aI (show k<9223372036854775807 by omega)];cases decide (l[k].id=m.dA)&&decide (l[k].day=m.day)&&decide (l[k].inst=m.inst)<;>rfl
 ·unfold ko;dsimp only;rw[if_neg (by simp)]
end Go.Ab.Tt
namespace Go.Ab.Tt
set_option maxRecDepth 100000
set_option linter.unusedVariables false
set_option linter.unusedSimpArgs false
theorem X1(x:an):cell x.pv 3=.bool x.EP:=rfl
theorem X2(x:an):cell x.pv 4=.bool x.zW:=rfl
theorem X3(x:an):asAgg 5 x.pv=some ():=rfl
def Span(c:an):Prop:=0≤c.arr∧c.arr≤c.dep∧c.dep≤gp
variable{c:an}
theorem pR(h:Span c):0≤gq c∧gq c≤30:=by obtain⟨h1,h2,h3⟩:=h;unfold gq;split<;>omega
theorem lA:gp=3155932800:=rfl
theorem wrap_small{x:Int}(h1: -100000000000≤x)(h2:x≤100000000000):IntKind.i64.wrap x=x:=ic (by omega) (by omega)
theorem Ae(h:Span c):eN [c.pv]=some (.int .i64 (gq c)):=by
 have:=lA;obtain⟨h1,h2,h3⟩:=h;simp only[eN,rf,X3,NZ,zA,BA,X1,X2,asInt,asBool,U,if_true];rw[wrap_small (by omega) (by omega)];unfold gq;by_cases hd:c.dep-c.arr<30
 ·rw[if_neg (by omega),if_pos hd]
 ·rw[if_neg hd];by_cases he:30<c.dep-c.arr
  ·rw[if_pos he]
  ·rw[if_neg he];congr 2;omega
def xl(l:List an)(k:Nat):Bool:=(l[k]?).elim false fun c=>decide (c.arr<((iE l k).map an.dep).getD 0)||decide (c.dep<c.arr)||decide (c.dep>gp)
theorem Lp{R:Type}(l:List an)(no fin:Option R):eP ((List.range l.length).findSome? fun k=>if xl l k=true then some no else none) fin=if rG l=true then fin else no:=by
 rw[rK (xl l) (fun _=>no)];by_cases h:rG l=true
 ·rw[if_pos h];have:(List.range l.length).find? (xl l)=none:=by rw[List.find?_eq_none];intro k hk;have:=List.all_eq_true.1 h k hk;rw[List.mem_range]at hk;simp only[List.getElem?_eq_getElem hk,Option.elim_some]at this;simp only[xl,List.getElem?_eq_getElem hk,Option.elim_some];simpa using this
  rw[this];rfl
 ·rw[if_neg h];cases hf:(List.range l.length).find? (xl l)with
  |some k=>rfl
  |none=>exfalso;apply h;unfold rG;rw[List.all_eq_true];intro k hk;have:=List.find?_eq_none.1 hf k hk;rw[List.mem_range]at hk;simp only[xl,List.getElem?_eq_getElem hk,Option.elim_some]at this;simp only[List.getElem?_eq_getElem hk,Option.elim_some];simpa using this
variable{l:List an}
theorem xR(h:rG l=true){k:Nat}(hk:k<l.length):((iE l k).map an.dep).getD 0≤l[k].arr∧l[k].arr≤l[k].dep∧l[k].dep≤gp:=by have:=List.all_eq_true.1 h k (List.mem_range.2 hk);simp only[List.getElem?_eq_getElem hk,Option.elim_some,Bool.not_eq_true',Bool.or_eq_false_iff,decide_eq_false_iff_not]at this;omega
theorem mi(h:rG l=true):∀k,(hk:k<l.length)→Span l[k]:=by
 intro k;induction k with
 |zero=>intro hk;obtain⟨a,b,c⟩:=xR h hk;exact⟨a,b,c⟩
 |succ k ih=>
  intro hk;obtain⟨a,b,c⟩:=xR h hk;obtain⟨x,y,z⟩:=ih (by omega);have:((iE l (k+1)).map an.dep).getD 0=(l[k]'(by omega)).dep:=by show((l[k]?).map an.dep).getD 0=_;rw[List.getElem?_eq_getElem (by omega)];rfl
  rw[this]at a;exact⟨by omega,b,c⟩
theorem uP(l:List an)(hl:l.length≤maxLen):dU [.rs 5 (l.map an.pv)]=some (.bool (rG l)):=by
 have hm:=c8;simp only[dU,ov,ae,if_true,U,List.length_map];have hs:=Lp l (some (PV.bool false)) (some (PV.bool true));have hR:(if rG l=true then some (PV.bool true)else some (PV.bool false))=some (.bool (rG l)):=by cases rG l<;>rfl
 rw[←hR,←hs];refine cG (fun k=>(((iE l k).map an.dep).getD 0,l.map an.pv,(l.length:Int),(k:Int),())) l.length _ (fun k hk rec=>?_) (fun rec=>?_) (by have:=c9;omega) rfl
 ·have h1:decide ((k:Int)<(l.length:Int))=true:=by simp;omega
  unfold kQ;dsimp only;have hp:((iE l (k+1)).map an.dep).getD 0=l[k].dep:=by show((l[k]?).map an.dep).getD 0=_;rw[List.getElem?_eq_getElem hk];rfl
  rw[if_pos h1,aV,List.getElem?_map,List.getElem?_eq_getElem hk];simp only[Option.map_some,U,zA,BA,asInt,if_true,cC,aI (show k<9223372036854775807 by omega),hp];have:xl l k=(decide (l[k].arr<((iE l k).map an.dep).getD 0)||decide (l[k].dep<l[k].arr)||decide (l[k].dep>3155932800)):=by simp only[xl,List.getElem?_eq_getElem hk,Option.elim_some];rfl
  rw[this];cases(decide (l[k].arr<((iE l k).map an.dep).getD 0)||decide (l[k].dep<l[k].arr)||decide (l[k].dep>3155932800))<;>rfl
 ·unfold kQ;dsimp only;rw[if_neg (by simp)]
theorem JR(h:rG l=true){n:Nat}(hn:n<l.length){bP:Int}(h1: -43200≤bP)(h2:bP≤43200):0≤lJ l n bP∧lJ l n bP≤3200000000:=by
 obtain⟨a,b,c⟩:=mi h n hn;obtain⟨x,y,z⟩:=xR h hn;have:=lA;have hb:0≤((iE l n).map an.dep).getD 0:=by
  cases n with
  |zero=>exact Int.le_refl _
  |succ n=>show 0≤((l[n]?).map an.dep).getD 0;rw[List.getElem?_eq_getElem (by omega)];obtain⟨a,b,c⟩:=mi h n (by omega);show 0≤l[n].dep;omega
 unfold lJ;rw[List.getElem?_eq_getElem hn];simp only[Option.map_some,Option.getD_some];split<;>omega
theorem xm(c d:an)(ds:List an)(a:Int):fN (c::d::ds) a=if(late c a).dep>gp then none else(fN (d::ds) (d.arr+(late c a).dep-c.dep)).map fun r=>late c a::r:=by rw[fN]
theorem BW(c:an)(a:Int):fN [c] a=if(late c a).dep>gp then none else some [late c a]:=by rw[fN]
theorem Lq(c:an)(cs:List an)(a:Int)(h:(late c a).dep>gp):fN (c::cs) a=none:=by
 cases cs with
 |nil=>rw[BW,if_pos h]
 |cons d ds=>rw[xm,if_pos h]
theorem EW{a:Int}(h:Span c)(h0:0≤a)(h1:a≤8000000000):0≤(late c a).dep∧(late c a).dep≤8000000030:=by obtain⟨p,q⟩:=pR h;obtain⟨x,y,z⟩:=h;have:=lA;show 0≤(if a+gq c>c.dep then a+gq c else c.dep)∧(if a+gq c>c.dep then a+gq c else c.dep)≤8000000030;split<;>omega
theorem we{d:an}{a:Int}(h:Span c)(hd:Span d)(hcd:c.dep≤d.arr)(h0:0≤a)(h1:¬(late c a).dep>gp):0≤d.arr+(late c a).dep-c.dep∧d.arr+(late c a).dep-c.dep≤8000000000:=by
 obtain⟨p,q⟩:=pR h;obtain⟨x,y,z⟩:=h;obtain⟨x',y',z'⟩:=hd;have:=lA;have hh:c.dep≤(late c a).dep:=by show c.dep≤if a+gq c>c.dep then a+gq c else c.dep;split<;>omega
 omega
theorem sn(h:rG l=true):∀k,(hk:k+1<l.length)→(l[k]'(by omega)).dep≤l[k+1].arr:=by
 intro k hk;obtain⟨a,b,c⟩:=xR h hk;have:((iE l (k+1)).map an.dep).getD 0=(l[k]'(by omega)).dep:=by show((l[k]?).map an.dep).getD 0=_;rw[List.getElem?_eq_getElem (by omega)];rfl
 rw[this]at a;exact a
theorem so(l:List an)(hl:l.length≤1000000):cL [.rs 5 (l.map an.pv)]=some (.rs 5 (l.map an.pv)):=by
 have hb:1000000*32≤aa:=by decide
 simp only[cL,ow,ae,if_true,U,List.length_map];rw[if_pos (by refine⟨by omega,by omega,?_,by decide,by decide⟩;rw[Int.toNat_natCast];omega)];congr 2;rw[Int.toNat_natCast,List.length_replicate,List.take_of_length_le (by simp),List.drop_eq_nil_of_le (by simp),List.append_nil]
end Go.Ab.Tt
namespace Go.Ab.Tt
set_option maxRecDepth 100000
set_option linter.unusedVariables false
set_option linter.unusedSimpArgs false
theorem BX(x:cz):bj 5 (cell x.nj 7)=some (x.calls.map an.pv):=rfl
def outs(pre:List an)(l:List an)(k:Nat):List PV:=pre.map an.pv++(l.drop k).map an.pv
theorem EX(pre l:List an)(k:Nat)(hp:pre.length=k)(hk:k≤l.length):(outs pre l k).length=l.length:=by unfold outs;simp;omega
theorem EY(pre l:List an)(k:Nat)(hp:pre.length=k)(hk:k<l.length):(outs pre l k)[k]?=some l[k].pv:=by unfold outs;rw[List.getElem?_append_right (by simp;omega)];simp[hp,List.getElem?_eq_getElem hk]
theorem EZ(pre l:List an)(k:Nat)(hp:pre.length=k)(hk:k<l.length)(x:an):(outs pre l k).set k x.pv=outs (pre++[x]) l (k+1):=by
 unfold outs;rw[List.set_append_right _ _ (by simp;omega)];have h0:k-(pre.map an.pv).length=0:=by simp;omega
 rw[h0,List.drop_eq_getElem_cons hk,List.map_cons,List.set_cons_zero,List.map_append,List.append_assoc];rfl
variable{S R:Type}
theorem Af{body:S→(S→Option R)→Option R}(st:Int→Nat→List PV→S)(l:List an)(i:Nat)(err:Option R)(fin:List PV→Option R)(D8:∀k a out rec,k<i→k<l.length→body (st a k out) rec=rec (st a (k+1) out))(ua:∀k a pre rec,i≤k→(hk:k<l.length)→pre.length=k→0≤a→a≤8000000000→body (st a k (outs pre l k)) rec=if(late l[k] a).dep>gp then err else if h:k+1<l.length then rec (st (l[k+1].arr+(late l[k] a).dep-l[k].dep) (k+1) (outs (pre++[late l[k] a]) l (k+1)))else rec (st a (k+1) (outs (pre++[late l[k] a]) l (k+1))))(mz:∀a out rec,body (st a l.length out) rec=fin out)(il:∀k,(hk:k<l.length)→Span l[k])(hor:∀k,(hk:k+1<l.length)→(l[k]'(by omega)).dep≤l[k+1].arr)(hi:i<l.length)(hl:l.length+1<rounds)(a:Int)(h0:0≤a)(h1:a≤8000000000):dM.run body (st a 0 (l.map an.pv))=match fN (l.drop i) a with|some r=>fin ((l.take i++r).map an.pv)|none=>err:=by
 rw[jN];have hA:∀k,k≤i→∀fu,cd body (k+fu) (st a (i-k) (l.map an.pv))=cd body fu (st a i (l.map an.pv)):=by
  intro k;induction k with
  |zero=>intro _ fu;rw[Nat.zero_add];rfl
  |succ k ih=>intro hk fu;rw[show k+1+fu=(k+fu)+1 by omega,cd,D8 (i-(k+1)) a _ _ (by omega) (by omega),show i-(k+1)+1=i-k by omega];exact ih (by omega) fu
 have hB:∀(j:Nat)(k:Nat)(a:Int)(pre:List an)(fu:Nat),k+j=l.length→i≤k→j<fu→0≤a→a≤8000000000→pre.length=k→cd body fu (st a k (outs pre l k))=match fN (l.drop k) a with|some r=>fin ((pre++r).map an.pv)|none=>err:=by
  intro j;induction j with
  |zero=>
   intro k a pre fu hk zR hf _ _ hp;obtain⟨fu,rfl⟩:∃f,fu=f+1:=⟨fu-1,by omega⟩;have jI:k=l.length:=by omega
   subst jI;rw[cd,mz,List.drop_length];simp[fN,outs]
  |succ j ih=>
   intro k a pre fu hk zR hf Sa X4 hp;obtain⟨fu,rfl⟩:∃f,fu=f+1:=⟨fu-1,by omega⟩;have jI:k<l.length:=by omega
   have hc:=il k jI;rw[cd,ua k a pre _ zR jI hp Sa X4,List.drop_eq_getElem_cons jI];by_cases rI:(late l[k] a).dep>gp
   ·rw[if_pos rI,Lq _ _ _ rI]
   ·rw[if_neg rI];by_cases hn:k+1<l.length
    ·rw[dif_pos hn];obtain⟨n0,n1⟩:=we hc (il (k+1) hn) (hor k hn) Sa rI;rw[ih (k+1) _ _ fu (by omega) (by omega) (by omega) n0 n1 (by simp[hp]),List.drop_eq_getElem_cons hn,xm,if_neg rI];cases fN (l[k+1]::l.drop (k+1+1)) (l[k+1].arr+(late l[k] a).dep-l[k].dep)with
     |none=>rfl
     |some r=>simp
    ·rw[dif_neg hn];have hj:j=0:=by omega
     subst hj;obtain⟨fu,rfl⟩:∃f,fu=f+1:=⟨fu-1,by omega⟩;have T2:k+1=l.length:=by omega
     rw[cd,List.drop_eq_nil_of_le (by omega),BW,if_neg rI];have:=mz a (outs (pre++[late l[k] a]) l (k+1)) (cd body fu);rw[←T2]at this;rw[this];simp[outs,List.drop_eq_nil_of_le (show l.length≤k+1 by omega)]
 have e1:dM.run body (st a 0 (l.map an.pv))=cd body rounds (st a 0 (l.map an.pv)):=rfl;have e2:=hA i (Nat.le_refl _) (rounds-i);rw[Nat.sub_self,show i+(rounds-i)=rounds by omega]at e2;rw[e2];have e3:l.map an.pv=outs (l.take i) l i:=by unfold outs;rw[←List.map_append,List.take_append_drop]
 rw[e3];exact hB (l.length-i) i a (l.take i) (rounds-i) (by omega) (Nat.le_refl _) (by omega) h0 h1 (by simp;omega)
theorem T4{body:S→(S→Option R)→Option R}(st:Nat→Nat→List PV→S)(l:List aM)(p:aM→Bool)(out:List PV→Option R)(ua:∀j i x rec,(hi:i<l.length)→x.length=l.length→j≤i→x[i]?=some l[i].pv→body (st j i x) rec=if p l[i]=true then rec (st (j+1) (i+1) (x.set j l[i].pv))else rec (st j (i+1) x))(mz:∀j x rec,x.length=l.length→j≤l.length→body (st j l.length x) rec=out (x.take j)):∀n j i x fu,i+n=l.length→j≤i→x.length=l.length→x.take j=((l.take i).filter p).map aM.pv→x.drop i=(l.drop i).map aM.pv→n<fu→cd body fu (st j i x)=out ((l.filter p).map aM.pv):=by
 intro n;induction n with
 |zero=>
  intro j i x fu hi hj hx ht hd hf;obtain⟨fu,rfl⟩:∃f,fu=f+1:=⟨fu-1,by omega⟩;have:i=l.length:=by omega
  subst this;rw[cd,mz j x _ hx hj,ht,List.take_length]
 |succ n ih=>
  intro j i x fu hi hj hx ht hd hf;obtain⟨fu,rfl⟩:∃f,fu=f+1:=⟨fu-1,by omega⟩;have LX:i<l.length:=by omega
  have ep:x[i]?=some l[i].pv:=by have:=congrArg (fun y=>y[0]?) hd;simpa[List.getElem?_drop,LX]using this
  have I3:x.drop (i+1)=(l.drop (i+1)).map aM.pv:=by rw[←List.drop_drop,hd,←List.map_drop,List.drop_drop]
  rw[cd,ua j i x _ LX hx hj ep];by_cases hp:p l[i]=true
  ·rw[if_pos hp];refine ih (j+1) (i+1) _ fu (by omega) (by omega) (by rw[List.length_set,hx]) ?_ ?_ (by omega)
   ·rw[List.take_succ_eq_append_getElem LX,List.filter_append,List.map_append,←ht];simp only[List.filter_cons,hp,if_true,List.filter_nil,List.map_cons,List.map_nil];have u9:j<(x.set j l[i].pv).length:=by rw[List.length_set];omega
    rw[List.take_succ_eq_append_getElem u9,List.getElem_set_self,List.take_set_of_le (Nat.le_refl j)]
   ·rw[List.drop_set_of_lt (by omega),I3]
  ·rw[if_neg hp];refine ih j (i+1) x fu (by omega) (by omega) hx ?_ I3 (by omega);rw[List.take_succ_eq_append_getElem LX,List.filter_append,List.map_append,←ht];simp[hp]
theorem OJ{S':Type}{body:S→(S→Option R)→Option R}{body3:S'→(S'→Option R)→Option R}(st:Nat→S)(U1:Nat→Nat→List PV→S')(l:List aM)(p:aM→Bool)(out:List PV→Option R)(T5:∀j i x rec,(hi:i<l.length)→x.length=l.length→j≤i→x[i]?=some l[i].pv→body3 (U1 j i x) rec=if p l[i]=true then rec (U1 (j+1) (i+1) (x.set j l[i].pv))else rec (U1 j (i+1) x))(X5:∀j x rec,x.length=l.length→j≤l.length→body3 (U1 j l.length x) rec=out (x.take j))(ua:∀k rec,(hk:k<l.length)→body (st k) rec=if p l[k]=true then rec (st (k+1))else dM.run body3 (U1 k (k+1) (l.map aM.pv)))(mz:∀rec,body (st l.length) rec=out (l.map aM.pv))(hl:l.length+1<rounds):dM.run body (st 0)=out ((l.filter p).map aM.pv):=by
 have:∀n k fu,k+n=l.length→n<fu→(l.take k).filter p=l.take k→cd body fu (st k)=out ((l.filter p).map aM.pv):=by
  intro n;induction n with
  |zero=>
   intro k fu hk hf ht;obtain⟨fu,rfl⟩:∃f,fu=f+1:=⟨fu-1,by omega⟩;have:k=l.length:=by omega
   subst this;rw[List.take_length]at ht;rw[cd,mz,ht]
  |succ n ih=>
   intro k fu hk hf ht;obtain⟨fu,rfl⟩:∃f,fu=f+1:=⟨fu-1,by omega⟩;have jI:k<l.length:=by omega
   rw[cd,ua k _ jI];by_cases hp:p l[k]=true
   ·rw[if_pos hp];refine ih (k+1) fu (by omega) (by omega) ?_;rw[List.take_succ_eq_append_getElem jI,List.filter_append,ht];simp[hp]
   ·rw[if_neg hp,jN];refine T4 U1 l p out T5 X5 (l.length-(k+1)) k (k+1) _ rounds (by omega) (by omega) (by simp) ?_ (by rw[List.map_drop]) (by omega);rw[List.take_succ_eq_append_getElem jI,List.filter_append,ht,←List.map_take];simp[hp]
 rw[jN];exact this l.length 0 rounds (by omega) (by omega) (by simp)
structure Lr(N:aj):Prop where
 ok:N.Ok
 stops:N.stops.length≤1000
 ao:N.ao.length≤1000
 runs:N.runs.length≤100
 aJ:N.aJ.length≤1000
 paths:N.paths.length≤1000
 aU:N.aU.length≤1000
 calls:∀r∈N.runs,r.calls.length≤1000
def z9:PV:=.agg [.rs 0 [],.rs 0 [],.rs 0 [],.rs 0 [],.rs 0 [],.rs 0 [],.int .i64 0,.int .i64 0,.int .i64 0]
end Go.Ab.Tt
namespace Go.Ab.Tt
set_option maxRecDepth 100000
set_option linter.unusedVariables false
set_option linter.unusedSimpArgs false
def X6(N:aj)(m:iS):PV:=if(C5 N m).2=0 then .bA [(C5 N m).1.pv,.int .i64 0]else .bA [z9,.int .i64 (C5 N m).2]
def Ag(N:aj)(m:iS):PV:=if(fv N).2.2=0 then(if gA m=0 then X6 N m else .bA [z9,.int .i64 (gA m)])else .bA [z9,.int .i64 21]
def OK(N:aj)(m:iS)(k:Nat):=((N.runs.length:Int),(k:Int),N.stops.map Stop.pv,N.ao.map aW.pv,N.runs.map cz.pv,N.aJ.map aM.pv,N.paths.map Path.pv,N.aU.map bX.pv,N.cM,N.within,N.cap,(0:Int),(0:Int),(0:Int),N.aU.map bX.pv,N.cM,N.within,N.cap,m.source,m.seq,m.kn,m.gK,m.kind,m.dA,m.day,m.inst,m.call,m.bP,m.bd,m.free,m.calls.map an.pv,(0:Int),(0:Int),(0:Int),N.stops.map Stop.pv,N.ao.map aW.pv,mix cz.nj cz.pv N.runs k,N.aJ.map aM.pv,N.paths.map Path.pv,())
theorem Lt(l:List cz):(mix cz.nj cz.pv l l.length).map PV.strip=l.map cz.pv:=by rw[CS,jt]
theorem rM{e:Int}{x y:Option PV}:(if(e !=0)=true then x else y)=if e=0 then y else x:=by by_cases h:e=0<;>simp[h]
theorem nP(l:List cz)(i:Nat)(hi:i<l.length):(l.map cz.nj)[i]?=some l[i].nj:=by simp[hi]
theorem OL(l:List cz)(i:Nat)(hi:i<l.length):ag (i:Int) (l.map cz.nj).length:=by rw[List.length_map];exact⟨by omega,by omega⟩
theorem pS(x:cz)(l:List an):PV.agg [.int .i64 x.dA,.int .i64 x.day,.int .i64 x.inst,.str x.id,.int .i64 x.bd,.bool x.free,.bool x.pJ,.gC 5 (l.map an.pv)]=({x with calls:=l}:cz).nj:=rfl
theorem BZ(n:Int):Ab.asInt .i64 (.int .i64 n)=some n:=rfl
theorem JS(x:an):PV.agg [cell x.pv 0,cell x.pv 1,cell x.pv 2,cell x.pv 3,cell x.pv 4]=x.pv:=rfl
theorem kI1(x:an):Ab.asInt .i64 (cell x.pv 1)=some x.arr:=rfl
theorem kI2(x:an):Ab.asInt .i64 (cell x.pv 2)=some x.dep:=rfl
theorem Sb(x:an)(a:Int):PV.agg (cell x.pv 0::.int .i64 a::over [] [cell x.pv 2,cell x.pv 3,cell x.pv 4])=({x with arr:=a}:an).pv:=rfl
theorem Sc(x:an)(d:Int):PV.agg (cell x.pv 0::cell x.pv 1::.int .i64 d::over [] [cell x.pv 3,cell x.pv 4])=({x with dep:=d}:an).pv:=rfl
theorem Sd(c:an)(a:Int):(if a+gq c>c.dep then a+gq c else c.dep)=(late c a).dep:=by cases c;exact id rfl
theorem JT(c:an)(a:Int):an.mk c.stop a (late c a).dep c.EP c.zW=late c a:=rfl
theorem Q0(x:cz)(l:List PV):(if(8:Nat)=1 then PV.gC 5 l else .agg (cell x.nj 0::cell x.nj 1::cell x.nj 2::cell x.nj 3::cell x.nj 4::cell x.nj 5::cell x.nj 6::.gC 5 l::over [] []))=.agg [.int .i64 x.dA,.int .i64 x.day,.int .i64 x.inst,.str x.id,.int .i64 x.bd,.bool x.free,.bool x.pJ,.gC 5 l]:=rfl
theorem Se(x:cz):PV.agg (cell x.nj 0::cell x.nj 1::cell x.nj 2::cell x.nj 3::cell x.nj 4::cell x.nj 5::.bool true::over [] [cell x.nj 7])=({x with pJ:=true}:cz).nj:=rfl
theorem wg(l:List cz)(i:Nat)(x:cz):((l.map cz.nj).set i x.nj).map PV.strip=(l.set i x).map cz.pv:=by rw[←List.map_set,jt]
theorem E0{A:Type}(l:List A)(k:Nat)(x:A)(h:k<l.length):(l.set k x)[k]?=some x:=by simp[h]
theorem gB(k n:Nat)(h:k<n):ag (k:Int) n:=⟨by omega,by omega⟩
def HW(N:aj)(i c:Nat)(a:Int)(k:Nat)(out:List PV):=((i:Int),(c:Int),a,((N.runs[i]?).elim 0 fun r=>(r.calls.length:Int)),(k:Int),(i:Int),N.runs.map cz.nj,out,N.cM,N.within,N.cap,(0:Int),(0:Int),(0:Int),N.stops.map Stop.pv,N.ao.map aW.pv,N.aJ.map aM.pv,N.paths.map Path.pv,N.aU.map bX.pv,())
def C7(N:aj)(i:Nat)(l:List an):aj:=match N.runs[i]? with|some r=>{N with runs:=N.runs.set i {r with calls:=l}}|none=>N
theorem OM(N:aj)(h:Lr N)(i c:Nat)(hi:i<N.runs.length)(hc:c<N.runs[i].calls.length)(ho:rG N.runs[i].calls=true)(a:Int)(h0:0≤a)(h1:a≤8000000000):dM.run dx (HW N i c a 0 (N.runs[i].calls.map an.pv))=match fN (N.runs[i].calls.drop c) a with|some r=>some (.bA [(C7 N i (N.runs[i].calls.take c++r)).pv,.int .i64 0])|none=>some (.bA [z9,.int .i64 10]):=by
 have hlen:=h.calls N.runs[i] (List.getElem_mem hi);have Sf:1003<rounds:=by decide
 have il:=mi ho;refine(Af (HW N i c) N.runs[i].calls c (some (.bA [z9,.int .i64 10])) (fun out=>some (.bA [.agg [.rs 4 (N.stops.map Stop.pv),.rs 3 (N.ao.map aW.pv),.rs 8 (((N.runs.map cz.nj).set i (.agg [.int .i64 N.runs[i].dA,.int .i64 N.runs[i].day,.int .i64 N.runs[i].inst,.str N.runs[i].id,.int .i64 N.runs[i].bd,.bool N.runs[i].free,.bool N.runs[i].pJ,.gC 5 out])).map PV.strip),.rs 5 (N.aJ.map aM.pv),.rs 4 (N.paths.map Path.pv),.rs 6 (N.aU.map bX.pv),.int .i64 N.cM,.int .i64 N.within,.int .i64 N.cap],.int .i64 0])) (fun k a out rec hk jI=>?_) (fun k a pre rec hk jI hp Sa X4=>?_) (fun a out rec=>?_) il (sn ho) hc (by omega) a h0 h1).trans ?_
 ·unfold HW dx;dsimp only;rw[List.getElem?_eq_getElem hi,Option.elim_some,if_pos (by rw[decide_eq_true_eq];omega),if_pos (by rw[decide_eq_true_eq];omega),aI (by omega),Int.toNat_natCast]
 ·obtain⟨d0,d1⟩:=pR (il k jI);obtain⟨s0,s1,s2⟩:=il k jI;have hlm:=lA;have UO:=EX pre N.runs[i].calls k hp (by omega);have S5:∀x,((outs pre N.runs[i].calls k).set k x).length=N.runs[i].calls.length:=fun x=>by rw[List.length_set,UO]
  unfold HW dx;dsimp only;rw[List.getElem?_eq_getElem hi,Option.elim_some,if_pos (by rw[decide_eq_true_eq];omega),if_neg (by rw[decide_eq_true_eq];omega)];simp only[Int.toNat_natCast,nP _ _ hi,U,BX,List.length_map,gB k _ jI,if_true,List.getElem?_map,List.getElem?_eq_getElem jI,Option.map_some,UO,EY pre _ k hp jI,kI2,JS,Ae (il k jI),BZ,Sb,Sc,S5,E0 _ _ _ (show k<(outs pre N.runs[i].calls k).length by omega),List.set_set,wrap_small (show-100000000000≤a+gq N.runs[i].calls[k] by omega) (show a+gq N.runs[i].calls[k]≤100000000000 by omega),Sd,JT,aI (show k<9223372036854775807 by omega),EZ pre _ k hp jI,decide_eq_true_eq];have dQ:=EW (il k jI) Sa X4;by_cases rI:(late N.runs[i].calls[k] a).dep>gp
  ·rw[if_pos (show(late N.runs[i].calls[k] a).dep>3155932800 by omega),if_pos rI];rfl
  ·rw[if_neg (show¬(late N.runs[i].calls[k] a).dep>3155932800 by omega),if_neg rI];by_cases hn:k+1<N.runs[i].calls.length
   ·obtain⟨n0,n1⟩:=we (il k jI) (il (k+1) hn) (sn ho k hn) Sa rI;obtain⟨t0,t1,t2⟩:=il (k+1) hn;rw[if_pos (by omega),dif_pos hn,if_pos (gB _ _ hn),List.getElem?_eq_getElem hn];simp only[Option.map_some,U,kI1];rw[wrap_small (x:=N.runs[i].calls[k+1].arr+(late N.runs[i].calls[k] a).dep) (by omega) (by omega),wrap_small (by omega) (by omega)]
   ·rw[if_neg (by omega),dif_neg hn]
 ·unfold HW dx;dsimp only;rw[List.getElem?_eq_getElem hi,Option.elim_some,if_neg (by simp)];simp only[Int.toNat_natCast,nP _ _ hi,U,OL _ _ hi,if_true,Q0]
 ·cases fN (N.runs[i].calls.drop c) a with
  |none=>rfl
  |some r=>simp only[pS,wg];simp only[C7,List.getElem?_eq_getElem hi];rfl
theorem C8(x:aM):PV.agg [cell x.pv 0,cell x.pv 1,cell x.pv 2,cell x.pv 3,cell x.pv 4]=x.pv:=rfl
def E1(i:Nat)(l:aM):Bool:= !(decide (l.a=(i:Int))||decide (l.b=(i:Int)))
theorem sq(x:aM)(i:Nat):bC [x.pv,.rp [.int .i64 i]]=some (.bool (!E1 i x)):=by have hA:asAgg 5 x.pv=some ():=rfl;simp only[bC,j4,hA,RY,RZ,link2,R0,R1,asInt,asBool,if_true,U,cC,j6,E1,Bool.not_not]
def T6(N:aj)(i:Nat)(runs:List PV)(j k:Nat)(x:List PV):=((j:Int),(k:Int),x,(i:Int),N.cM,N.within,N.cap,(0:Int),(0:Int),(0:Int),N.stops.map Stop.pv,N.ao.map aW.pv,runs,N.paths.map Path.pv,N.aU.map bX.pv,())
def JU(N:aj)(runs:List PV)(x:List PV):Option PV:=some (.bA [.agg [.rs 4 (N.stops.map Stop.pv),.rs 3 (N.ao.map aW.pv),.rs 8 (runs.map PV.strip),.rs 5 x,.rs 4 (N.paths.map Path.pv),.rs 6 (N.aU.map bX.pv),.int .i64 N.cM,.int .i64 N.within,.int .i64 N.cap],.int .i64 0])
theorem ON(N:aj)(h:Lr N)(i:Nat)(runs:List PV):dM.run (iw dM) ((N.aJ.length:Int),0,N.aJ.map aM.pv,(i:Int),N.cM,N.within,N.cap,0,0,0,N.stops.map Stop.pv,N.ao.map aW.pv,runs,N.paths.map Path.pv,N.aU.map bX.pv,())=JU N runs ((N.aJ.filter (E1 i)).map aM.pv):=by
 have hk:=h.aJ;have Sf:1003<rounds:=by decide
 refine OJ (fun k=>((N.aJ.length:Int),(k:Int),N.aJ.map aM.pv,(i:Int),N.cM,N.within,N.cap,0,0,0,N.stops.map Stop.pv,N.ao.map aW.pv,runs,N.paths.map Path.pv,N.aU.map bX.pv,())) (T6 N i runs) (body3:=iy dM) N.aJ (E1 i) (JU N runs) (fun j k x rec jI hx hj hg=>?_) (fun j x rec hx hj=>?_) (fun k rec jI=>?_) (fun rec=>?_) (by omega)
 ·unfold T6 iy;dsimp only;rw[if_pos (by rw[decide_eq_true_eq];omega),if_pos (gB _ _ (by omega)),Int.toNat_natCast,hg];simp only[U,C8,sq,asBool,Bool.not_not,aI (show k<9223372036854775807 by omega),aI (show j<9223372036854775807 by omega),gB j x.length (by omega),if_true,Int.toNat_natCast,List.getElem?_eq_getElem (show j<x.length by omega)]
 ·unfold T6 iy;dsimp only;rw[if_neg (by rw[hx];simp)];simp only[Int.toNat_natCast,Int.toNat_zero,Nat.sub_zero,List.drop_zero];rw[if_pos (by exact⟨by omega,by omega,by omega,trivial⟩),if_pos (by exact⟨trivial,trivial,by omega,by omega⟩),if_pos (by refine⟨by omega,by omega,?_,trivial⟩;simp only[List.length_append,List.length_take,List.length_replicate,List.length_drop];omega)];unfold JU;rw[List.take_append_of_le_length (by simp;omega),List.take_take,Nat.min_self]
 ·unfold iw;dsimp only;rw[if_pos (by rw[decide_eq_true_eq];omega),if_pos (gB _ _ (by simpa using jI)),Int.toNat_natCast,List.getElem?_map,List.getElem?_eq_getElem jI];simp only[Option.map_some,U,C8,sq,asBool,aI (show k<9223372036854775807 by omega),j6];cases hp:E1 i N.aJ[k]with
  |true=>simp only[Bool.not_true,Bool.false_eq_true,if_false,if_true]
  |false=>simp only[Bool.not_false,if_true,Bool.false_eq_true,if_false];rw[if_neg (by rw[decide_eq_true_eq];omega)];rfl
 ·unfold iw;dsimp only;rw[if_neg (by simp)];rfl
theorem OO(x:an):setCells 5 x.pv 3 1 (.bool false)=({x with EP:=false}:an).pv:=rfl
theorem OP(x:an):setCells 5 x.pv 4 1 (.bool false)=({x with zW:=false}:an).pv:=rfl
theorem X7(x:cz)(l:List an):setRow 8 x.nj 7 (.gC 5 (l.map an.pv))=({x with calls:=l}:cz).nj:=rfl
theorem Lu(N:aj)(m:iS)(h:Lr N)(hm:m.Ok)(hv:(fv N).2.2=0)(hc:m.calls.length≤1000)(rec:_→Option PV):iA dM (OK N m N.runs.length) rec=some (X6 N m):=by
 have hr:=h.runs;have hp:=sY (N.aU.map bX.pv) (by simpa using h.aU);have ht:=rL N m (by
  have:1000≤maxLen:=by decide
  omega)
 unfold OK iA;dsimp only;rw[if_neg (by simp),hp];simp only[U,ae,if_true,Lt,K6,T3,ht];rw[CS];unfold X6 C5 EV;simp only[j6,decide_eq_true_eq];by_cases k5:m.kind=5
 ·simp only[k5,if_true];cases X8:BS N.runs m with
  |some i=>simp only[cB,List.length_cons,List.length_nil,Nat.reduceAdd,if_true,U,List.getD_cons_zero,List.getD_cons_succ,asInt,asBool,Option.isSome_some];rfl
  |none=>
   have gI:=me m.calls N.stops.length 0 3155932800 hm.calls.1;simp only[res]at gI;have T7:=so m.calls (by omega);simp only[cB,List.length_cons,List.length_nil,Nat.reduceAdd,if_true,U,List.getD_cons_zero,List.getD_cons_succ,asInt,asBool,Option.isSome_none,Bool.false_eq_true,if_false,List.length_map,cC,Bool.or_eq_true,decide_eq_true_eq,gI,rM];by_cases kU:m.bd<0∨m.bd≥(N.ao.length:Int)
   ·rw[if_pos kU,if_pos kU];rfl
   ·rw[if_neg kU,if_neg kU];by_cases he:(bx m.calls (N.stops.length:Int) 0 3155932800).2=0
    ·rw[if_pos he,if_neg (show¬((N.runs.length:Int)≥1024) by omega),T7];simp only[U,ae,if_true,he,ne_eq,not_true,if_false,if_neg (show¬(N.runs.length≥1024) by omega)];rw[if_pos (by
      have:101*80≤aa:=by decide
      rw[List.length_append,List.length_map,List.length_singleton];omega)]
     rw[List.map_append,jt];have:(N.runs++[HG m]).map cz.pv=N.runs.map cz.pv++[.agg [.int .i64 (-1),.int .i64 m.day,.int .i64 m.inst,.str m.dA,.int .i64 m.bd,.bool m.free,.bool false,.rs 5 (m.calls.map an.pv)]]:=by simp[HG,cz.pv]
     simp only[aj.pv,this,if_true];rfl
    ·rw[if_neg he,if_neg he,if_pos he,if_neg he];rfl
 ·simp only[if_neg k5];cases X8:BS N.runs m with
  |none=>simp only[cB,List.length_cons,List.length_nil,Nat.reduceAdd,if_true,U,List.getD_cons_zero,List.getD_cons_succ,asInt,asBool,Bool.not_false];rfl
  |some i=>
   obtain⟨hi,zR,_⟩:=zS X8;have qA:ag (i:Int) N.runs.length:=⟨by omega,by omega⟩;have py:=rB hv N.runs[i] (List.getElem_mem hi);simp only[cB,List.length_cons,List.length_nil,Nat.reduceAdd,if_true,U,List.getD_cons_zero,List.getD_cons_succ,asInt,asBool,Bool.not_true,Bool.false_eq_true,if_false,nP _ _ hi,List.getElem?_eq_getElem hi,qA,BX,Int.toNat_natCast,List.length_map,cC,iu,Bool.or_eq_true,decide_eq_true_eq];have PA:((decide (m.kind=1)||decide (m.kind=3))&&(decide (m.call<0)||decide (m.call≥(N.runs[i].calls.length:Int))))=decide ((m.kind=1∨m.kind=3)∧(m.call<0∨m.call≥(N.runs[i].calls.length:Int))):=by rw[Bool.eq_iff_iff];simp
   rw[PA];simp only[decide_eq_true_eq];by_cases hn:(m.kind=1∨m.kind=3)∧(m.call<0∨m.call≥(N.runs[i].calls.length:Int))
   ·rw[if_pos hn,if_pos hn];rfl
   rw[if_neg hn,if_neg hn];by_cases k1:m.kind=1
   ·simp only[k1,if_true];have Od:¬(m.call<0∨m.call≥(N.runs[i].calls.length:Int)):=fun hh=>hn ⟨.inl k1,hh⟩;have abg:=not_or.1 Od;unfold prop;rw[if_neg Od,if_neg (show¬(m.call<0∨m.call≥(N.runs[i].calls.length:Int))from Od)];by_cases hs:m.bP< -43200∨m.bP>43200
    ·rw[if_pos hs,if_pos hs];rfl
    rw[if_neg hs,if_neg hs];obtain⟨c,Ay⟩:∃c:Nat,m.call=(c:Int):=⟨m.call.toNat,by omega⟩;have rY:c<N.runs[i].calls.length:=by omega
    have hlen:=h.calls N.runs[i] (List.getElem_mem hi);have ho:=uP N.runs[i].calls (by
     have:1000≤maxLen:=by decide
     omega)
    have hrq:J8 (cell N.runs[i].nj 7)=some (.rs 5 (N.runs[i].calls.map an.pv)):=rfl;simp only[hrq,U,ho,asBool];cases T8:rG N.runs[i].calls with
    |false=>rfl
    |true=>
     have dc:0≤(N.runs[i].calls.length:Int)∧(N.runs[i].calls.length:Int)≤(N.runs[i].calls.length:Int)∧(N.runs[i].calls.length:Int).toNat*32≤aa∧0<32∧0<5:=by
      have:1000*32≤aa:=by decide
      refine⟨by omega,by omega,?_,by decide,by decide⟩;rw[Int.toNat_natCast];omega
     rw[if_neg (by decide),if_pos (by rw[Int.toNat_natCast]at dc;exact dc)];simp only[Ay,Int.toNat_natCast];obtain⟨a1,a2⟩:=JR T8 rY (show-43200≤m.bP by omega) (show m.bP≤43200 by omega);have hA:=OM N h i c hi rY T8 _ a1 (by omega);have L2:∀z:PV,List.take (List.replicate N.runs[i].calls.length z).length (N.runs[i].calls.map an.pv)++List.drop N.runs[i].calls.length (List.replicate N.runs[i].calls.length z)=N.runs[i].calls.map an.pv:=fun z=>by rw[List.length_replicate,List.take_of_length_le (by simp),List.drop_eq_nil_of_le (by simp),List.append_nil]
     have hS:∀A out,HW N i c A 0 out=((i:Int),(c:Int),A,(N.runs[i].calls.length:Int),0,(i:Int),N.runs.map cz.nj,out,N.cM,N.within,N.cap,0,0,0,N.stops.map Stop.pv,N.ao.map aW.pv,N.aJ.map aM.pv,N.paths.map Path.pv,N.aU.map bX.pv,()):=fun A out=>by unfold HW;rw[List.getElem?_eq_getElem hi];rfl
     rw[hS]at hA;have hF:∀o,(match fN (N.runs[i].calls.drop c) (lJ N.runs[i].calls c m.bP)with|some r=>some (PV.bA [(C7 N i (N.runs[i].calls.take c++r)).pv,.int .i64 0])|none=>some (PV.bA [z9,.int .i64 10]))=o→dM.run dx ((i:Int),(c:Int),lJ N.runs[i].calls c m.bP,(N.runs[i].calls.length:Int),0,(i:Int),N.runs.map cz.nj,N.runs[i].calls.map an.pv,N.cM,N.within,N.cap,0,0,0,N.stops.map Stop.pv,N.ao.map aW.pv,N.aJ.map aM.pv,N.paths.map Path.pv,N.aU.map bX.pv,())=o:=fun o ho=>hA.trans ho;have hlm:=lA;obtain⟨s0,s1,s2⟩:=mi T8 c rY;have CF:∀A,A=lJ N.runs[i].calls c m.bP→dM.run dx ((i:Int),(c:Int),A,(N.runs[i].calls.length:Int),0,(i:Int),N.runs.map cz.nj,N.runs[i].calls.map an.pv,N.cM,N.within,N.cap,0,0,0,N.stops.map Stop.pv,N.ao.map aW.pv,N.aJ.map aM.pv,N.paths.map Path.pv,N.aU.map bX.pv,())=some (if(match(match fN (N.runs[i].calls.drop c) (lJ N.runs[i].calls c m.bP)with|some r=>(some (N.runs[i].calls.take c++r),(0:Int))|none=>(none,10))with|(some l,_)=>(({N with runs:=N.runs.set i {N.runs[i]with calls:=l}}:aj),(0:Int))|(none,e)=>(N,e)).2=0 then PV.bA [(match(match fN (N.runs[i].calls.drop c) (lJ N.runs[i].calls c m.bP)with|some r=>(some (N.runs[i].calls.take c++r),(0:Int))|none=>(none,10))with|(some l,_)=>(({N with runs:=N.runs.set i {N.runs[i]with calls:=l}}:aj),(0:Int))|(none,e)=>(N,e)).1.pv,.int .i64 0]else .bA [z9,.int .i64 (match(match fN (N.runs[i].calls.drop c) (lJ N.runs[i].calls c m.bP)with|some r=>(some (N.runs[i].calls.take c++r),(0:Int))|none=>(none,10))with|(some l,_)=>(({N with runs:=N.runs.set i {N.runs[i]with calls:=l}}:aj),(0:Int))|(none,e)=>(N,e)).2]):=by
      intro A qy;subst qy;apply hF;cases fN (N.runs[i].calls.drop c) (lJ N.runs[i].calls c m.bP)with
      |none=>rfl
      |some r=>simp only[C7,List.getElem?_eq_getElem hi];rfl
     cases c with
     |zero=>rw[if_neg (by decide),if_pos (gB _ _ rY)];simp only[List.getElem?_map,List.getElem?_eq_getElem rY,Option.map_some,U,zA,asInt,if_true,L2];refine CF _ ?_;rw[wrap_small (by omega) (by omega)];unfold lJ;rw[List.getElem?_eq_getElem rY];simp only[iE,Option.map_some,Option.map_none,Option.getD_none,Option.getD_some];by_cases hx:N.runs[i].calls[0].arr+m.bP<0<;>simp[hx]
     |succ j=>
      have hj:j<N.runs[i].calls.length:=by omega
      rw[if_pos (by omega),vM j (by omega),if_pos (gB _ _ hj)];simp only[Int.toNat_natCast,List.getElem?_map,List.getElem?_eq_getElem hj,Option.map_some,U,zA,BA,asInt,if_true,L2,gB _ _ rY,List.getElem?_eq_getElem rY];refine CF _ ?_;rw[wrap_small (by omega) (by omega)];unfold lJ;rw[List.getElem?_eq_getElem rY];simp only[iE,List.getElem?_eq_getElem hj,Option.map_some,Option.getD_some]
   simp only[if_neg k1];by_cases k2:m.kind=2
   ·simp only[k2,if_true,nP _ _ hi,U,Se,wg];rfl
   simp only[if_neg k2];by_cases k3:m.kind=3
   ·simp only[k3,if_true];have Od:=not_or.1 (fun hh=>hn ⟨.inr k3,hh⟩:¬(m.call<0∨m.call≥(N.runs[i].calls.length:Int)));obtain⟨c,Ay⟩:∃c:Nat,m.call=(c:Int):=⟨m.call.toNat,by omega⟩;have rY:c<N.runs[i].calls.length:=by omega
    simp only[Ay,Int.toNat_natCast,gB c _ rY,if_true,List.getElem?_map,List.getElem?_eq_getElem rY,Option.map_some,U,OO,←List.map_set,X7,List.length_set,List.length_map,qA,List.getElem?_set_self hi,BX,List.getElem?_set_self rY,OP,List.set_set,jt];simp only[zV,List.getElem?_eq_getElem rY];rfl
   simp only[if_neg k3];by_cases k4:m.kind=4
   ·simp only[k4,if_true];have gI:=me m.calls N.stops.length 0 3155932800 hm.calls.1;simp only[res]at gI;have T7:=so m.calls (by omega);simp only[gI,U,cB,List.length_cons,List.length_nil,Nat.reduceAdd,if_true,List.getD_cons_zero,List.getD_cons_succ,asInt,rM];by_cases he:(bx m.calls (N.stops.length:Int) 0 3155932800).2=0
    ·simp only[he,T7,U,ae,if_true,ne_eq,not_true,if_false];rw[ON N h i,Q0,pS];unfold JU;rw[wg];rfl
    ·rw[if_neg he,if_neg he,if_pos he,if_neg he];rfl
   simp only[if_neg k4];rfl
theorem JV(x:cz)(l:List PV):(if(8:Nat)=1 then PV.gC 5 l else .agg (cell x.pv 0::cell x.pv 1::cell x.pv 2::cell x.pv 3::cell x.pv 4::cell x.pv 5::cell x.pv 6::.gC 5 l::over [] []))=.agg [.int .i64 x.dA,.int .i64 x.day,.int .i64 x.inst,.str x.id,.int .i64 x.bd,.bool x.free,.bool x.pJ,.gC 5 l]:=rfl
theorem HX(N:aj)(m:iS)(h:Lr N)(hm:m.Ok)(hc:m.calls.length≤1000):aT [N.pv,m.pv]=some (Ag N m):=by
 have hr:=h.runs;have Sf:1003<rounds:=by decide
 have yE:=zJ N h.ok (by have:=h.paths;omega);have hmk:=EU m hm;have f1:=zK (N.stops.map Stop.pv) (by simpa using h.stops);have f2:=xc (N.ao.map aW.pv) (by simpa using h.ao);have f3:=BE (N.runs.map cz.pv) (by simp;omega);have f4:=zL (N.aJ.map aM.pv) (by simpa using h.aJ);have f5:=rD (N.paths.map Path.pv) (by simpa using h.paths);simp only[aT,k8,uF,vN,vO,vP,vQ,vR,vS,vT,vU,vV,U,K6,yE];simp only[sX,cB,List.length_cons,List.length_nil,Nat.reduceAdd,if_true,List.getD_cons_zero,List.getD_cons_succ,asInt,U,HL,HM,HN,HO,HP,HQ,HR,HS,HT,HU,HV,Aa,Ac,JQ,dh,ae,asBool,T3,hmk,rM,f1,f2,f3,f4,f5,List.length_map];unfold Ag;by_cases hv:(fv N).2.2=0
 ·rw[if_pos hv,if_pos hv];by_cases he:gA m=0
  ·rw[if_pos he,if_pos he];refine cU (OK N m) N.runs.length (fun k hk rec=>?_) (fun rec=>Lu N m h hm hv hc rec) (by omega) (by unfold OK;rw[EC];rfl);have fc:=zM (N.runs[k].calls.map an.pv) (by simpa using h.calls _ (List.getElem_mem hk));unfold OK iA;dsimp only;rw[if_pos (by rw[decide_eq_true_eq];omega),if_pos (CT _ _ _ _ hk),Int.toNat_natCast,JB _ _ _ _ hk];simp only[U,He,fc,ae,if_true,CT _ _ _ _ hk,JV,aI (show k<9223372036854775807 by omega)];have:=JC cz.nj cz.pv N.runs k hk;rw[←this];rfl
  ·rw[if_neg he,if_neg he];rfl
 ·rw[if_neg hv,if_neg hv];rfl
structure lR(q:PV)(m:iS):Prop where
 hA:asAgg 13 q=some ()
 h0:cell q 0=.int .i64 m.source
 h1:cell q 1=.int .i64 m.seq
 h2:cell q 2=.int .i64 m.kn
 h3:cell q 3=.int .i64 m.gK
 h4:cell q 4=.int .i64 m.kind
 h5:cell q 5=.str m.dA
 h6:cell q 6=.int .i64 m.day
 h7:cell q 7=.int .i64 m.inst
 h8:cell q 8=.int .i64 m.call
 h9:cell q 9=.int .i64 m.bP
 Km:cell q 10=.int .i64 m.bd
 X9:cell q 11=.bool m.free
 Ya:ae 5 (cell q 12)=some (m.calls.map an.pv)
def JW(q:PV):PV:=.agg [cell q 0,cell q 1,cell q 2,cell q 3,cell q 4,cell q 5,cell q 6,cell q 7,cell q 8,cell q 9,cell q 10,cell q 11,cell q 12]
theorem lR.agg{q:PV}{m:iS}(h:lR q m):lR (JW q) m:=⟨rfl,h.h0,h.h1,h.h2,h.h3,h.h4,h.h5,h.h6,h.h7,h.h8,h.h9,h.Km,h.X9,h.Ya⟩
structure B0(p:PV)(N:aj):Prop where
 hA:asAgg 9 p=some ()
 h0:ae 4 (cell p 0)=some (N.stops.map Stop.pv)
 h1:ae 3 (cell p 1)=some (N.ao.map aW.pv)
 h2:ae 8 (cell p 2)=some (N.runs.map cz.pv)
 h3:ae 5 (cell p 3)=some (N.aJ.map aM.pv)
 h4:ae 4 (cell p 4)=some (N.paths.map Path.pv)
 h5:ae 6 (cell p 5)=some (N.aU.map bX.pv)
 h6:asInt .i64 (cell p 6)=some N.cM
 h7:asInt .i64 (cell p 7)=some N.within
 h8:asInt .i64 (cell p 8)=some N.cap
theorem Yb(N:aj):B0 N.pv N:=⟨rfl,rfl,rfl,rfl,rfl,rfl,rfl,rfl,rfl,rfl⟩
theorem T9(x:iS):ae 5 (cell x.pv 12)=some (x.calls.map an.pv):=rfl
theorem E2{q:PV}{m:iS}(hq:lR q m):cm [q]=cm [m.pv]:=by simp only[cm,k9,hq.hA,hq.h0,hq.h1,hq.h2,hq.h3,hq.h4,hq.h5,hq.h6,hq.h7,hq.h8,hq.h9,hq.Km,hq.X9,hq.Ya,HL,HM,HN,HO,HP,HQ,HR,HS,HT,HU,HV,Aa,Ac,T9]
theorem xn{p q:PV}{N:aj}{m:iS}(hp:B0 p N)(hq:lR q m):bq [p,q]=bq [N.pv,m.pv]:=by simp only[bq,jW,hp.hA,hp.h0,hp.h1,hp.h2,hp.h3,hp.h4,hp.h5,hp.h6,hp.h7,hp.h8,hq.hA,hq.h0,hq.h1,hq.h2,hq.h3,hq.h4,hq.h5,hq.h6,hq.h7,hq.h8,hq.h9,hq.Km,hq.X9,hq.Ya,uF,vN,vO,vP,vQ,vR,vS,vT,vU,vV,HL,HM,HN,HO,HP,HQ,HR,HS,HT,HU,HV,Aa,Ac,T9]
theorem HY{p q:PV}{N:aj}{m:iS}(hp:B0 p N)(hq:lR q m):aT [p,q]=aT [N.pv,m.pv]:=by simp only[aT,k8,hp.hA,hp.h0,hp.h1,hp.h2,hp.h3,hp.h4,hp.h5,hp.h6,hp.h7,hp.h8,hq.hA,hq.h0,hq.h1,hq.h2,hq.h3,hq.h4,hq.h5,hq.h6,hq.h7,hq.h8,hq.h9,hq.Km,hq.X9,hq.Ya,uF,vN,vO,vP,vQ,vR,vS,vT,vU,vV,HL,HM,HN,HO,HP,HQ,HR,HS,HT,HU,HV,Aa,Ac,T9,U]
end Go.Ab.Tt
