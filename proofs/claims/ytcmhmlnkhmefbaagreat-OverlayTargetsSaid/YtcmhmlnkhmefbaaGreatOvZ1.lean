import Derived.Test.YtcmhmlnkhmefbaaGreatNkP2
namespace Go.Ab.Tt
set_option maxRecDepth 100000
set_option linter.unusedVariables false
set_option linter.unusedSimpArgs false
structure iM where
 source:Int
 seq:Int
 j8:Int
 gE:Int
 kind:Int
 dv:Bytes
 day:Int
 inst:Int
 call:Int
 bP:Int
 bh:Int
 free:Bool
 calls:List av
 deriving DecidableEq
def iM.pv(x:iM):PV:=.agg [.int .i64 x.source,.int .i64 x.seq,.int .i64 x.j8,.int .i64 x.gE,.int .i64 x.kind,.str x.dv,.int .i64 x.day,.int .i64 x.inst,.int .i64 x.call,.int .i64 x.bP,.int .i64 x.bh,.bool x.free,.rs 5 (x.calls.map av.pv)]
structure iM.jb(M:Nat)(x:iM):Prop where
 source:jJ x.source
 seq:jJ x.seq
 j8:jJ x.j8
 gE:jJ x.gE
 kind:jJ x.kind
 dv:x.dv.length≤M
 day:jJ x.day
 inst:jJ x.inst
 call:jJ x.call
 bP:jJ x.bP
 bh:jJ x.bh
 calls:x.calls.length≤M∧∀y∈x.calls,y.jb M
abbrev iM.Ok(x:iM):Prop:=x.jb maxLen
def iM.key(x:iM):Bytes×Int×Int:=(x.dv,x.day,x.inst)
def zU(l:List cn)(m:iM):Option Nat:=(List.range l.length).find? fun k=>decide ((l.map bD)[k]?=some m.key)
theorem BQ{l:List cn}{m:iM}{k:Nat}(h:zU l m=some k):∃hk:k<l.length,bD l[k]=m.key∧∀j,(hj:j<k)→bD (l[j]'(by omega))≠m.key:=by
 unfold zU at h;rw[List.find?_range_eq_some]at h;obtain⟨h1,h2,h3⟩:=h;have hk:k<l.length:=by simpa using h2
 refine⟨hk,?_,fun j hj hc=>?_⟩
 ·simpa[List.getElem?_eq_getElem hk]using h1
 ·have:=h3 j hj;simp[List.getElem?_eq_getElem (show j<l.length by omega),hc]at this
theorem Rl{l:List cn}{m:iM}(h:zU l m=none):m.key∉l.map bD:=by
 unfold zU at h;rw[List.find?_eq_none]at h;intro hm;obtain⟨k,hk⟩:=List.mem_iff_getElem?.1 hm;have mM:k<l.length:=by have:=(List.getElem?_eq_some_iff.1 hk).1;simpa using this
 exact h k (by simpa using mM) (by simpa using hk)
def gK:Int:=3155932800
def tN(l:List av):Bool:=(List.range l.length).all fun k=>(l[k]?).elim true fun c=> !(decide (c.arr<((hU l k).map av.dep).getD 0)||decide (c.dep<c.arr)||decide (c.dep>gK))
def gL(c:av):Int:=if c.dep-c.arr<30 then c.dep-c.arr else 30
def late(c:av)(Kg:Int):av:={c with arr:=Kg,dep:=if Kg+gL c>c.dep then Kg+gL c else c.dep}
def gi:List av→Int→Option (List av)
 |[],_=>some []
 |c::cs,a=>if(late c a).dep>gK then none else
  match cs with
  |[]=>some [late c a]
  |d::ds=>(gi (d::ds) (d.arr+(late c a).dep-c.dep)).map fun r=>late c a::r
def mP(l:List av)(n:Nat)(bP:Int):Int:=
 let before:=((hU l n).map av.dep).getD 0
 let x:=((l[n]?).map av.arr).getD 0+bP
 if x<before then before else x
def prop(l:List av)(n:Int)(bP:Int):Option (List av)×Int:=
 if n<0∨n≥(l.length:Int)then(none,1)else if bP< -43200∨bP>43200 then(none,2)else if tN l=false then(none,10)
 else match gi (l.drop n.toNat) (mP l n.toNat bP)with
 |some r=>(some (l.take n.toNat++r),0)
 |none=>(none,10)
end Go.Ab.Tt
namespace Go.Ab.Tt
set_option maxRecDepth 100000
set_option linter.unusedVariables false
set_option linter.unusedSimpArgs false
theorem mC(N:aj):(eA N).2.2=0↔(gC N.stops).2=0∧(fm N.ai).2=0∧(fW N.runs N.stops.length N.ai.length).2=0∧(gJ N.runs N.aq).2=0∧(cU N.paths N.stops.length).2=0∧(dF N.aM N.bd N.within N.cap).2=0:=by
 unfold eA;by_cases h1:(gC N.stops).2=0
 ·rw[if_pos h1];by_cases h2:(fm N.ai).2=0
  ·rw[if_pos h2];by_cases h3:(fW N.runs N.stops.length N.ai.length).2=0
   ·rw[if_pos h3];by_cases h4:(gJ N.runs N.aq).2=0
    ·rw[if_pos h4];by_cases h5:(cU N.paths N.stops.length).2=0
     ·rw[if_pos h5];by_cases h6:(dF N.aM N.bd N.within N.cap).2=0
      ·rw[if_pos h6];simp[h1,h2,h3,h4,h5,h6]
      ·rw[if_neg h6];simp[h6]
     ·rw[if_neg h5];simp[h5]
    ·rw[if_neg h4];simp[h4]
   ·rw[if_neg h3];simp[h3]
  ·rw[if_neg h2];simp[h2]
 ·rw[if_neg h1];simp[h1]
def wV(x:cn)(stops ai:Int):Int:=
 if eM x.id=false then 12 else if(decide (x.dv< -1)||decide (x.inst<0))=true then 2
 else if(decide (x.day<0)||decide (x.day>36524))=true then 11 else if(decide (x.bh<0)||decide (x.bh≥ai))=true then 9
 else(bw x.calls stops 0 3155932800).2
theorem zi(l:List cn)(s r:Int)(k:Nat)(hk:k<l.length):iJ l s r k=0↔wV l[k] s r=0∧bD l[k]∉(l.map bD).take k:=by
 unfold iJ wV;rw[List.getElem?_eq_getElem hk];simp only;by_cases h1:eM l[k].id=false
 ·rw[if_pos h1,if_pos h1];simp
 ·rw[if_neg h1,if_neg h1];by_cases h2:(decide (l[k].dv< -1)||decide (l[k].inst<0))=true
  ·rw[if_pos h2,if_pos h2];simp
  ·rw[if_neg h2,if_neg h2];by_cases h3:(decide (l[k].day<0)||decide (l[k].day>36524))=true
   ·rw[if_pos h3,if_pos h3];simp
   ·rw[if_neg h3,if_neg h3];by_cases h4:(decide (l[k].bh<0)||decide (l[k].bh≥r))=true
    ·rw[if_pos h4,if_pos h4];simp
    ·rw[if_neg h4,if_neg h4];by_cases h5:(bw l[k].calls s 0 3155932800).2=0
     ·rw[if_pos h5];by_cases h6:bD l[k]∈(l.map bD).take k
      ·simp[h6]
      ·simp[h6,h5]
     ·rw[if_neg h5];simp[h5]
theorem ni(l:List cn)(s r:Int):(fW l s r).2=0↔l.length≤1024∧∀k,(hk:k<l.length)→wV l[k] s r=0∧bD l[k]∉(l.map bD).take k:=by
 unfold fW;by_cases h:l.length>1024
 ·rw[if_pos h];constructor
  ·intro hc;cases hc
  ·rintro⟨h1,_⟩;omega
 ·rw[if_neg h,lU];constructor
  ·intro h0;exact⟨by omega,fun k hk=>(zi l s r k hk).1 (h0 k hk)⟩
  ·rintro⟨_,h0⟩ k hk;exact(zi l s r k hk).2 (h0 k hk)
theorem Rm{l:List cn}{s r:Int}{i:Nat}{x:cn}(hi:i<l.length)(hk:bD x=bD l[i])(hx:wV x s r=0)(h:(fW l s r).2=0):(fW (l.set i x) s r).2=0:=by
 rw[ni]at h⊢;have hm:(l.set i x).map bD=l.map bD:=by rw[List.map_set,hk,←List.getElem_map bD (h:=by simpa using hi),List.set_getElem_self]
 refine⟨by rw[List.length_set];exact h.1,fun k ky=>?_⟩;have WT:k<l.length:=by simpa using ky
 rw[hm];obtain⟨h1,h2⟩:=h.2 k WT;by_cases zg:i=k
 ·subst zg;rw[List.getElem_set_self];exact⟨hx,by rw[hk];exact h2⟩
 ·rw[List.getElem_set_ne zg];exact⟨h1,h2⟩
theorem Rn{l:List cn}{s r:Int}{x:cn}(hk:bD x∉l.map bD)(hx:wV x s r=0)(hl:l.length<1024)(h:(fW l s r).2=0):(fW (l++[x]) s r).2=0:=by
 rw[ni]at h⊢;refine⟨by simp;omega,fun k ky=>?_⟩;simp only[List.length_append,List.length_cons,List.length_nil]at ky;rw[List.map_append];by_cases bp:k<l.length
 ·rw[List.getElem_append_left bp,List.take_append_of_le_length (by simp;omega)];exact h.2 k bp
 ·have:k=l.length:=by omega
  subst this;rw[List.getElem_append_right (Nat.le_refl _)];simp only[Nat.sub_self,List.getElem_cons_zero];refine⟨hx,?_⟩;rw[List.take_append_of_le_length (by simp),List.take_of_length_le (by simp)];exact hk
def Dn(runs:List cn)(p:List aN)(x:aN):Int:=
 if tC x runs.length=true then 9 else if tD x (ax runs x.a).length (ax runs x.b).length=true then 9
 else if eX (ax runs x.a) x.ac≠eX (ax runs x.b) x.bc then 13 else if oK p x (ax runs x.a).length=true then 19
 else if ck x∈p.map ck then 6 else 0
theorem Dp(runs:List cn)(l:List aN)(k:Nat)(hk:k<l.length):cB runs l k=Dn runs (l.take k) l[k]:=by unfold cB Dn;rw[List.getElem?_eq_getElem hk,List.map_take]
def sk(runs:List cn)(l:List aN):Prop:=∀k,(hk:k<l.length)→Dn runs (l.take k) l[k]=0
theorem qk(runs:List cn)(l:List aN):(gJ runs l).2=0↔l.length≤1024∧sk runs l:=by
 unfold gJ sk;by_cases h:l.length>1024
 ·rw[if_pos h];constructor
  ·intro hc;cases hc
  ·rintro⟨h1,_⟩;omega
 ·rw[if_neg h,lU];constructor
  ·intro h0;exact⟨by omega,fun k hk=>by rw[←Dp];exact h0 k hk⟩
  ·rintro⟨_,h0⟩ k hk;rw[Dp runs l k hk];exact h0 k hk
theorem Og(runs:List cn):sk runs []:=fun k hk=>by simp at hk
theorem vN(runs:List cn)(p:List aN)(x:aN):sk runs (p++[x])↔sk runs p∧Dn runs p x=0:=by
 constructor
 ·intro h;refine⟨fun k hk=>?_,?_⟩
  ·have:=h k (by simp;omega);rw[List.getElem_append_left hk,List.take_append_of_le_length (by omega)]at this;exact this
  ·have:=h p.length (by simp);rw[List.getElem_append_right (Nat.le_refl _),List.take_append_of_le_length (Nat.le_refl _),List.take_length]at this;simpa using this
 ·rintro⟨h1,h2⟩ k hk;simp only[List.length_append,List.length_cons,List.length_nil]at hk;by_cases bp:k<p.length
  ·rw[List.getElem_append_left bp,List.take_append_of_le_length (by omega)];exact h1 k bp
  ·have:k=p.length:=by omega
   subst this;rw[List.getElem_append_right (Nat.le_refl _),List.take_append_of_le_length (Nat.le_refl _),List.take_length];simpa using h2
theorem rT(runs:List cn)(p:List aN)(x:aN):Dn runs p x=0↔tC x runs.length=false∧tD x (ax runs x.a).length (ax runs x.b).length=false∧eX (ax runs x.a) x.ac=eX (ax runs x.b) x.bc∧oK p x (ax runs x.a).length=false∧ck x∉p.map ck:=by
 unfold Dn;cases tC x runs.length with
 |true=>simp
 |false=>
  cases tD x (ax runs x.a).length (ax runs x.b).length with
  |true=>simp
  |false=>
   by_cases h3:eX (ax runs x.a) x.ac=eX (ax runs x.b) x.bc
   ·cases oK p x (ax runs x.a).length with
    |true=>simp[h3]
    |false=>
     by_cases h5:ck x∈p.map ck
     ·simp[h3,h5]
     ·simp[h3,h5]
   ·simp[h3]
theorem BR{x:aN}{R:Int}(h:tC x R=false):(0≤x.a∧x.a<R)∧(0≤x.b∧x.b<R)∧x.a≠x.b:=by unfold tC at h;simp only[Bool.or_eq_false_iff,Bool.not_eq_false',Bool.and_eq_true,decide_eq_true_eq,decide_eq_false_iff_not]at h;exact⟨h.1.1,h.1.2,h.2⟩
variable{runs zj:List cn}
theorem oR{l:List aN}(h:sk runs l)(hR:runs.length≤zj.length)(hc:∀x∈l,∀v,v=x.a∨v=x.b→(ax zj v).length=(ax runs v).length∧∀c,eX (ax zj v) c=eX (ax runs v) c):sk zj l:=by intro k hk;have h0:=h k hk;rw[rT]at h0⊢;obtain⟨h1,h2,h3,h4,h5⟩:=h0;obtain⟨ea,sa⟩:=hc _ (List.getElem_mem hk) _ (Or.inl rfl);obtain⟨eb,sb⟩:=hc _ (List.getElem_mem hk) _ (Or.inr rfl);rw[ea,eb,sa,sb];refine⟨?_,h2,h3,h4,h5⟩;obtain⟨g1,g2,g3⟩:=BR h1;unfold tC;simp only[Bool.or_eq_false_iff,Bool.not_eq_false',Bool.and_eq_true,decide_eq_true_eq,decide_eq_false_iff_not];exact⟨⟨⟨g1.1,by omega⟩,⟨g2.1,by omega⟩⟩,g3⟩
theorem zk{p:List aN}{x:aN}{A:Int}(h:oK p x A=false):x.stay=false∨(x.ac+1=A∧x.bc=0∧nx p x.a=none∧x.b∉jw p∧k9 p x.b x.a (p.length+1)=false):=by
 unfold oK at h;cases hs:x.stay with
 |false=>exact Or.inl rfl
 |true=>
  rw[hs,Bool.true_and]at h;simp only[Bool.or_eq_false_iff,Bool.not_eq_false',decide_eq_true_eq,decide_eq_false_iff_not]at h;obtain⟨⟨⟨⟨h1,h2⟩,h3⟩,h4⟩,h5⟩:=h;refine Or.inr ⟨h1,h2,?_,h4,h5⟩;cases hn:nx p x.a with
  |none=>rfl
  |some w=>rw[hn]at h3;cases h3
theorem abd(l:List aN)(h:sk runs l):∀x∈l,x.stay=true→nx l x.a=some x.b:=by
 induction l using tA with
 |h0=>intro x hx;cases hx
 |h1 p y ih=>
  rw[vN]at h;obtain⟨hp,hy⟩:=h;rw[rT]at hy;intro x hx hs;rw[pA];rcases List.mem_append.1 hx with hx|hx
  ·have h1:=ih hp x hx hs;by_cases hc:(y.stay&&decide (y.a=x.a))=true
   ·simp only[Bool.and_eq_true,decide_eq_true_eq]at hc;rcases zk hy.2.2.2.1 with h2|h2
    ·rw[h2]at hc;cases hc.1
    ·rw[hc.2]at h2;rw[h1]at h2;cases h2.2.2.1
   ·rw[if_neg hc];exact h1
  ·rw[List.mem_singleton]at hx;subst hx;rw[if_pos (by simp[hs])]
theorem EI(f:aN→Bool)(l:List aN)(h:sk runs l)(hR:runs.length≤zj.length)(hc:∀x∈l,f x=true→∀v,v=x.a∨v=x.b→(ax zj v).length=(ax runs v).length∧∀c,eX (ax zj v) c=eX (ax runs v) c):sk zj (l.filter f):=by
 refine oR (runs:=runs) ?_ hR (fun x hx=>hc x (List.mem_filter.1 hx).1 (List.mem_filter.1 hx).2);clear hc hR;induction l using tA with
 |h0=>exact Og runs
 |h1 p x ih=>
  rw[vN]at h;obtain⟨hp,hx⟩:=h;rw[List.filter_append];by_cases hf:f x=true
  ·rw[List.filter_cons_of_pos hf,List.filter_nil,vN];refine⟨ih hp,?_⟩;rw[rT]at hx⊢;obtain⟨h1,h2,h3,h4,h5⟩:=hx;have Nl:∀y∈p.filter f,y∈p:=fun y hy=>(List.mem_filter.1 hy).1;refine⟨h1,h2,h3,?_,fun hm=>h5 ?_⟩
   ·rcases zk h4 with hs|⟨g1,g2,g3,g4,g5⟩
    ·unfold oK;rw[hs];rfl
    ·have hnx:∀v w,nx (p.filter f) v=some w→nx p v=some w:=fun v w Mc=>by obtain⟨y,hy,XK,rfl,rfl⟩:=JW Mc;exact abd p hp y (Nl y hy) XK
     have hit:∀t v w,it (nx (p.filter f)) t v=some w→it (nx p) t v=some w:=by
      intro t;induction t with
      |zero=>intro v w h;exact h
      |succ t iht=>
       intro v w Mc;have TN:(nx (p.filter f) v).bind (it (nx (p.filter f)) t)=some w:=Mc;cases hn:nx (p.filter f) v with
       |none=>rw[hn]at TN;cases TN
       |some u=>rw[hn]at TN;show(nx p v).bind (it (nx p) t)=some w;rw[hnx v u hn];exact iht u w TN
     have k1:(nx (p.filter f) x.a).isSome=false:=by
      cases hn:nx (p.filter f) x.a with
      |none=>rfl
      |some w=>rw[hnx _ _ hn]at g3;cases g3
     have k2:decide (x.b∈jw (p.filter f))=false:=by rw[decide_eq_false_iff_not];intro hm;apply g4;unfold jw at hm⊢;obtain⟨y,hy,hyb⟩:=List.mem_map.1 hm;obtain⟨hy1,hy2⟩:=List.mem_filter.1 hy;exact List.mem_map.2 ⟨y,List.mem_filter.2 ⟨Nl y hy1,hy2⟩,hyb⟩
     have k3:k9 (p.filter f) x.b x.a ((p.filter f).length+1)=false:=by unfold k9 at g5⊢;rw[List.any_eq_false]at g5⊢;intro t ht hc;have hle:=List.length_filter_le f p;refine g5 t (by simp at ht⊢;omega) ?_;rw[decide_eq_true_eq]at hc⊢;exact hit _ _ _ hc
     unfold oK;rw[k1,k2,k3,g1,g2];simp
   ·obtain⟨y,hy,hk⟩:=List.mem_map.1 hm;exact List.mem_map.2 ⟨y,Nl y hy,hk⟩
  ·rw[List.filter_cons_of_neg hf,List.filter_nil,List.append_nil];exact ih hp
end Go.Ab.Tt
namespace Go.Ab.Tt
set_option maxRecDepth 100000
set_option linter.unusedVariables false
set_option linter.unusedSimpArgs false
def Fk(n a b:Int):Option av→List av→Prop
 |_,[]=>True
 |p,c::cs=>kX c p n a b=0∧Fk n a b (some c) cs
theorem Mv(n a b:Int)(l:List av):∀p,Fk n a b p l↔∀k,(hk:k<l.length)→kX l[k] (if k=0 then p else l[k-1]?) n a b=0:=by
 induction l with
 |nil=>intro p;exact⟨fun _ k hk=>by simp at hk,fun _=>trivial⟩
 |cons c cs ih=>
  intro p;show(kX c p n a b=0∧Fk n a b (some c) cs)↔_;rw[ih];constructor
  ·rintro⟨h1,h2⟩ k hk;cases k with
   |zero=>exact h1
   |succ k=>
    have:=h2 k (by simpa using hk);cases k with
    |zero=>simpa using this
    |succ k=>simpa using this
  ·intro h;refine⟨h 0 (Nat.zero_lt_succ _),fun k hk=>?_⟩;have:=h (k+1) (by simpa using hk);cases k with
   |zero=>simpa using this
   |succ k=>simpa using this
theorem tO(l:List av)(n a b:Int):(bw l n a b).2=0↔2≤l.length∧l.length≤32∧Fk n a b none l:=by
 have he:(∀k,k<l.length→mb l n a b k=0)↔Fk n a b none l:=by
  rw[Mv];constructor
  ·intro h k hk;have:=h k hk;unfold mb at this;rw[List.getElem?_eq_getElem hk]at this;cases k with
   |zero=>exact this
   |succ k=>exact this
  ·intro h k hk;have:=h k hk;unfold mb;rw[List.getElem?_eq_getElem hk];cases k with
   |zero=>exact this
   |succ k=>exact this
 rw[←he];constructor
 ·intro h;exact⟨(tH h).1,(tH h).2,zd h⟩
 ·rintro⟨h1,h2,h3⟩;unfold bw;rw[if_neg (by simp;omega)];exact(lU _ _).2 h3
theorem vO(n a b:Int)(l1 l2:List av):∀p,Fk n a b p (l1++l2)↔Fk n a b p l1∧Fk n a b (if l1.length=0 then p else l1[l1.length-1]?) l2:=by
 induction l1 with
 |nil=>intro p;simp[Fk]
 |cons c cs ih=>
  intro p;show(kX c p n a b=0∧Fk n a b (some c) (cs++l2))↔(kX c p n a b=0∧Fk n a b (some c) cs)∧_;rw[ih,and_assoc];have:(if(c::cs).length=0 then p else(c::cs)[(c::cs).length-1]?)=if cs.length=0 then some c else cs[cs.length-1]?:=by
   cases cs with
   |nil=>rfl
   |cons d ds=>simp
  rw[this]
variable{p:Option av}
theorem BS{c:av}{n a b:Int}(h1:0≤c.stop)(h2:c.stop<n)(h3:∀q,p=some q→q.stop≠c.stop)(h4:a≤c.arr)(h5:c.arr≤c.dep)(h6:c.dep≤b)(h7:∀q,p=some q→q.dep≤c.arr):kX c p n a b=0:=by
 unfold kX;rw[if_neg (by simp;omega)];cases p with
 |none=>dsimp only;rw[if_neg (by simp),if_neg (by simp;omega)]
 |some q=>dsimp only;have:=h3 q rfl;have:=h7 q rfl;rw[if_neg (by simpa using h3 q rfl),if_neg (by simp;omega)]
theorem rU{c:av}{n a b:Int}(h:kX c p n a b=0):0≤c.stop∧c.stop<n∧∀q,p=some q→q.stop≠c.stop:=by
 unfold kX at h;by_cases hA:(decide (c.stop<0)||decide (c.stop≥n))=true
 ·rw[if_pos hA]at h;cases h
 ·rw[if_neg hA]at h;simp only[Bool.or_eq_true,decide_eq_true_eq,not_or]at hA;refine⟨by omega,by omega,fun q hq hc=>?_⟩;subst hq;dsimp only at h;rw[if_pos (by simpa using hc)]at h;cases h
theorem Rp(n:Int)(cs:List av):∀(a:Int)(p:Option av)(r:List av),Fk n 0 gK p cs→gi cs a=some r→(∀q,p=some q→q.dep≤a)→0≤a→Fk n 0 gK p r∧r.map av.stop=cs.map av.stop:=by
 induction cs with
 |nil=>intro a p r _ hr _ _;simp only[gi,Option.some.injEq]at hr;subst hr;exact⟨trivial,rfl⟩
 |cons c cs ih=>
  intro a p r vS hr hp ha;obtain⟨hc,HR⟩:=vS;obtain⟨g1,g2,g3⟩:=rU hc;obtain⟨k1,k2,k3,k4⟩:=oM hc;have hd:0≤gL c:=by unfold gL;split<;>omega
  have adZ:a≤(late c a).dep:=by show a≤if a+gL c>c.dep then a+gL c else c.dep;split<;>omega
  have hcd:c.dep≤(late c a).dep:=by show c.dep≤if a+gL c>c.dep then a+gL c else c.dep;split<;>omega
  unfold gi at hr;by_cases tP:(late c a).dep>gK
  ·rw[if_pos tP]at hr;cases hr
  ·rw[if_neg tP]at hr;have hE:kX (late c a) p n 0 gK=0:=BS g1 g2 g3 ha adZ (by omega) hp;cases cs with
   |nil=>simp only[Option.some.injEq]at hr;subst hr;exact⟨⟨hE,trivial⟩,rfl⟩
   |cons d ds=>
    simp only[Option.map_eq_some_iff]at hr;obtain⟨r',qn,rfl⟩:=hr;obtain⟨hdE,XU⟩:=HR;obtain⟨d1,d2,d3,d4⟩:=oM hdE;obtain⟨e1,e2,e3⟩:=rU hdE;have hdc:=d4 c rfl;have ad0:Fk n 0 gK (some (late c a)) (d::ds)→Fk n 0 gK (some (late c a)) r'∧r'.map av.stop=(d::ds).map av.stop:=fun hh=>ih _ _ r' hh qn (fun q hq=>by cases hq;omega) (by omega);by_cases abe:(late c a).dep≤d.arr
    ·obtain⟨i1,i2⟩:=ad0 ⟨BS e1 e2 (fun q hq=>by cases hq;exact e3 c rfl) d2 d1 d3 (fun q hq=>by cases hq;exact abe),XU⟩;exact⟨⟨hE,i1⟩,by simp only[List.map_cons,i2];rfl⟩
    ·obtain⟨i1,i2⟩:=ih (d.arr+(late c a).dep-c.dep) (some c) r' ⟨hdE,XU⟩ qn (fun q hq=>by cases hq;omega) (by omega);refine⟨⟨hE,?_⟩,by simp only[List.map_cons,i2];rfl⟩;cases r' with
     |nil=>trivial
     |cons x xs=>
      obtain⟨j1,j2⟩:=i1;obtain⟨f1,f2,f3⟩:=rU j1;obtain⟨t1,t2,t3,t4⟩:=oM j1;refine⟨BS f1 f2 (fun q hq=>by cases hq;exact f3 c rfl) t2 t1 t3 (fun q hq=>?_),j2⟩;cases hq;have hx:x.arr=d.arr+(late c a).dep-c.dep:=by
       unfold gi at qn;by_cases oY:(late d (d.arr+(late c a).dep-c.dep)).dep>gK
       ·rw[if_pos oY]at qn;cases qn
       ·rw[if_neg oY]at qn;cases ds with
        |nil=>simp only[Option.some.injEq,List.cons.injEq]at qn;rw[←qn.1];rfl
        |cons d2 ds2=>simp only[Option.map_eq_some_iff,List.cons.injEq]at qn;obtain⟨_,_,h1,_⟩:=qn;rw[←h1];rfl
      omega
theorem TO{l r:List av}{n:Int}{at_ bP:Int}(h:(bw l n 0 gK).2=0)(hp:prop l at_ bP=(some r,0)):(bw r n 0 gK).2=0∧r.map av.stop=l.map av.stop:=by
 rw[tO]at h;obtain⟨h1,h2,h3⟩:=h;unfold prop at hp;by_cases ha:at_<0∨at_≥(l.length:Int)
 ·rw[if_pos ha]at hp;cases hp
 ·rw[if_neg ha]at hp;by_cases hs:bP< -43200∨bP>43200
  ·rw[if_pos hs]at hp;cases hp
  ·rw[if_neg hs]at hp;by_cases ho:tN l=false
   ·rw[if_pos ho]at hp;cases hp
   ·rw[if_neg ho]at hp;cases hl:gi (l.drop at_.toNat) (mP l at_.toNat bP)with
    |none=>rw[hl]at hp;cases hp
    |some r'=>
     rw[hl]at hp;simp only[Prod.mk.injEq,Option.some.injEq,and_true]at hp;generalize hn:at_.toNat=m at hl hp;have hm:m<l.length:=by omega
     rw[←List.take_append_drop m l,vO]at h3;obtain⟨g1,g2⟩:=h3;have hlen:(l.take m).length=m:=by simp;omega
     have Rq:(if(l.take m).length=0 then(none:Option av)else(l.take m)[(l.take m).length-1]?)=hU l m:=by
      rw[hlen];cases m with
      |zero=>rfl
      |succ m=>rw[if_neg (by omega),List.getElem?_take_of_lt (by omega)];rfl
     rw[Rq]at g2;have ei:∀q,hU l m=some q→0≤q.dep:=by
      intro q hq;have vS:Fk n 0 gK none l:=by rw[←List.take_append_drop m l,vO,Rq];exact⟨g1,g2⟩
      cases m with
      |zero=>cases hq
      |succ m=>
       have M5:l[m]?=some q:=hq;have St:m<l.length:=by omega
       rw[List.getElem?_eq_getElem St]at M5;cases M5;have:=(Mv n 0 gK l none).1 vS m St;obtain⟨z1,z2,_,_⟩:=oM this;omega
     have wC:(∀q,hU l m=some q→q.dep≤mP l m bP)∧0≤mP l m bP:=by
      unfold mP;cases hq:hU l m with
      |none=>refine⟨(fun q hq=>by cases hq),?_⟩;simp only[Option.map_none,Option.getD_none];split<;>omega
      |some q=>
       have:=ei q hq;simp only[Option.map_some,Option.getD_some];refine⟨fun q' M5=>?_,?_⟩
       ·cases M5;split<;>omega
       ·split<;>omega
     obtain⟨i1,i2⟩:=Rp n (l.drop m) _ _ r' g2 hl wC.1 wC.2;have Tg:r'.length=l.length-m:=by have:=congrArg List.length i2;simpa using this
     rw[←hp];refine⟨?_,?_⟩
     ·rw[tO,vO,Rq];refine⟨?_,?_,g1,i1⟩
      ·simp[Tg];omega
      ·simp[Tg];omega
     ·rw[List.map_append,i2,←List.map_append,List.take_append_drop]
def gT(m:iM):Int:=
 if wi m.source 0 7=false then 36 else if m.seq<1 then 2
 else if(!wi m.j8 0 3155932800|| !wi m.gE 0 3155932800||decide (m.j8≥m.gE))=true then 10
 else if wi m.kind 1 6=false then 35 else if eM m.dv=false then 12 else if wi m.day 0 36524=false then 11 else if m.inst<0 then 2
 else
  let uC:=decide (m.kind=1)||decide (m.kind=3)
  let uS:=decide (m.kind=1)
  let uR:=decide (m.kind=5)
  let uL:=decide (m.kind=4)||decide (m.kind=5)
  if(uC&& !wi m.call 0 31||uS&& !wi m.bP (-43200) 43200||uR&& !wi m.bh 0 63)=true then 2
  else if uL=true∧(bw m.calls 64 0 3155932800).2≠0 then(bw m.calls 64 0 3155932800).2
  else if(!uC&& !decide (m.call=0)|| !uS&& !decide (m.bP=0)|| !uR&& !decide (m.bh=0)|| !uR&&m.free|| !uL&&decide (m.calls.length>0))=true then 1 else 0
theorem Rr{m:iM}(h:gT m=0):eM m.dv=true∧(0≤m.day∧m.day≤36524)∧0≤m.inst∧1≤m.kind∧m.kind≤6:=by
 unfold gT at h;by_cases h1:wi m.source 0 7=false
 ·rw[if_pos h1]at h;cases h
 rw[if_neg h1]at h;by_cases h2:m.seq<1
 ·rw[if_pos h2]at h;cases h
 rw[if_neg h2]at h;by_cases h3:(!wi m.j8 0 3155932800|| !wi m.gE 0 3155932800||decide (m.j8≥m.gE))=true
 ·rw[if_pos h3]at h;cases h
 rw[if_neg h3]at h;by_cases h4:wi m.kind 1 6=false
 ·rw[if_pos h4]at h;cases h
 rw[if_neg h4]at h;by_cases h5:eM m.dv=false
 ·rw[if_pos h5]at h;cases h
 rw[if_neg h5]at h;by_cases h6:wi m.day 0 36524=false
 ·rw[if_pos h6]at h;cases h
 rw[if_neg h6]at h;by_cases h7:m.inst<0
 ·rw[if_pos h7]at h;cases h
 simp only[wi,Bool.and_eq_false_iff,decide_eq_false_iff_not,not_or]at h4 h6;refine⟨by simpa using h5,⟨by omega,by omega⟩,by omega,by omega,by omega⟩
def Kh(m:iM):cn:=⟨-1,m.day,m.inst,m.dv,m.bh,m.free,false,m.calls⟩
def BT(l:List av)(c:Nat):List av:=match l[c]? with|some k=>l.set c {k with GZ:=false,BU:=false}|none=>l
def EJ(N:aj)(m:iM):aj×Int:=
 if m.kind=5 then
  if(zU N.runs m).isSome=true then(N,6)else if m.bh<0∨m.bh≥(N.ai.length:Int)then(N,14)
  else if(bw m.calls N.stops.length 0 3155932800).2≠0 then(N,(bw m.calls N.stops.length 0 3155932800).2)
  else if N.runs.length≥1024 then(N,5)else({N with runs:=N.runs++[Kh m]},0)
 else match zU N.runs m with
 |none=>(N,16)
 |some i=>match N.runs[i]? with
  |none=>(N,16)
  |some r=>
   if(m.kind=1∨m.kind=3)∧(m.call<0∨m.call≥(r.calls.length:Int))then(N,9)
   else if m.kind=1 then match prop r.calls m.call m.bP with
    |(some l,_)=>({N with runs:=N.runs.set i {r with calls:=l}},0)
    |(none,e)=>(N,e)
   else if m.kind=2 then({N with runs:=N.runs.set i {r with rH:=true}},0)
   else if m.kind=3 then({N with runs:=N.runs.set i {r with calls:=BT r.calls m.call.toNat}},0)
   else if m.kind=4 then
    if(bw m.calls N.stops.length 0 3155932800).2≠0 then(N,(bw m.calls N.stops.length 0 3155932800).2)
    else({N with runs:=N.runs.set i {r with calls:=m.calls},aq:=N.aq.filter fun l=> !(decide (l.a=(i:Int))||decide (l.b=(i:Int)))},0)
   else(N,0)
end Go.Ab.Tt
namespace Go.Ab.Tt
set_option maxRecDepth 100000
set_option linter.unusedVariables false
set_option linter.unusedSimpArgs false
def core(c:av):Int×Int×Int:=(c.stop,c.arr,c.dep)
theorem Ki{c c':av}{p p':Option av}{n a b:Int}(h:core c=core c')(hp:p.map core=p'.map core):kX c p n a b=kX c' p' n a b:=by
 simp only[core,Prod.mk.injEq]at h;obtain⟨h1,h2,h3⟩:=h;unfold kX;rw[h1,h2,h3];cases p with
 |none=>cases p' with
  |none=>rfl
  |some q=>cases hp
 |some q=>cases p' with
  |none=>cases hp
  |some q'=>simp only[Option.map_some,Option.some.injEq,core,Prod.mk.injEq]at hp;obtain⟨g1,g2,g3⟩:=hp;simp only[g1,g3]
theorem G0{n a b:Int}:∀{l l':List av}{p p':Option av},l.map core=l'.map core→p.map core=p'.map core→Fk n a b p l→Fk n a b p' l'
 |[],[],_,_,_,_,_=>trivial
 |[],_::_,_,_,h,_,_=>by cases h
 |_::_,[],_,_,h,_,_=>by cases h
 |c::cs,c'::CJ,p,p',h,hp,ho=>by simp only[List.map_cons,List.cons.injEq]at h;exact⟨by rw[←Ki h.1 hp];exact ho.1,G0 (p:=some c) (p':=some c') h.2 (by simp[h.1]) ho.2⟩
variable{l':List av}
theorem EK{n a b:Int}{l:List av}(h:l.map core=l'.map core)(hr:(bw l n a b).2=0):(bw l' n a b).2=0:=by
 rw[tO]at hr⊢;have hl:l.length=l'.length:=by simpa using congrArg List.length h
 exact⟨by omega,by omega,G0 h rfl hr.2.2⟩
theorem BV(l:List av)(c:Nat):(BT l c).map core=l.map core:=by
 unfold BT;cases hc:l[c]? with
 |none=>rfl
 |some k=>
  simp only;rw[List.map_set];apply List.ext_getElem?;intro j;rw[List.getElem?_set];split
  ·rename_i e;subst e;have bp:=(List.getElem?_eq_some_iff.1 hc).1;rw[if_pos (by simpa using bp),List.getElem?_map,hc];rfl
  ·rfl
theorem Oh{l:List av}(h:l.map core=l'.map core):l.map av.stop=l'.map av.stop:=by
 have:∀l:List av,l.map av.stop=(l.map core).map Prod.fst:=fun l=>by rw[List.map_map];rfl
 rw[this,this,h]
theorem BW(cs:List av)(c:Int):eX cs c=((cs.map av.stop)[c.toNat]?).getD 0:=by unfold eX;rw[List.getElem?_map]
theorem Kj{cs CJ:List av}(h:CJ.map av.stop=cs.map av.stop):CJ.length=cs.length∧∀c,eX CJ c=eX cs c:=by refine⟨by simpa using congrArg List.length h,fun c=>?_⟩;rw[BW,BW,h]
variable{runs:List cn}{x:cn}
theorem tQ{i:Nat}{r:cn}(hr:runs[i]?=some r)(h:x.calls.map av.stop=r.calls.map av.stop)(v:Int):(ax (runs.set i x) v).length=(ax runs v).length∧∀c,eX (ax (runs.set i x) v) c=eX (ax runs v) c:=by
 by_cases hv:v.toNat=i
 ·subst hv;have bp:=(List.getElem?_eq_some_iff.1 hr).1;have h1:ax (runs.set v.toNat x) v=x.calls:=by unfold ax;rw[List.getElem?_set_self bp];rfl
  have h2:ax runs v=r.calls:=by unfold ax;rw[hr];rfl
  rw[h1,h2];exact Kj h
 ·have h1:ax (runs.set i x) v=ax runs v:=by unfold ax;rw[List.getElem?_set_ne (fun h=>hv h.symm)]
  rw[h1];exact⟨rfl,fun _=>rfl⟩
theorem Kk{i:Nat}{v:Int}(hv:v.toNat≠i):ax (runs.set i x) v=ax runs v:=by unfold ax;rw[List.getElem?_set_ne (fun h=>hv h.symm)]
theorem G1{v:Int}(hv:0≤v∧v<(runs.length:Int)):ax (runs++[x]) v=ax runs v:=by unfold ax;rw[List.getElem?_append_left (by omega)]
theorem Dq{l:List aN}(h:sk runs l){x:aN}(hx:x∈l):(0≤x.a∧x.a<(runs.length:Int))∧0≤x.b∧x.b<(runs.length:Int):=by obtain⟨k,hk,rfl⟩:=List.getElem_of_mem hx;have:=h k hk;rw[rT]at this;obtain⟨g1,g2,_⟩:=BR this.1;exact⟨g1,g2⟩
theorem BX{s r:Int}(h:wV x s r=0):eM x.id=true∧(decide (x.dv< -1)||decide (x.inst<0))=false∧(decide (x.day<0)||decide (x.day>36524))=false∧(decide (x.bh<0)||decide (x.bh≥r))=false∧(bw x.calls s 0 3155932800).2=0:=by
 unfold wV at h;by_cases h1:eM x.id=false
 ·rw[if_pos h1]at h;cases h
 rw[if_neg h1]at h;by_cases h2:(decide (x.dv< -1)||decide (x.inst<0))=true
 ·rw[if_pos h2]at h;cases h
 rw[if_neg h2]at h;by_cases h3:(decide (x.day<0)||decide (x.day>36524))=true
 ·rw[if_pos h3]at h;cases h
 rw[if_neg h3]at h;by_cases h4:(decide (x.bh<0)||decide (x.bh≥r))=true
 ·rw[if_pos h4]at h;cases h
 rw[if_neg h4]at h;exact⟨by simpa using h1,by simpa using h2,by simpa using h3,by simpa using h4,h⟩
theorem G2{s r:Int}(h1:eM x.id=true)(h2:(decide (x.dv< -1)||decide (x.inst<0))=false)(h3:(decide (x.day<0)||decide (x.day>36524))=false)(h4:(decide (x.bh<0)||decide (x.bh≥r))=false)(h5:(bw x.calls s 0 3155932800).2=0):wV x s r=0:=by unfold wV;rw[if_neg (by simp[h1]),if_neg (by simp[h2]),if_neg (by simp[h3]),if_neg (by simp[h4])];exact h5
theorem zV{N:aj}(h:(eA N).2.2=0){i:Nat}{r:cn}(hr:N.runs[i]?=some r)(hk:bD x=bD r)(ht:x.dv=r.dv)(l0:x.bh=r.bh)(hc:(bw x.calls N.stops.length 0 3155932800).2=0){l:List aN}(hl:l.length≤1024)(hg:sk (N.runs.set i x) l):(eA {N with runs:=N.runs.set i x,aq:=l}).2.2=0:=by
 rw[mC]at h⊢;obtain⟨g1,g2,g3,g4,g5,g6⟩:=h;have hi:=(List.getElem?_eq_some_iff.1 hr).1;have hri:N.runs[i]=r:=(List.getElem?_eq_some_iff.1 hr).2;have hE:=((ni _ _ _).1 g3).2 i hi;rw[hri]at hE;obtain⟨e1,e2,e3,e4,e5⟩:=BX hE.1;simp only[bD,Prod.mk.injEq]at hk;refine⟨g1,g2,?_,(qk _ _).2 ⟨hl,hg⟩,g5,g6⟩;refine Rm hi (by rw[hri];simp[bD,hk]) (G2 ?_ ?_ ?_ ?_ hc) g3
 ·rw[hk.1];exact e1
 ·rw[ht,hk.2.2];exact e2
 ·rw[hk.2.1];exact e3
 ·rw[l0];exact e4
theorem Oi(N:aj)(m:iM)(h:(eA N).2.2=0)(hm:gT m=0)(he:(EJ N m).2=0):(eA (EJ N m).1).2.2=0:=by
 obtain⟨m1,m2,m3,m4,m5⟩:=Rr hm;have hz:=(mC N).1 h;obtain⟨g1,g2,g3,g4,g5,g6⟩:=hz;obtain⟨l1,l2⟩:=(qk _ _).1 g4;have abf:=(ni _ _ _).1 g3;unfold EJ at he⊢;by_cases k5:m.kind=5
 ·rw[if_pos k5]at he⊢;by_cases t1:(zU N.runs m).isSome=true
  ·rw[if_pos t1]at he;cases he
  rw[if_neg t1]at he⊢;by_cases t2:m.bh<0∨m.bh≥(N.ai.length:Int)
  ·rw[if_pos t2]at he;cases he
  rw[if_neg t2]at he⊢;by_cases t3:(bw m.calls N.stops.length 0 3155932800).2≠0
  ·rw[if_pos t3]at he;exact absurd he t3
  rw[if_neg t3]at he⊢;by_cases t4:N.runs.length≥1024
  ·rw[if_pos t4]at he;cases he
  rw[if_neg t4]at he⊢;rw[mC];have Qq:zU N.runs m=none:=by
   cases hx:zU N.runs m with
   |none=>rfl
   |some k=>rw[hx]at t1;exact absurd rfl t1
  refine⟨g1,g2,Rn (Rl Qq) (G2 m1 (by show(decide ((-1:Int)< -1)||decide (m.inst<0))=false;simp;omega) (by show(decide (m.day<0)||decide (m.day>36524))=false;simp;omega) (by show(decide (m.bh<0)||decide (m.bh≥(N.ai.length:Int)))=false;simp;omega) (Decidable.of_not_not t3)) (by omega) g3,(qk _ _).2 ⟨l1,oR l2 (by simp) fun x hx v hv=>?_⟩,g5,g6⟩;obtain⟨b1,b2⟩:=Dq l2 hx;have:0≤v∧v<(N.runs.length:Int):=by
   rcases hv with rfl|rfl
   ·exact b1
   ·exact b2
  rw[G1 this];exact⟨rfl,fun _=>rfl⟩
 ·rw[if_neg k5]at he⊢;cases ht:zU N.runs m with
  |none=>rw[ht]at he;cases he
  |some i=>
   obtain⟨hi,pP,_⟩:=BQ ht;have hr:N.runs[i]?=some N.runs[i]:=List.getElem?_eq_getElem hi;rw[ht]at he;simp only[hr]at he⊢;have Km:=(BX (abf.2 i hi).1).2.2.2.2;have hlen:(N.runs.set i N.runs[i]).length=N.runs.length:=by simp
   by_cases t1:(m.kind=1∨m.kind=3)∧(m.call<0∨m.call≥(N.runs[i].calls.length:Int))
   ·rw[if_pos t1]at he;cases he
   rw[if_neg t1]at he⊢;by_cases k1:m.kind=1
   ·rw[if_pos k1]at he⊢;cases hp:prop N.runs[i].calls m.call m.bP with
    |mk o e=>
     rw[hp]at he;cases o with
     |none=>
      simp only at he;unfold prop at hp;subst he;split at hp
      ·cases hp
      ·split at hp
       ·cases hp
       ·split at hp
        ·cases hp
        ·split at hp
         ·cases hp
         ·cases hp
     |some l=>
      have B9:e=0:=by
       unfold prop at hp;split at hp
       ·cases hp
       ·split at hp
        ·cases hp
        ·split at hp
         ·cases hp
         ·split at hp
          ·simp only[Prod.mk.injEq]at hp;exact hp.2.symm
          ·cases hp
      subst B9;obtain⟨p1,p2⟩:=TO Km hp;simp only;exact zV (x:={N.runs[i]with calls:=l}) (l:=N.aq) h hr rfl rfl rfl p1 l1 (oR l2 (by simp) fun x hx v _=>tQ hr p2 v)
   ·rw[if_neg k1]at he⊢;by_cases k2:m.kind=2
    ·rw[if_pos k2];exact zV (x:={N.runs[i]with rH:=true}) (l:=N.aq) h hr rfl rfl rfl Km l1 (oR l2 (by simp) fun x hx v _=>tQ (x:={N.runs[i]with rH:=true}) hr rfl v)
    ·rw[if_neg k2]at he⊢;by_cases k3:m.kind=3
     ·rw[if_pos k3];exact zV (x:={N.runs[i]with calls:=BT N.runs[i].calls m.call.toNat}) (l:=N.aq) h hr rfl rfl rfl (EK (BV _ _).symm Km) l1 (oR l2 (by simp) fun x hx v _=>tQ hr (Oh (BV _ _)) v)
     ·rw[if_neg k3]at he⊢;by_cases k4:m.kind=4
      ·rw[if_pos k4]at he⊢;by_cases t3:(bw m.calls N.stops.length 0 3155932800).2≠0
       ·rw[if_pos t3]at he;exact absurd he t3
       rw[if_neg t3]at he⊢;refine zV (x:={N.runs[i]with calls:=m.calls}) h hr rfl rfl rfl (Decidable.of_not_not t3) (Nat.le_trans (List.length_filter_le _ _) l1) (EI _ _ l2 (by simp) fun x hx hf v hv=>?_);simp only[Bool.not_eq_true',Bool.or_eq_false_iff,decide_eq_false_iff_not]at hf;obtain⟨b1,b2⟩:=Dq l2 hx;have cR:v.toNat≠i:=by
        rcases hv with rfl|rfl
        ·intro hc;apply hf.1;omega
        ·intro hc;apply hf.2;omega
       rw[Kk cR];exact⟨rfl,fun _=>rfl⟩
      ·rw[if_neg k4];exact h
end Go.Ab.Tt
namespace Go.Ab.Tt
set_option maxRecDepth 100000
set_option linter.unusedVariables false
set_option linter.unusedSimpArgs false
theorem EL(x:iM):asAgg 13 x.pv=some ():=rfl
theorem EM(x:iM):cell x.pv 0=.int .i64 x.source:=rfl
theorem EN(x:iM):cell x.pv 1=.int .i64 x.seq:=rfl
theorem EO(x:iM):cell x.pv 2=.int .i64 x.j8:=rfl
theorem EP(x:iM):cell x.pv 3=.int .i64 x.gE:=rfl
theorem ER(x:iM):cell x.pv 4=.int .i64 x.kind:=rfl
theorem ES(x:iM):cell x.pv 5=.str x.dv:=rfl
theorem ET(x:iM):cell x.pv 6=.int .i64 x.day:=rfl
theorem EU(x:iM):cell x.pv 7=.int .i64 x.inst:=rfl
theorem EV(x:iM):cell x.pv 8=.int .i64 x.call:=rfl
theorem EW(x:iM):cell x.pv 9=.int .i64 x.bP:=rfl
theorem wW(x:iM):cell x.pv 10=.int .i64 x.bh:=rfl
theorem wX(x:iM):cell x.pv 11=.bool x.free:=rfl
theorem Dr(x:iM):cell x.pv 12=.rs 5 (x.calls.map av.pv):=rfl
theorem TP(x:iM):PV.agg [.int .i64 x.source,.int .i64 x.seq,.int .i64 x.j8,.int .i64 x.gE,.int .i64 x.kind,.str x.dv,.int .i64 x.day,.int .i64 x.inst,.int .i64 x.call,.int .i64 x.bP,.int .i64 x.bh,.bool x.free,.rs 5 (x.calls.map av.pv)]=x.pv:=rfl
theorem BZ(n a b:Int):bG [.int .i64 n,.int .i64 a,.int .i64 b]=some (.bool (wi n a b)):=by simp only[bG,ou,asInt,if_true,U,dP];rfl
theorem TQ(n:Int):gy [.int .i64 n]=some (.bool (wi n 0 36524)):=by simp only[gy,vD,asInt,if_true,U,dP];rfl
def wY(k:Int):PV:=.agg [.bool (decide (k=1)||decide (k=3)),.bool (decide (k=1)),.bool (decide (k=5)),.bool (decide (k=5)),.bool (decide (k=4)||decide (k=5))]
theorem TR(k:Int):fl [.int .i64 k]=some (wY k):=by
 simp only[fl,rC,asInt,if_true,U,fa];unfold wY;by_cases h1:k=1
 ·subst h1;rfl
 ·by_cases h3:k=3
  ·subst h3;rfl
  ·by_cases h4:k=4
   ·subst h4;rfl
   ·by_cases h5:k=5
    ·subst h5;rfl
    ·simp[h1,h3,h4,h5]
theorem abg(k:Int):asAgg 5 (wY k)=some ():=rfl
theorem ad1(k:Int):cell (wY k) 0=.bool (decide (k=1)||decide (k=3)):=rfl
theorem ad2(k:Int):cell (wY k) 1=.bool (decide (k=1)):=rfl
theorem ad3(k:Int):cell (wY k) 2=.bool (decide (k=5)):=rfl
theorem ad4(k:Int):cell (wY k) 3=.bool (decide (k=5)):=rfl
theorem ad5(k:Int):cell (wY k) 4=.bool (decide (k=4)||decide (k=5)):=rfl
theorem TS(n:Nat):decide ((n:Int)>0)=decide (n>0):=by rw[Bool.eq_iff_iff];simp only[decide_eq_true_eq];omega
theorem G3(m:iM)(h:m.Ok):cL [m.pv]=some (.int .i64 (gT m)):=by
 have hid:=tz m.dv h.dv;have hT:=nC m.calls 64 0 3155932800 h.calls.1;simp only[res]at hT;simp only[cL,ma,EL,EM,EN,EO,EP,ER,ES,ET,EU,EV,EW,wW,wX,Dr,U,BZ,TQ,TR,abg,asInt,bx,ab,if_true,asBool,hid,bu,TP];unfold gT;simp only[decide_eq_true_eq];cases wi m.source 0 7 with
 |false=>rfl
 |true=>
  by_cases h2:m.seq<1
  ·simp only[h2,if_true,Bool.not_true,Bool.false_eq_true,Bool.true_eq_false,if_false]
  simp only[h2,if_true,Bool.not_true,Bool.false_eq_true,Bool.true_eq_false,if_false];cases(!wi m.j8 0 3155932800|| !wi m.gE 0 3155932800||decide (m.j8≥m.gE))with
  |true=>rfl
  |false=>
   cases wi m.kind 1 6 with
   |false=>rfl
   |true=>
    cases eM m.dv with
    |false=>rfl
    |true=>
     cases wi m.day 0 36524 with
     |false=>rfl
     |true=>
      by_cases h7:m.inst<0
      ·simp only[h7,if_true,Bool.not_true,Bool.false_eq_true,Bool.true_eq_false,if_false]
      simp only[h7,if_true,Bool.not_true,Bool.false_eq_true,Bool.true_eq_false,if_false];have e0:PV.agg [cell (wY m.kind) 0,cell (wY m.kind) 1,cell (wY m.kind) 2,cell (wY m.kind) 3,cell (wY m.kind) 4]=wY m.kind:=rfl;rw[e0];simp only[dS,kQ,EL,EM,EN,EO,EP,ER,ES,ET,EU,EV,EW,wW,wX,Dr,U,abg,ad1,ad2,ad3,ad4,ad5,BZ,asBool,hT,bY,List.length_cons,List.length_nil,Nat.reduceAdd,if_true,List.getD_cons_zero,List.getD_cons_succ,asInt,bx,ab,bu,dP,lF,List.length_map,TS];generalize (decide (m.kind=1)||decide (m.kind=3))=uC;generalize decide (m.kind=1)=uS;generalize decide (m.kind=5)=uR;generalize (decide (m.kind=4)||uR)=uL;generalize (bw m.calls 64 0 3155932800).2=e;cases(uC&& !wi m.call 0 31||uS&& !wi m.bP (-43200) 43200||uR&& !wi m.bh 0 63)with
      |true=>rfl
      |false=>
       cases uL with
       |true=>
        by_cases he:e=0
        ·subst he;cases(!uC&& !decide (m.call=0)|| !uS&& !decide (m.bP=0)|| !uR&& !decide (m.bh=0)|| !uR&&m.free|| !true&&decide (m.calls.length>0))<;>rfl
        ·simp[he]
       |false=>cases(!uC&& !decide (m.call=0)|| !uS&& !decide (m.bP=0)|| !uR&& !decide (m.bh=0)|| !uR&&m.free|| !false&&decide (m.calls.length>0))<;>rfl
end Go.Ab.Tt
namespace Go.Ab.Tt
set_option maxRecDepth 100000
set_option linter.unusedVariables false
set_option linter.unusedSimpArgs false
theorem G4{R:Type}(l:List cn)(m:iM)(g:Nat→R)(fin:Option R):eQ ((List.range l.length).findSome? fun k=>if decide ((l.map bD)[k]?=some m.key)=true then some (some (g k))else none) fin=(match zU l m with|some k=>some (g k)|none=>fin):=by rw[pz (fun k=>decide ((l.map bD)[k]?=some m.key)) (fun k=>some (g k))];unfold zU;cases(List.range l.length).find? (fun k=>decide ((l.map bD)[k]?=some m.key))<;>rfl
theorem Mw(l:List cn)(m:iM)(k:Nat)(hk:k<l.length):decide ((l.map bD)[k]?=some m.key)=(decide (l[k].id=m.dv)&&decide (l[k].day=m.day)&&decide (l[k].inst=m.inst)):=by rw[Bool.eq_iff_iff];simp[List.getElem?_eq_getElem hk,bD,iM.key,and_assoc]
def Dt(l:List cn)(m:iM):PV:=match zU l m with|some k=>.bj [.int .i64 k,.bool true]|none=>.bj [.int .i64 0,.bool false]
theorem pF(N:aj)(m:iM)(hr:N.runs.length≤maxLen):br [N.pv,m.pv]=some (Dt N.runs m):=by
 have hm:=bg;simp only[br,kP,qM,rI,rJ,rK,rL,rM,rN,rO,rP,rQ,U];simp only[EL,EM,EN,EO,EP,ER,ES,ET,EU,EV,EW,wW,wX,Dr,U,asInt,bx,ab,if_true,asBool,List.length_map];generalize N.runs=l at hr⊢;have hs:=G4 l m (fun k=>PV.bj [.int .i64 k,.bool true]) (some (PV.bj [.int .i64 0,.bool false]));have hR:(match zU l m with|some k=>some (PV.bj [.int .i64 k,.bool true])|none=>some (PV.bj [.int .i64 0,.bool false]))=some (Dt l m):=by unfold Dt;cases zU l m<;>rfl
 rw[←hR,←hs];refine bn (fun k=>(l.map cn.pv,(l.length:Int),(k:Int),m.source,m.seq,m.j8,m.gE,m.kind,m.dv,m.day,m.inst,m.call,m.bP,m.bh,m.free,m.calls.map av.pv,())) l.length _ (fun k hk rec=>?_) (fun rec=>?_) (by have:=aU;omega) rfl
 ·have h1:decide ((k:Int)<(l.length:Int))=true:=by simp;omega
  rw[Mw l m k hk];unfold lv;dsimp only;rw[if_pos h1,aK,List.getElem?_map,List.getElem?_eq_getElem hk];simp only[Option.map_some,U,NT,NU,NV,asInt,bx,if_true,fa,dP,ao (show k<9223372036854775807 by omega)];cases decide (l[k].id=m.dv)&&decide (l[k].day=m.day)&&decide (l[k].inst=m.inst)<;>rfl
 ·unfold lv;dsimp only;rw[if_neg (by simp)]
def TT(l:List cn)(m:iM):Int:=match zU l m with|some k=>(k:Int)|none=> -1
theorem Kn(N:aj)(m:iM)(hr:N.runs.length≤maxLen):iK [N.pv,m.pv]=some (.int .i64 (TT N.runs m)):=by
 have hm:=bg;simp only[iK,rA,qM,rI,rJ,rK,rL,rM,rN,rO,rP,rQ,U];simp only[EL,EM,EN,EO,EP,ER,ES,ET,EU,EV,EW,wW,wX,Dr,U,asInt,bx,ab,if_true,asBool];generalize FI:N.runs=l at hr⊢;have hs:=G4 l m (fun k=>PV.int .i64 k) (some (PV.int .i64 (-1)));have hR:(match zU l m with|some k=>some (PV.int .i64 k)|none=>some (PV.int .i64 (-1)))=some (PV.int .i64 (TT l m)):=by unfold TT;cases zU l m<;>rfl
 rw[←hR,←hs];refine bn (fun k=>((k:Int),N.stops.map Stop.pv,N.ai.map aF.pv,l.map cn.pv,N.aq.map aN.pv,N.paths.map Path.pv,N.aM.map aZ.pv,N.bd,N.within,N.cap,m.source,m.seq,m.j8,m.gE,m.kind,m.dv,m.day,m.inst,m.call,m.bP,m.bh,m.free,m.calls.map av.pv,())) l.length _ (fun k hk rec=>?_) (fun rec=>?_) (by have:=aU;omega) rfl
 ·have h1:decide ((k:Int)<((l.map cn.pv).length:Int))=true:=by simp;omega
  rw[Mw l m k hk];unfold mV;dsimp only;rw[if_pos h1,aK,List.getElem?_map,List.getElem?_eq_getElem hk];simp only[Option.map_some,U,NT,NU,NV,asInt,bx,if_true,fa,dP,ao (show k<9223372036854775807 by omega)];cases decide (l[k].id=m.dv)&&decide (l[k].day=m.day)&&decide (l[k].inst=m.inst)<;>rfl
 ·unfold mV;dsimp only;rw[if_neg (by simp)]
end Go.Ab.Tt
namespace Go.Ab.Tt
set_option maxRecDepth 100000
set_option linter.unusedVariables false
set_option linter.unusedSimpArgs false
theorem abh(x:av):cell x.pv 3=.bool x.GZ:=rfl
theorem abi(x:av):cell x.pv 4=.bool x.BU:=rfl
theorem abj(x:av):asAgg 5 x.pv=some ():=rfl
def Span(c:av):Prop:=0≤c.arr∧c.arr≤c.dep∧c.dep≤gK
variable{c:av}
theorem rV(h:Span c):0≤gL c∧gL c≤30:=by obtain⟨h1,h2,h3⟩:=h;unfold gL;split<;>omega
theorem mD:gK=3155932800:=rfl
theorem wrap_small{x:Int}(h1: -100000000000≤x)(h2:x≤100000000000):IntKind.i64.wrap x=x:=fv (by omega) (by omega)
theorem B0(h:Span c):e8 [c.pv]=some (.int .i64 (gL c)):=by
 have:=mD;obtain⟨h1,h2,h3⟩:=h;simp only[e8,tg,abj,Gq,y8,y9,abh,abi,asInt,asBool,U,if_true];rw[wrap_small (by omega) (by omega)];unfold gL;by_cases hd:c.dep-c.arr<30
 ·rw[if_neg (by omega),if_pos hd]
 ·rw[if_neg hd];by_cases he:30<c.dep-c.arr
  ·rw[if_pos he]
  ·rw[if_neg he];congr 2;omega
def zl(l:List av)(k:Nat):Bool:=(l[k]?).elim false fun c=>decide (c.arr<((hU l k).map av.dep).getD 0)||decide (c.dep<c.arr)||decide (c.dep>gK)
theorem Oj{R:Type}(l:List av)(no fin:Option R):eQ ((List.range l.length).findSome? fun k=>if zl l k=true then some no else none) fin=if tN l=true then fin else no:=by
 rw[pz (zl l) (fun _=>no)];by_cases h:tN l=true
 ·rw[if_pos h];have:(List.range l.length).find? (zl l)=none:=by rw[List.find?_eq_none];intro k hk;have:=List.all_eq_true.1 h k hk;rw[List.mem_range]at hk;simp only[List.getElem?_eq_getElem hk,Option.elim_some]at this;simp only[zl,List.getElem?_eq_getElem hk,Option.elim_some];simpa using this
  rw[this];rfl
 ·rw[if_neg h];cases hf:(List.range l.length).find? (zl l)with
  |some k=>rfl
  |none=>exfalso;apply h;unfold tN;rw[List.all_eq_true];intro k hk;have:=List.find?_eq_none.1 hf k hk;rw[List.mem_range]at hk;simp only[zl,List.getElem?_eq_getElem hk,Option.elim_some]at this;simp only[List.getElem?_eq_getElem hk,Option.elim_some];simpa using this
variable{l:List av}
theorem zW(h:tN l=true){k:Nat}(hk:k<l.length):((hU l k).map av.dep).getD 0≤l[k].arr∧l[k].arr≤l[k].dep∧l[k].dep≤gK:=by have:=List.all_eq_true.1 h k (List.mem_range.2 hk);simp only[List.getElem?_eq_getElem hk,Option.elim_some,Bool.not_eq_true',Bool.or_eq_false_iff,decide_eq_false_iff_not]at this;omega
theorem nF(h:tN l=true):∀k,(hk:k<l.length)→Span l[k]:=by
 intro k;induction k with
 |zero=>intro hk;obtain⟨a,b,c⟩:=zW h hk;exact⟨a,b,c⟩
 |succ k ih=>
  intro hk;obtain⟨a,b,c⟩:=zW h hk;obtain⟨x,y,z⟩:=ih (by omega);have:((hU l (k+1)).map av.dep).getD 0=(l[k]'(by omega)).dep:=by show((l[k]?).map av.dep).getD 0=_;rw[List.getElem?_eq_getElem (by omega)];rfl
  rw[this]at a;exact⟨by omega,b,c⟩
theorem wZ(l:List av)(hl:l.length≤maxLen):dY [.rs 5 (l.map av.pv)]=some (.bool (tN l)):=by
 have hm:=bg;simp only[dY,pY,ab,if_true,U,List.length_map];have hs:=Oj l (some (PV.bool false)) (some (PV.bool true));have hR:(if tN l=true then some (PV.bool true)else some (PV.bool false))=some (.bool (tN l)):=by cases tN l<;>rfl
 rw[←hR,←hs];refine bn (fun k=>(((hU l k).map av.dep).getD 0,l.map av.pv,(l.length:Int),(k:Int),())) l.length _ (fun k hk rec=>?_) (fun rec=>?_) (by have:=aU;omega) rfl
 ·have h1:decide ((k:Int)<(l.length:Int))=true:=by simp;omega
  unfold lW;dsimp only;have hp:((hU l (k+1)).map av.dep).getD 0=l[k].dep:=by show((l[k]?).map av.dep).getD 0=_;rw[List.getElem?_eq_getElem hk];rfl
  rw[if_pos h1,aK,List.getElem?_map,List.getElem?_eq_getElem hk];simp only[Option.map_some,U,y8,y9,asInt,if_true,bu,ao (show k<9223372036854775807 by omega),hp];have:zl l k=(decide (l[k].arr<((hU l k).map av.dep).getD 0)||decide (l[k].dep<l[k].arr)||decide (l[k].dep>3155932800)):=by simp only[zl,List.getElem?_eq_getElem hk,Option.elim_some];rfl
  rw[this];cases(decide (l[k].arr<((hU l k).map av.dep).getD 0)||decide (l[k].dep<l[k].arr)||decide (l[k].dep>3155932800))<;>rfl
 ·unfold lW;dsimp only;rw[if_neg (by simp)]
theorem My(h:tN l=true){n:Nat}(hn:n<l.length){bP:Int}(h1: -43200≤bP)(h2:bP≤43200):0≤mP l n bP∧mP l n bP≤3200000000:=by
 obtain⟨a,b,c⟩:=nF h n hn;obtain⟨x,y,z⟩:=zW h hn;have:=mD;have hb:0≤((hU l n).map av.dep).getD 0:=by
  cases n with
  |zero=>exact Int.le_refl _
  |succ n=>show 0≤((l[n]?).map av.dep).getD 0;rw[List.getElem?_eq_getElem (by omega)];obtain⟨a,b,c⟩:=nF h n (by omega);show 0≤l[n].dep;omega
 unfold mP;rw[List.getElem?_eq_getElem hn];simp only[Option.map_some,Option.getD_some];split<;>omega
theorem zm(c d:av)(ds:List av)(a:Int):gi (c::d::ds) a=if(late c a).dep>gK then none else(gi (d::ds) (d.arr+(late c a).dep-c.dep)).map fun r=>late c a::r:=by rw[gi]
theorem Du(c:av)(a:Int):gi [c] a=if(late c a).dep>gK then none else some [late c a]:=by rw[gi]
theorem Ol(c:av)(cs:List av)(a:Int)(h:(late c a).dep>gK):gi (c::cs) a=none:=by
 cases cs with
 |nil=>rw[Du,if_pos h]
 |cons d ds=>rw[zm,if_pos h]
theorem G5{a:Int}(h:Span c)(h0:0≤a)(h1:a≤8000000000):0≤(late c a).dep∧(late c a).dep≤8000000030:=by obtain⟨p,q⟩:=rV h;obtain⟨x,y,z⟩:=h;have:=mD;show 0≤(if a+gL c>c.dep then a+gL c else c.dep)∧(if a+gL c>c.dep then a+gL c else c.dep)≤8000000030;split<;>omega
theorem yg{d:av}{a:Int}(h:Span c)(hd:Span d)(hcd:c.dep≤d.arr)(h0:0≤a)(h1:¬(late c a).dep>gK):0≤d.arr+(late c a).dep-c.dep∧d.arr+(late c a).dep-c.dep≤8000000000:=by
 obtain⟨p,q⟩:=rV h;obtain⟨x,y,z⟩:=h;obtain⟨x',y',z'⟩:=hd;have:=mD;have hh:c.dep≤(late c a).dep:=by show c.dep≤if a+gL c>c.dep then a+gL c else c.dep;split<;>omega
 omega
theorem uz(h:tN l=true):∀k,(hk:k+1<l.length)→(l[k]'(by omega)).dep≤l[k+1].arr:=by
 intro k hk;obtain⟨a,b,c⟩:=zW h hk;have:((hU l (k+1)).map av.dep).getD 0=(l[k]'(by omega)).dep:=by show((l[k]?).map av.dep).getD 0=_;rw[List.getElem?_eq_getElem (by omega)];rfl
 rw[this]at a;exact a
theorem uA(l:List av)(hl:l.length≤1000000):dc [.rs 5 (l.map av.pv)]=some (.rs 5 (l.map av.pv)):=by
 have hb:1000000*32≤aa:=by decide
 simp only[dc,pZ,ab,if_true,U,List.length_map];rw[if_pos (by refine⟨by omega,by omega,?_,by decide,by decide⟩;rw[Int.toNat_natCast];omega)];congr 2;rw[Int.toNat_natCast,List.length_replicate,List.take_of_length_le (by simp),List.drop_eq_nil_of_le (by simp),List.append_nil]
end Go.Ab.Tt
namespace Go.Ab.Tt
set_option maxRecDepth 100000
set_option linter.unusedVariables false
set_option linter.unusedSimpArgs false
theorem Dv(x:cn):aT 5 (cell x.pn 7)=some (x.calls.map av.pv):=rfl
def outs(pre:List av)(l:List av)(k:Nat):List PV:=pre.map av.pv++(l.drop k).map av.pv
theorem G6(pre l:List av)(k:Nat)(hp:pre.length=k)(hk:k≤l.length):(outs pre l k).length=l.length:=by unfold outs;simp;omega
theorem G7(pre l:List av)(k:Nat)(hp:pre.length=k)(hk:k<l.length):(outs pre l k)[k]?=some l[k].pv:=by unfold outs;rw[List.getElem?_append_right (by simp;omega)];simp[hp,List.getElem?_eq_getElem hk]
theorem G8(pre l:List av)(k:Nat)(hp:pre.length=k)(hk:k<l.length)(x:av):(outs pre l k).set k x.pv=outs (pre++[x]) l (k+1):=by
 unfold outs;rw[List.set_append_right _ _ (by simp;omega)];have h0:k-(pre.map av.pv).length=0:=by simp;omega
 rw[h0,List.drop_eq_getElem_cons hk,List.map_cons,List.set_cons_zero,List.map_append,List.append_assoc];rfl
variable{S R:Type}
theorem B1{body:S→(S→Option R)→Option R}(st:Int→Nat→List PV→S)(l:List av)(i:Nat)(err:Option R)(fin:List PV→Option R)(zx:∀k a out rec,k<i→k<l.length→body (st a k out) rec=rec (st a (k+1) out))(sN:∀k a pre rec,i≤k→(hk:k<l.length)→pre.length=k→0≤a→a≤8000000000→body (st a k (outs pre l k)) rec=if(late l[k] a).dep>gK then err else if h:k+1<l.length then rec (st (l[k+1].arr+(late l[k] a).dep-l[k].dep) (k+1) (outs (pre++[late l[k] a]) l (k+1)))else rec (st a (k+1) (outs (pre++[late l[k] a]) l (k+1))))(mG:∀a out rec,body (st a l.length out) rec=fin out)(iS:∀k,(hk:k<l.length)→Span l[k])(hor:∀k,(hk:k+1<l.length)→(l[k]'(by omega)).dep≤l[k+1].arr)(hi:i<l.length)(hl:l.length+1<rounds)(a:Int)(h0:0≤a)(h1:a≤8000000000):cF.run body (st a 0 (l.map av.pv))=match gi (l.drop i) a with|some r=>fin ((l.take i++r).map av.pv)|none=>err:=by
 rw[kF];have hA:∀k,k≤i→∀fu,cD body (k+fu) (st a (i-k) (l.map av.pv))=cD body fu (st a i (l.map av.pv)):=by
  intro k;induction k with
  |zero=>intro _ fu;rw[Nat.zero_add];rfl
  |succ k ih=>intro hk fu;rw[show k+1+fu=(k+fu)+1 by omega,cD,zx (i-(k+1)) a _ _ (by omega) (by omega),show i-(k+1)+1=i-k by omega];exact ih (by omega) fu
 have hB:∀(j:Nat)(k:Nat)(a:Int)(pre:List av)(fu:Nat),k+j=l.length→i≤k→j<fu→0≤a→a≤8000000000→pre.length=k→cD body fu (st a k (outs pre l k))=match gi (l.drop k) a with|some r=>fin ((pre++r).map av.pv)|none=>err:=by
  intro j;induction j with
  |zero=>
   intro k a pre fu hk zg hf _ _ hp;obtain⟨fu,rfl⟩:∃f,fu=f+1:=⟨fu-1,by omega⟩;have ky:k=l.length:=by omega
   subst ky;rw[cD,mG,List.drop_length];simp[gi,outs]
  |succ j ih=>
   intro k a pre fu hk zg hf UX ha1 hp;obtain⟨fu,rfl⟩:∃f,fu=f+1:=⟨fu-1,by omega⟩;have ky:k<l.length:=by omega
   have hc:=iS k ky;rw[cD,sN k a pre _ zg ky hp UX ha1,List.drop_eq_getElem_cons ky];by_cases tP:(late l[k] a).dep>gK
   ·rw[if_pos tP,Ol _ _ _ tP]
   ·rw[if_neg tP];by_cases hn:k+1<l.length
    ·rw[dif_pos hn];obtain⟨n0,n1⟩:=yg hc (iS (k+1) hn) (hor k hn) UX tP;rw[ih (k+1) _ _ fu (by omega) (by omega) (by omega) n0 n1 (by simp[hp]),List.drop_eq_getElem_cons hn,zm,if_neg tP];cases gi (l[k+1]::l.drop (k+1+1)) (l[k+1].arr+(late l[k] a).dep-l[k].dep)with
     |none=>rfl
     |some r=>simp
    ·rw[dif_neg hn];have hj:j=0:=by omega
     subst hj;obtain⟨fu,rfl⟩:∃f,fu=f+1:=⟨fu-1,by omega⟩;have WT:k+1=l.length:=by omega
     rw[cD,List.drop_eq_nil_of_le (by omega),Du,if_neg tP];have:=mG a (outs (pre++[late l[k] a]) l (k+1)) (cD body fu);rw[←WT]at this;rw[this];simp[outs,List.drop_eq_nil_of_le (show l.length≤k+1 by omega)]
 have e1:cF.run body (st a 0 (l.map av.pv))=cD body rounds (st a 0 (l.map av.pv)):=rfl;have e2:=hA i (Nat.le_refl _) (rounds-i);rw[Nat.sub_self,show i+(rounds-i)=rounds by omega]at e2;rw[e2];have e3:l.map av.pv=outs (l.take i) l i:=by unfold outs;rw[←List.map_append,List.take_append_drop]
 rw[e3];exact hB (l.length-i) i a (l.take i) (rounds-i) (by omega) (Nat.le_refl _) (by omega) h0 h1 (by simp;omega)
theorem WU{body:S→(S→Option R)→Option R}(st:Nat→Nat→List PV→S)(l:List aN)(p:aN→Bool)(out:List PV→Option R)(sN:∀j i x rec,(hi:i<l.length)→x.length=l.length→j≤i→x[i]?=some l[i].pv→body (st j i x) rec=if p l[i]=true then rec (st (j+1) (i+1) (x.set j l[i].pv))else rec (st j (i+1) x))(mG:∀j x rec,x.length=l.length→j≤l.length→body (st j l.length x) rec=out (x.take j)):∀n j i x fu,i+n=l.length→j≤i→x.length=l.length→x.take j=((l.take i).filter p).map aN.pv→x.drop i=(l.drop i).map aN.pv→n<fu→cD body fu (st j i x)=out ((l.filter p).map aN.pv):=by
 intro n;induction n with
 |zero=>
  intro j i x fu hi hj hx ht hd hf;obtain⟨fu,rfl⟩:∃f,fu=f+1:=⟨fu-1,by omega⟩;have:i=l.length:=by omega
  subst this;rw[cD,mG j x _ hx hj,ht,List.take_length]
 |succ n ih=>
  intro j i x fu hi hj hx ht hd hf;obtain⟨fu,rfl⟩:∃f,fu=f+1:=⟨fu-1,by omega⟩;have OY:i<l.length:=by omega
  have eG:x[i]?=some l[i].pv:=by have:=congrArg (fun y=>y[0]?) hd;simpa[List.getElem?_drop,OY]using this
  have LF:x.drop (i+1)=(l.drop (i+1)).map aN.pv:=by rw[←List.drop_drop,hd,←List.map_drop,List.drop_drop]
  rw[cD,sN j i x _ OY hx hj eG];by_cases hp:p l[i]=true
  ·rw[if_pos hp];refine ih (j+1) (i+1) _ fu (by omega) (by omega) (by rw[List.length_set,hx]) ?_ ?_ (by omega)
   ·rw[List.take_succ_eq_append_getElem OY,List.filter_append,List.map_append,←ht];simp only[List.filter_cons,hp,if_true,List.filter_nil,List.map_cons,List.map_nil];have xf:j<(x.set j l[i].pv).length:=by rw[List.length_set];omega
    rw[List.take_succ_eq_append_getElem xf,List.getElem_set_self,List.take_set_of_le (Nat.le_refl j)]
   ·rw[List.drop_set_of_lt (by omega),LF]
  ·rw[if_neg hp];refine ih j (i+1) x fu (by omega) (by omega) hx ?_ LF (by omega);rw[List.take_succ_eq_append_getElem OY,List.filter_append,List.map_append,←ht];simp[hp]
theorem Rs{S':Type}{body:S→(S→Option R)→Option R}{body3:S'→(S'→Option R)→Option R}(st:Nat→S)(XZ:Nat→Nat→List PV→S')(l:List aN)(p:aN→Bool)(out:List PV→Option R)(WV:∀j i x rec,(hi:i<l.length)→x.length=l.length→j≤i→x[i]?=some l[i].pv→body3 (XZ j i x) rec=if p l[i]=true then rec (XZ (j+1) (i+1) (x.set j l[i].pv))else rec (XZ j (i+1) x))(abk:∀j x rec,x.length=l.length→j≤l.length→body3 (XZ j l.length x) rec=out (x.take j))(sN:∀k rec,(hk:k<l.length)→body (st k) rec=if p l[k]=true then rec (st (k+1))else cF.run body3 (XZ k (k+1) (l.map aN.pv)))(mG:∀rec,body (st l.length) rec=out (l.map aN.pv))(hl:l.length+1<rounds):cF.run body (st 0)=out ((l.filter p).map aN.pv):=by
 have:∀n k fu,k+n=l.length→n<fu→(l.take k).filter p=l.take k→cD body fu (st k)=out ((l.filter p).map aN.pv):=by
  intro n;induction n with
  |zero=>
   intro k fu hk hf ht;obtain⟨fu,rfl⟩:∃f,fu=f+1:=⟨fu-1,by omega⟩;have:k=l.length:=by omega
   subst this;rw[List.take_length]at ht;rw[cD,mG,ht]
  |succ n ih=>
   intro k fu hk hf ht;obtain⟨fu,rfl⟩:∃f,fu=f+1:=⟨fu-1,by omega⟩;have ky:k<l.length:=by omega
   rw[cD,sN k _ ky];by_cases hp:p l[k]=true
   ·rw[if_pos hp];refine ih (k+1) fu (by omega) (by omega) ?_;rw[List.take_succ_eq_append_getElem ky,List.filter_append,ht];simp[hp]
   ·rw[if_neg hp,kF];refine WU XZ l p out WV abk (l.length-(k+1)) k (k+1) _ rounds (by omega) (by omega) (by simp) ?_ (by rw[List.map_drop]) (by omega);rw[List.take_succ_eq_append_getElem ky,List.filter_append,ht,←List.map_take];simp[hp]
 rw[kF];exact this l.length 0 rounds (by omega) (by omega) (by simp)
structure Om(N:aj):Prop where
 ok:N.Ok
 stops:N.stops.length≤1000
 ai:N.ai.length≤1000
 runs:N.runs.length≤100
 aq:N.aq.length≤1000
 paths:N.paths.length≤1000
 aM:N.aM.length≤1000
 calls:∀r∈N.runs,r.calls.length≤1000
def z9:PV:=.agg [.rs 0 [],.rs 0 [],.rs 0 [],.rs 0 [],.rs 0 [],.rs 0 [],.int .i64 0,.int .i64 0,.int .i64 0]
theorem Rt(N:aj)(h:N.Ok)(hp:N.paths.length≤4096):jz [N.pv]=some (.bool (decide ((eA N).2.2=0))):=by have hc:=N4 N h hp;simp only[jz,tt,qM,rI,rJ,rK,rL,rM,rN,rO,rP,rQ,U,xO,hc];simp only[fT,bY,List.length_cons,List.length_nil,Nat.reduceAdd,if_true,List.getD_cons_zero,List.getD_cons_succ,asInt,U,zb]
end Go.Ab.Tt
namespace Go.Ab.Tt
set_option maxRecDepth 100000
set_option linter.unusedVariables false
set_option linter.unusedSimpArgs false
def aPV(N:aj)(m:iM):PV:=if(EJ N m).2=0 then .bj [(EJ N m).1.pv,.int .i64 0]else .bj [z9,.int .i64 (EJ N m).2]
def B2(N:aj)(m:iM):PV:=if(eA N).2.2=0 then(if gT m=0 then aPV N m else .bj [z9,.int .i64 (gT m)])else .bj [z9,.int .i64 21]
def Ru(N:aj)(m:iM)(k:Nat):=((N.runs.length:Int),(k:Int),N.stops.map Stop.pv,N.ai.map aF.pv,N.runs.map cn.pv,N.aq.map aN.pv,N.paths.map Path.pv,N.aM.map aZ.pv,N.bd,N.within,N.cap,(0:Int),(0:Int),(0:Int),N.aM.map aZ.pv,N.bd,N.within,N.cap,m.source,m.seq,m.j8,m.gE,m.kind,m.dv,m.day,m.inst,m.call,m.bP,m.bh,m.free,m.calls.map av.pv,(0:Int),(0:Int),(0:Int),N.stops.map Stop.pv,N.ai.map aF.pv,mix cn.pn cn.pv N.runs k,N.aq.map aN.pv,N.paths.map Path.pv,())
theorem On(l:List cn):(mix cn.pn cn.pv l l.length).map PV.strip=l.map cn.pv:=by rw[Et,j5]
theorem tR{e:Int}{x y:Option PV}:(if(e !=0)=true then x else y)=if e=0 then y else x:=by by_cases h:e=0<;>simp[h]
theorem pG(l:List cn)(i:Nat)(hi:i<l.length):(l.map cn.pn)[i]?=some l[i].pn:=by simp[hi]
theorem Rv(l:List cn)(i:Nat)(hi:i<l.length):ae (i:Int) (l.map cn.pn).length:=by rw[List.length_map];exact⟨by omega,by omega⟩
theorem rW(x:cn)(l:List av):PV.agg [.int .i64 x.dv,.int .i64 x.day,.int .i64 x.inst,.str x.id,.int .i64 x.bh,.bool x.free,.bool x.rH,.fK 5 (l.map av.pv)]=({x with calls:=l}:cn).pn:=rfl
theorem Dw(n:Int):Ab.asInt .i64 (.int .i64 n)=some n:=rfl
theorem Mz(x:av):PV.agg [cell x.pv 0,cell x.pv 1,cell x.pv 2,cell x.pv 3,cell x.pv 4]=x.pv:=rfl
theorem kI1(x:av):Ab.asInt .i64 (cell x.pv 1)=some x.arr:=rfl
theorem kI2(x:av):Ab.asInt .i64 (cell x.pv 2)=some x.dep:=rfl
theorem UY(x:av)(a:Int):PV.agg (cell x.pv 0::.int .i64 a::over [] [cell x.pv 2,cell x.pv 3,cell x.pv 4])=({x with arr:=a}:av).pv:=rfl
theorem UZ(x:av)(d:Int):PV.agg (cell x.pv 0::cell x.pv 1::.int .i64 d::over [] [cell x.pv 3,cell x.pv 4])=({x with dep:=d}:av).pv:=rfl
theorem U0(c:av)(a:Int):(if a+gL c>c.dep then a+gL c else c.dep)=(late c a).dep:=by cases c;exact id rfl
theorem MA(c:av)(a:Int):av.mk c.stop a (late c a).dep c.GZ c.BU=late c a:=rfl
theorem TU(x:cn)(l:List PV):(if(8:Nat)=1 then PV.fK 5 l else .agg (cell x.pn 0::cell x.pn 1::cell x.pn 2::cell x.pn 3::cell x.pn 4::cell x.pn 5::cell x.pn 6::.fK 5 l::over [] []))=.agg [.int .i64 x.dv,.int .i64 x.day,.int .i64 x.inst,.str x.id,.int .i64 x.bh,.bool x.free,.bool x.rH,.fK 5 l]:=rfl
theorem U1(x:cn):PV.agg (cell x.pn 0::cell x.pn 1::cell x.pn 2::cell x.pn 3::cell x.pn 4::cell x.pn 5::.bool true::over [] [cell x.pn 7])=({x with rH:=true}:cn).pn:=rfl
theorem yj(l:List cn)(i:Nat)(x:cn):((l.map cn.pn).set i x.pn).map PV.strip=(l.set i x).map cn.pv:=by rw[←List.map_set,j5]
theorem G9{A:Type}(l:List A)(k:Nat)(x:A)(h:k<l.length):(l.set k x)[k]?=some x:=by simp[h]
theorem gU(k n:Nat)(h:k<n):ae (k:Int) n:=⟨by omega,by omega⟩
def Ko(N:aj)(i c:Nat)(a:Int)(k:Nat)(out:List PV):=((i:Int),(c:Int),a,((N.runs[i]?).elim 0 fun r=>(r.calls.length:Int)),(k:Int),(i:Int),N.runs.map cn.pn,out,N.bd,N.within,N.cap,(0:Int),(0:Int),(0:Int),N.stops.map Stop.pv,N.ai.map aF.pv,N.aq.map aN.pv,N.paths.map Path.pv,N.aM.map aZ.pv,())
def EX(N:aj)(i:Nat)(l:List av):aj:=match N.runs[i]? with|some r=>{N with runs:=N.runs.set i {r with calls:=l}}|none=>N
theorem Rw(N:aj)(h:Om N)(i c:Nat)(hi:i<N.runs.length)(hc:c<N.runs[i].calls.length)(ho:tN N.runs[i].calls=true)(a:Int)(h0:0≤a)(h1:a≤8000000000):cF.run dE (Ko N i c a 0 (N.runs[i].calls.map av.pv))=match gi (N.runs[i].calls.drop c) a with|some r=>some (.bj [(EX N i (N.runs[i].calls.take c++r)).pv,.int .i64 0])|none=>some (.bj [z9,.int .i64 10]):=by
 have hlen:=h.calls N.runs[i] (List.getElem_mem hi);have X0:1003<rounds:=by decide
 have iS:=nF ho;refine(B1 (Ko N i c) N.runs[i].calls c (some (.bj [z9,.int .i64 10])) (fun out=>some (.bj [.agg [.rs 4 (N.stops.map Stop.pv),.rs 3 (N.ai.map aF.pv),.rs 8 (((N.runs.map cn.pn).set i (.agg [.int .i64 N.runs[i].dv,.int .i64 N.runs[i].day,.int .i64 N.runs[i].inst,.str N.runs[i].id,.int .i64 N.runs[i].bh,.bool N.runs[i].free,.bool N.runs[i].rH,.fK 5 out])).map PV.strip),.rs 5 (N.aq.map aN.pv),.rs 4 (N.paths.map Path.pv),.rs 6 (N.aM.map aZ.pv),.int .i64 N.bd,.int .i64 N.within,.int .i64 N.cap],.int .i64 0])) (fun k a out rec hk ky=>?_) (fun k a pre rec hk ky hp UX ha1=>?_) (fun a out rec=>?_) iS (uz ho) hc (by omega) a h0 h1).trans ?_
 ·unfold Ko dE;dsimp only;rw[List.getElem?_eq_getElem hi,Option.elim_some,if_pos (by rw[decide_eq_true_eq];omega),if_pos (by rw[decide_eq_true_eq];omega),ao (by omega),Int.toNat_natCast]
 ·obtain⟨d0,d1⟩:=rV (iS k ky);obtain⟨s0,s1,s2⟩:=iS k ky;have hlm:=mD;have XP:=G6 pre N.runs[i].calls k hp (by omega);have VH:∀x,((outs pre N.runs[i].calls k).set k x).length=N.runs[i].calls.length:=fun x=>by rw[List.length_set,XP]
  unfold Ko dE;dsimp only;rw[List.getElem?_eq_getElem hi,Option.elim_some,if_pos (by rw[decide_eq_true_eq];omega),if_neg (by rw[decide_eq_true_eq];omega)];simp only[Int.toNat_natCast,pG _ _ hi,U,Dv,List.length_map,gU k _ ky,if_true,List.getElem?_map,List.getElem?_eq_getElem ky,Option.map_some,XP,G7 pre _ k hp ky,kI2,Mz,B0 (iS k ky),Dw,UY,UZ,VH,G9 _ _ _ (show k<(outs pre N.runs[i].calls k).length by omega),List.set_set,wrap_small (show-100000000000≤a+gL N.runs[i].calls[k] by omega) (show a+gL N.runs[i].calls[k]≤100000000000 by omega),U0,MA,ao (show k<9223372036854775807 by omega),G8 pre _ k hp ky,decide_eq_true_eq];have ei:=G5 (iS k ky) UX ha1;by_cases tP:(late N.runs[i].calls[k] a).dep>gK
  ·rw[if_pos (show(late N.runs[i].calls[k] a).dep>3155932800 by omega),if_pos tP];rfl
  ·rw[if_neg (show¬(late N.runs[i].calls[k] a).dep>3155932800 by omega),if_neg tP];by_cases hn:k+1<N.runs[i].calls.length
   ·obtain⟨n0,n1⟩:=yg (iS k ky) (iS (k+1) hn) (uz ho k hn) UX tP;obtain⟨t0,t1,t2⟩:=iS (k+1) hn;rw[if_pos (by omega),dif_pos hn,if_pos (gU _ _ hn),List.getElem?_eq_getElem hn];simp only[Option.map_some,U,kI1];rw[wrap_small (x:=N.runs[i].calls[k+1].arr+(late N.runs[i].calls[k] a).dep) (by omega) (by omega),wrap_small (by omega) (by omega)]
   ·rw[if_neg (by omega),dif_neg hn]
 ·unfold Ko dE;dsimp only;rw[List.getElem?_eq_getElem hi,Option.elim_some,if_neg (by simp)];simp only[Int.toNat_natCast,pG _ _ hi,U,Rv _ _ hi,if_true,TU]
 ·cases gi (N.runs[i].calls.drop c) a with
  |none=>rfl
  |some r=>simp only[rW,yj];simp only[EX,List.getElem?_eq_getElem hi];rfl
theorem EY(x:aN):PV.agg [cell x.pv 0,cell x.pv 1,cell x.pv 2,cell x.pv 3,cell x.pv 4]=x.pv:=rfl
def Ha(i:Nat)(l:aN):Bool:= !(decide (l.a=(i:Int))||decide (l.b=(i:Int)))
theorem uB(x:aN)(i:Nat):bO [x.pv,.rp [.int .i64 i]]=some (.bool (!Ha i x)):=by have hA:asAgg 5 x.pv=some ():=rfl;simp only[bO,kT,hA,C8,L6,link2,L7,Gv,asInt,asBool,if_true,U,bu,fa,Ha,Bool.not_not]
def WW(N:aj)(i:Nat)(runs:List PV)(j k:Nat)(x:List PV):=((j:Int),(k:Int),x,(i:Int),N.bd,N.within,N.cap,(0:Int),(0:Int),(0:Int),N.stops.map Stop.pv,N.ai.map aF.pv,runs,N.paths.map Path.pv,N.aM.map aZ.pv,())
def MB(N:aj)(runs:List PV)(x:List PV):Option PV:=some (.bj [.agg [.rs 4 (N.stops.map Stop.pv),.rs 3 (N.ai.map aF.pv),.rs 8 (runs.map PV.strip),.rs 5 x,.rs 4 (N.paths.map Path.pv),.rs 6 (N.aM.map aZ.pv),.int .i64 N.bd,.int .i64 N.within,.int .i64 N.cap],.int .i64 0])
theorem Rx(N:aj)(h:Om N)(i:Nat)(runs:List PV):cF.run (iW cF) ((N.aq.length:Int),0,N.aq.map aN.pv,(i:Int),N.bd,N.within,N.cap,0,0,0,N.stops.map Stop.pv,N.ai.map aF.pv,runs,N.paths.map Path.pv,N.aM.map aZ.pv,())=MB N runs ((N.aq.filter (Ha i)).map aN.pv):=by
 have hk:=h.aq;have X0:1003<rounds:=by decide
 refine Rs (fun k=>((N.aq.length:Int),(k:Int),N.aq.map aN.pv,(i:Int),N.bd,N.within,N.cap,0,0,0,N.stops.map Stop.pv,N.ai.map aF.pv,runs,N.paths.map Path.pv,N.aM.map aZ.pv,())) (WW N i runs) (body3:=iX cF) N.aq (Ha i) (MB N runs) (fun j k x rec ky hx hj hg=>?_) (fun j x rec hx hj=>?_) (fun k rec ky=>?_) (fun rec=>?_) (by omega)
 ·unfold WW iX;dsimp only;rw[if_pos (by rw[decide_eq_true_eq];omega),if_pos (gU _ _ (by omega)),Int.toNat_natCast,hg];simp only[U,EY,uB,asBool,Bool.not_not,ao (show k<9223372036854775807 by omega),ao (show j<9223372036854775807 by omega),gU j x.length (by omega),if_true,Int.toNat_natCast,List.getElem?_eq_getElem (show j<x.length by omega)]
 ·unfold WW iX;dsimp only;rw[if_neg (by rw[hx];simp)];simp only[Int.toNat_natCast,Int.toNat_zero,Nat.sub_zero,List.drop_zero];rw[if_pos (by exact⟨by omega,by omega,by omega,trivial⟩),if_pos (by exact⟨trivial,trivial,by omega,by omega⟩),if_pos (by refine⟨by omega,by omega,?_,trivial⟩;simp only[List.length_append,List.length_take,List.length_replicate,List.length_drop];omega)];unfold MB;rw[List.take_append_of_le_length (by simp;omega),List.take_take,Nat.min_self]
 ·unfold iW;dsimp only;rw[if_pos (by rw[decide_eq_true_eq];omega),if_pos (gU _ _ (by simpa using ky)),Int.toNat_natCast,List.getElem?_map,List.getElem?_eq_getElem ky];simp only[Option.map_some,U,EY,uB,asBool,ao (show k<9223372036854775807 by omega),fa];cases hp:Ha i N.aq[k]with
  |true=>simp only[Bool.not_true,Bool.false_eq_true,if_false,if_true]
  |false=>simp only[Bool.not_false,if_true,Bool.false_eq_true,if_false];rw[if_neg (by rw[decide_eq_true_eq];omega)];rfl
 ·unfold iW;dsimp only;rw[if_neg (by simp)];rfl
theorem Ry(x:av):setCells 5 x.pv 3 1 (.bool false)=({x with GZ:=false}:av).pv:=rfl
theorem Rz(x:av):setCells 5 x.pv 4 1 (.bool false)=({x with BU:=false}:av).pv:=rfl
theorem abl(x:cn)(l:List av):setRow 8 x.pn 7 (.fK 5 (l.map av.pv))=({x with calls:=l}:cn).pn:=rfl
theorem Oo(N:aj)(m:iM)(h:Om N)(hm:m.Ok)(hv:(eA N).2.2=0)(hc:m.calls.length≤1000)(rec:_→Option PV):iY cF (Ru N m N.runs.length) rec=some (aPV N m):=by
 have hr:=h.runs;have hp:=vd (N.aM.map aZ.pv) (by simpa using h.aM);have ht:=pF N m (by
  have:1000≤maxLen:=by decide
  omega)
 unfold Ru iY;dsimp only;rw[if_neg (by simp),hp];simp only[U,ab,if_true,On,xO,TP,ht];rw[Et];unfold aPV EJ Dt;simp only[fa,decide_eq_true_eq];by_cases k5:m.kind=5
 ·simp only[k5,if_true];cases htg:zU N.runs m with
  |some i=>simp only[bY,List.length_cons,List.length_nil,Nat.reduceAdd,if_true,U,List.getD_cons_zero,List.getD_cons_succ,asInt,asBool,Option.isSome_some];rfl
  |none=>
   have hT:=nC m.calls N.stops.length 0 3155932800 hm.calls.1;simp only[res]at hT;have WX:=uA m.calls (by omega);simp only[bY,List.length_cons,List.length_nil,Nat.reduceAdd,if_true,U,List.getD_cons_zero,List.getD_cons_succ,asInt,asBool,Option.isSome_none,Bool.false_eq_true,if_false,List.length_map,bu,Bool.or_eq_true,decide_eq_true_eq,hT,tR];by_cases l0:m.bh<0∨m.bh≥(N.ai.length:Int)
   ·rw[if_pos l0,if_pos l0];rfl
   ·rw[if_neg l0,if_neg l0];by_cases he:(bw m.calls (N.stops.length:Int) 0 3155932800).2=0
    ·rw[if_pos he,if_neg (show¬((N.runs.length:Int)≥1024) by omega),WX];simp only[U,ab,if_true,he,ne_eq,not_true,if_false,if_neg (show¬(N.runs.length≥1024) by omega)];rw[if_pos (by
      have:101*80≤aa:=by decide
      rw[List.length_append,List.length_map,List.length_singleton];omega)]
     rw[List.map_append,j5];have:(N.runs++[Kh m]).map cn.pv=N.runs.map cn.pv++[.agg [.int .i64 (-1),.int .i64 m.day,.int .i64 m.inst,.str m.dv,.int .i64 m.bh,.bool m.free,.bool false,.rs 5 (m.calls.map av.pv)]]:=by simp[Kh,cn.pv]
     simp only[aj.pv,this,if_true];rfl
    ·rw[if_neg he,if_neg he,if_pos he,if_neg he];rfl
 ·simp only[if_neg k5];cases htg:zU N.runs m with
  |none=>simp only[bY,List.length_cons,List.length_nil,Nat.reduceAdd,if_true,U,List.getD_cons_zero,List.getD_cons_succ,asInt,asBool,Bool.not_false];rfl
  |some i=>
   obtain⟨hi,zg,_⟩:=BQ htg;have px:ae (i:Int) N.runs.length:=⟨by omega,by omega⟩;have se:=tG hv N.runs[i] (List.getElem_mem hi);simp only[bY,List.length_cons,List.length_nil,Nat.reduceAdd,if_true,U,List.getD_cons_zero,List.getD_cons_succ,asInt,asBool,Bool.not_true,Bool.false_eq_true,if_false,pG _ _ hi,List.getElem?_eq_getElem hi,px,Dv,Int.toNat_natCast,List.length_map,bu,dP,Bool.or_eq_true,decide_eq_true_eq];have Ss:((decide (m.kind=1)||decide (m.kind=3))&&(decide (m.call<0)||decide (m.call≥(N.runs[i].calls.length:Int))))=decide ((m.kind=1∨m.kind=3)∧(m.call<0∨m.call≥(N.runs[i].calls.length:Int))):=by rw[Bool.eq_iff_iff];simp
   rw[Ss];simp only[decide_eq_true_eq];by_cases hn:(m.kind=1∨m.kind=3)∧(m.call<0∨m.call≥(N.runs[i].calls.length:Int))
   ·rw[if_pos hn,if_pos hn];rfl
   rw[if_neg hn,if_neg hn];by_cases k1:m.kind=1
   ·simp only[k1,if_true];have N1:¬(m.call<0∨m.call≥(N.runs[i].calls.length:Int)):=fun hh=>hn ⟨.inl k1,hh⟩;have ad6:=not_or.1 N1;unfold prop;rw[if_neg N1,if_neg (show¬(m.call<0∨m.call≥(N.runs[i].calls.length:Int))from N1)];by_cases hs:m.bP< -43200∨m.bP>43200
    ·rw[if_pos hs,if_pos hs];rfl
    rw[if_neg hs,if_neg hs];obtain⟨c,Cg⟩:∃c:Nat,m.call=(c:Int):=⟨m.call.toNat,by omega⟩;have uW:c<N.runs[i].calls.length:=by omega
    have hlen:=h.calls N.runs[i] (List.getElem_mem hi);have ho:=wZ N.runs[i].calls (by
     have:1000≤maxLen:=by decide
     omega)
    have hrq:MQ (cell N.runs[i].pn 7)=some (.rs 5 (N.runs[i].calls.map av.pv)):=rfl;simp only[hrq,U,ho,asBool];cases WY:tN N.runs[i].calls with
    |false=>rfl
    |true=>
     have ek:0≤(N.runs[i].calls.length:Int)∧(N.runs[i].calls.length:Int)≤(N.runs[i].calls.length:Int)∧(N.runs[i].calls.length:Int).toNat*32≤aa∧0<32∧0<5:=by
      have:1000*32≤aa:=by decide
      refine⟨by omega,by omega,?_,by decide,by decide⟩;rw[Int.toNat_natCast];omega
     rw[if_neg (by decide),if_pos (by rw[Int.toNat_natCast]at ek;exact ek)];simp only[Cg,Int.toNat_natCast];obtain⟨a1,a2⟩:=My WY uW (show-43200≤m.bP by omega) (show m.bP≤43200 by omega);have hA:=Rw N h i c hi uW WY _ a1 (by omega);have Su:∀z:PV,List.take (List.replicate N.runs[i].calls.length z).length (N.runs[i].calls.map av.pv)++List.drop N.runs[i].calls.length (List.replicate N.runs[i].calls.length z)=N.runs[i].calls.map av.pv:=fun z=>by rw[List.length_replicate,List.take_of_length_le (by simp),List.drop_eq_nil_of_le (by simp),List.append_nil]
     have hS:∀A out,Ko N i c A 0 out=((i:Int),(c:Int),A,(N.runs[i].calls.length:Int),0,(i:Int),N.runs.map cn.pn,out,N.bd,N.within,N.cap,0,0,0,N.stops.map Stop.pv,N.ai.map aF.pv,N.aq.map aN.pv,N.paths.map Path.pv,N.aM.map aZ.pv,()):=fun A out=>by unfold Ko;rw[List.getElem?_eq_getElem hi];rfl
     rw[hS]at hA;have hF:∀o,(match gi (N.runs[i].calls.drop c) (mP N.runs[i].calls c m.bP)with|some r=>some (PV.bj [(EX N i (N.runs[i].calls.take c++r)).pv,.int .i64 0])|none=>some (PV.bj [z9,.int .i64 10]))=o→cF.run dE ((i:Int),(c:Int),mP N.runs[i].calls c m.bP,(N.runs[i].calls.length:Int),0,(i:Int),N.runs.map cn.pn,N.runs[i].calls.map av.pv,N.bd,N.within,N.cap,0,0,0,N.stops.map Stop.pv,N.ai.map aF.pv,N.aq.map aN.pv,N.paths.map Path.pv,N.aM.map aZ.pv,())=o:=fun o ho=>hA.trans ho;have hlm:=mD;obtain⟨s0,s1,s2⟩:=nF WY c uW;have Eb:∀A,A=mP N.runs[i].calls c m.bP→cF.run dE ((i:Int),(c:Int),A,(N.runs[i].calls.length:Int),0,(i:Int),N.runs.map cn.pn,N.runs[i].calls.map av.pv,N.bd,N.within,N.cap,0,0,0,N.stops.map Stop.pv,N.ai.map aF.pv,N.aq.map aN.pv,N.paths.map Path.pv,N.aM.map aZ.pv,())=some (if(match(match gi (N.runs[i].calls.drop c) (mP N.runs[i].calls c m.bP)with|some r=>(some (N.runs[i].calls.take c++r),(0:Int))|none=>(none,10))with|(some l,_)=>(({N with runs:=N.runs.set i {N.runs[i]with calls:=l}}:aj),(0:Int))|(none,e)=>(N,e)).2=0 then PV.bj [(match(match gi (N.runs[i].calls.drop c) (mP N.runs[i].calls c m.bP)with|some r=>(some (N.runs[i].calls.take c++r),(0:Int))|none=>(none,10))with|(some l,_)=>(({N with runs:=N.runs.set i {N.runs[i]with calls:=l}}:aj),(0:Int))|(none,e)=>(N,e)).1.pv,.int .i64 0]else .bj [z9,.int .i64 (match(match gi (N.runs[i].calls.drop c) (mP N.runs[i].calls c m.bP)with|some r=>(some (N.runs[i].calls.take c++r),(0:Int))|none=>(none,10))with|(some l,_)=>(({N with runs:=N.runs.set i {N.runs[i]with calls:=l}}:aj),(0:Int))|(none,e)=>(N,e)).2]):=by
      intro A sx;subst sx;apply hF;cases gi (N.runs[i].calls.drop c) (mP N.runs[i].calls c m.bP)with
      |none=>rfl
      |some r=>simp only[EX,List.getElem?_eq_getElem hi];rfl
     cases c with
     |zero=>rw[if_neg (by decide),if_pos (gU _ _ uW)];simp only[List.getElem?_map,List.getElem?_eq_getElem uW,Option.map_some,U,y8,asInt,if_true,Su];refine Eb _ ?_;rw[wrap_small (by omega) (by omega)];unfold mP;rw[List.getElem?_eq_getElem uW];simp only[hU,Option.map_some,Option.map_none,Option.getD_none,Option.getD_some];by_cases hx:N.runs[i].calls[0].arr+m.bP<0<;>simp[hx]
     |succ j=>
      have hj:j<N.runs[i].calls.length:=by omega
      rw[if_pos (by omega),uw j (by omega),if_pos (gU _ _ hj)];simp only[Int.toNat_natCast,List.getElem?_map,List.getElem?_eq_getElem hj,Option.map_some,U,y8,y9,asInt,if_true,Su,gU _ _ uW,List.getElem?_eq_getElem uW];refine Eb _ ?_;rw[wrap_small (by omega) (by omega)];unfold mP;rw[List.getElem?_eq_getElem uW];simp only[hU,List.getElem?_eq_getElem hj,Option.map_some,Option.getD_some]
   simp only[if_neg k1];by_cases k2:m.kind=2
   ·simp only[k2,if_true,pG _ _ hi,U,U1,yj];rfl
   simp only[if_neg k2];by_cases k3:m.kind=3
   ·simp only[k3,if_true];have N1:=not_or.1 (fun hh=>hn ⟨.inr k3,hh⟩:¬(m.call<0∨m.call≥(N.runs[i].calls.length:Int)));obtain⟨c,Cg⟩:∃c:Nat,m.call=(c:Int):=⟨m.call.toNat,by omega⟩;have uW:c<N.runs[i].calls.length:=by omega
    simp only[Cg,Int.toNat_natCast,gU c _ uW,if_true,List.getElem?_map,List.getElem?_eq_getElem uW,Option.map_some,U,Ry,←List.map_set,abl,List.length_set,List.length_map,px,List.getElem?_set_self hi,Dv,List.getElem?_set_self uW,Rz,List.set_set,j5];simp only[BT,List.getElem?_eq_getElem uW];rfl
   simp only[if_neg k3];by_cases k4:m.kind=4
   ·simp only[k4,if_true];have hT:=nC m.calls N.stops.length 0 3155932800 hm.calls.1;simp only[res]at hT;have WX:=uA m.calls (by omega);simp only[hT,U,bY,List.length_cons,List.length_nil,Nat.reduceAdd,if_true,List.getD_cons_zero,List.getD_cons_succ,asInt,tR];by_cases he:(bw m.calls (N.stops.length:Int) 0 3155932800).2=0
    ·simp only[he,WX,U,ab,if_true,ne_eq,not_true,if_false];rw[Rx N h i,TU,rW];unfold MB;rw[yj];rfl
    ·rw[if_neg he,if_neg he,if_pos he,if_neg he];rfl
   simp only[if_neg k4];rfl
theorem MC(x:cn)(l:List PV):(if(8:Nat)=1 then PV.fK 5 l else .agg (cell x.pv 0::cell x.pv 1::cell x.pv 2::cell x.pv 3::cell x.pv 4::cell x.pv 5::cell x.pv 6::.fK 5 l::over [] []))=.agg [.int .i64 x.dv,.int .i64 x.day,.int .i64 x.inst,.str x.id,.int .i64 x.bh,.bool x.free,.bool x.rH,.fK 5 l]:=rfl
theorem Kp(N:aj)(m:iM)(h:Om N)(hm:m.Ok)(hc:m.calls.length≤1000):aY [N.pv,m.pv]=some (B2 N m):=by
 have hr:=h.runs;have X0:1003<rounds:=by decide
 have AA:=BH N h.ok (by have:=h.paths;omega);have hmk:=G3 m hm;have f1:=BI (N.stops.map Stop.pv) (by simpa using h.stops);have f2:=ze (N.ai.map aF.pv) (by simpa using h.ai);have f3:=Da (N.runs.map cn.pv) (by simp;omega);have f4:=BJ (N.aq.map aN.pv) (by simpa using h.aq);have f5:=tI (N.paths.map Path.pv) (by simpa using h.paths);simp only[aY,l9,qM,rI,rJ,rK,rL,rM,rN,rO,rP,rQ,U,xO,AA];simp only[fT,bY,List.length_cons,List.length_nil,Nat.reduceAdd,if_true,List.getD_cons_zero,List.getD_cons_succ,asInt,U,EL,EM,EN,EO,EP,ER,ES,ET,EU,EV,EW,wW,wX,Dr,bx,ab,asBool,TP,hmk,tR,f1,f2,f3,f4,f5,List.length_map];unfold B2;by_cases hv:(eA N).2.2=0
 ·rw[if_pos hv,if_pos hv];by_cases he:gT m=0
  ·rw[if_pos he,if_pos he];refine bJ (Ru N m) N.runs.length (fun k hk rec=>?_) (fun rec=>Oo N m h hm hv hc rec) (by omega) (by unfold Ru;rw[GL];rfl);have fc:=BK (N.runs[k].calls.map av.pv) (by simpa using h.calls _ (List.getElem_mem hk));unfold Ru iY;dsimp only;rw[if_pos (by rw[decide_eq_true_eq];omega),if_pos (Eu _ _ _ _ hk),Int.toNat_natCast,Mg _ _ _ _ hk];simp only[U,Gu,fc,ab,if_true,Eu _ _ _ _ hk,MC,ao (show k<9223372036854775807 by omega)];have:=Mh cn.pn cn.pv N.runs k hk;rw[←this];rfl
  ·rw[if_neg he,if_neg he];rfl
 ·rw[if_neg hv,if_neg hv];rfl
structure mZ(q:PV)(m:iM):Prop where
 hA:asAgg 13 q=some ()
 h0:cell q 0=.int .i64 m.source
 h1:cell q 1=.int .i64 m.seq
 h2:cell q 2=.int .i64 m.j8
 h3:cell q 3=.int .i64 m.gE
 h4:cell q 4=.int .i64 m.kind
 h5:cell q 5=.str m.dv
 h6:cell q 6=.int .i64 m.day
 h7:cell q 7=.int .i64 m.inst
 h8:cell q 8=.int .i64 m.call
 h9:cell q 9=.int .i64 m.bP
 Fh:cell q 10=.int .i64 m.bh
 WZ:cell q 11=.bool m.free
 W0:ab 5 (cell q 12)=some (m.calls.map av.pv)
def MD(q:PV):PV:=.agg [cell q 0,cell q 1,cell q 2,cell q 3,cell q 4,cell q 5,cell q 6,cell q 7,cell q 8,cell q 9,cell q 10,cell q 11,cell q 12]
theorem mZ.agg{q:PV}{m:iM}(h:mZ q m):mZ (MD q) m:=⟨rfl,h.h0,h.h1,h.h2,h.h3,h.h4,h.h5,h.h6,h.h7,h.h8,h.h9,h.Fh,h.WZ,h.W0⟩
structure Dx(p:PV)(N:aj):Prop where
 hA:asAgg 9 p=some ()
 h0:ab 4 (cell p 0)=some (N.stops.map Stop.pv)
 h1:ab 3 (cell p 1)=some (N.ai.map aF.pv)
 h2:ab 8 (cell p 2)=some (N.runs.map cn.pv)
 h3:ab 5 (cell p 3)=some (N.aq.map aN.pv)
 h4:ab 4 (cell p 4)=some (N.paths.map Path.pv)
 h5:ab 6 (cell p 5)=some (N.aM.map aZ.pv)
 h6:asInt .i64 (cell p 6)=some N.bd
 h7:asInt .i64 (cell p 7)=some N.within
 h8:asInt .i64 (cell p 8)=some N.cap
theorem abm(N:aj):Dx N.pv N:=⟨rfl,rfl,rfl,rfl,rfl,rfl,rfl,rfl,rfl,rfl⟩
theorem W2(x:iM):ab 5 (cell x.pv 12)=some (x.calls.map av.pv):=rfl
theorem Hb{q:PV}{m:iM}(hq:mZ q m):cL [q]=cL [m.pv]:=by simp only[cL,ma,hq.hA,hq.h0,hq.h1,hq.h2,hq.h3,hq.h4,hq.h5,hq.h6,hq.h7,hq.h8,hq.h9,hq.Fh,hq.WZ,hq.W0,EL,EM,EN,EO,EP,ER,ES,ET,EU,EV,EW,wW,wX,W2]
theorem zn{p q:PV}{N:aj}{m:iM}(hp:Dx p N)(hq:mZ q m):br [p,q]=br [N.pv,m.pv]:=by simp only[br,kP,hp.hA,hp.h0,hp.h1,hp.h2,hp.h3,hp.h4,hp.h5,hp.h6,hp.h7,hp.h8,hq.hA,hq.h0,hq.h1,hq.h2,hq.h3,hq.h4,hq.h5,hq.h6,hq.h7,hq.h8,hq.h9,hq.Fh,hq.WZ,hq.W0,qM,rI,rJ,rK,rL,rM,rN,rO,rP,rQ,EL,EM,EN,EO,EP,ER,ES,ET,EU,EV,EW,wW,wX,W2]
theorem Kq{p q:PV}{N:aj}{m:iM}(hp:Dx p N)(hq:mZ q m):aY [p,q]=aY [N.pv,m.pv]:=by simp only[aY,l9,hp.hA,hp.h0,hp.h1,hp.h2,hp.h3,hp.h4,hp.h5,hp.h6,hp.h7,hp.h8,hq.hA,hq.h0,hq.h1,hq.h2,hq.h3,hq.h4,hq.h5,hq.h6,hq.h7,hq.h8,hq.h9,hq.Fh,hq.WZ,hq.W0,qM,rI,rJ,rK,rL,rM,rN,rO,rP,rQ,EL,EM,EN,EO,EP,ER,ES,ET,EU,EV,EW,wW,wX,W2,U]
end Go.Ab.Tt
