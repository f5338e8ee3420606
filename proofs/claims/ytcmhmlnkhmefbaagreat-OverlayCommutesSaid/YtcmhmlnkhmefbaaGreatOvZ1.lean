import Derived.Test.YtcmhmlnkhmefbaaGreatNkP2
namespace Go.Ab.Tt
set_option maxRecDepth 100000
set_option linter.unusedVariables false
set_option linter.unusedSimpArgs false
structure fC where
 source:Int
 seq:Int
 lG:Int
 iC:Int
 kind:Int
 dp:Bytes
 day:Int
 inst:Int
 call:Int
 bM:Int
 bh:Int
 free:Bool
 calls:List av
 deriving DecidableEq
def fC.pv(x:fC):PV:=.agg [.int .i64 x.source,.int .i64 x.seq,.int .i64 x.lG,.int .i64 x.iC,.int .i64 x.kind,.str x.dp,.int .i64 x.day,.int .i64 x.inst,.int .i64 x.call,.int .i64 x.bM,.int .i64 x.bh,.bool x.free,.rs 5 (x.calls.map av.pv)]
structure fC.jm(M:Nat)(x:fC):Prop where
 source:jQ x.source
 seq:jQ x.seq
 lG:jQ x.lG
 iC:jQ x.iC
 kind:jQ x.kind
 dp:x.dp.length≤M
 day:jQ x.day
 inst:jQ x.inst
 call:jQ x.call
 bM:jQ x.bM
 bh:jQ x.bh
 calls:x.calls.length≤M∧∀y∈x.calls,y.jm M
abbrev fC.Ok(x:fC):Prop:=x.jm maxLen
def fC.key(x:fC):Bytes×Int×Int:=(x.dp,x.day,x.inst)
def uk(l:List bw)(m:fC):Option Nat:=(List.range l.length).find? fun k=>decide ((l.map aU)[k]?=some m.key)
theorem lH{l:List bw}{m:fC}{k:Nat}(h:uk l m=some k):∃hk:k<l.length,aU l[k]=m.key∧∀j,(hj:j<k)→aU (l[j]'(by omega))≠m.key:=by
 unfold uk at h;rw[List.find?_range_eq_some]at h;obtain⟨h1,h2,h3⟩:=h;have hk:k<l.length:=by simpa using h2
 refine⟨hk,?_,fun j hj hc=>?_⟩
 ·simpa[List.getElem?_eq_getElem hk]using h1
 ·have:=h3 j hj;simp[List.getElem?_eq_getElem (show j<l.length by omega),hc]at this
theorem Sq{l:List bw}{m:fC}(h:uk l m=none):m.key∉l.map aU:=by
 unfold uk at h;rw[List.find?_eq_none]at h;intro hm;obtain⟨k,hk⟩:=List.mem_iff_getElem?.1 hm;have jn:k<l.length:=by have:=(List.getElem?_eq_some_iff.1 hk).1;simpa using this
 exact h k (by simpa using jn) (by simpa using hk)
def gV:Int:=3155932800
def uo(l:List av):Bool:=(List.range l.length).all fun k=>(l[k]?).elim true fun c=> !(decide (c.arr<((iw l k).map av.dep).getD 0)||decide (c.dep<c.arr)||decide (c.dep>gV))
def gW(c:av):Int:=if c.dep-c.arr<30 then c.dep-c.arr else 30
def late(c:av)(K7:Int):av:={c with arr:=K7,dep:=if K7+gW c>c.dep then K7+gW c else c.dep}
def gv:List av→Int→Option (List av)
 |[],_=>some []
 |c::cs,a=>if(late c a).dep>gV then none else
  match cs with
  |[]=>some [late c a]
  |d::ds=>(gv (d::ds) (d.arr+(late c a).dep-c.dep)).map fun r=>late c a::r
def nd(l:List av)(n:Nat)(bM:Int):Int:=
 let before:=((iw l n).map av.dep).getD 0
 let x:=((l[n]?).map av.arr).getD 0+bM
 if x<before then before else x
def prop(l:List av)(n:Int)(bM:Int):Option (List av)×Int:=
 if n<0∨n≥(l.length:Int)then(none,1)else if bM< -43200∨bM>43200 then(none,2)else if uo l=false then(none,10)
 else match gv (l.drop n.toNat) (nd l n.toNat bM)with
 |some r=>(some (l.take n.toNat++r),0)
 |none=>(none,10)
end Go.Ab.Tt
namespace Go.Ab.Tt
set_option maxRecDepth 100000
set_option linter.unusedVariables false
set_option linter.unusedSimpArgs false
theorem mP(N:ag):(dS N).2.2=0↔(gN N.stops).2=0∧(fo N.ae).2=0∧(gb N.runs N.stops.length N.ae.length).2=0∧(gU N.runs N.ah).2=0∧(cV N.paths N.stops.length).2=0∧(dH N.aq N.aN N.within N.cap).2=0:=by
 unfold dS;by_cases h1:(gN N.stops).2=0
 ·rw[if_pos h1];by_cases h2:(fo N.ae).2=0
  ·rw[if_pos h2];by_cases h3:(gb N.runs N.stops.length N.ae.length).2=0
   ·rw[if_pos h3];by_cases h4:(gU N.runs N.ah).2=0
    ·rw[if_pos h4];by_cases h5:(cV N.paths N.stops.length).2=0
     ·rw[if_pos h5];by_cases h6:(dH N.aq N.aN N.within N.cap).2=0
      ·rw[if_pos h6];simp[h1,h2,h3,h4,h5,h6]
      ·rw[if_neg h6];simp[h6]
     ·rw[if_neg h5];simp[h5]
    ·rw[if_neg h4];simp[h4]
   ·rw[if_neg h3];simp[h3]
  ·rw[if_neg h2];simp[h2]
 ·rw[if_neg h1];simp[h1]
def xw(x:bw)(stops ae:Int):Int:=
 if eN x.id=false then 12 else if(decide (x.dp< -1)||decide (x.inst<0))=true then 2
 else if(decide (x.day<0)||decide (x.day>36524))=true then 11 else if(decide (x.bh<0)||decide (x.bh≥ae))=true then 9
 else(bk x.calls stops 0 3155932800).2
theorem zN(l:List bw)(s r:Int)(k:Nat)(hk:k<l.length):iU l s r k=0↔xw l[k] s r=0∧aU l[k]∉(l.map aU).take k:=by
 unfold iU xw;rw[List.getElem?_eq_getElem hk];simp only;by_cases h1:eN l[k].id=false
 ·rw[if_pos h1,if_pos h1];simp
 ·rw[if_neg h1,if_neg h1];by_cases h2:(decide (l[k].dp< -1)||decide (l[k].inst<0))=true
  ·rw[if_pos h2,if_pos h2];simp
  ·rw[if_neg h2,if_neg h2];by_cases h3:(decide (l[k].day<0)||decide (l[k].day>36524))=true
   ·rw[if_pos h3,if_pos h3];simp
   ·rw[if_neg h3,if_neg h3];by_cases h4:(decide (l[k].bh<0)||decide (l[k].bh≥r))=true
    ·rw[if_pos h4,if_pos h4];simp
    ·rw[if_neg h4,if_neg h4];by_cases h5:(bk l[k].calls s 0 3155932800).2=0
     ·rw[if_pos h5];by_cases h6:aU l[k]∈(l.map aU).take k
      ·simp[h6]
      ·simp[h6,h5]
     ·rw[if_neg h5];simp[h5]
theorem nI(l:List bw)(s r:Int):(gb l s r).2=0↔l.length≤1024∧∀k,(hk:k<l.length)→xw l[k] s r=0∧aU l[k]∉(l.map aU).take k:=by
 unfold gb;by_cases h:l.length>1024
 ·rw[if_pos h];constructor
  ·intro hc;cases hc
  ·rintro⟨h1,_⟩;omega
 ·rw[if_neg h,ma];constructor
  ·intro h0;exact⟨by omega,fun k hk=>(zN l s r k hk).1 (h0 k hk)⟩
  ·rintro⟨_,h0⟩ k hk;exact(zN l s r k hk).2 (h0 k hk)
theorem Sr{l:List bw}{s r:Int}{i:Nat}{x:bw}(hi:i<l.length)(hk:aU x=aU l[i])(hx:xw x s r=0)(h:(gb l s r).2=0):(gb (l.set i x) s r).2=0:=by
 rw[nI]at h⊢;have hm:(l.set i x).map aU=l.map aU:=by rw[List.map_set,hk,←List.getElem_map aU (h:=by simpa using hi),List.set_getElem_self]
 refine⟨by rw[List.length_set];exact h.1,fun k kH=>?_⟩;have Yi:k<l.length:=by simpa using kH
 rw[hm];obtain⟨h1,h2⟩:=h.2 k Yi;by_cases zL:i=k
 ·subst zL;rw[List.getElem_set_self];exact⟨hx,by rw[hk];exact h2⟩
 ·rw[List.getElem_set_ne zL];exact⟨h1,h2⟩
theorem Ss{l:List bw}{s r:Int}{x:bw}(hk:aU x∉l.map aU)(hx:xw x s r=0)(hl:l.length<1024)(h:(gb l s r).2=0):(gb (l++[x]) s r).2=0:=by
 rw[nI]at h⊢;refine⟨by simp;omega,fun k kH=>?_⟩;simp only[List.length_append,List.length_cons,List.length_nil]at kH;rw[List.map_append];by_cases br:k<l.length
 ·rw[List.getElem_append_left br,List.take_append_of_le_length (by simp;omega)];exact h.2 k br
 ·have:k=l.length:=by omega
  subst this;rw[List.getElem_append_right (Nat.le_refl _)];simp only[Nat.sub_self,List.getElem_cons_zero];refine⟨hx,?_⟩;rw[List.take_append_of_le_length (by simp),List.take_of_length_le (by simp)];exact hk
def D3(runs:List bw)(p:List aG)(x:aG):Int:=
 if tY x runs.length=true then 9 else if tZ x (aB runs x.a).length (aB runs x.b).length=true then 9
 else if eY (aB runs x.a) x.ac≠eY (aB runs x.b) x.bc then 13 else if pd p x (aB runs x.a).length=true then 19
 else if cm x∈p.map cm then 6 else 0
theorem D4(runs:List bw)(l:List aG)(k:Nat)(hk:k<l.length):cC runs l k=D3 runs (l.take k) l[k]:=by unfold cC D3;rw[List.getElem?_eq_getElem hk,List.map_take]
def sK(runs:List bw)(l:List aG):Prop:=∀k,(hk:k<l.length)→D3 runs (l.take k) l[k]=0
theorem qJ(runs:List bw)(l:List aG):(gU runs l).2=0↔l.length≤1024∧sK runs l:=by
 unfold gU sK;by_cases h:l.length>1024
 ·rw[if_pos h];constructor
  ·intro hc;cases hc
  ·rintro⟨h1,_⟩;omega
 ·rw[if_neg h,ma];constructor
  ·intro h0;exact⟨by omega,fun k hk=>by rw[←D4];exact h0 k hk⟩
  ·rintro⟨_,h0⟩ k hk;rw[D4 runs l k hk];exact h0 k hk
theorem Pn(runs:List bw):sK runs []:=fun k hk=>by simp at hk
theorem wu(runs:List bw)(p:List aG)(x:aG):sK runs (p++[x])↔sK runs p∧D3 runs p x=0:=by
 constructor
 ·intro h;refine⟨fun k hk=>?_,?_⟩
  ·have:=h k (by simp;omega);rw[List.getElem_append_left hk,List.take_append_of_le_length (by omega)]at this;exact this
  ·have:=h p.length (by simp);rw[List.getElem_append_right (Nat.le_refl _),List.take_append_of_le_length (Nat.le_refl _),List.take_length]at this;simpa using this
 ·rintro⟨h1,h2⟩ k hk;simp only[List.length_append,List.length_cons,List.length_nil]at hk;by_cases br:k<p.length
  ·rw[List.getElem_append_left br,List.take_append_of_le_length (by omega)];exact h1 k br
  ·have:k=p.length:=by omega
   subst this;rw[List.getElem_append_right (Nat.le_refl _),List.take_append_of_le_length (Nat.le_refl _),List.take_length];simpa using h2
theorem sr(runs:List bw)(p:List aG)(x:aG):D3 runs p x=0↔tY x runs.length=false∧tZ x (aB runs x.a).length (aB runs x.b).length=false∧eY (aB runs x.a) x.ac=eY (aB runs x.b) x.bc∧pd p x (aB runs x.a).length=false∧cm x∉p.map cm:=by
 unfold D3;cases tY x runs.length with
 |true=>simp
 |false=>
  cases tZ x (aB runs x.a).length (aB runs x.b).length with
  |true=>simp
  |false=>
   by_cases h3:eY (aB runs x.a) x.ac=eY (aB runs x.b) x.bc
   ·cases pd p x (aB runs x.a).length with
    |true=>simp[h3]
    |false=>
     by_cases h5:cm x∈p.map cm
     ·simp[h3,h5]
     ·simp[h3,h5]
   ·simp[h3]
theorem Co{x:aG}{R:Int}(h:tY x R=false):(0≤x.a∧x.a<R)∧(0≤x.b∧x.b<R)∧x.a≠x.b:=by unfold tY at h;simp only[Bool.or_eq_false_iff,Bool.not_eq_false',Bool.and_eq_true,decide_eq_true_eq,decide_eq_false_iff_not]at h;exact⟨h.1.1,h.1.2,h.2⟩
variable{runs zO:List bw}
theorem po{l:List aG}(h:sK runs l)(hR:runs.length≤zO.length)(hc:∀x∈l,∀v,v=x.a∨v=x.b→(aB zO v).length=(aB runs v).length∧∀c,eY (aB zO v) c=eY (aB runs v) c):sK zO l:=by intro k hk;have h0:=h k hk;rw[sr]at h0⊢;obtain⟨h1,h2,h3,h4,h5⟩:=h0;obtain⟨ea,sa⟩:=hc _ (List.getElem_mem hk) _ (Or.inl rfl);obtain⟨eb,sb⟩:=hc _ (List.getElem_mem hk) _ (Or.inr rfl);rw[ea,eb,sa,sb];refine⟨?_,h2,h3,h4,h5⟩;obtain⟨g1,g2,g3⟩:=Co h1;unfold tY;simp only[Bool.or_eq_false_iff,Bool.not_eq_false',Bool.and_eq_true,decide_eq_true_eq,decide_eq_false_iff_not];exact⟨⟨⟨g1.1,by omega⟩,⟨g2.1,by omega⟩⟩,g3⟩
theorem zP{p:List aG}{x:aG}{A:Int}(h:pd p x A=false):x.stay=false∨(x.ac+1=A∧x.bc=0∧nx p x.a=none∧x.b∉jE p∧lq p x.b x.a (p.length+1)=false):=by
 unfold pd at h;cases hs:x.stay with
 |false=>exact Or.inl rfl
 |true=>
  rw[hs,Bool.true_and]at h;simp only[Bool.or_eq_false_iff,Bool.not_eq_false',decide_eq_true_eq,decide_eq_false_iff_not]at h;obtain⟨⟨⟨⟨h1,h2⟩,h3⟩,h4⟩,h5⟩:=h;refine Or.inr ⟨h1,h2,?_,h4,h5⟩;cases hn:nx p x.a with
  |none=>rfl
  |some w=>rw[hn]at h3;cases h3
theorem ab4(l:List aG)(h:sK runs l):∀x∈l,x.stay=true→nx l x.a=some x.b:=by
 induction l using tW with
 |h0=>intro x hx;cases hx
 |h1 p y ih=>
  rw[wu]at h;obtain⟨hp,hy⟩:=h;rw[sr]at hy;intro x hx hs;rw[pV];rcases List.mem_append.1 hx with hx|hx
  ·have h1:=ih hp x hx hs;by_cases hc:(y.stay&&decide (y.a=x.a))=true
   ·simp only[Bool.and_eq_true,decide_eq_true_eq]at hc;rcases zP hy.2.2.2.1 with h2|h2
    ·rw[h2]at hc;cases hc.1
    ·rw[hc.2]at h2;rw[h1]at h2;cases h2.2.2.1
   ·rw[if_neg hc];exact h1
  ·rw[List.mem_singleton]at hx;subst hx;rw[if_pos (by simp[hs])]
theorem Fk(f:aG→Bool)(l:List aG)(h:sK runs l)(hR:runs.length≤zO.length)(hc:∀x∈l,f x=true→∀v,v=x.a∨v=x.b→(aB zO v).length=(aB runs v).length∧∀c,eY (aB zO v) c=eY (aB runs v) c):sK zO (l.filter f):=by
 refine po (runs:=runs) ?_ hR (fun x hx=>hc x (List.mem_filter.1 hx).1 (List.mem_filter.1 hx).2);clear hc hR;induction l using tW with
 |h0=>exact Pn runs
 |h1 p x ih=>
  rw[wu]at h;obtain⟨hp,hx⟩:=h;rw[List.filter_append];by_cases hf:f x=true
  ·rw[List.filter_cons_of_pos hf,List.filter_nil,wu];refine⟨ih hp,?_⟩;rw[sr]at hx⊢;obtain⟨h1,h2,h3,h4,h5⟩:=hx;have On:∀y∈p.filter f,y∈p:=fun y hy=>(List.mem_filter.1 hy).1;refine⟨h1,h2,h3,?_,fun hm=>h5 ?_⟩
   ·rcases zP h4 with hs|⟨g1,g2,g3,g4,g5⟩
    ·unfold pd;rw[hs];rfl
    ·have hnx:∀v w,nx (p.filter f) v=some w→nx p v=some w:=fun v w M7=>by obtain⟨y,hy,Y7,rfl,rfl⟩:=KM M7;exact ab4 p hp y (On y hy) Y7
     have hit:∀t v w,it (nx (p.filter f)) t v=some w→it (nx p) t v=some w:=by
      intro t;induction t with
      |zero=>intro v w h;exact h
      |succ t iht=>
       intro v w M7;have U8:(nx (p.filter f) v).bind (it (nx (p.filter f)) t)=some w:=M7;cases hn:nx (p.filter f) v with
       |none=>rw[hn]at U8;cases U8
       |some u=>rw[hn]at U8;show(nx p v).bind (it (nx p) t)=some w;rw[hnx v u hn];exact iht u w U8
     have k1:(nx (p.filter f) x.a).isSome=false:=by
      cases hn:nx (p.filter f) x.a with
      |none=>rfl
      |some w=>rw[hnx _ _ hn]at g3;cases g3
     have k2:decide (x.b∈jE (p.filter f))=false:=by rw[decide_eq_false_iff_not];intro hm;apply g4;unfold jE at hm⊢;obtain⟨y,hy,hyb⟩:=List.mem_map.1 hm;obtain⟨hy1,hy2⟩:=List.mem_filter.1 hy;exact List.mem_map.2 ⟨y,List.mem_filter.2 ⟨On y hy1,hy2⟩,hyb⟩
     have k3:lq (p.filter f) x.b x.a ((p.filter f).length+1)=false:=by unfold lq at g5⊢;rw[List.any_eq_false]at g5⊢;intro t ht hc;have hle:=List.length_filter_le f p;refine g5 t (by simp at ht⊢;omega) ?_;rw[decide_eq_true_eq]at hc⊢;exact hit _ _ _ hc
     unfold pd;rw[k1,k2,k3,g1,g2];simp
   ·obtain⟨y,hy,hk⟩:=List.mem_map.1 hm;exact List.mem_map.2 ⟨y,On y hy,hk⟩
  ·rw[List.filter_cons_of_neg hf,List.filter_nil,List.append_nil];exact ih hp
end Go.Ab.Tt
namespace Go.Ab.Tt
set_option maxRecDepth 100000
set_option linter.unusedVariables false
set_option linter.unusedSimpArgs false
def F2(n a b:Int):Option av→List av→Prop
 |_,[]=>True
 |p,c::cs=>lh c p n a b=0∧F2 n a b (some c) cs
theorem Nv(n a b:Int)(l:List av):∀p,F2 n a b p l↔∀k,(hk:k<l.length)→lh l[k] (if k=0 then p else l[k-1]?) n a b=0:=by
 induction l with
 |nil=>intro p;exact⟨fun _ k hk=>by simp at hk,fun _=>trivial⟩
 |cons c cs ih=>
  intro p;show(lh c p n a b=0∧F2 n a b (some c) cs)↔_;rw[ih];constructor
  ·rintro⟨h1,h2⟩ k hk;cases k with
   |zero=>exact h1
   |succ k=>
    have:=h2 k (by simpa using hk);cases k with
    |zero=>simpa using this
    |succ k=>simpa using this
  ·intro h;refine⟨h 0 (Nat.zero_lt_succ _),fun k hk=>?_⟩;have:=h (k+1) (by simpa using hk);cases k with
   |zero=>simpa using this
   |succ k=>simpa using this
theorem uq(l:List av)(n a b:Int):(bk l n a b).2=0↔2≤l.length∧l.length≤32∧F2 n a b none l:=by
 have he:(∀k,k<l.length→mr l n a b k=0)↔F2 n a b none l:=by
  rw[Nv];constructor
  ·intro h k hk;have:=h k hk;unfold mr at this;rw[List.getElem?_eq_getElem hk]at this;cases k with
   |zero=>exact this
   |succ k=>exact this
  ·intro h k hk;have:=h k hk;unfold mr;rw[List.getElem?_eq_getElem hk];cases k with
   |zero=>exact this
   |succ k=>exact this
 rw[←he];constructor
 ·intro h;exact⟨(ud h).1,(ud h).2,zI h⟩
 ·rintro⟨h1,h2,h3⟩;unfold bk;rw[if_neg (by simp;omega)];exact(ma _ _).2 h3
theorem wv(n a b:Int)(l1 l2:List av):∀p,F2 n a b p (l1++l2)↔F2 n a b p l1∧F2 n a b (if l1.length=0 then p else l1[l1.length-1]?) l2:=by
 induction l1 with
 |nil=>intro p;simp[F2]
 |cons c cs ih=>
  intro p;show(lh c p n a b=0∧F2 n a b (some c) (cs++l2))↔(lh c p n a b=0∧F2 n a b (some c) cs)∧_;rw[ih,and_assoc];have:(if(c::cs).length=0 then p else(c::cs)[(c::cs).length-1]?)=if cs.length=0 then some c else cs[cs.length-1]?:=by
   cases cs with
   |nil=>rfl
   |cons d ds=>simp
  rw[this]
variable{p:Option av}
theorem Cp{c:av}{n a b:Int}(h1:0≤c.stop)(h2:c.stop<n)(h3:∀q,p=some q→q.stop≠c.stop)(h4:a≤c.arr)(h5:c.arr≤c.dep)(h6:c.dep≤b)(h7:∀q,p=some q→q.dep≤c.arr):lh c p n a b=0:=by
 unfold lh;rw[if_neg (by simp;omega)];cases p with
 |none=>dsimp only;rw[if_neg (by simp),if_neg (by simp;omega)]
 |some q=>dsimp only;have:=h3 q rfl;have:=h7 q rfl;rw[if_neg (by simpa using h3 q rfl),if_neg (by simp;omega)]
theorem su{c:av}{n a b:Int}(h:lh c p n a b=0):0≤c.stop∧c.stop<n∧∀q,p=some q→q.stop≠c.stop:=by
 unfold lh at h;by_cases hA:(decide (c.stop<0)||decide (c.stop≥n))=true
 ·rw[if_pos hA]at h;cases h
 ·rw[if_neg hA]at h;simp only[Bool.or_eq_true,decide_eq_true_eq,not_or]at hA;refine⟨by omega,by omega,fun q hq hc=>?_⟩;subst hq;dsimp only at h;rw[if_pos (by simpa using hc)]at h;cases h
theorem St(n:Int)(cs:List av):∀(a:Int)(p:Option av)(r:List av),F2 n 0 gV p cs→gv cs a=some r→(∀q,p=some q→q.dep≤a)→0≤a→F2 n 0 gV p r∧r.map av.stop=cs.map av.stop:=by
 induction cs with
 |nil=>intro a p r _ hr _ _;simp only[gv,Option.some.injEq]at hr;subst hr;exact⟨trivial,rfl⟩
 |cons c cs ih=>
  intro a p r wB hr hp ha;obtain⟨hc,IG⟩:=wB;obtain⟨g1,g2,g3⟩:=su hc;obtain⟨k1,k2,k3,k4⟩:=pf hc;have hd:0≤gW c:=by unfold gW;split<;>omega
  have aeP:a≤(late c a).dep:=by show a≤if a+gW c>c.dep then a+gW c else c.dep;split<;>omega
  have hcd:c.dep≤(late c a).dep:=by show c.dep≤if a+gW c>c.dep then a+gW c else c.dep;split<;>omega
  unfold gv at hr;by_cases ur:(late c a).dep>gV
  ·rw[if_pos ur]at hr;cases hr
  ·rw[if_neg ur]at hr;have hE:lh (late c a) p n 0 gV=0:=Cp g1 g2 g3 ha aeP (by omega) hp;cases cs with
   |nil=>simp only[Option.some.injEq]at hr;subst hr;exact⟨⟨hE,trivial⟩,rfl⟩
   |cons d ds=>
    simp only[Option.map_eq_some_iff]at hr;obtain⟨r',qL,rfl⟩:=hr;obtain⟨hdE,Zh⟩:=IG;obtain⟨d1,d2,d3,d4⟩:=pf hdE;obtain⟨e1,e2,e3⟩:=su hdE;have hdc:=d4 c rfl;have aeQ:F2 n 0 gV (some (late c a)) (d::ds)→F2 n 0 gV (some (late c a)) r'∧r'.map av.stop=(d::ds).map av.stop:=fun hh=>ih _ _ r' hh qL (fun q hq=>by cases hq;omega) (by omega);by_cases ab5:(late c a).dep≤d.arr
    ·obtain⟨i1,i2⟩:=aeQ ⟨Cp e1 e2 (fun q hq=>by cases hq;exact e3 c rfl) d2 d1 d3 (fun q hq=>by cases hq;exact ab5),Zh⟩;exact⟨⟨hE,i1⟩,by simp only[List.map_cons,i2];rfl⟩
    ·obtain⟨i1,i2⟩:=ih (d.arr+(late c a).dep-c.dep) (some c) r' ⟨hdE,Zh⟩ qL (fun q hq=>by cases hq;omega) (by omega);refine⟨⟨hE,?_⟩,by simp only[List.map_cons,i2];rfl⟩;cases r' with
     |nil=>trivial
     |cons x xs=>
      obtain⟨j1,j2⟩:=i1;obtain⟨f1,f2,f3⟩:=su j1;obtain⟨t1,t2,t3,t4⟩:=pf j1;refine⟨Cp f1 f2 (fun q hq=>by cases hq;exact f3 c rfl) t2 t1 t3 (fun q hq=>?_),j2⟩;cases hq;have hx:x.arr=d.arr+(late c a).dep-c.dep:=by
       unfold gv at qL;by_cases pB:(late d (d.arr+(late c a).dep-c.dep)).dep>gV
       ·rw[if_pos pB]at qL;cases qL
       ·rw[if_neg pB]at qL;cases ds with
        |nil=>simp only[Option.some.injEq,List.cons.injEq]at qL;rw[←qL.1];rfl
        |cons d2 ds2=>simp only[Option.map_eq_some_iff,List.cons.injEq]at qL;obtain⟨_,_,h1,_⟩:=qL;rw[←h1];rfl
      omega
theorem U9{l r:List av}{n:Int}{at_ bM:Int}(h:(bk l n 0 gV).2=0)(hp:prop l at_ bM=(some r,0)):(bk r n 0 gV).2=0∧r.map av.stop=l.map av.stop:=by
 rw[uq]at h;obtain⟨h1,h2,h3⟩:=h;unfold prop at hp;by_cases ha:at_<0∨at_≥(l.length:Int)
 ·rw[if_pos ha]at hp;cases hp
 ·rw[if_neg ha]at hp;by_cases hs:bM< -43200∨bM>43200
  ·rw[if_pos hs]at hp;cases hp
  ·rw[if_neg hs]at hp;by_cases ho:uo l=false
   ·rw[if_pos ho]at hp;cases hp
   ·rw[if_neg ho]at hp;cases hl:gv (l.drop at_.toNat) (nd l at_.toNat bM)with
    |none=>rw[hl]at hp;cases hp
    |some r'=>
     rw[hl]at hp;simp only[Prod.mk.injEq,Option.some.injEq,and_true]at hp;generalize hn:at_.toNat=m at hl hp;have hm:m<l.length:=by omega
     rw[←List.take_append_drop m l,wv]at h3;obtain⟨g1,g2⟩:=h3;have hlen:(l.take m).length=m:=by simp;omega
     have Su:(if(l.take m).length=0 then(none:Option av)else(l.take m)[(l.take m).length-1]?)=iw l m:=by
      rw[hlen];cases m with
      |zero=>rfl
      |succ m=>rw[if_neg (by omega),List.getElem?_take_of_lt (by omega)];rfl
     rw[Su]at g2;have eo:∀q,iw l m=some q→0≤q.dep:=by
      intro q hq;have wB:F2 n 0 gV none l:=by rw[←List.take_append_drop m l,wv,Su];exact⟨g1,g2⟩
      cases m with
      |zero=>cases hq
      |succ m=>
       have N9:l[m]?=some q:=hq;have TA:m<l.length:=by omega
       rw[List.getElem?_eq_getElem TA]at N9;cases N9;have:=(Nv n 0 gV l none).1 wB m TA;obtain⟨z1,z2,_,_⟩:=pf this;omega
     have xb:(∀q,iw l m=some q→q.dep≤nd l m bM)∧0≤nd l m bM:=by
      unfold nd;cases hq:iw l m with
      |none=>refine⟨(fun q hq=>by cases hq),?_⟩;simp only[Option.map_none,Option.getD_none];split<;>omega
      |some q=>
       have:=eo q hq;simp only[Option.map_some,Option.getD_some];refine⟨fun q' N9=>?_,?_⟩
       ·cases N9;split<;>omega
       ·split<;>omega
     obtain⟨i1,i2⟩:=St n (l.drop m) _ _ r' g2 hl xb.1 xb.2;have UA:r'.length=l.length-m:=by have:=congrArg List.length i2;simpa using this
     rw[←hp];refine⟨?_,?_⟩
     ·rw[uq,wv,Su];refine⟨?_,?_,g1,i1⟩
      ·simp[UA];omega
      ·simp[UA];omega
     ·rw[List.map_append,i2,←List.map_append,List.take_append_drop]
def eC(m:fC):Int:=
 if wi m.source 0 7=false then 36 else if m.seq<1 then 2
 else if(!wi m.lG 0 3155932800|| !wi m.iC 0 3155932800||decide (m.lG≥m.iC))=true then 10
 else if wi m.kind 1 6=false then 35 else if eN m.dp=false then 12 else if wi m.day 0 36524=false then 11 else if m.inst<0 then 2
 else
  let uC:=decide (m.kind=1)||decide (m.kind=3)
  let uS:=decide (m.kind=1)
  let uR:=decide (m.kind=5)
  let uL:=decide (m.kind=4)||decide (m.kind=5)
  if(uC&& !wi m.call 0 31||uS&& !wi m.bM (-43200) 43200||uR&& !wi m.bh 0 63)=true then 2
  else if uL=true∧(bk m.calls 64 0 3155932800).2≠0 then(bk m.calls 64 0 3155932800).2
  else if(!uC&& !decide (m.call=0)|| !uS&& !decide (m.bM=0)|| !uR&& !decide (m.bh=0)|| !uR&&m.free|| !uL&&decide (m.calls.length>0))=true then 1 else 0
theorem Sv{m:fC}(h:eC m=0):eN m.dp=true∧(0≤m.day∧m.day≤36524)∧0≤m.inst∧1≤m.kind∧m.kind≤6:=by
 unfold eC at h;by_cases h1:wi m.source 0 7=false
 ·rw[if_pos h1]at h;cases h
 rw[if_neg h1]at h;by_cases h2:m.seq<1
 ·rw[if_pos h2]at h;cases h
 rw[if_neg h2]at h;by_cases h3:(!wi m.lG 0 3155932800|| !wi m.iC 0 3155932800||decide (m.lG≥m.iC))=true
 ·rw[if_pos h3]at h;cases h
 rw[if_neg h3]at h;by_cases h4:wi m.kind 1 6=false
 ·rw[if_pos h4]at h;cases h
 rw[if_neg h4]at h;by_cases h5:eN m.dp=false
 ·rw[if_pos h5]at h;cases h
 rw[if_neg h5]at h;by_cases h6:wi m.day 0 36524=false
 ·rw[if_pos h6]at h;cases h
 rw[if_neg h6]at h;by_cases h7:m.inst<0
 ·rw[if_pos h7]at h;cases h
 simp only[wi,Bool.and_eq_false_iff,decide_eq_false_iff_not,not_or]at h4 h6;refine⟨by simpa using h5,⟨by omega,by omega⟩,by omega,by omega,by omega⟩
def yP(m:fC):bw:=⟨-1,m.day,m.inst,m.dp,m.bh,m.free,false,m.calls⟩
def xx(l:List av)(c:Nat):List av:=match l[c]? with|some k=>l.set c {k with HD:=false,Cq:=false}|none=>l
def CV(N:ag)(m:fC):ag×Int:=
 if m.kind=5 then
  if(uk N.runs m).isSome=true then(N,6)else if m.bh<0∨m.bh≥(N.ae.length:Int)then(N,14)
  else if(bk m.calls N.stops.length 0 3155932800).2≠0 then(N,(bk m.calls N.stops.length 0 3155932800).2)
  else if N.runs.length≥1024 then(N,5)else({N with runs:=N.runs++[yP m]},0)
 else match uk N.runs m with
 |none=>(N,16)
 |some i=>match N.runs[i]? with
  |none=>(N,16)
  |some r=>
   if(m.kind=1∨m.kind=3)∧(m.call<0∨m.call≥(r.calls.length:Int))then(N,9)
   else if m.kind=1 then match prop r.calls m.call m.bM with
    |(some l,_)=>({N with runs:=N.runs.set i {r with calls:=l}},0)
    |(none,e)=>(N,e)
   else if m.kind=2 then({N with runs:=N.runs.set i {r with oZ:=true}},0)
   else if m.kind=3 then({N with runs:=N.runs.set i {r with calls:=xx r.calls m.call.toNat}},0)
   else if m.kind=4 then
    if(bk m.calls N.stops.length 0 3155932800).2≠0 then(N,(bk m.calls N.stops.length 0 3155932800).2)
    else({N with runs:=N.runs.set i {r with calls:=m.calls},ah:=N.ah.filter fun l=> !(decide (l.a=(i:Int))||decide (l.b=(i:Int)))},0)
   else(N,0)
end Go.Ab.Tt
namespace Go.Ab.Tt
set_option maxRecDepth 100000
set_option linter.unusedVariables false
set_option linter.unusedSimpArgs false
def core(c:av):Int×Int×Int:=(c.stop,c.arr,c.dep)
theorem K8{c c':av}{p p':Option av}{n a b:Int}(h:core c=core c')(hp:p.map core=p'.map core):lh c p n a b=lh c' p' n a b:=by
 simp only[core,Prod.mk.injEq]at h;obtain⟨h1,h2,h3⟩:=h;unfold lh;rw[h1,h2,h3];cases p with
 |none=>cases p' with
  |none=>rfl
  |some q=>cases hp
 |some q=>cases p' with
  |none=>cases hp
  |some q'=>simp only[Option.map_some,Option.some.injEq,core,Prod.mk.injEq]at hp;obtain⟨g1,g2,g3⟩:=hp;simp only[g1,g3]
theorem HE{n a b:Int}:∀{l l':List av}{p p':Option av},l.map core=l'.map core→p.map core=p'.map core→F2 n a b p l→F2 n a b p' l'
 |[],[],_,_,_,_,_=>trivial
 |[],_::_,_,_,h,_,_=>by cases h
 |_::_,[],_,_,h,_,_=>by cases h
 |c::cs,c'::Dk,p,p',h,hp,ho=>by simp only[List.map_cons,List.cons.injEq]at h;exact⟨by rw[←K8 h.1 hp];exact ho.1,HE (p:=some c) (p':=some c') h.2 (by simp[h.1]) ho.2⟩
variable{l':List av}
theorem Fl{n a b:Int}{l:List av}(h:l.map core=l'.map core)(hr:(bk l n a b).2=0):(bk l' n a b).2=0:=by
 rw[uq]at hr⊢;have hl:l.length=l'.length:=by simpa using congrArg List.length h
 exact⟨by omega,by omega,HE h rfl hr.2.2⟩
theorem Cr(l:List av)(c:Nat):(xx l c).map core=l.map core:=by
 unfold xx;cases hc:l[c]? with
 |none=>rfl
 |some k=>
  simp only;rw[List.map_set];apply List.ext_getElem?;intro j;rw[List.getElem?_set];split
  ·rename_i e;subst e;have br:=(List.getElem?_eq_some_iff.1 hc).1;rw[if_pos (by simpa using br),List.getElem?_map,hc];rfl
  ·rfl
theorem Po{l:List av}(h:l.map core=l'.map core):l.map av.stop=l'.map av.stop:=by
 have:∀l:List av,l.map av.stop=(l.map core).map Prod.fst:=fun l=>by rw[List.map_map];rfl
 rw[this,this,h]
theorem Cs(cs:List av)(c:Int):eY cs c=((cs.map av.stop)[c.toNat]?).getD 0:=by unfold eY;rw[List.getElem?_map]
theorem K9{cs Dk:List av}(h:Dk.map av.stop=cs.map av.stop):Dk.length=cs.length∧∀c,eY Dk c=eY cs c:=by refine⟨by simpa using congrArg List.length h,fun c=>?_⟩;rw[Cs,Cs,h]
variable{runs:List bw}{x:bw}
theorem uu{i:Nat}{r:bw}(hr:runs[i]?=some r)(h:x.calls.map av.stop=r.calls.map av.stop)(v:Int):(aB (runs.set i x) v).length=(aB runs v).length∧∀c,eY (aB (runs.set i x) v) c=eY (aB runs v) c:=by
 by_cases hv:v.toNat=i
 ·subst hv;have br:=(List.getElem?_eq_some_iff.1 hr).1;have h1:aB (runs.set v.toNat x) v=x.calls:=by unfold aB;rw[List.getElem?_set_self br];rfl
  have h2:aB runs v=r.calls:=by unfold aB;rw[hr];rfl
  rw[h1,h2];exact K9 h
 ·have h1:aB (runs.set i x) v=aB runs v:=by unfold aB;rw[List.getElem?_set_ne (fun h=>hv h.symm)]
  rw[h1];exact⟨rfl,fun _=>rfl⟩
theorem La{i:Nat}{v:Int}(hv:v.toNat≠i):aB (runs.set i x) v=aB runs v:=by unfold aB;rw[List.getElem?_set_ne (fun h=>hv h.symm)]
theorem HF{v:Int}(hv:0≤v∧v<(runs.length:Int)):aB (runs++[x]) v=aB runs v:=by unfold aB;rw[List.getElem?_append_left (by omega)]
theorem D5{l:List aG}(h:sK runs l){x:aG}(hx:x∈l):(0≤x.a∧x.a<(runs.length:Int))∧0≤x.b∧x.b<(runs.length:Int):=by obtain⟨k,hk,rfl⟩:=List.getElem_of_mem hx;have:=h k hk;rw[sr]at this;obtain⟨g1,g2,_⟩:=Co this.1;exact⟨g1,g2⟩
theorem Ct{s r:Int}(h:xw x s r=0):eN x.id=true∧(decide (x.dp< -1)||decide (x.inst<0))=false∧(decide (x.day<0)||decide (x.day>36524))=false∧(decide (x.bh<0)||decide (x.bh≥r))=false∧(bk x.calls s 0 3155932800).2=0:=by
 unfold xw at h;by_cases h1:eN x.id=false
 ·rw[if_pos h1]at h;cases h
 rw[if_neg h1]at h;by_cases h2:(decide (x.dp< -1)||decide (x.inst<0))=true
 ·rw[if_pos h2]at h;cases h
 rw[if_neg h2]at h;by_cases h3:(decide (x.day<0)||decide (x.day>36524))=true
 ·rw[if_pos h3]at h;cases h
 rw[if_neg h3]at h;by_cases h4:(decide (x.bh<0)||decide (x.bh≥r))=true
 ·rw[if_pos h4]at h;cases h
 rw[if_neg h4]at h;exact⟨by simpa using h1,by simpa using h2,by simpa using h3,by simpa using h4,h⟩
theorem HG{s r:Int}(h1:eN x.id=true)(h2:(decide (x.dp< -1)||decide (x.inst<0))=false)(h3:(decide (x.day<0)||decide (x.day>36524))=false)(h4:(decide (x.bh<0)||decide (x.bh≥r))=false)(h5:(bk x.calls s 0 3155932800).2=0):xw x s r=0:=by unfold xw;rw[if_neg (by simp[h1]),if_neg (by simp[h2]),if_neg (by simp[h3]),if_neg (by simp[h4])];exact h5
theorem AA{N:ag}(h:(dS N).2.2=0){i:Nat}{r:bw}(hr:N.runs[i]?=some r)(hk:aU x=aU r)(ht:x.dp=r.dp)(mh:x.bh=r.bh)(hc:(bk x.calls N.stops.length 0 3155932800).2=0){l:List aG}(hl:l.length≤1024)(hg:sK (N.runs.set i x) l):(dS {N with runs:=N.runs.set i x,ah:=l}).2.2=0:=by
 rw[mP]at h⊢;obtain⟨g1,g2,g3,g4,g5,g6⟩:=h;have hi:=(List.getElem?_eq_some_iff.1 hr).1;have hri:N.runs[i]=r:=(List.getElem?_eq_some_iff.1 hr).2;have hE:=((nI _ _ _).1 g3).2 i hi;rw[hri]at hE;obtain⟨e1,e2,e3,e4,e5⟩:=Ct hE.1;simp only[aU,Prod.mk.injEq]at hk;refine⟨g1,g2,?_,(qJ _ _).2 ⟨hl,hg⟩,g5,g6⟩;refine Sr hi (by rw[hri];simp[aU,hk]) (HG ?_ ?_ ?_ ?_ hc) g3
 ·rw[hk.1];exact e1
 ·rw[ht,hk.2.2];exact e2
 ·rw[hk.2.1];exact e3
 ·rw[mh];exact e4
theorem Pp(N:ag)(m:fC)(h:(dS N).2.2=0)(hm:eC m=0)(he:(CV N m).2=0):(dS (CV N m).1).2.2=0:=by
 obtain⟨m1,m2,m3,m4,m5⟩:=Sv hm;have hz:=(mP N).1 h;obtain⟨g1,g2,g3,g4,g5,g6⟩:=hz;obtain⟨l1,l2⟩:=(qJ _ _).1 g4;have ab6:=(nI _ _ _).1 g3;unfold CV at he⊢;by_cases k5:m.kind=5
 ·rw[if_pos k5]at he⊢;by_cases t1:(uk N.runs m).isSome=true
  ·rw[if_pos t1]at he;cases he
  rw[if_neg t1]at he⊢;by_cases t2:m.bh<0∨m.bh≥(N.ae.length:Int)
  ·rw[if_pos t2]at he;cases he
  rw[if_neg t2]at he⊢;by_cases t3:(bk m.calls N.stops.length 0 3155932800).2≠0
  ·rw[if_pos t3]at he;exact absurd he t3
  rw[if_neg t3]at he⊢;by_cases t4:N.runs.length≥1024
  ·rw[if_pos t4]at he;cases he
  rw[if_neg t4]at he⊢;rw[mP];have Rp:uk N.runs m=none:=by
   cases hx:uk N.runs m with
   |none=>rfl
   |some k=>rw[hx]at t1;exact absurd rfl t1
  refine⟨g1,g2,Ss (Sq Rp) (HG m1 (by show(decide ((-1:Int)< -1)||decide (m.inst<0))=false;simp;omega) (by show(decide (m.day<0)||decide (m.day>36524))=false;simp;omega) (by show(decide (m.bh<0)||decide (m.bh≥(N.ae.length:Int)))=false;simp;omega) (Decidable.of_not_not t3)) (by omega) g3,(qJ _ _).2 ⟨l1,po l2 (by simp) fun x hx v hv=>?_⟩,g5,g6⟩;obtain⟨b1,b2⟩:=D5 l2 hx;have:0≤v∧v<(N.runs.length:Int):=by
   rcases hv with rfl|rfl
   ·exact b1
   ·exact b2
  rw[HF this];exact⟨rfl,fun _=>rfl⟩
 ·rw[if_neg k5]at he⊢;cases ht:uk N.runs m with
  |none=>rw[ht]at he;cases he
  |some i=>
   obtain⟨hi,nE,_⟩:=lH ht;have hr:N.runs[i]?=some N.runs[i]:=List.getElem?_eq_getElem hi;rw[ht]at he;simp only[hr]at he⊢;have Lb:=(Ct (ab6.2 i hi).1).2.2.2.2;have hlen:(N.runs.set i N.runs[i]).length=N.runs.length:=by simp
   by_cases t1:(m.kind=1∨m.kind=3)∧(m.call<0∨m.call≥(N.runs[i].calls.length:Int))
   ·rw[if_pos t1]at he;cases he
   rw[if_neg t1]at he⊢;by_cases k1:m.kind=1
   ·rw[if_pos k1]at he⊢;cases hp:prop N.runs[i].calls m.call m.bM with
    |mk o e=>
     rw[hp]at he;cases o with
     |none=>
      simp only at he;unfold prop at hp;subst he;split at hp
      ·cases hp
      ·split at hp
       ·cases hp
       ·split at hp
        ·cases hp
        ·split at hp
         ·cases hp
         ·cases hp
     |some l=>
      have CF:e=0:=by
       unfold prop at hp;split at hp
       ·cases hp
       ·split at hp
        ·cases hp
        ·split at hp
         ·cases hp
         ·split at hp
          ·simp only[Prod.mk.injEq]at hp;exact hp.2.symm
          ·cases hp
      subst CF;obtain⟨p1,p2⟩:=U9 Lb hp;simp only;exact AA (x:={N.runs[i]with calls:=l}) (l:=N.ah) h hr rfl rfl rfl p1 l1 (po l2 (by simp) fun x hx v _=>uu hr p2 v)
   ·rw[if_neg k1]at he⊢;by_cases k2:m.kind=2
    ·rw[if_pos k2];exact AA (x:={N.runs[i]with oZ:=true}) (l:=N.ah) h hr rfl rfl rfl Lb l1 (po l2 (by simp) fun x hx v _=>uu (x:={N.runs[i]with oZ:=true}) hr rfl v)
    ·rw[if_neg k2]at he⊢;by_cases k3:m.kind=3
     ·rw[if_pos k3];exact AA (x:={N.runs[i]with calls:=xx N.runs[i].calls m.call.toNat}) (l:=N.ah) h hr rfl rfl rfl (Fl (Cr _ _).symm Lb) l1 (po l2 (by simp) fun x hx v _=>uu hr (Po (Cr _ _)) v)
     ·rw[if_neg k3]at he⊢;by_cases k4:m.kind=4
      ·rw[if_pos k4]at he⊢;by_cases t3:(bk m.calls N.stops.length 0 3155932800).2≠0
       ·rw[if_pos t3]at he;exact absurd he t3
       rw[if_neg t3]at he⊢;refine AA (x:={N.runs[i]with calls:=m.calls}) h hr rfl rfl rfl (Decidable.of_not_not t3) (Nat.le_trans (List.length_filter_le _ _) l1) (Fk _ _ l2 (by simp) fun x hx hf v hv=>?_);simp only[Bool.not_eq_true',Bool.or_eq_false_iff,decide_eq_false_iff_not]at hf;obtain⟨b1,b2⟩:=D5 l2 hx;have cS:v.toNat≠i:=by
        rcases hv with rfl|rfl
        ·intro hc;apply hf.1;omega
        ·intro hc;apply hf.2;omega
       rw[La cS];exact⟨rfl,fun _=>rfl⟩
      ·rw[if_neg k4];exact h
end Go.Ab.Tt
namespace Go.Ab.Tt
set_option maxRecDepth 100000
set_option linter.unusedVariables false
set_option linter.unusedSimpArgs false
theorem Fm(x:fC):asAgg 13 x.pv=some ():=rfl
theorem Fo(x:fC):cell x.pv 0=.int .i64 x.source:=rfl
theorem Fq(x:fC):cell x.pv 1=.int .i64 x.seq:=rfl
theorem Fs(x:fC):cell x.pv 2=.int .i64 x.lG:=rfl
theorem Ft(x:fC):cell x.pv 3=.int .i64 x.iC:=rfl
theorem Fu(x:fC):cell x.pv 4=.int .i64 x.kind:=rfl
theorem Fv(x:fC):cell x.pv 5=.str x.dp:=rfl
theorem Fx(x:fC):cell x.pv 6=.int .i64 x.day:=rfl
theorem Fy(x:fC):cell x.pv 7=.int .i64 x.inst:=rfl
theorem Fz(x:fC):cell x.pv 8=.int .i64 x.call:=rfl
theorem FA(x:fC):cell x.pv 9=.int .i64 x.bM:=rfl
theorem xy(x:fC):cell x.pv 10=.int .i64 x.bh:=rfl
theorem xz(x:fC):cell x.pv 11=.bool x.free:=rfl
theorem D6(x:fC):cell x.pv 12=.rs 5 (x.calls.map av.pv):=rfl
theorem Va(x:fC):PV.agg [.int .i64 x.source,.int .i64 x.seq,.int .i64 x.lG,.int .i64 x.iC,.int .i64 x.kind,.str x.dp,.int .i64 x.day,.int .i64 x.inst,.int .i64 x.call,.int .i64 x.bM,.int .i64 x.bh,.bool x.free,.rs 5 (x.calls.map av.pv)]=x.pv:=rfl
theorem Cu(n a b:Int):bG [.int .i64 n,.int .i64 a,.int .i64 b]=some (.bool (wi n a b)):=by simp only[bG,oL,asInt,if_true,U,dw];rfl
theorem Vb(n:Int):gJ [.int .i64 n]=some (.bool (wi n 0 36524)):=by simp only[gJ,wa,asInt,if_true,U,dw];rfl
def xA(k:Int):PV:=.agg [.bool (decide (k=1)||decide (k=3)),.bool (decide (k=1)),.bool (decide (k=5)),.bool (decide (k=5)),.bool (decide (k=4)||decide (k=5))]
theorem Vc(k:Int):fm [.int .i64 k]=some (xA k):=by
 simp only[fm,sj,asInt,if_true,U,eW];unfold xA;by_cases h1:k=1
 ·subst h1;rfl
 ·by_cases h3:k=3
  ·subst h3;rfl
  ·by_cases h4:k=4
   ·subst h4;rfl
   ·by_cases h5:k=5
    ·subst h5;rfl
    ·simp[h1,h3,h4,h5]
theorem ab7(k:Int):asAgg 5 (xA k)=some ():=rfl
theorem aeR(k:Int):cell (xA k) 0=.bool (decide (k=1)||decide (k=3)):=rfl
theorem aeS(k:Int):cell (xA k) 1=.bool (decide (k=1)):=rfl
theorem aeT(k:Int):cell (xA k) 2=.bool (decide (k=5)):=rfl
theorem aeU(k:Int):cell (xA k) 3=.bool (decide (k=5)):=rfl
theorem aeV(k:Int):cell (xA k) 4=.bool (decide (k=4)||decide (k=5)):=rfl
theorem Vd(n:Nat):decide ((n:Int)>0)=decide (n>0):=by rw[Bool.eq_iff_iff];simp only[decide_eq_true_eq];omega
theorem HH(m:fC)(h:m.Ok):cM [m.pv]=some (.int .i64 (eC m)):=by
 have hid:=tV m.dp h.dp;have gz:=nS m.calls 64 0 3155932800 h.calls.1;simp only[res]at gz;simp only[cM,mq,Fm,Fo,Fq,Fs,Ft,Fu,Fv,Fx,Fy,Fz,FA,xy,xz,D6,U,Cu,Vb,Vc,ab7,asInt,bt,ab,if_true,asBool,hid,bn,Va];unfold eC;simp only[decide_eq_true_eq];cases wi m.source 0 7 with
 |false=>rfl
 |true=>
  by_cases h2:m.seq<1
  ·simp only[h2,if_true,Bool.not_true,Bool.false_eq_true,Bool.true_eq_false,if_false]
  simp only[h2,if_true,Bool.not_true,Bool.false_eq_true,Bool.true_eq_false,if_false];cases(!wi m.lG 0 3155932800|| !wi m.iC 0 3155932800||decide (m.lG≥m.iC))with
  |true=>rfl
  |false=>
   cases wi m.kind 1 6 with
   |false=>rfl
   |true=>
    cases eN m.dp with
    |false=>rfl
    |true=>
     cases wi m.day 0 36524 with
     |false=>rfl
     |true=>
      by_cases h7:m.inst<0
      ·simp only[h7,if_true,Bool.not_true,Bool.false_eq_true,Bool.true_eq_false,if_false]
      simp only[h7,if_true,Bool.not_true,Bool.false_eq_true,Bool.true_eq_false,if_false];have e0:PV.agg [cell (xA m.kind) 0,cell (xA m.kind) 1,cell (xA m.kind) 2,cell (xA m.kind) 3,cell (xA m.kind) 4]=xA m.kind:=rfl;rw[e0];simp only[dV,kY,Fm,Fo,Fq,Fs,Ft,Fu,Fv,Fx,Fy,Fz,FA,xy,xz,D6,U,ab7,aeR,aeS,aeT,aeU,aeV,Cu,asBool,gz,bW,List.length_cons,List.length_nil,Nat.reduceAdd,if_true,List.getD_cons_zero,List.getD_cons_succ,asInt,bt,ab,bn,dw,kC,List.length_map,Vd];generalize (decide (m.kind=1)||decide (m.kind=3))=uC;generalize decide (m.kind=1)=uS;generalize decide (m.kind=5)=uR;generalize (decide (m.kind=4)||uR)=uL;generalize (bk m.calls 64 0 3155932800).2=e;cases(uC&& !wi m.call 0 31||uS&& !wi m.bM (-43200) 43200||uR&& !wi m.bh 0 63)with
      |true=>rfl
      |false=>
       cases uL with
       |true=>
        by_cases he:e=0
        ·subst he;cases(!uC&& !decide (m.call=0)|| !uS&& !decide (m.bM=0)|| !uR&& !decide (m.bh=0)|| !uR&&m.free|| !true&&decide (m.calls.length>0))<;>rfl
        ·simp[he]
       |false=>cases(!uC&& !decide (m.call=0)|| !uS&& !decide (m.bM=0)|| !uR&& !decide (m.bh=0)|| !uR&&m.free|| !false&&decide (m.calls.length>0))<;>rfl
end Go.Ab.Tt
namespace Go.Ab.Tt
set_option maxRecDepth 100000
set_option linter.unusedVariables false
set_option linter.unusedSimpArgs false
theorem Sw{R:Type}(l:List bw)(m:fC)(g:Nat→R)(fin:Option R):c8 ((List.range l.length).findSome? fun k=>if decide ((l.map aU)[k]?=some m.key)=true then some (some (g k))else none) fin=(match uk l m with|some k=>some (g k)|none=>fin):=by rw[pU (fun k=>decide ((l.map aU)[k]?=some m.key)) (fun k=>some (g k))];unfold uk;cases(List.range l.length).find? (fun k=>decide ((l.map aU)[k]?=some m.key))<;>rfl
theorem Ve(l:List bw)(m:fC)(k:Nat)(hk:k<l.length):decide ((l.map aU)[k]?=some m.key)=(decide (l[k].id=m.dp)&&decide (l[k].day=m.day)&&decide (l[k].inst=m.inst)):=by rw[Bool.eq_iff_iff];simp[List.getElem?_eq_getElem hk,aU,fC.key,and_assoc]
def HI(l:List bw)(m:fC):PV:=match uk l m with|some k=>.bm [.int .i64 k,.bool true]|none=>.bm [.int .i64 0,.bool false]
theorem uv(N:ag)(m:fC)(hr:N.runs.length≤maxLen):bH [N.pv,m.pv]=some (HI N.runs m):=by
 have hm:=aW;simp only[bH,kX,pD,rn,rq,rr,ru,ry,rz,rA,rB,rC,U];simp only[Fm,Fo,Fq,Fs,Ft,Fu,Fv,Fx,Fy,Fz,FA,xy,xz,D6,U,asInt,bt,ab,if_true,asBool,List.length_map];generalize N.runs=l at hr⊢;have hs:=Sw l m (fun k=>PV.bm [.int .i64 k,.bool true]) (some (PV.bm [.int .i64 0,.bool false]));have hR:(match uk l m with|some k=>some (PV.bm [.int .i64 k,.bool true])|none=>some (PV.bm [.int .i64 0,.bool false]))=some (HI l m):=by unfold HI;cases uk l m<;>rfl
 rw[←hR,←hs];refine aX (fun k=>(l.map bw.pv,(l.length:Int),(k:Int),m.source,m.seq,m.lG,m.iC,m.kind,m.dp,m.day,m.inst,m.call,m.bM,m.bh,m.free,m.calls.map av.pv,())) l.length _ (fun k hk rec=>?_) (fun rec=>?_) (by have:=aR;omega) rfl
 ·have h1:decide ((k:Int)<(l.length:Int))=true:=by simp;omega
  rw[Ve l m k hk];unfold lI;dsimp only;rw[if_pos h1,ay,List.getElem?_map,List.getElem?_eq_getElem hk];simp only[Option.map_some,U,OV,OW,OX,asInt,bt,if_true,eW,dw,al (show k<9223372036854775807 by omega)];cases decide (l[k].id=m.dp)&&decide (l[k].day=m.day)&&decide (l[k].inst=m.inst)<;>rfl
 ·unfold lI;dsimp only;rw[if_neg (by simp)]
end Go.Ab.Tt
namespace Go.Ab.Tt
set_option maxRecDepth 100000
set_option linter.unusedVariables false
set_option linter.unusedSimpArgs false
theorem ab8(x:av):cell x.pv 3=.bool x.HD:=rfl
theorem ab9(x:av):cell x.pv 4=.bool x.Cq:=rfl
theorem aca(x:av):asAgg 5 x.pv=some ():=rfl
def Span(c:av):Prop:=0≤c.arr∧c.arr≤c.dep∧c.dep≤gV
variable{c:av}
theorem sw(h:Span c):0≤gW c∧gW c≤30:=by obtain⟨h1,h2,h3⟩:=h;unfold gW;split<;>omega
theorem mQ:gV=3155932800:=rfl
theorem wrap_small{x:Int}(h1: -100000000000≤x)(h2:x≤100000000000):IntKind.i64.wrap x=x:=fx (by omega) (by omega)
theorem Cv(h:Span c):e9 [c.pv]=some (.int .i64 (gW c)):=by
 have:=mQ;obtain⟨h1,h2,h3⟩:=h;simp only[e9,tI,aca,G7,zD,zF,ab8,ab9,asInt,asBool,U,if_true];rw[wrap_small (by omega) (by omega)];unfold gW;by_cases hd:c.dep-c.arr<30
 ·rw[if_neg (by omega),if_pos hd]
 ·rw[if_neg hd];by_cases he:30<c.dep-c.arr
  ·rw[if_pos he]
  ·rw[if_neg he];congr 2;omega
def zQ(l:List av)(k:Nat):Bool:=(l[k]?).elim false fun c=>decide (c.arr<((iw l k).map av.dep).getD 0)||decide (c.dep<c.arr)||decide (c.dep>gV)
theorem Pq{R:Type}(l:List av)(no fin:Option R):c8 ((List.range l.length).findSome? fun k=>if zQ l k=true then some no else none) fin=if uo l=true then fin else no:=by
 rw[pU (zQ l) (fun _=>no)];by_cases h:uo l=true
 ·rw[if_pos h];have:(List.range l.length).find? (zQ l)=none:=by rw[List.find?_eq_none];intro k hk;have:=List.all_eq_true.1 h k hk;rw[List.mem_range]at hk;simp only[List.getElem?_eq_getElem hk,Option.elim_some]at this;simp only[zQ,List.getElem?_eq_getElem hk,Option.elim_some];simpa using this
  rw[this];rfl
 ·rw[if_neg h];cases hf:(List.range l.length).find? (zQ l)with
  |some k=>rfl
  |none=>exfalso;apply h;unfold uo;rw[List.all_eq_true];intro k hk;have:=List.find?_eq_none.1 hf k hk;rw[List.mem_range]at hk;simp only[zQ,List.getElem?_eq_getElem hk,Option.elim_some]at this;simp only[List.getElem?_eq_getElem hk,Option.elim_some];simpa using this
variable{l:List av}
theorem AB(h:uo l=true){k:Nat}(hk:k<l.length):((iw l k).map av.dep).getD 0≤l[k].arr∧l[k].arr≤l[k].dep∧l[k].dep≤gV:=by have:=List.all_eq_true.1 h k (List.mem_range.2 hk);simp only[List.getElem?_eq_getElem hk,Option.elim_some,Bool.not_eq_true',Bool.or_eq_false_iff,decide_eq_false_iff_not]at this;omega
theorem nV(h:uo l=true):∀k,(hk:k<l.length)→Span l[k]:=by
 intro k;induction k with
 |zero=>intro hk;obtain⟨a,b,c⟩:=AB h hk;exact⟨a,b,c⟩
 |succ k ih=>
  intro hk;obtain⟨a,b,c⟩:=AB h hk;obtain⟨x,y,z⟩:=ih (by omega);have:((iw l (k+1)).map av.dep).getD 0=(l[k]'(by omega)).dep:=by show((l[k]?).map av.dep).getD 0=_;rw[List.getElem?_eq_getElem (by omega)];rfl
  rw[this]at a;exact⟨by omega,b,c⟩
theorem xB(l:List av)(hl:l.length≤maxLen):ec [.rs 5 (l.map av.pv)]=some (.bool (uo l)):=by
 have hm:=aW;simp only[ec,qA,ab,if_true,U,List.length_map];have hs:=Pq l (some (PV.bool false)) (some (PV.bool true));have hR:(if uo l=true then some (PV.bool true)else some (PV.bool false))=some (.bool (uo l)):=by cases uo l<;>rfl
 rw[←hR,←hs];refine aX (fun k=>(((iw l k).map av.dep).getD 0,l.map av.pv,(l.length:Int),(k:Int),())) l.length _ (fun k hk rec=>?_) (fun rec=>?_) (by have:=aR;omega) rfl
 ·have h1:decide ((k:Int)<(l.length:Int))=true:=by simp;omega
  unfold mc;dsimp only;have hp:((iw l (k+1)).map av.dep).getD 0=l[k].dep:=by show((l[k]?).map av.dep).getD 0=_;rw[List.getElem?_eq_getElem hk];rfl
  rw[if_pos h1,ay,List.getElem?_map,List.getElem?_eq_getElem hk];simp only[Option.map_some,U,zD,zF,asInt,if_true,bn,al (show k<9223372036854775807 by omega),hp];have:zQ l k=(decide (l[k].arr<((iw l k).map av.dep).getD 0)||decide (l[k].dep<l[k].arr)||decide (l[k].dep>3155932800)):=by simp only[zQ,List.getElem?_eq_getElem hk,Option.elim_some];rfl
  rw[this];cases(decide (l[k].arr<((iw l k).map av.dep).getD 0)||decide (l[k].dep<l[k].arr)||decide (l[k].dep>3155932800))<;>rfl
 ·unfold mc;dsimp only;rw[if_neg (by simp)]
theorem Nx(h:uo l=true){n:Nat}(hn:n<l.length){bM:Int}(h1: -43200≤bM)(h2:bM≤43200):0≤nd l n bM∧nd l n bM≤3200000000:=by
 obtain⟨a,b,c⟩:=nV h n hn;obtain⟨x,y,z⟩:=AB h hn;have:=mQ;have hb:0≤((iw l n).map av.dep).getD 0:=by
  cases n with
  |zero=>exact Int.le_refl _
  |succ n=>show 0≤((l[n]?).map av.dep).getD 0;rw[List.getElem?_eq_getElem (by omega)];obtain⟨a,b,c⟩:=nV h n (by omega);show 0≤l[n].dep;omega
 unfold nd;rw[List.getElem?_eq_getElem hn];simp only[Option.map_some,Option.getD_some];split<;>omega
theorem zR(c d:av)(ds:List av)(a:Int):gv (c::d::ds) a=if(late c a).dep>gV then none else(gv (d::ds) (d.arr+(late c a).dep-c.dep)).map fun r=>late c a::r:=by rw[gv]
theorem D7(c:av)(a:Int):gv [c] a=if(late c a).dep>gV then none else some [late c a]:=by rw[gv]
theorem Pr(c:av)(cs:List av)(a:Int)(h:(late c a).dep>gV):gv (c::cs) a=none:=by
 cases cs with
 |nil=>rw[D7,if_pos h]
 |cons d ds=>rw[zR,if_pos h]
theorem HJ{a:Int}(h:Span c)(h0:0≤a)(h1:a≤8000000000):0≤(late c a).dep∧(late c a).dep≤8000000030:=by obtain⟨p,q⟩:=sw h;obtain⟨x,y,z⟩:=h;have:=mQ;show 0≤(if a+gW c>c.dep then a+gW c else c.dep)∧(if a+gW c>c.dep then a+gW c else c.dep)≤8000000030;split<;>omega
theorem yQ{d:av}{a:Int}(h:Span c)(hd:Span d)(hcd:c.dep≤d.arr)(h0:0≤a)(h1:¬(late c a).dep>gV):0≤d.arr+(late c a).dep-c.dep∧d.arr+(late c a).dep-c.dep≤8000000000:=by
 obtain⟨p,q⟩:=sw h;obtain⟨x,y,z⟩:=h;obtain⟨x',y',z'⟩:=hd;have:=mQ;have hh:c.dep≤(late c a).dep:=by show c.dep≤if a+gW c>c.dep then a+gW c else c.dep;split<;>omega
 omega
theorem va(h:uo l=true):∀k,(hk:k+1<l.length)→(l[k]'(by omega)).dep≤l[k+1].arr:=by
 intro k hk;obtain⟨a,b,c⟩:=AB h hk;have:((iw l (k+1)).map av.dep).getD 0=(l[k]'(by omega)).dep:=by show((l[k]?).map av.dep).getD 0=_;rw[List.getElem?_eq_getElem (by omega)];rfl
 rw[this]at a;exact a
theorem vb(l:List av)(hl:l.length≤1000000):db [.rs 5 (l.map av.pv)]=some (.rs 5 (l.map av.pv)):=by
 have hb:1000000*32≤aa:=by decide
 simp only[db,qB,ab,if_true,U,List.length_map];rw[if_pos (by refine⟨by omega,by omega,?_,by decide,by decide⟩;rw[Int.toNat_natCast];omega)];congr 2;rw[Int.toNat_natCast,List.length_replicate,List.take_of_length_le (by simp),List.drop_eq_nil_of_le (by simp),List.append_nil]
end Go.Ab.Tt
namespace Go.Ab.Tt
set_option maxRecDepth 100000
set_option linter.unusedVariables false
set_option linter.unusedSimpArgs false
theorem D8(x:bw):aY 5 (cell x.pN 7)=some (x.calls.map av.pv):=rfl
def outs(pre:List av)(l:List av)(k:Nat):List PV:=pre.map av.pv++(l.drop k).map av.pv
theorem HK(pre l:List av)(k:Nat)(hp:pre.length=k)(hk:k≤l.length):(outs pre l k).length=l.length:=by unfold outs;simp;omega
theorem HL(pre l:List av)(k:Nat)(hp:pre.length=k)(hk:k<l.length):(outs pre l k)[k]?=some l[k].pv:=by unfold outs;rw[List.getElem?_append_right (by simp;omega)];simp[hp,List.getElem?_eq_getElem hk]
theorem HM(pre l:List av)(k:Nat)(hp:pre.length=k)(hk:k<l.length)(x:av):(outs pre l k).set k x.pv=outs (pre++[x]) l (k+1):=by
 unfold outs;rw[List.set_append_right _ _ (by simp;omega)];have h0:k-(pre.map av.pv).length=0:=by simp;omega
 rw[h0,List.drop_eq_getElem_cons hk,List.map_cons,List.set_cons_zero,List.map_append,List.append_assoc];rfl
variable{S R:Type}
theorem Cw{body:S→(S→Option R)→Option R}(st:Int→Nat→List PV→S)(l:List av)(i:Nat)(err:Option R)(fin:List PV→Option R)(Ad:∀k a out rec,k<i→k<l.length→body (st a k out) rec=rec (st a (k+1) out))(th:∀k a pre rec,i≤k→(hk:k<l.length)→pre.length=k→0≤a→a≤8000000000→body (st a k (outs pre l k)) rec=if(late l[k] a).dep>gV then err else if h:k+1<l.length then rec (st (l[k+1].arr+(late l[k] a).dep-l[k].dep) (k+1) (outs (pre++[late l[k] a]) l (k+1)))else rec (st a (k+1) (outs (pre++[late l[k] a]) l (k+1))))(mV:∀a out rec,body (st a l.length out) rec=fin out)(jb:∀k,(hk:k<l.length)→Span l[k])(hor:∀k,(hk:k+1<l.length)→(l[k]'(by omega)).dep≤l[k+1].arr)(hi:i<l.length)(hl:l.length+1<rounds)(a:Int)(h0:0≤a)(h1:a≤8000000000):ca.run body (st a 0 (l.map av.pv))=match gv (l.drop i) a with|some r=>fin ((l.take i++r).map av.pv)|none=>err:=by
 rw[kO];have hA:∀k,k≤i→∀fu,cE body (k+fu) (st a (i-k) (l.map av.pv))=cE body fu (st a i (l.map av.pv)):=by
  intro k;induction k with
  |zero=>intro _ fu;rw[Nat.zero_add];rfl
  |succ k ih=>intro hk fu;rw[show k+1+fu=(k+fu)+1 by omega,cE,Ad (i-(k+1)) a _ _ (by omega) (by omega),show i-(k+1)+1=i-k by omega];exact ih (by omega) fu
 have hB:∀(j:Nat)(k:Nat)(a:Int)(pre:List av)(fu:Nat),k+j=l.length→i≤k→j<fu→0≤a→a≤8000000000→pre.length=k→cE body fu (st a k (outs pre l k))=match gv (l.drop k) a with|some r=>fin ((pre++r).map av.pv)|none=>err:=by
  intro j;induction j with
  |zero=>
   intro k a pre fu hk zL hf _ _ hp;obtain⟨fu,rfl⟩:∃f,fu=f+1:=⟨fu-1,by omega⟩;have kH:k=l.length:=by omega
   subst kH;rw[cE,mV,List.drop_length];simp[gv,outs]
  |succ j ih=>
   intro k a pre fu hk zL hf Wl ha1 hp;obtain⟨fu,rfl⟩:∃f,fu=f+1:=⟨fu-1,by omega⟩;have kH:k<l.length:=by omega
   have hc:=jb k kH;rw[cE,th k a pre _ zL kH hp Wl ha1,List.drop_eq_getElem_cons kH];by_cases ur:(late l[k] a).dep>gV
   ·rw[if_pos ur,Pr _ _ _ ur]
   ·rw[if_neg ur];by_cases hn:k+1<l.length
    ·rw[dif_pos hn];obtain⟨n0,n1⟩:=yQ hc (jb (k+1) hn) (hor k hn) Wl ur;rw[ih (k+1) _ _ fu (by omega) (by omega) (by omega) n0 n1 (by simp[hp]),List.drop_eq_getElem_cons hn,zR,if_neg ur];cases gv (l[k+1]::l.drop (k+1+1)) (l[k+1].arr+(late l[k] a).dep-l[k].dep)with
     |none=>rfl
     |some r=>simp
    ·rw[dif_neg hn];have hj:j=0:=by omega
     subst hj;obtain⟨fu,rfl⟩:∃f,fu=f+1:=⟨fu-1,by omega⟩;have Yi:k+1=l.length:=by omega
     rw[cE,List.drop_eq_nil_of_le (by omega),D7,if_neg ur];have:=mV a (outs (pre++[late l[k] a]) l (k+1)) (cE body fu);rw[←Yi]at this;rw[this];simp[outs,List.drop_eq_nil_of_le (show l.length≤k+1 by omega)]
 have e1:ca.run body (st a 0 (l.map av.pv))=cE body rounds (st a 0 (l.map av.pv)):=rfl;have e2:=hA i (Nat.le_refl _) (rounds-i);rw[Nat.sub_self,show i+(rounds-i)=rounds by omega]at e2;rw[e2];have e3:l.map av.pv=outs (l.take i) l i:=by unfold outs;rw[←List.map_append,List.take_append_drop]
 rw[e3];exact hB (l.length-i) i a (l.take i) (rounds-i) (by omega) (Nat.le_refl _) (by omega) h0 h1 (by simp;omega)
theorem Yj{body:S→(S→Option R)→Option R}(st:Nat→Nat→List PV→S)(l:List aG)(p:aG→Bool)(out:List PV→Option R)(th:∀j i x rec,(hi:i<l.length)→x.length=l.length→j≤i→x[i]?=some l[i].pv→body (st j i x) rec=if p l[i]=true then rec (st (j+1) (i+1) (x.set j l[i].pv))else rec (st j (i+1) x))(mV:∀j x rec,x.length=l.length→j≤l.length→body (st j l.length x) rec=out (x.take j)):∀n j i x fu,i+n=l.length→j≤i→x.length=l.length→x.take j=((l.take i).filter p).map aG.pv→x.drop i=(l.drop i).map aG.pv→n<fu→cE body fu (st j i x)=out ((l.filter p).map aG.pv):=by
 intro n;induction n with
 |zero=>
  intro j i x fu hi hj hx ht hd hf;obtain⟨fu,rfl⟩:∃f,fu=f+1:=⟨fu-1,by omega⟩;have:i=l.length:=by omega
  subst this;rw[cE,mV j x _ hx hj,ht,List.take_length]
 |succ n ih=>
  intro j i x fu hi hj hx ht hd hf;obtain⟨fu,rfl⟩:∃f,fu=f+1:=⟨fu-1,by omega⟩;have P1:i<l.length:=by omega
  have eI:x[i]?=some l[i].pv:=by have:=congrArg (fun y=>y[0]?) hd;simpa[List.getElem?_drop,P1]using this
  have MD:x.drop (i+1)=(l.drop (i+1)).map aG.pv:=by rw[←List.drop_drop,hd,←List.map_drop,List.drop_drop]
  rw[cE,th j i x _ P1 hx hj eI];by_cases hp:p l[i]=true
  ·rw[if_pos hp];refine ih (j+1) (i+1) _ fu (by omega) (by omega) (by rw[List.length_set,hx]) ?_ ?_ (by omega)
   ·rw[List.take_succ_eq_append_getElem P1,List.filter_append,List.map_append,←ht];simp only[List.filter_cons,hp,if_true,List.filter_nil,List.map_cons,List.map_nil];have xJ:j<(x.set j l[i].pv).length:=by rw[List.length_set];omega
    rw[List.take_succ_eq_append_getElem xJ,List.getElem_set_self,List.take_set_of_le (Nat.le_refl j)]
   ·rw[List.drop_set_of_lt (by omega),MD]
  ·rw[if_neg hp];refine ih j (i+1) x fu (by omega) (by omega) hx ?_ MD (by omega);rw[List.take_succ_eq_append_getElem P1,List.filter_append,List.map_append,←ht];simp[hp]
theorem Sx{S':Type}{body:S→(S→Option R)→Option R}{body3:S'→(S'→Option R)→Option R}(st:Nat→S)(Zm:Nat→Nat→List PV→S')(l:List aG)(p:aG→Bool)(out:List PV→Option R)(Yk:∀j i x rec,(hi:i<l.length)→x.length=l.length→j≤i→x[i]?=some l[i].pv→body3 (Zm j i x) rec=if p l[i]=true then rec (Zm (j+1) (i+1) (x.set j l[i].pv))else rec (Zm j (i+1) x))(acb:∀j x rec,x.length=l.length→j≤l.length→body3 (Zm j l.length x) rec=out (x.take j))(th:∀k rec,(hk:k<l.length)→body (st k) rec=if p l[k]=true then rec (st (k+1))else ca.run body3 (Zm k (k+1) (l.map aG.pv)))(mV:∀rec,body (st l.length) rec=out (l.map aG.pv))(hl:l.length+1<rounds):ca.run body (st 0)=out ((l.filter p).map aG.pv):=by
 have:∀n k fu,k+n=l.length→n<fu→(l.take k).filter p=l.take k→cE body fu (st k)=out ((l.filter p).map aG.pv):=by
  intro n;induction n with
  |zero=>
   intro k fu hk hf ht;obtain⟨fu,rfl⟩:∃f,fu=f+1:=⟨fu-1,by omega⟩;have:k=l.length:=by omega
   subst this;rw[List.take_length]at ht;rw[cE,mV,ht]
  |succ n ih=>
   intro k fu hk hf ht;obtain⟨fu,rfl⟩:∃f,fu=f+1:=⟨fu-1,by omega⟩;have kH:k<l.length:=by omega
   rw[cE,th k _ kH];by_cases hp:p l[k]=true
   ·rw[if_pos hp];refine ih (k+1) fu (by omega) (by omega) ?_;rw[List.take_succ_eq_append_getElem kH,List.filter_append,ht];simp[hp]
   ·rw[if_neg hp,kO];refine Yj Zm l p out Yk acb (l.length-(k+1)) k (k+1) _ rounds (by omega) (by omega) (by simp) ?_ (by rw[List.map_drop]) (by omega);rw[List.take_succ_eq_append_getElem kH,List.filter_append,ht,←List.map_take];simp[hp]
 rw[kO];exact this l.length 0 rounds (by omega) (by omega) (by simp)
structure IJ(N:ag):Prop where
 ok:N.Ok
 stops:N.stops.length≤1000
 ae:N.ae.length≤1000
 runs:N.runs.length≤100
 ah:N.ah.length≤1000
 paths:N.paths.length≤1000
 aq:N.aq.length≤1000
 calls:∀r∈N.runs,r.calls.length≤1000
def z9:PV:=.agg [.rs 0 [],.rs 0 [],.rs 0 [],.rs 0 [],.rs 0 [],.rs 0 [],.int .i64 0,.int .i64 0,.int .i64 0]
theorem Sy(N:ag)(h:N.Ok)(hp:N.paths.length≤4096):jH [N.pv]=some (.bool (decide ((dS N).2.2=0))):=by have hc:=O5 N h hp;simp only[jH,tQ,pD,rn,rq,rr,ru,ry,rz,rA,rB,rC,U,yA,hc];simp only[fX,bW,List.length_cons,List.length_nil,Nat.reduceAdd,if_true,List.getD_cons_zero,List.getD_cons_succ,asInt,U,zH]
end Go.Ab.Tt
namespace Go.Ab.Tt
set_option maxRecDepth 100000
set_option linter.unusedVariables false
set_option linter.unusedSimpArgs false
def aPV(N:ag)(m:fC):PV:=if(CV N m).2=0 then .bm [(CV N m).1.pv,.int .i64 0]else .bm [z9,.int .i64 (CV N m).2]
def Cx(N:ag)(m:fC):PV:=if(dS N).2.2=0 then(if eC m=0 then aPV N m else .bm [z9,.int .i64 (eC m)])else .bm [z9,.int .i64 21]
def Sz(N:ag)(m:fC)(k:Nat):=((N.runs.length:Int),(k:Int),N.stops.map Stop.pv,N.ae.map au.pv,N.runs.map bw.pv,N.ah.map aG.pv,N.paths.map Path.pv,N.aq.map aQ.pv,N.aN,N.within,N.cap,(0:Int),(0:Int),(0:Int),N.aq.map aQ.pv,N.aN,N.within,N.cap,m.source,m.seq,m.lG,m.iC,m.kind,m.dp,m.day,m.inst,m.call,m.bM,m.bh,m.free,m.calls.map av.pv,(0:Int),(0:Int),(0:Int),N.stops.map Stop.pv,N.ae.map au.pv,mix bw.pN bw.pv N.runs k,N.ah.map aG.pv,N.paths.map Path.pv,())
theorem Ps(l:List bw):(mix bw.pN bw.pv l l.length).map PV.strip=l.map bw.pv:=by rw[E5,kj]
theorem uw{e:Int}{x y:Option PV}:(if(e !=0)=true then x else y)=if e=0 then y else x:=by by_cases h:e=0<;>simp[h]
theorem qf(l:List bw)(i:Nat)(hi:i<l.length):(l.map bw.pN)[i]?=some l[i].pN:=by simp[hi]
theorem SA(l:List bw)(i:Nat)(hi:i<l.length):af (i:Int) (l.map bw.pN).length:=by rw[List.length_map];exact⟨by omega,by omega⟩
theorem sx(x:bw)(l:List av):PV.agg [.int .i64 x.dp,.int .i64 x.day,.int .i64 x.inst,.str x.id,.int .i64 x.bh,.bool x.free,.bool x.oZ,.fP 5 (l.map av.pv)]=({x with calls:=l}:bw).pN:=rfl
theorem D9(n:Int):Ab.asInt .i64 (.int .i64 n)=some n:=rfl
theorem Ny(x:av):PV.agg [cell x.pv 0,cell x.pv 1,cell x.pv 2,cell x.pv 3,cell x.pv 4]=x.pv:=rfl
theorem kI1(x:av):Ab.asInt .i64 (cell x.pv 1)=some x.arr:=rfl
theorem kI2(x:av):Ab.asInt .i64 (cell x.pv 2)=some x.dep:=rfl
theorem Wm(x:av)(a:Int):PV.agg (cell x.pv 0::.int .i64 a::over [] [cell x.pv 2,cell x.pv 3,cell x.pv 4])=({x with arr:=a}:av).pv:=rfl
theorem Wn(x:av)(d:Int):PV.agg (cell x.pv 0::cell x.pv 1::.int .i64 d::over [] [cell x.pv 3,cell x.pv 4])=({x with dep:=d}:av).pv:=rfl
theorem Wo(c:av)(a:Int):(if a+gW c>c.dep then a+gW c else c.dep)=(late c a).dep:=by cases c;exact id rfl
theorem Nz(c:av)(a:Int):av.mk c.stop a (late c a).dep c.HD c.Cq=late c a:=rfl
theorem Vf(x:bw)(l:List PV):(if(8:Nat)=1 then PV.fP 5 l else .agg (cell x.pN 0::cell x.pN 1::cell x.pN 2::cell x.pN 3::cell x.pN 4::cell x.pN 5::cell x.pN 6::.fP 5 l::over [] []))=.agg [.int .i64 x.dp,.int .i64 x.day,.int .i64 x.inst,.str x.id,.int .i64 x.bh,.bool x.free,.bool x.oZ,.fP 5 l]:=rfl
theorem Wp(x:bw):PV.agg (cell x.pN 0::cell x.pN 1::cell x.pN 2::cell x.pN 3::cell x.pN 4::cell x.pN 5::.bool true::over [] [cell x.pN 7])=({x with oZ:=true}:bw).pN:=rfl
theorem yR(l:List bw)(i:Nat)(x:bw):((l.map bw.pN).set i x.pN).map PV.strip=(l.set i x).map bw.pv:=by rw[←List.map_set,kj]
theorem HN{A:Type}(l:List A)(k:Nat)(x:A)(h:k<l.length):(l.set k x)[k]?=some x:=by simp[h]
theorem il(k n:Nat)(h:k<n):af (k:Int) n:=⟨by omega,by omega⟩
def Lc(N:ag)(i c:Nat)(a:Int)(k:Nat)(out:List PV):=((i:Int),(c:Int),a,((N.runs[i]?).elim 0 fun r=>(r.calls.length:Int)),(k:Int),(i:Int),N.runs.map bw.pN,out,N.aN,N.within,N.cap,(0:Int),(0:Int),(0:Int),N.stops.map Stop.pv,N.ae.map au.pv,N.ah.map aG.pv,N.paths.map Path.pv,N.aq.map aQ.pv,())
def FB(N:ag)(i:Nat)(l:List av):ag:=match N.runs[i]? with|some r=>{N with runs:=N.runs.set i {r with calls:=l}}|none=>N
theorem SB(N:ag)(h:IJ N)(i c:Nat)(hi:i<N.runs.length)(hc:c<N.runs[i].calls.length)(ho:uo N.runs[i].calls=true)(a:Int)(h0:0≤a)(h1:a≤8000000000):ca.run dG (Lc N i c a 0 (N.runs[i].calls.map av.pv))=match gv (N.runs[i].calls.drop c) a with|some r=>some (.bm [(FB N i (N.runs[i].calls.take c++r)).pv,.int .i64 0])|none=>some (.bm [z9,.int .i64 10]):=by
 have hlen:=h.calls N.runs[i] (List.getElem_mem hi);have Zn:1003<rounds:=by decide
 have jb:=nV ho;refine(Cw (Lc N i c) N.runs[i].calls c (some (.bm [z9,.int .i64 10])) (fun out=>some (.bm [.agg [.rs 4 (N.stops.map Stop.pv),.rs 3 (N.ae.map au.pv),.rs 8 (((N.runs.map bw.pN).set i (.agg [.int .i64 N.runs[i].dp,.int .i64 N.runs[i].day,.int .i64 N.runs[i].inst,.str N.runs[i].id,.int .i64 N.runs[i].bh,.bool N.runs[i].free,.bool N.runs[i].oZ,.fP 5 out])).map PV.strip),.rs 5 (N.ah.map aG.pv),.rs 4 (N.paths.map Path.pv),.rs 6 (N.aq.map aQ.pv),.int .i64 N.aN,.int .i64 N.within,.int .i64 N.cap],.int .i64 0])) (fun k a out rec hk kH=>?_) (fun k a pre rec hk kH hp Wl ha1=>?_) (fun a out rec=>?_) jb (va ho) hc (by omega) a h0 h1).trans ?_
 ·unfold Lc dG;dsimp only;rw[List.getElem?_eq_getElem hi,Option.elim_some,if_pos (by rw[decide_eq_true_eq];omega),if_pos (by rw[decide_eq_true_eq];omega),al (by omega),Int.toNat_natCast]
 ·obtain⟨d0,d1⟩:=sw (jb k kH);obtain⟨s0,s1,s2⟩:=jb k kH;have hlm:=mQ;have Zc:=HK pre N.runs[i].calls k hp (by omega);have W7:∀x,((outs pre N.runs[i].calls k).set k x).length=N.runs[i].calls.length:=fun x=>by rw[List.length_set,Zc]
  unfold Lc dG;dsimp only;rw[List.getElem?_eq_getElem hi,Option.elim_some,if_pos (by rw[decide_eq_true_eq];omega),if_neg (by rw[decide_eq_true_eq];omega)];simp only[Int.toNat_natCast,qf _ _ hi,U,D8,List.length_map,il k _ kH,if_true,List.getElem?_map,List.getElem?_eq_getElem kH,Option.map_some,Zc,HL pre _ k hp kH,kI2,Ny,Cv (jb k kH),D9,Wm,Wn,W7,HN _ _ _ (show k<(outs pre N.runs[i].calls k).length by omega),List.set_set,wrap_small (show-100000000000≤a+gW N.runs[i].calls[k] by omega) (show a+gW N.runs[i].calls[k]≤100000000000 by omega),Wo,Nz,al (show k<9223372036854775807 by omega),HM pre _ k hp kH,decide_eq_true_eq];have eo:=HJ (jb k kH) Wl ha1;by_cases ur:(late N.runs[i].calls[k] a).dep>gV
  ·rw[if_pos (show(late N.runs[i].calls[k] a).dep>3155932800 by omega),if_pos ur];rfl
  ·rw[if_neg (show¬(late N.runs[i].calls[k] a).dep>3155932800 by omega),if_neg ur];by_cases hn:k+1<N.runs[i].calls.length
   ·obtain⟨n0,n1⟩:=yQ (jb k kH) (jb (k+1) hn) (va ho k hn) Wl ur;obtain⟨t0,t1,t2⟩:=jb (k+1) hn;rw[if_pos (by omega),dif_pos hn,if_pos (il _ _ hn),List.getElem?_eq_getElem hn];simp only[Option.map_some,U,kI1];rw[wrap_small (x:=N.runs[i].calls[k+1].arr+(late N.runs[i].calls[k] a).dep) (by omega) (by omega),wrap_small (by omega) (by omega)]
   ·rw[if_neg (by omega),dif_neg hn]
 ·unfold Lc dG;dsimp only;rw[List.getElem?_eq_getElem hi,Option.elim_some,if_neg (by simp)];simp only[Int.toNat_natCast,qf _ _ hi,U,SA _ _ hi,if_true,Vf]
 ·cases gv (N.runs[i].calls.drop c) a with
  |none=>rfl
  |some r=>simp only[sx,yR];simp only[FB,List.getElem?_eq_getElem hi];rfl
theorem FC(x:aG):PV.agg [cell x.pv 0,cell x.pv 1,cell x.pv 2,cell x.pv 3,cell x.pv 4]=x.pv:=rfl
def FD(i:Nat)(l:aG):Bool:= !(decide (l.a=(i:Int))||decide (l.b=(i:Int)))
theorem vc(x:aG)(i:Nat):bP [x.pv,.rp [.int .i64 i]]=some (.bool (!FD i x)):=by have hA:asAgg 5 x.pv=some ():=rfl;simp only[bP,k9,hA,DM,M0,link2,M1,Ha,asInt,asBool,if_true,U,bn,eW,FD,Bool.not_not]
def Yl(N:ag)(i:Nat)(runs:List PV)(j k:Nat)(x:List PV):=((j:Int),(k:Int),x,(i:Int),N.aN,N.within,N.cap,(0:Int),(0:Int),(0:Int),N.stops.map Stop.pv,N.ae.map au.pv,runs,N.paths.map Path.pv,N.aq.map aQ.pv,())
def NA(N:ag)(runs:List PV)(x:List PV):Option PV:=some (.bm [.agg [.rs 4 (N.stops.map Stop.pv),.rs 3 (N.ae.map au.pv),.rs 8 (runs.map PV.strip),.rs 5 x,.rs 4 (N.paths.map Path.pv),.rs 6 (N.aq.map aQ.pv),.int .i64 N.aN,.int .i64 N.within,.int .i64 N.cap],.int .i64 0])
theorem SC(N:ag)(h:IJ N)(i:Nat)(runs:List PV):ca.run (jf ca) ((N.ah.length:Int),0,N.ah.map aG.pv,(i:Int),N.aN,N.within,N.cap,0,0,0,N.stops.map Stop.pv,N.ae.map au.pv,runs,N.paths.map Path.pv,N.aq.map aQ.pv,())=NA N runs ((N.ah.filter (FD i)).map aG.pv):=by
 have hk:=h.ah;have Zn:1003<rounds:=by decide
 refine Sx (fun k=>((N.ah.length:Int),(k:Int),N.ah.map aG.pv,(i:Int),N.aN,N.within,N.cap,0,0,0,N.stops.map Stop.pv,N.ae.map au.pv,runs,N.paths.map Path.pv,N.aq.map aQ.pv,())) (Yl N i runs) (body3:=jg ca) N.ah (FD i) (NA N runs) (fun j k x rec kH hx hj hg=>?_) (fun j x rec hx hj=>?_) (fun k rec kH=>?_) (fun rec=>?_) (by omega)
 ·unfold Yl jg;dsimp only;rw[if_pos (by rw[decide_eq_true_eq];omega),if_pos (il _ _ (by omega)),Int.toNat_natCast,hg];simp only[U,FC,vc,asBool,Bool.not_not,al (show k<9223372036854775807 by omega),al (show j<9223372036854775807 by omega),il j x.length (by omega),if_true,Int.toNat_natCast,List.getElem?_eq_getElem (show j<x.length by omega)]
 ·unfold Yl jg;dsimp only;rw[if_neg (by rw[hx];simp)];simp only[Int.toNat_natCast,Int.toNat_zero,Nat.sub_zero,List.drop_zero];rw[if_pos (by exact⟨by omega,by omega,by omega,trivial⟩),if_pos (by exact⟨trivial,trivial,by omega,by omega⟩),if_pos (by refine⟨by omega,by omega,?_,trivial⟩;simp only[List.length_append,List.length_take,List.length_replicate,List.length_drop];omega)];unfold NA;rw[List.take_append_of_le_length (by simp;omega),List.take_take,Nat.min_self]
 ·unfold jf;dsimp only;rw[if_pos (by rw[decide_eq_true_eq];omega),if_pos (il _ _ (by simpa using kH)),Int.toNat_natCast,List.getElem?_map,List.getElem?_eq_getElem kH];simp only[Option.map_some,U,FC,vc,asBool,al (show k<9223372036854775807 by omega),eW];cases hp:FD i N.ah[k]with
  |true=>simp only[Bool.not_true,Bool.false_eq_true,if_false,if_true]
  |false=>simp only[Bool.not_false,if_true,Bool.false_eq_true,if_false];rw[if_neg (by rw[decide_eq_true_eq];omega)];rfl
 ·unfold jf;dsimp only;rw[if_neg (by simp)];rfl
theorem SD(x:av):setCells 5 x.pv 3 1 (.bool false)=({x with HD:=false}:av).pv:=rfl
theorem SE(x:av):setCells 5 x.pv 4 1 (.bool false)=({x with Cq:=false}:av).pv:=rfl
theorem acd(x:bw)(l:List av):setRow 8 x.pN 7 (.fP 5 (l.map av.pv))=({x with calls:=l}:bw).pN:=rfl
theorem Pt(N:ag)(m:fC)(h:IJ N)(hm:m.Ok)(hv:(dS N).2.2=0)(hc:m.calls.length≤1000)(rec:_→Option PV):jh ca (Sz N m N.runs.length) rec=some (aPV N m):=by
 have hr:=h.runs;have hp:=vI (N.aq.map aQ.pv) (by simpa using h.aq);have ht:=uv N m (by
  have:1000≤maxLen:=by decide
  omega)
 unfold Sz jh;dsimp only;rw[if_neg (by simp),hp];simp only[U,ab,if_true,Ps,yA,Va,ht];rw[E5];unfold aPV CV HI;simp only[eW,decide_eq_true_eq];by_cases k5:m.kind=5
 ·simp only[k5,if_true];cases htg:uk N.runs m with
  |some i=>simp only[bW,List.length_cons,List.length_nil,Nat.reduceAdd,if_true,U,List.getD_cons_zero,List.getD_cons_succ,asInt,asBool,Option.isSome_some];rfl
  |none=>
   have gz:=nS m.calls N.stops.length 0 3155932800 hm.calls.1;simp only[res]at gz;have Ym:=vb m.calls (by omega);simp only[bW,List.length_cons,List.length_nil,Nat.reduceAdd,if_true,U,List.getD_cons_zero,List.getD_cons_succ,asInt,asBool,Option.isSome_none,Bool.false_eq_true,if_false,List.length_map,bn,Bool.or_eq_true,decide_eq_true_eq,gz,uw];by_cases mh:m.bh<0∨m.bh≥(N.ae.length:Int)
   ·rw[if_pos mh,if_pos mh];rfl
   ·rw[if_neg mh,if_neg mh];by_cases he:(bk m.calls (N.stops.length:Int) 0 3155932800).2=0
    ·rw[if_pos he,if_neg (show¬((N.runs.length:Int)≥1024) by omega),Ym];simp only[U,ab,if_true,he,ne_eq,not_true,if_false,if_neg (show¬(N.runs.length≥1024) by omega)];rw[if_pos (by
      have:101*80≤aa:=by decide
      rw[List.length_append,List.length_map,List.length_singleton];omega)]
     rw[List.map_append,kj];have:(N.runs++[yP m]).map bw.pv=N.runs.map bw.pv++[.agg [.int .i64 (-1),.int .i64 m.day,.int .i64 m.inst,.str m.dp,.int .i64 m.bh,.bool m.free,.bool false,.rs 5 (m.calls.map av.pv)]]:=by simp[yP,bw.pv]
     simp only[ag.pv,this,if_true];rfl
    ·rw[if_neg he,if_neg he,if_pos he,if_neg he];rfl
 ·simp only[if_neg k5];cases htg:uk N.runs m with
  |none=>simp only[bW,List.length_cons,List.length_nil,Nat.reduceAdd,if_true,U,List.getD_cons_zero,List.getD_cons_succ,asInt,asBool,Bool.not_false];rfl
  |some i=>
   obtain⟨hi,zL,_⟩:=lH htg;have pS:af (i:Int) N.runs.length:=⟨by omega,by omega⟩;have sF:=uc hv N.runs[i] (List.getElem_mem hi);simp only[bW,List.length_cons,List.length_nil,Nat.reduceAdd,if_true,U,List.getD_cons_zero,List.getD_cons_succ,asInt,asBool,Bool.not_true,Bool.false_eq_true,if_false,qf _ _ hi,List.getElem?_eq_getElem hi,pS,D8,Int.toNat_natCast,List.length_map,bn,dw,Bool.or_eq_true,decide_eq_true_eq];have Tz:((decide (m.kind=1)||decide (m.kind=3))&&(decide (m.call<0)||decide (m.call≥(N.runs[i].calls.length:Int))))=decide ((m.kind=1∨m.kind=3)∧(m.call<0∨m.call≥(N.runs[i].calls.length:Int))):=by rw[Bool.eq_iff_iff];simp
   rw[Tz];simp only[decide_eq_true_eq];by_cases hn:(m.kind=1∨m.kind=3)∧(m.call<0∨m.call≥(N.runs[i].calls.length:Int))
   ·rw[if_pos hn,if_pos hn];rfl
   rw[if_neg hn,if_neg hn];by_cases k1:m.kind=1
   ·simp only[k1,if_true];have M9:¬(m.call<0∨m.call≥(N.runs[i].calls.length:Int)):=fun hh=>hn ⟨.inl k1,hh⟩;have aeW:=not_or.1 M9;unfold prop;rw[if_neg M9,if_neg (show¬(m.call<0∨m.call≥(N.runs[i].calls.length:Int))from M9)];by_cases hs:m.bM< -43200∨m.bM>43200
    ·rw[if_pos hs,if_pos hs];rfl
    rw[if_neg hs,if_neg hs];obtain⟨c,A3⟩:∃c:Nat,m.call=(c:Int):=⟨m.call.toNat,by omega⟩;have vz:c<N.runs[i].calls.length:=by omega
    have hlen:=h.calls N.runs[i] (List.getElem_mem hi);have ho:=xB N.runs[i].calls (by
     have:1000≤maxLen:=by decide
     omega)
    have hrq:NV (cell N.runs[i].pN 7)=some (.rs 5 (N.runs[i].calls.map av.pv)):=rfl;simp only[hrq,U,ho,asBool];cases Yn:uo N.runs[i].calls with
    |false=>rfl
    |true=>
     have ep:0≤(N.runs[i].calls.length:Int)∧(N.runs[i].calls.length:Int)≤(N.runs[i].calls.length:Int)∧(N.runs[i].calls.length:Int).toNat*32≤aa∧0<32∧0<5:=by
      have:1000*32≤aa:=by decide
      refine⟨by omega,by omega,?_,by decide,by decide⟩;rw[Int.toNat_natCast];omega
     rw[if_neg (by decide),if_pos (by rw[Int.toNat_natCast]at ep;exact ep)];simp only[A3,Int.toNat_natCast];obtain⟨a1,a2⟩:=Nx Yn vz (show-43200≤m.bM by omega) (show m.bM≤43200 by omega);have hA:=SB N h i c hi vz Yn _ a1 (by omega);have TD:∀z:PV,List.take (List.replicate N.runs[i].calls.length z).length (N.runs[i].calls.map av.pv)++List.drop N.runs[i].calls.length (List.replicate N.runs[i].calls.length z)=N.runs[i].calls.map av.pv:=fun z=>by rw[List.length_replicate,List.take_of_length_le (by simp),List.drop_eq_nil_of_le (by simp),List.append_nil]
     have hS:∀A out,Lc N i c A 0 out=((i:Int),(c:Int),A,(N.runs[i].calls.length:Int),0,(i:Int),N.runs.map bw.pN,out,N.aN,N.within,N.cap,0,0,0,N.stops.map Stop.pv,N.ae.map au.pv,N.ah.map aG.pv,N.paths.map Path.pv,N.aq.map aQ.pv,()):=fun A out=>by unfold Lc;rw[List.getElem?_eq_getElem hi];rfl
     rw[hS]at hA;have hF:∀o,(match gv (N.runs[i].calls.drop c) (nd N.runs[i].calls c m.bM)with|some r=>some (PV.bm [(FB N i (N.runs[i].calls.take c++r)).pv,.int .i64 0])|none=>some (PV.bm [z9,.int .i64 10]))=o→ca.run dG ((i:Int),(c:Int),nd N.runs[i].calls c m.bM,(N.runs[i].calls.length:Int),0,(i:Int),N.runs.map bw.pN,N.runs[i].calls.map av.pv,N.aN,N.within,N.cap,0,0,0,N.stops.map Stop.pv,N.ae.map au.pv,N.ah.map aG.pv,N.paths.map Path.pv,N.aq.map aQ.pv,())=o:=fun o ho=>hA.trans ho;have hlm:=mQ;obtain⟨s0,s1,s2⟩:=nV Yn c vz;have tE:∀A,A=nd N.runs[i].calls c m.bM→ca.run dG ((i:Int),(c:Int),A,(N.runs[i].calls.length:Int),0,(i:Int),N.runs.map bw.pN,N.runs[i].calls.map av.pv,N.aN,N.within,N.cap,0,0,0,N.stops.map Stop.pv,N.ae.map au.pv,N.ah.map aG.pv,N.paths.map Path.pv,N.aq.map aQ.pv,())=some (if(match(match gv (N.runs[i].calls.drop c) (nd N.runs[i].calls c m.bM)with|some r=>(some (N.runs[i].calls.take c++r),(0:Int))|none=>(none,10))with|(some l,_)=>(({N with runs:=N.runs.set i {N.runs[i]with calls:=l}}:ag),(0:Int))|(none,e)=>(N,e)).2=0 then PV.bm [(match(match gv (N.runs[i].calls.drop c) (nd N.runs[i].calls c m.bM)with|some r=>(some (N.runs[i].calls.take c++r),(0:Int))|none=>(none,10))with|(some l,_)=>(({N with runs:=N.runs.set i {N.runs[i]with calls:=l}}:ag),(0:Int))|(none,e)=>(N,e)).1.pv,.int .i64 0]else .bm [z9,.int .i64 (match(match gv (N.runs[i].calls.drop c) (nd N.runs[i].calls c m.bM)with|some r=>(some (N.runs[i].calls.take c++r),(0:Int))|none=>(none,10))with|(some l,_)=>(({N with runs:=N.runs.set i {N.runs[i]with calls:=l}}:ag),(0:Int))|(none,e)=>(N,e)).2]):=by
      intro A sT;subst sT;apply hF;cases gv (N.runs[i].calls.drop c) (nd N.runs[i].calls c m.bM)with
      |none=>rfl
      |some r=>simp only[FB,List.getElem?_eq_getElem hi];rfl
     cases c with
     |zero=>rw[if_neg (by decide),if_pos (il _ _ vz)];simp only[List.getElem?_map,List.getElem?_eq_getElem vz,Option.map_some,U,zD,asInt,if_true,TD];refine tE _ ?_;rw[wrap_small (by omega) (by omega)];unfold nd;rw[List.getElem?_eq_getElem vz];simp only[iw,Option.map_some,Option.map_none,Option.getD_none,Option.getD_some];by_cases hx:N.runs[i].calls[0].arr+m.bM<0<;>simp[hx]
     |succ j=>
      have hj:j<N.runs[i].calls.length:=by omega
      rw[if_pos (by omega),uZ j (by omega),if_pos (il _ _ hj)];simp only[Int.toNat_natCast,List.getElem?_map,List.getElem?_eq_getElem hj,Option.map_some,U,zD,zF,asInt,if_true,TD,il _ _ vz,List.getElem?_eq_getElem vz];refine tE _ ?_;rw[wrap_small (by omega) (by omega)];unfold nd;rw[List.getElem?_eq_getElem vz];simp only[iw,List.getElem?_eq_getElem hj,Option.map_some,Option.getD_some]
   simp only[if_neg k1];by_cases k2:m.kind=2
   ·simp only[k2,if_true,qf _ _ hi,U,Wp,yR];rfl
   simp only[if_neg k2];by_cases k3:m.kind=3
   ·simp only[k3,if_true];have M9:=not_or.1 (fun hh=>hn ⟨.inr k3,hh⟩:¬(m.call<0∨m.call≥(N.runs[i].calls.length:Int)));obtain⟨c,A3⟩:∃c:Nat,m.call=(c:Int):=⟨m.call.toNat,by omega⟩;have vz:c<N.runs[i].calls.length:=by omega
    simp only[A3,Int.toNat_natCast,il c _ vz,if_true,List.getElem?_map,List.getElem?_eq_getElem vz,Option.map_some,U,SD,←List.map_set,acd,List.length_set,List.length_map,pS,List.getElem?_set_self hi,D8,List.getElem?_set_self vz,SE,List.set_set,kj];simp only[xx,List.getElem?_eq_getElem vz];rfl
   simp only[if_neg k3];by_cases k4:m.kind=4
   ·simp only[k4,if_true];have gz:=nS m.calls N.stops.length 0 3155932800 hm.calls.1;simp only[res]at gz;have Ym:=vb m.calls (by omega);simp only[gz,U,bW,List.length_cons,List.length_nil,Nat.reduceAdd,if_true,List.getD_cons_zero,List.getD_cons_succ,asInt,uw];by_cases he:(bk m.calls (N.stops.length:Int) 0 3155932800).2=0
    ·simp only[he,Ym,U,ab,if_true,ne_eq,not_true,if_false];rw[SC N h i,Vf,sx];unfold NA;rw[yR];rfl
    ·rw[if_neg he,if_neg he,if_pos he,if_neg he];rfl
   simp only[if_neg k4];rfl
theorem NB(x:bw)(l:List PV):(if(8:Nat)=1 then PV.fP 5 l else .agg (cell x.pv 0::cell x.pv 1::cell x.pv 2::cell x.pv 3::cell x.pv 4::cell x.pv 5::cell x.pv 6::.fP 5 l::over [] []))=.agg [.int .i64 x.dp,.int .i64 x.day,.int .i64 x.inst,.str x.id,.int .i64 x.bh,.bool x.free,.bool x.oZ,.fP 5 l]:=rfl
theorem Ld(N:ag)(m:fC)(h:IJ N)(hm:m.Ok)(hc:m.calls.length≤1000):bg [N.pv,m.pv]=some (Cx N m):=by
 have hr:=h.runs;have Zn:1003<rounds:=by decide
 have Ba:=Cf N h.ok (by have:=h.paths;omega);have hmk:=HH m hm;have f1:=Cg (N.stops.map Stop.pv) (by simpa using h.stops);have f2:=zJ (N.ae.map au.pv) (by simpa using h.ae);have f3:=DO (N.runs.map bw.pv) (by simp;omega);have f4:=Ch (N.ah.map aG.pv) (by simpa using h.ah);have f5:=uf (N.paths.map Path.pv) (by simpa using h.paths);simp only[bg,mo,pD,rn,rq,rr,ru,ry,rz,rA,rB,rC,U,yA,Ba];simp only[fX,bW,List.length_cons,List.length_nil,Nat.reduceAdd,if_true,List.getD_cons_zero,List.getD_cons_succ,asInt,U,Fm,Fo,Fq,Fs,Ft,Fu,Fv,Fx,Fy,Fz,FA,xy,xz,D6,bt,ab,asBool,Va,hmk,uw,f1,f2,f3,f4,f5,List.length_map];unfold Cx;by_cases hv:(dS N).2.2=0
 ·rw[if_pos hv,if_pos hv];by_cases he:eC m=0
  ·rw[if_pos he,if_pos he];refine bK (Sz N m) N.runs.length (fun k hk rec=>?_) (fun rec=>Pt N m h hm hv hc rec) (by omega) (by unfold Sz;rw[Hq];rfl);have fc:=Ci (N.runs[k].calls.map av.pv) (by simpa using h.calls _ (List.getElem_mem hk));unfold Sz jh;dsimp only;rw[if_pos (by rw[decide_eq_true_eq];omega),if_pos (E6 _ _ _ _ hk),Int.toNat_natCast,Nc _ _ _ _ hk];simp only[U,EW,fc,ab,if_true,E6 _ _ _ _ hk,NB,al (show k<9223372036854775807 by omega)];have:=Nf bw.pN bw.pv N.runs k hk;rw[←this];rfl
  ·rw[if_neg he,if_neg he];rfl
 ·rw[if_neg hv,if_neg hv];rfl
structure mR(q:PV)(m:fC):Prop where
 hA:asAgg 13 q=some ()
 h0:cell q 0=.int .i64 m.source
 h1:cell q 1=.int .i64 m.seq
 h2:cell q 2=.int .i64 m.lG
 h3:cell q 3=.int .i64 m.iC
 h4:cell q 4=.int .i64 m.kind
 h5:cell q 5=.str m.dp
 h6:cell q 6=.int .i64 m.day
 h7:cell q 7=.int .i64 m.inst
 h8:cell q 8=.int .i64 m.call
 h9:cell q 9=.int .i64 m.bM
 FY:cell q 10=.int .i64 m.bh
 Yo:cell q 11=.bool m.free
 Yp:ab 5 (cell q 12)=some (m.calls.map av.pv)
theorem ace(m:fC):mR m.pv m:=⟨rfl,rfl,rfl,rfl,rfl,rfl,rfl,rfl,rfl,rfl,rfl,rfl,rfl,rfl⟩
def NC(q:PV):PV:=.agg [cell q 0,cell q 1,cell q 2,cell q 3,cell q 4,cell q 5,cell q 6,cell q 7,cell q 8,cell q 9,cell q 10,cell q 11,cell q 12]
theorem mR.agg{q:PV}{m:fC}(h:mR q m):mR (NC q) m:=⟨rfl,h.h0,h.h1,h.h2,h.h3,h.h4,h.h5,h.h6,h.h7,h.h8,h.h9,h.FY,h.Yo,h.Yp⟩
structure zS(p:PV)(N:ag):Prop where
 hA:asAgg 9 p=some ()
 h0:ab 4 (cell p 0)=some (N.stops.map Stop.pv)
 h1:ab 3 (cell p 1)=some (N.ae.map au.pv)
 h2:ab 8 (cell p 2)=some (N.runs.map bw.pv)
 h3:ab 5 (cell p 3)=some (N.ah.map aG.pv)
 h4:ab 4 (cell p 4)=some (N.paths.map Path.pv)
 h5:ab 6 (cell p 5)=some (N.aq.map aQ.pv)
 h6:asInt .i64 (cell p 6)=some N.aN
 h7:asInt .i64 (cell p 7)=some N.within
 h8:asInt .i64 (cell p 8)=some N.cap
theorem ND(N:ag):zS N.pv N:=⟨rfl,rfl,rfl,rfl,rfl,rfl,rfl,rfl,rfl,rfl⟩
theorem Yq(x:fC):ab 5 (cell x.pv 12)=some (x.calls.map av.pv):=rfl
theorem HO{q:PV}{m:fC}(hq:mR q m):cM [q]=cM [m.pv]:=by simp only[cM,mq,hq.hA,hq.h0,hq.h1,hq.h2,hq.h3,hq.h4,hq.h5,hq.h6,hq.h7,hq.h8,hq.h9,hq.FY,hq.Yo,hq.Yp,Fm,Fo,Fq,Fs,Ft,Fu,Fv,Fx,Fy,Fz,FA,xy,xz,Yq]
theorem zT{p q:PV}{N:ag}{m:fC}(hp:zS p N)(hq:mR q m):bH [p,q]=bH [N.pv,m.pv]:=by simp only[bH,kX,hp.hA,hp.h0,hp.h1,hp.h2,hp.h3,hp.h4,hp.h5,hp.h6,hp.h7,hp.h8,hq.hA,hq.h0,hq.h1,hq.h2,hq.h3,hq.h4,hq.h5,hq.h6,hq.h7,hq.h8,hq.h9,hq.FY,hq.Yo,hq.Yp,pD,rn,rq,rr,ru,ry,rz,rA,rB,rC,Fm,Fo,Fq,Fs,Ft,Fu,Fv,Fx,Fy,Fz,FA,xy,xz,Yq]
theorem Le{p q:PV}{N:ag}{m:fC}(hp:zS p N)(hq:mR q m):bg [p,q]=bg [N.pv,m.pv]:=by simp only[bg,mo,hp.hA,hp.h0,hp.h1,hp.h2,hp.h3,hp.h4,hp.h5,hp.h6,hp.h7,hp.h8,hq.hA,hq.h0,hq.h1,hq.h2,hq.h3,hq.h4,hq.h5,hq.h6,hq.h7,hq.h8,hq.h9,hq.FY,hq.Yo,hq.Yp,pD,rn,rq,rr,ru,ry,rz,rA,rB,rC,Fm,Fo,Fq,Fs,Ft,Fu,Fv,Fx,Fy,Fz,FA,xy,xz,Yq,U]
end Go.Ab.Tt
