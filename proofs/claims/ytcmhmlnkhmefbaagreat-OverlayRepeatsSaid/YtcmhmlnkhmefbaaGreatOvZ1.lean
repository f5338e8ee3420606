import Derived.Test.YtcmhmlnkhmefbaaGreatNkP2
namespace Go.Ab.Tt
set_option maxRecDepth 100000
set_option linter.unusedVariables false
set_option linter.unusedSimpArgs false
structure gP where
 source:Int
 seq:Int
 lI:Int
 iD:Int
 kind:Int
 dw:Bytes
 day:Int
 inst:Int
 call:Int
 bT:Int
 bk:Int
 free:Bool
 calls:List aw
 deriving DecidableEq
def gP.pv(x:gP):PV:=.agg [.int .i64 x.source,.int .i64 x.seq,.int .i64 x.lI,.int .i64 x.iD,.int .i64 x.kind,.str x.dw,.int .i64 x.day,.int .i64 x.inst,.int .i64 x.call,.int .i64 x.bT,.int .i64 x.bk,.bool x.free,.rs 5 (x.calls.map aw.pv)]
structure gP.jo(M:Nat)(x:gP):Prop where
 source:jT x.source
 seq:jT x.seq
 lI:jT x.lI
 iD:jT x.iD
 kind:jT x.kind
 dw:x.dw.length≤M
 day:jT x.day
 inst:jT x.inst
 call:jT x.call
 bT:jT x.bT
 bk:jT x.bk
 calls:x.calls.length≤M∧∀y∈x.calls,y.jo M
abbrev gP.Ok(x:gP):Prop:=x.jo maxLen
def gP.key(x:gP):Bytes×Int×Int:=(x.dw,x.day,x.inst)
def Ao(l:List bA)(m:gP):Option Nat:=(List.range l.length).find? fun k=>decide ((l.map bh)[k]?=some m.key)
theorem xC{l:List bA}{m:gP}{k:Nat}(h:Ao l m=some k):∃hk:k<l.length,bh l[k]=m.key∧∀j,(hj:j<k)→bh (l[j]'(by omega))≠m.key:=by
 unfold Ao at h;rw[List.find?_range_eq_some]at h;obtain⟨h1,h2,h3⟩:=h;have hk:k<l.length:=by simpa using h2
 refine⟨hk,?_,fun j hj hc=>?_⟩
 ·simpa[List.getElem?_eq_getElem hk]using h1
 ·have:=h3 j hj;simp[List.getElem?_eq_getElem (show j<l.length by omega),hc]at this
theorem Si{l:List bA}{m:gP}(h:Ao l m=none):m.key∉l.map bh:=by
 unfold Ao at h;rw[List.find?_eq_none]at h;intro hm;obtain⟨k,hk⟩:=List.mem_iff_getElem?.1 hm;have jA:k<l.length:=by have:=(List.getElem?_eq_some_iff.1 hk).1;simpa using this
 exact h k (by simpa using jA) (by simpa using hk)
def gX:Int:=3155932800
def uv(l:List aw):Bool:=(List.range l.length).all fun k=>(l[k]?).elim true fun c=> !(decide (c.arr<((iy l k).map aw.dep).getD 0)||decide (c.dep<c.arr)||decide (c.dep>gX))
def gY(c:aw):Int:=if c.dep-c.arr<30 then c.dep-c.arr else 30
def late(c:aw)(KW:Int):aw:={c with arr:=KW,dep:=if KW+gY c>c.dep then KW+gY c else c.dep}
def gv:List aw→Int→Option (List aw)
 |[],_=>some []
 |c::cs,a=>if(late c a).dep>gX then none else
  match cs with
  |[]=>some [late c a]
  |d::ds=>(gv (d::ds) (d.arr+(late c a).dep-c.dep)).map fun r=>late c a::r
def nc(l:List aw)(n:Nat)(bT:Int):Int:=
 let before:=((iy l n).map aw.dep).getD 0
 let x:=((l[n]?).map aw.arr).getD 0+bT
 if x<before then before else x
def prop(l:List aw)(n:Int)(bT:Int):Option (List aw)×Int:=
 if n<0∨n≥(l.length:Int)then(none,1)else if bT< -43200∨bT>43200 then(none,2)else if uv l=false then(none,10)
 else match gv (l.drop n.toNat) (nc l n.toNat bT)with
 |some r=>(some (l.take n.toNat++r),0)
 |none=>(none,10)
end Go.Ab.Tt
namespace Go.Ab.Tt
set_option maxRecDepth 100000
set_option linter.unusedVariables false
set_option linter.unusedSimpArgs false
theorem mQ(N:ag):(dD N).2.2=0↔(gN N.stops).2=0∧(fp N.ae).2=0∧(gb N.runs N.stops.length N.ae.length).2=0∧(gV N.runs N.ah).2=0∧(cW N.paths N.stops.length).2=0∧(dI N.ar N.aO N.within N.cap).2=0:=by
 unfold dD;by_cases h1:(gN N.stops).2=0
 ·rw[if_pos h1];by_cases h2:(fp N.ae).2=0
  ·rw[if_pos h2];by_cases h3:(gb N.runs N.stops.length N.ae.length).2=0
   ·rw[if_pos h3];by_cases h4:(gV N.runs N.ah).2=0
    ·rw[if_pos h4];by_cases h5:(cW N.paths N.stops.length).2=0
     ·rw[if_pos h5];by_cases h6:(dI N.ar N.aO N.within N.cap).2=0
      ·rw[if_pos h6];simp[h1,h2,h3,h4,h5,h6]
      ·rw[if_neg h6];simp[h6]
     ·rw[if_neg h5];simp[h5]
    ·rw[if_neg h4];simp[h4]
   ·rw[if_neg h3];simp[h3]
  ·rw[if_neg h2];simp[h2]
 ·rw[if_neg h1];simp[h1]
def xD(x:bA)(stops ae:Int):Int:=
 if eN x.id=false then 12 else if(decide (x.dw< -1)||decide (x.inst<0))=true then 2
 else if(decide (x.day<0)||decide (x.day>36524))=true then 11 else if(decide (x.bk<0)||decide (x.bk≥ae))=true then 9
 else(bu x.calls stops 0 3155932800).2
theorem zR(l:List bA)(s r:Int)(k:Nat)(hk:k<l.length):iW l s r k=0↔xD l[k] s r=0∧bh l[k]∉(l.map bh).take k:=by
 unfold iW xD;rw[List.getElem?_eq_getElem hk];simp only;by_cases h1:eN l[k].id=false
 ·rw[if_pos h1,if_pos h1];simp
 ·rw[if_neg h1,if_neg h1];by_cases h2:(decide (l[k].dw< -1)||decide (l[k].inst<0))=true
  ·rw[if_pos h2,if_pos h2];simp
  ·rw[if_neg h2,if_neg h2];by_cases h3:(decide (l[k].day<0)||decide (l[k].day>36524))=true
   ·rw[if_pos h3,if_pos h3];simp
   ·rw[if_neg h3,if_neg h3];by_cases h4:(decide (l[k].bk<0)||decide (l[k].bk≥r))=true
    ·rw[if_pos h4,if_pos h4];simp
    ·rw[if_neg h4,if_neg h4];by_cases h5:(bu l[k].calls s 0 3155932800).2=0
     ·rw[if_pos h5];by_cases h6:bh l[k]∈(l.map bh).take k
      ·simp[h6]
      ·simp[h6,h5]
     ·rw[if_neg h5];simp[h5]
theorem nI(l:List bA)(s r:Int):(gb l s r).2=0↔l.length≤1024∧∀k,(hk:k<l.length)→xD l[k] s r=0∧bh l[k]∉(l.map bh).take k:=by
 unfold gb;by_cases h:l.length>1024
 ·rw[if_pos h];constructor
  ·intro hc;cases hc
  ·rintro⟨h1,_⟩;omega
 ·rw[if_neg h,mb];constructor
  ·intro h0;exact⟨by omega,fun k hk=>(zR l s r k hk).1 (h0 k hk)⟩
  ·rintro⟨_,h0⟩ k hk;exact(zR l s r k hk).2 (h0 k hk)
theorem Sj{l:List bA}{s r:Int}{i:Nat}{x:bA}(hi:i<l.length)(hk:bh x=bh l[i])(hx:xD x s r=0)(h:(gb l s r).2=0):(gb (l.set i x) s r).2=0:=by
 rw[nI]at h⊢;have hm:(l.set i x).map bh=l.map bh:=by rw[List.map_set,hk,←List.getElem_map bh (h:=by simpa using hi),List.set_getElem_self]
 refine⟨by rw[List.length_set];exact h.1,fun k kK=>?_⟩;have XZ:k<l.length:=by simpa using kK
 rw[hm];obtain⟨h1,h2⟩:=h.2 k XZ;by_cases zP:i=k
 ·subst zP;rw[List.getElem_set_self];exact⟨hx,by rw[hk];exact h2⟩
 ·rw[List.getElem_set_ne zP];exact⟨h1,h2⟩
theorem Sk{l:List bA}{s r:Int}{x:bA}(hk:bh x∉l.map bh)(hx:xD x s r=0)(hl:l.length<1024)(h:(gb l s r).2=0):(gb (l++[x]) s r).2=0:=by
 rw[nI]at h⊢;refine⟨by simp;omega,fun k kK=>?_⟩;simp only[List.length_append,List.length_cons,List.length_nil]at kK;rw[List.map_append];by_cases br:k<l.length
 ·rw[List.getElem_append_left br,List.take_append_of_le_length (by simp;omega)];exact h.2 k br
 ·have:k=l.length:=by omega
  subst this;rw[List.getElem_append_right (Nat.le_refl _)];simp only[Nat.sub_self,List.getElem_cons_zero];refine⟨hx,?_⟩;rw[List.take_append_of_le_length (by simp),List.take_of_length_le (by simp)];exact hk
def D2(runs:List bA)(p:List aH)(x:aH):Int:=
 if ud x runs.length=true then 9 else if ue x (aC runs x.a).length (aC runs x.b).length=true then 9
 else if eX (aC runs x.a) x.ac≠eX (aC runs x.b) x.bc then 13 else if pe p x (aC runs x.a).length=true then 19
 else if cn x∈p.map cn then 6 else 0
theorem D3(runs:List bA)(l:List aH)(k:Nat)(hk:k<l.length):cD runs l k=D2 runs (l.take k) l[k]:=by unfold cD D2;rw[List.getElem?_eq_getElem hk,List.map_take]
def sO(runs:List bA)(l:List aH):Prop:=∀k,(hk:k<l.length)→D2 runs (l.take k) l[k]=0
theorem qK(runs:List bA)(l:List aH):(gV runs l).2=0↔l.length≤1024∧sO runs l:=by
 unfold gV sO;by_cases h:l.length>1024
 ·rw[if_pos h];constructor
  ·intro hc;cases hc
  ·rintro⟨h1,_⟩;omega
 ·rw[if_neg h,mb];constructor
  ·intro h0;exact⟨by omega,fun k hk=>by rw[←D3];exact h0 k hk⟩
  ·rintro⟨_,h0⟩ k hk;rw[D3 runs l k hk];exact h0 k hk
theorem Pe(runs:List bA):sO runs []:=fun k hk=>by simp at hk
theorem wz(runs:List bA)(p:List aH)(x:aH):sO runs (p++[x])↔sO runs p∧D2 runs p x=0:=by
 constructor
 ·intro h;refine⟨fun k hk=>?_,?_⟩
  ·have:=h k (by simp;omega);rw[List.getElem_append_left hk,List.take_append_of_le_length (by omega)]at this;exact this
  ·have:=h p.length (by simp);rw[List.getElem_append_right (Nat.le_refl _),List.take_append_of_le_length (Nat.le_refl _),List.take_length]at this;simpa using this
 ·rintro⟨h1,h2⟩ k hk;simp only[List.length_append,List.length_cons,List.length_nil]at hk;by_cases br:k<p.length
  ·rw[List.getElem_append_left br,List.take_append_of_le_length (by omega)];exact h1 k br
  ·have:k=p.length:=by omega
   subst this;rw[List.getElem_append_right (Nat.le_refl _),List.take_append_of_le_length (Nat.le_refl _),List.take_length];simpa using h2
theorem sA(runs:List bA)(p:List aH)(x:aH):D2 runs p x=0↔ud x runs.length=false∧ue x (aC runs x.a).length (aC runs x.b).length=false∧eX (aC runs x.a) x.ac=eX (aC runs x.b) x.bc∧pe p x (aC runs x.a).length=false∧cn x∉p.map cn:=by
 unfold D2;cases ud x runs.length with
 |true=>simp
 |false=>
  cases ue x (aC runs x.a).length (aC runs x.b).length with
  |true=>simp
  |false=>
   by_cases h3:eX (aC runs x.a) x.ac=eX (aC runs x.b) x.bc
   ·cases pe p x (aC runs x.a).length with
    |true=>simp[h3]
    |false=>
     by_cases h5:cn x∈p.map cn
     ·simp[h3,h5]
     ·simp[h3,h5]
   ·simp[h3]
theorem Cr{x:aH}{R:Int}(h:ud x R=false):(0≤x.a∧x.a<R)∧(0≤x.b∧x.b<R)∧x.a≠x.b:=by unfold ud at h;simp only[Bool.or_eq_false_iff,Bool.not_eq_false',Bool.and_eq_true,decide_eq_true_eq,decide_eq_false_iff_not]at h;exact⟨h.1.1,h.1.2,h.2⟩
variable{runs zS:List bA}
theorem pq{l:List aH}(h:sO runs l)(hR:runs.length≤zS.length)(hc:∀x∈l,∀v,v=x.a∨v=x.b→(aC zS v).length=(aC runs v).length∧∀c,eX (aC zS v) c=eX (aC runs v) c):sO zS l:=by intro k hk;have h0:=h k hk;rw[sA]at h0⊢;obtain⟨h1,h2,h3,h4,h5⟩:=h0;obtain⟨ea,sa⟩:=hc _ (List.getElem_mem hk) _ (Or.inl rfl);obtain⟨eb,sb⟩:=hc _ (List.getElem_mem hk) _ (Or.inr rfl);rw[ea,eb,sa,sb];refine⟨?_,h2,h3,h4,h5⟩;obtain⟨g1,g2,g3⟩:=Cr h1;unfold ud;simp only[Bool.or_eq_false_iff,Bool.not_eq_false',Bool.and_eq_true,decide_eq_true_eq,decide_eq_false_iff_not];exact⟨⟨⟨g1.1,by omega⟩,⟨g2.1,by omega⟩⟩,g3⟩
theorem zT{p:List aH}{x:aH}{A:Int}(h:pe p x A=false):x.stay=false∨(x.ac+1=A∧x.bc=0∧nx p x.a=none∧x.b∉jH p∧lu p x.b x.a (p.length+1)=false):=by
 unfold pe at h;cases hs:x.stay with
 |false=>exact Or.inl rfl
 |true=>
  rw[hs,Bool.true_and]at h;simp only[Bool.or_eq_false_iff,Bool.not_eq_false',decide_eq_true_eq,decide_eq_false_iff_not]at h;obtain⟨⟨⟨⟨h1,h2⟩,h3⟩,h4⟩,h5⟩:=h;refine Or.inr ⟨h1,h2,?_,h4,h5⟩;cases hn:nx p x.a with
  |none=>rfl
  |some w=>rw[hn]at h3;cases h3
theorem abY(l:List aH)(h:sO runs l):∀x∈l,x.stay=true→nx l x.a=some x.b:=by
 induction l using ub with
 |h0=>intro x hx;cases hx
 |h1 p y ih=>
  rw[wz]at h;obtain⟨hp,hy⟩:=h;rw[sA]at hy;intro x hx hs;rw[pV];rcases List.mem_append.1 hx with hx|hx
  ·have h1:=ih hp x hx hs;by_cases hc:(y.stay&&decide (y.a=x.a))=true
   ·simp only[Bool.and_eq_true,decide_eq_true_eq]at hc;rcases zT hy.2.2.2.1 with h2|h2
    ·rw[h2]at hc;cases hc.1
    ·rw[hc.2]at h2;rw[h1]at h2;cases h2.2.2.1
   ·rw[if_neg hc];exact h1
  ·rw[List.mem_singleton]at hx;subst hx;rw[if_pos (by simp[hs])]
theorem Fi(f:aH→Bool)(l:List aH)(h:sO runs l)(hR:runs.length≤zS.length)(hc:∀x∈l,f x=true→∀v,v=x.a∨v=x.b→(aC zS v).length=(aC runs v).length∧∀c,eX (aC zS v) c=eX (aC runs v) c):sO zS (l.filter f):=by
 refine pq (runs:=runs) ?_ hR (fun x hx=>hc x (List.mem_filter.1 hx).1 (List.mem_filter.1 hx).2);clear hc hR;induction l using ub with
 |h0=>exact Pe runs
 |h1 p x ih=>
  rw[wz]at h;obtain⟨hp,hx⟩:=h;rw[List.filter_append];by_cases hf:f x=true
  ·rw[List.filter_cons_of_pos hf,List.filter_nil,wz];refine⟨ih hp,?_⟩;rw[sA]at hx⊢;obtain⟨h1,h2,h3,h4,h5⟩:=hx;have Oc:∀y∈p.filter f,y∈p:=fun y hy=>(List.mem_filter.1 hy).1;refine⟨h1,h2,h3,?_,fun hm=>h5 ?_⟩
   ·rcases zT h4 with hs|⟨g1,g2,g3,g4,g5⟩
    ·unfold pe;rw[hs];rfl
    ·have hnx:∀v w,nx (p.filter f) v=some w→nx p v=some w:=fun v w MX=>by obtain⟨y,hy,YT,rfl,rfl⟩:=KB MX;exact abY p hp y (Oc y hy) YT
     have hit:∀t v w,it (nx (p.filter f)) t v=some w→it (nx p) t v=some w:=by
      intro t;induction t with
      |zero=>intro v w h;exact h
      |succ t iht=>
       intro v w MX;have UQ:(nx (p.filter f) v).bind (it (nx (p.filter f)) t)=some w:=MX;cases hn:nx (p.filter f) v with
       |none=>rw[hn]at UQ;cases UQ
       |some u=>rw[hn]at UQ;show(nx p v).bind (it (nx p) t)=some w;rw[hnx v u hn];exact iht u w UQ
     have k1:(nx (p.filter f) x.a).isSome=false:=by
      cases hn:nx (p.filter f) x.a with
      |none=>rfl
      |some w=>rw[hnx _ _ hn]at g3;cases g3
     have k2:decide (x.b∈jH (p.filter f))=false:=by rw[decide_eq_false_iff_not];intro hm;apply g4;unfold jH at hm⊢;obtain⟨y,hy,hyb⟩:=List.mem_map.1 hm;obtain⟨hy1,hy2⟩:=List.mem_filter.1 hy;exact List.mem_map.2 ⟨y,List.mem_filter.2 ⟨Oc y hy1,hy2⟩,hyb⟩
     have k3:lu (p.filter f) x.b x.a ((p.filter f).length+1)=false:=by unfold lu at g5⊢;rw[List.any_eq_false]at g5⊢;intro t ht hc;have hle:=List.length_filter_le f p;refine g5 t (by simp at ht⊢;omega) ?_;rw[decide_eq_true_eq]at hc⊢;exact hit _ _ _ hc
     unfold pe;rw[k1,k2,k3,g1,g2];simp
   ·obtain⟨y,hy,hk⟩:=List.mem_map.1 hm;exact List.mem_map.2 ⟨y,Oc y hy,hk⟩
  ·rw[List.filter_cons_of_neg hf,List.filter_nil,List.append_nil];exact ih hp
end Go.Ab.Tt
namespace Go.Ab.Tt
set_option maxRecDepth 100000
set_option linter.unusedVariables false
set_option linter.unusedSimpArgs false
def FX(n a b:Int):Option aw→List aw→Prop
 |_,[]=>True
 |p,c::cs=>lk c p n a b=0∧FX n a b (some c) cs
theorem Nj(n a b:Int)(l:List aw):∀p,FX n a b p l↔∀k,(hk:k<l.length)→lk l[k] (if k=0 then p else l[k-1]?) n a b=0:=by
 induction l with
 |nil=>intro p;exact⟨fun _ k hk=>by simp at hk,fun _=>trivial⟩
 |cons c cs ih=>
  intro p;show(lk c p n a b=0∧FX n a b (some c) cs)↔_;rw[ih];constructor
  ·rintro⟨h1,h2⟩ k hk;cases k with
   |zero=>exact h1
   |succ k=>
    have:=h2 k (by simpa using hk);cases k with
    |zero=>simpa using this
    |succ k=>simpa using this
  ·intro h;refine⟨h 0 (Nat.zero_lt_succ _),fun k hk=>?_⟩;have:=h (k+1) (by simpa using hk);cases k with
   |zero=>simpa using this
   |succ k=>simpa using this
theorem uw(l:List aw)(n a b:Int):(bu l n a b).2=0↔2≤l.length∧l.length≤32∧FX n a b none l:=by
 have he:(∀k,k<l.length→mw l n a b k=0)↔FX n a b none l:=by
  rw[Nj];constructor
  ·intro h k hk;have:=h k hk;unfold mw at this;rw[List.getElem?_eq_getElem hk]at this;cases k with
   |zero=>exact this
   |succ k=>exact this
  ·intro h k hk;have:=h k hk;unfold mw;rw[List.getElem?_eq_getElem hk];cases k with
   |zero=>exact this
   |succ k=>exact this
 rw[←he];constructor
 ·intro h;exact⟨(ui h).1,(ui h).2,zM h⟩
 ·rintro⟨h1,h2,h3⟩;unfold bu;rw[if_neg (by simp;omega)];exact(mb _ _).2 h3
theorem wA(n a b:Int)(l1 l2:List aw):∀p,FX n a b p (l1++l2)↔FX n a b p l1∧FX n a b (if l1.length=0 then p else l1[l1.length-1]?) l2:=by
 induction l1 with
 |nil=>intro p;simp[FX]
 |cons c cs ih=>
  intro p;show(lk c p n a b=0∧FX n a b (some c) (cs++l2))↔(lk c p n a b=0∧FX n a b (some c) cs)∧_;rw[ih,and_assoc];have:(if(c::cs).length=0 then p else(c::cs)[(c::cs).length-1]?)=if cs.length=0 then some c else cs[cs.length-1]?:=by
   cases cs with
   |nil=>rfl
   |cons d ds=>simp
  rw[this]
variable{p:Option aw}
theorem Cs{c:aw}{n a b:Int}(h1:0≤c.stop)(h2:c.stop<n)(h3:∀q,p=some q→q.stop≠c.stop)(h4:a≤c.arr)(h5:c.arr≤c.dep)(h6:c.dep≤b)(h7:∀q,p=some q→q.dep≤c.arr):lk c p n a b=0:=by
 unfold lk;rw[if_neg (by simp;omega)];cases p with
 |none=>dsimp only;rw[if_neg (by simp),if_neg (by simp;omega)]
 |some q=>dsimp only;have:=h3 q rfl;have:=h7 q rfl;rw[if_neg (by simpa using h3 q rfl),if_neg (by simp;omega)]
theorem sB{c:aw}{n a b:Int}(h:lk c p n a b=0):0≤c.stop∧c.stop<n∧∀q,p=some q→q.stop≠c.stop:=by
 unfold lk at h;by_cases hA:(decide (c.stop<0)||decide (c.stop≥n))=true
 ·rw[if_pos hA]at h;cases h
 ·rw[if_neg hA]at h;simp only[Bool.or_eq_true,decide_eq_true_eq,not_or]at hA;refine⟨by omega,by omega,fun q hq hc=>?_⟩;subst hq;dsimp only at h;rw[if_pos (by simpa using hc)]at h;cases h
theorem Sl(n:Int)(cs:List aw):∀(a:Int)(p:Option aw)(r:List aw),FX n 0 gX p cs→gv cs a=some r→(∀q,p=some q→q.dep≤a)→0≤a→FX n 0 gX p r∧r.map aw.stop=cs.map aw.stop:=by
 induction cs with
 |nil=>intro a p r _ hr _ _;simp only[gv,Option.some.injEq]at hr;subst hr;exact⟨trivial,rfl⟩
 |cons c cs ih=>
  intro a p r wH hr hp ha;obtain⟨hc,Ix⟩:=wH;obtain⟨g1,g2,g3⟩:=sB hc;obtain⟨k1,k2,k3,k4⟩:=pg hc;have hd:0≤gY c:=by unfold gY;split<;>omega
  have aeJ:a≤(late c a).dep:=by show a≤if a+gY c>c.dep then a+gY c else c.dep;split<;>omega
  have hcd:c.dep≤(late c a).dep:=by show c.dep≤if a+gY c>c.dep then a+gY c else c.dep;split<;>omega
  unfold gv at hr;by_cases ux:(late c a).dep>gX
  ·rw[if_pos ux]at hr;cases hr
  ·rw[if_neg ux]at hr;have hE:lk (late c a) p n 0 gX=0:=Cs g1 g2 g3 ha aeJ (by omega) hp;cases cs with
   |nil=>simp only[Option.some.injEq]at hr;subst hr;exact⟨⟨hE,trivial⟩,rfl⟩
   |cons d ds=>
    simp only[Option.map_eq_some_iff]at hr;obtain⟨r',qM,rfl⟩:=hr;obtain⟨hdE,Y3⟩:=Ix;obtain⟨d1,d2,d3,d4⟩:=pg hdE;obtain⟨e1,e2,e3⟩:=sB hdE;have hdc:=d4 c rfl;have aeK:FX n 0 gX (some (late c a)) (d::ds)→FX n 0 gX (some (late c a)) r'∧r'.map aw.stop=(d::ds).map aw.stop:=fun hh=>ih _ _ r' hh qM (fun q hq=>by cases hq;omega) (by omega);by_cases abZ:(late c a).dep≤d.arr
    ·obtain⟨i1,i2⟩:=aeK ⟨Cs e1 e2 (fun q hq=>by cases hq;exact e3 c rfl) d2 d1 d3 (fun q hq=>by cases hq;exact abZ),Y3⟩;exact⟨⟨hE,i1⟩,by simp only[List.map_cons,i2];rfl⟩
    ·obtain⟨i1,i2⟩:=ih (d.arr+(late c a).dep-c.dep) (some c) r' ⟨hdE,Y3⟩ qM (fun q hq=>by cases hq;omega) (by omega);refine⟨⟨hE,?_⟩,by simp only[List.map_cons,i2];rfl⟩;cases r' with
     |nil=>trivial
     |cons x xs=>
      obtain⟨j1,j2⟩:=i1;obtain⟨f1,f2,f3⟩:=sB j1;obtain⟨t1,t2,t3,t4⟩:=pg j1;refine⟨Cs f1 f2 (fun q hq=>by cases hq;exact f3 c rfl) t2 t1 t3 (fun q hq=>?_),j2⟩;cases hq;have hx:x.arr=d.arr+(late c a).dep-c.dep:=by
       unfold gv at qM;by_cases pB:(late d (d.arr+(late c a).dep-c.dep)).dep>gX
       ·rw[if_pos pB]at qM;cases qM
       ·rw[if_neg pB]at qM;cases ds with
        |nil=>simp only[Option.some.injEq,List.cons.injEq]at qM;rw[←qM.1];rfl
        |cons d2 ds2=>simp only[Option.map_eq_some_iff,List.cons.injEq]at qM;obtain⟨_,_,h1,_⟩:=qM;rw[←h1];rfl
      omega
theorem UR{l r:List aw}{n:Int}{at_ bT:Int}(h:(bu l n 0 gX).2=0)(hp:prop l at_ bT=(some r,0)):(bu r n 0 gX).2=0∧r.map aw.stop=l.map aw.stop:=by
 rw[uw]at h;obtain⟨h1,h2,h3⟩:=h;unfold prop at hp;by_cases ha:at_<0∨at_≥(l.length:Int)
 ·rw[if_pos ha]at hp;cases hp
 ·rw[if_neg ha]at hp;by_cases hs:bT< -43200∨bT>43200
  ·rw[if_pos hs]at hp;cases hp
  ·rw[if_neg hs]at hp;by_cases ho:uv l=false
   ·rw[if_pos ho]at hp;cases hp
   ·rw[if_neg ho]at hp;cases hl:gv (l.drop at_.toNat) (nc l at_.toNat bT)with
    |none=>rw[hl]at hp;cases hp
    |some r'=>
     rw[hl]at hp;simp only[Prod.mk.injEq,Option.some.injEq,and_true]at hp;generalize hn:at_.toNat=m at hl hp;have hm:m<l.length:=by omega
     rw[←List.take_append_drop m l,wA]at h3;obtain⟨g1,g2⟩:=h3;have hlen:(l.take m).length=m:=by simp;omega
     have Sn:(if(l.take m).length=0 then(none:Option aw)else(l.take m)[(l.take m).length-1]?)=iy l m:=by
      rw[hlen];cases m with
      |zero=>rfl
      |succ m=>rw[if_neg (by omega),List.getElem?_take_of_lt (by omega)];rfl
     rw[Sn]at g2;have ep:∀q,iy l m=some q→0≤q.dep:=by
      intro q hq;have wH:FX n 0 gX none l:=by rw[←List.take_append_drop m l,wA,Sn];exact⟨g1,g2⟩
      cases m with
      |zero=>cases hq
      |succ m=>
       have NY:l[m]?=some q:=hq;have Tp:m<l.length:=by omega
       rw[List.getElem?_eq_getElem Tp]at NY;cases NY;have:=(Nj n 0 gX l none).1 wH m Tp;obtain⟨z1,z2,_,_⟩:=pg this;omega
     have xg:(∀q,iy l m=some q→q.dep≤nc l m bT)∧0≤nc l m bT:=by
      unfold nc;cases hq:iy l m with
      |none=>refine⟨(fun q hq=>by cases hq),?_⟩;simp only[Option.map_none,Option.getD_none];split<;>omega
      |some q=>
       have:=ep q hq;simp only[Option.map_some,Option.getD_some];refine⟨fun q' NY=>?_,?_⟩
       ·cases NY;split<;>omega
       ·split<;>omega
     obtain⟨i1,i2⟩:=Sl n (l.drop m) _ _ r' g2 hl xg.1 xg.2;have Uj:r'.length=l.length-m:=by have:=congrArg List.length i2;simpa using this
     rw[←hp];refine⟨?_,?_⟩
     ·rw[uw,wA,Sn];refine⟨?_,?_,g1,i1⟩
      ·simp[Uj];omega
      ·simp[Uj];omega
     ·rw[List.map_append,i2,←List.map_append,List.take_append_drop]
def fU(m:gP):Int:=
 if wi m.source 0 7=false then 36 else if m.seq<1 then 2
 else if(!wi m.lI 0 3155932800|| !wi m.iD 0 3155932800||decide (m.lI≥m.iD))=true then 10
 else if wi m.kind 1 6=false then 35 else if eN m.dw=false then 12 else if wi m.day 0 36524=false then 11 else if m.inst<0 then 2
 else
  let uC:=decide (m.kind=1)||decide (m.kind=3)
  let uS:=decide (m.kind=1)
  let uR:=decide (m.kind=5)
  let uL:=decide (m.kind=4)||decide (m.kind=5)
  if(uC&& !wi m.call 0 31||uS&& !wi m.bT (-43200) 43200||uR&& !wi m.bk 0 63)=true then 2
  else if uL=true∧(bu m.calls 64 0 3155932800).2≠0 then(bu m.calls 64 0 3155932800).2
  else if(!uC&& !decide (m.call=0)|| !uS&& !decide (m.bT=0)|| !uR&& !decide (m.bk=0)|| !uR&&m.free|| !uL&&decide (m.calls.length>0))=true then 1 else 0
theorem Sq{m:gP}(h:fU m=0):eN m.dw=true∧(0≤m.day∧m.day≤36524)∧0≤m.inst∧1≤m.kind∧m.kind≤6:=by
 unfold fU at h;by_cases h1:wi m.source 0 7=false
 ·rw[if_pos h1]at h;cases h
 rw[if_neg h1]at h;by_cases h2:m.seq<1
 ·rw[if_pos h2]at h;cases h
 rw[if_neg h2]at h;by_cases h3:(!wi m.lI 0 3155932800|| !wi m.iD 0 3155932800||decide (m.lI≥m.iD))=true
 ·rw[if_pos h3]at h;cases h
 rw[if_neg h3]at h;by_cases h4:wi m.kind 1 6=false
 ·rw[if_pos h4]at h;cases h
 rw[if_neg h4]at h;by_cases h5:eN m.dw=false
 ·rw[if_pos h5]at h;cases h
 rw[if_neg h5]at h;by_cases h6:wi m.day 0 36524=false
 ·rw[if_pos h6]at h;cases h
 rw[if_neg h6]at h;by_cases h7:m.inst<0
 ·rw[if_pos h7]at h;cases h
 simp only[wi,Bool.and_eq_false_iff,decide_eq_false_iff_not,not_or]at h4 h6;refine⟨by simpa using h5,⟨by omega,by omega⟩,by omega,by omega,by omega⟩
def KX(m:gP):bA:=⟨-1,m.day,m.inst,m.dw,m.bk,m.free,false,m.calls⟩
def nr(l:List aw)(c:Nat):List aw:=match l[c]? with|some k=>l.set c {k with Hw:=false,Ct:=false}|none=>l
def sX(N:ag)(m:gP):ag×Int:=
 if m.kind=5 then
  if(Ao N.runs m).isSome=true then(N,6)else if m.bk<0∨m.bk≥(N.ae.length:Int)then(N,14)
  else if(bu m.calls N.stops.length 0 3155932800).2≠0 then(N,(bu m.calls N.stops.length 0 3155932800).2)
  else if N.runs.length≥1024 then(N,5)else({N with runs:=N.runs++[KX m]},0)
 else match Ao N.runs m with
 |none=>(N,16)
 |some i=>match N.runs[i]? with
  |none=>(N,16)
  |some r=>
   if(m.kind=1∨m.kind=3)∧(m.call<0∨m.call≥(r.calls.length:Int))then(N,9)
   else if m.kind=1 then match prop r.calls m.call m.bT with
    |(some l,_)=>({N with runs:=N.runs.set i {r with calls:=l}},0)
    |(none,e)=>(N,e)
   else if m.kind=2 then({N with runs:=N.runs.set i {r with nF:=true}},0)
   else if m.kind=3 then({N with runs:=N.runs.set i {r with calls:=nr r.calls m.call.toNat}},0)
   else if m.kind=4 then
    if(bu m.calls N.stops.length 0 3155932800).2≠0 then(N,(bu m.calls N.stops.length 0 3155932800).2)
    else({N with runs:=N.runs.set i {r with calls:=m.calls},ah:=N.ah.filter fun l=> !(decide (l.a=(i:Int))||decide (l.b=(i:Int)))},0)
   else(N,0)
end Go.Ab.Tt
namespace Go.Ab.Tt
set_option maxRecDepth 100000
set_option linter.unusedVariables false
set_option linter.unusedSimpArgs false
def core(c:aw):Int×Int×Int:=(c.stop,c.arr,c.dep)
theorem KY{c c':aw}{p p':Option aw}{n a b:Int}(h:core c=core c')(hp:p.map core=p'.map core):lk c p n a b=lk c' p' n a b:=by
 simp only[core,Prod.mk.injEq]at h;obtain⟨h1,h2,h3⟩:=h;unfold lk;rw[h1,h2,h3];cases p with
 |none=>cases p' with
  |none=>rfl
  |some q=>cases hp
 |some q=>cases p' with
  |none=>cases hp
  |some q'=>simp only[Option.map_some,Option.some.injEq,core,Prod.mk.injEq]at hp;obtain⟨g1,g2,g3⟩:=hp;simp only[g1,g3]
theorem Hx{n a b:Int}:∀{l l':List aw}{p p':Option aw},l.map core=l'.map core→p.map core=p'.map core→FX n a b p l→FX n a b p' l'
 |[],[],_,_,_,_,_=>trivial
 |[],_::_,_,_,h,_,_=>by cases h
 |_::_,[],_,_,h,_,_=>by cases h
 |c::cs,c'::Dj,p,p',h,hp,ho=>by simp only[List.map_cons,List.cons.injEq]at h;exact⟨by rw[←KY h.1 hp];exact ho.1,Hx (p:=some c) (p':=some c') h.2 (by simp[h.1]) ho.2⟩
variable{l':List aw}
theorem Fj{n a b:Int}{l:List aw}(h:l.map core=l'.map core)(hr:(bu l n a b).2=0):(bu l' n a b).2=0:=by
 rw[uw]at hr⊢;have hl:l.length=l'.length:=by simpa using congrArg List.length h
 exact⟨by omega,by omega,Hx h rfl hr.2.2⟩
theorem Cu(l:List aw)(c:Nat):(nr l c).map core=l.map core:=by
 unfold nr;cases hc:l[c]? with
 |none=>rfl
 |some k=>
  simp only;rw[List.map_set];apply List.ext_getElem?;intro j;rw[List.getElem?_set];split
  ·rename_i e;subst e;have br:=(List.getElem?_eq_some_iff.1 hc).1;rw[if_pos (by simpa using br),List.getElem?_map,hc];rfl
  ·rfl
theorem Pf{l:List aw}(h:l.map core=l'.map core):l.map aw.stop=l'.map aw.stop:=by
 have:∀l:List aw,l.map aw.stop=(l.map core).map Prod.fst:=fun l=>by rw[List.map_map];rfl
 rw[this,this,h]
theorem Cv(cs:List aw)(c:Int):eX cs c=((cs.map aw.stop)[c.toNat]?).getD 0:=by unfold eX;rw[List.getElem?_map]
theorem KZ{cs Dj:List aw}(h:Dj.map aw.stop=cs.map aw.stop):Dj.length=cs.length∧∀c,eX Dj c=eX cs c:=by refine⟨by simpa using congrArg List.length h,fun c=>?_⟩;rw[Cv,Cv,h]
variable{runs:List bA}{x:bA}
theorem uy{i:Nat}{r:bA}(hr:runs[i]?=some r)(h:x.calls.map aw.stop=r.calls.map aw.stop)(v:Int):(aC (runs.set i x) v).length=(aC runs v).length∧∀c,eX (aC (runs.set i x) v) c=eX (aC runs v) c:=by
 by_cases hv:v.toNat=i
 ·subst hv;have br:=(List.getElem?_eq_some_iff.1 hr).1;have h1:aC (runs.set v.toNat x) v=x.calls:=by unfold aC;rw[List.getElem?_set_self br];rfl
  have h2:aC runs v=r.calls:=by unfold aC;rw[hr];rfl
  rw[h1,h2];exact KZ h
 ·have h1:aC (runs.set i x) v=aC runs v:=by unfold aC;rw[List.getElem?_set_ne (fun h=>hv h.symm)]
  rw[h1];exact⟨rfl,fun _=>rfl⟩
theorem K0{i:Nat}{v:Int}(hv:v.toNat≠i):aC (runs.set i x) v=aC runs v:=by unfold aC;rw[List.getElem?_set_ne (fun h=>hv h.symm)]
theorem Hy{v:Int}(hv:0≤v∧v<(runs.length:Int)):aC (runs++[x]) v=aC runs v:=by unfold aC;rw[List.getElem?_append_left (by omega)]
theorem D4{l:List aH}(h:sO runs l){x:aH}(hx:x∈l):(0≤x.a∧x.a<(runs.length:Int))∧0≤x.b∧x.b<(runs.length:Int):=by obtain⟨k,hk,rfl⟩:=List.getElem_of_mem hx;have:=h k hk;rw[sA]at this;obtain⟨g1,g2,_⟩:=Cr this.1;exact⟨g1,g2⟩
theorem Cw{s r:Int}(h:xD x s r=0):eN x.id=true∧(decide (x.dw< -1)||decide (x.inst<0))=false∧(decide (x.day<0)||decide (x.day>36524))=false∧(decide (x.bk<0)||decide (x.bk≥r))=false∧(bu x.calls s 0 3155932800).2=0:=by
 unfold xD at h;by_cases h1:eN x.id=false
 ·rw[if_pos h1]at h;cases h
 rw[if_neg h1]at h;by_cases h2:(decide (x.dw< -1)||decide (x.inst<0))=true
 ·rw[if_pos h2]at h;cases h
 rw[if_neg h2]at h;by_cases h3:(decide (x.day<0)||decide (x.day>36524))=true
 ·rw[if_pos h3]at h;cases h
 rw[if_neg h3]at h;by_cases h4:(decide (x.bk<0)||decide (x.bk≥r))=true
 ·rw[if_pos h4]at h;cases h
 rw[if_neg h4]at h;exact⟨by simpa using h1,by simpa using h2,by simpa using h3,by simpa using h4,h⟩
theorem Hz{s r:Int}(h1:eN x.id=true)(h2:(decide (x.dw< -1)||decide (x.inst<0))=false)(h3:(decide (x.day<0)||decide (x.day>36524))=false)(h4:(decide (x.bk<0)||decide (x.bk≥r))=false)(h5:(bu x.calls s 0 3155932800).2=0):xD x s r=0:=by unfold xD;rw[if_neg (by simp[h1]),if_neg (by simp[h2]),if_neg (by simp[h3]),if_neg (by simp[h4])];exact h5
theorem AJ{N:ag}(h:(dD N).2.2=0){i:Nat}{r:bA}(hr:N.runs[i]?=some r)(hk:bh x=bh r)(ht:x.dw=r.dw)(mi:x.bk=r.bk)(hc:(bu x.calls N.stops.length 0 3155932800).2=0){l:List aH}(hl:l.length≤1024)(hg:sO (N.runs.set i x) l):(dD {N with runs:=N.runs.set i x,ah:=l}).2.2=0:=by
 rw[mQ]at h⊢;obtain⟨g1,g2,g3,g4,g5,g6⟩:=h;have hi:=(List.getElem?_eq_some_iff.1 hr).1;have hri:N.runs[i]=r:=(List.getElem?_eq_some_iff.1 hr).2;have hE:=((nI _ _ _).1 g3).2 i hi;rw[hri]at hE;obtain⟨e1,e2,e3,e4,e5⟩:=Cw hE.1;simp only[bh,Prod.mk.injEq]at hk;refine⟨g1,g2,?_,(qK _ _).2 ⟨hl,hg⟩,g5,g6⟩;refine Sj hi (by rw[hri];simp[bh,hk]) (Hz ?_ ?_ ?_ ?_ hc) g3
 ·rw[hk.1];exact e1
 ·rw[ht,hk.2.2];exact e2
 ·rw[hk.2.1];exact e3
 ·rw[mi];exact e4
theorem Pg(N:ag)(m:gP)(h:(dD N).2.2=0)(hm:fU m=0)(he:(sX N m).2=0):(dD (sX N m).1).2.2=0:=by
 obtain⟨m1,m2,m3,m4,m5⟩:=Sq hm;have hz:=(mQ N).1 h;obtain⟨g1,g2,g3,g4,g5,g6⟩:=hz;obtain⟨l1,l2⟩:=(qK _ _).1 g4;have ab0:=(nI _ _ _).1 g3;unfold sX at he⊢;by_cases k5:m.kind=5
 ·rw[if_pos k5]at he⊢;by_cases t1:(Ao N.runs m).isSome=true
  ·rw[if_pos t1]at he;cases he
  rw[if_neg t1]at he⊢;by_cases t2:m.bk<0∨m.bk≥(N.ae.length:Int)
  ·rw[if_pos t2]at he;cases he
  rw[if_neg t2]at he⊢;by_cases t3:(bu m.calls N.stops.length 0 3155932800).2≠0
  ·rw[if_pos t3]at he;exact absurd he t3
  rw[if_neg t3]at he⊢;by_cases t4:N.runs.length≥1024
  ·rw[if_pos t4]at he;cases he
  rw[if_neg t4]at he⊢;rw[mQ];have Rj:Ao N.runs m=none:=by
   cases hx:Ao N.runs m with
   |none=>rfl
   |some k=>rw[hx]at t1;exact absurd rfl t1
  refine⟨g1,g2,Sk (Si Rj) (Hz m1 (by show(decide ((-1:Int)< -1)||decide (m.inst<0))=false;simp;omega) (by show(decide (m.day<0)||decide (m.day>36524))=false;simp;omega) (by show(decide (m.bk<0)||decide (m.bk≥(N.ae.length:Int)))=false;simp;omega) (Decidable.of_not_not t3)) (by omega) g3,(qK _ _).2 ⟨l1,pq l2 (by simp) fun x hx v hv=>?_⟩,g5,g6⟩;obtain⟨b1,b2⟩:=D4 l2 hx;have:0≤v∧v<(N.runs.length:Int):=by
   rcases hv with rfl|rfl
   ·exact b1
   ·exact b2
  rw[Hy this];exact⟨rfl,fun _=>rfl⟩
 ·rw[if_neg k5]at he⊢;cases ht:Ao N.runs m with
  |none=>rw[ht]at he;cases he
  |some i=>
   obtain⟨hi,qq,_⟩:=xC ht;have hr:N.runs[i]?=some N.runs[i]:=List.getElem?_eq_getElem hi;rw[ht]at he;simp only[hr]at he⊢;have K1:=(Cw (ab0.2 i hi).1).2.2.2.2;have hlen:(N.runs.set i N.runs[i]).length=N.runs.length:=by simp
   by_cases t1:(m.kind=1∨m.kind=3)∧(m.call<0∨m.call≥(N.runs[i].calls.length:Int))
   ·rw[if_pos t1]at he;cases he
   rw[if_neg t1]at he⊢;by_cases k1:m.kind=1
   ·rw[if_pos k1]at he⊢;cases hp:prop N.runs[i].calls m.call m.bT with
    |mk o e=>
     rw[hp]at he;cases o with
     |none=>
      simp only at he;unfold prop at hp;subst he;split at hp
      ·cases hp
      ·split at hp
       ·cases hp
       ·split at hp
        ·cases hp
        ·split at hp
         ·cases hp
         ·cases hp
     |some l=>
      have CG:e=0:=by
       unfold prop at hp;split at hp
       ·cases hp
       ·split at hp
        ·cases hp
        ·split at hp
         ·cases hp
         ·split at hp
          ·simp only[Prod.mk.injEq]at hp;exact hp.2.symm
          ·cases hp
      subst CG;obtain⟨p1,p2⟩:=UR K1 hp;simp only;exact AJ (x:={N.runs[i]with calls:=l}) (l:=N.ah) h hr rfl rfl rfl p1 l1 (pq l2 (by simp) fun x hx v _=>uy hr p2 v)
   ·rw[if_neg k1]at he⊢;by_cases k2:m.kind=2
    ·rw[if_pos k2];exact AJ (x:={N.runs[i]with nF:=true}) (l:=N.ah) h hr rfl rfl rfl K1 l1 (pq l2 (by simp) fun x hx v _=>uy (x:={N.runs[i]with nF:=true}) hr rfl v)
    ·rw[if_neg k2]at he⊢;by_cases k3:m.kind=3
     ·rw[if_pos k3];exact AJ (x:={N.runs[i]with calls:=nr N.runs[i].calls m.call.toNat}) (l:=N.ah) h hr rfl rfl rfl (Fj (Cu _ _).symm K1) l1 (pq l2 (by simp) fun x hx v _=>uy hr (Pf (Cu _ _)) v)
     ·rw[if_neg k3]at he⊢;by_cases k4:m.kind=4
      ·rw[if_pos k4]at he⊢;by_cases t3:(bu m.calls N.stops.length 0 3155932800).2≠0
       ·rw[if_pos t3]at he;exact absurd he t3
       rw[if_neg t3]at he⊢;refine AJ (x:={N.runs[i]with calls:=m.calls}) h hr rfl rfl rfl (Decidable.of_not_not t3) (Nat.le_trans (List.length_filter_le _ _) l1) (Fi _ _ l2 (by simp) fun x hx hf v hv=>?_);simp only[Bool.not_eq_true',Bool.or_eq_false_iff,decide_eq_false_iff_not]at hf;obtain⟨b1,b2⟩:=D4 l2 hx;have cT:v.toNat≠i:=by
        rcases hv with rfl|rfl
        ·intro hc;apply hf.1;omega
        ·intro hc;apply hf.2;omega
       rw[K0 cT];exact⟨rfl,fun _=>rfl⟩
      ·rw[if_neg k4];exact h
end Go.Ab.Tt
namespace Go.Ab.Tt
set_option maxRecDepth 100000
set_option linter.unusedVariables false
set_option linter.unusedSimpArgs false
theorem Fk(x:gP):asAgg 13 x.pv=some ():=rfl
theorem Fl(x:gP):cell x.pv 0=.int .i64 x.source:=rfl
theorem Fm(x:gP):cell x.pv 1=.int .i64 x.seq:=rfl
theorem Fo(x:gP):cell x.pv 2=.int .i64 x.lI:=rfl
theorem Fq(x:gP):cell x.pv 3=.int .i64 x.iD:=rfl
theorem Fs(x:gP):cell x.pv 4=.int .i64 x.kind:=rfl
theorem Ft(x:gP):cell x.pv 5=.str x.dw:=rfl
theorem Fu(x:gP):cell x.pv 6=.int .i64 x.day:=rfl
theorem Fv(x:gP):cell x.pv 7=.int .i64 x.inst:=rfl
theorem Fx(x:gP):cell x.pv 8=.int .i64 x.call:=rfl
theorem Fy(x:gP):cell x.pv 9=.int .i64 x.bT:=rfl
theorem xE(x:gP):cell x.pv 10=.int .i64 x.bk:=rfl
theorem xF(x:gP):cell x.pv 11=.bool x.free:=rfl
theorem D5(x:gP):cell x.pv 12=.rs 5 (x.calls.map aw.pv):=rfl
theorem US(x:gP):PV.agg [.int .i64 x.source,.int .i64 x.seq,.int .i64 x.lI,.int .i64 x.iD,.int .i64 x.kind,.str x.dw,.int .i64 x.day,.int .i64 x.inst,.int .i64 x.call,.int .i64 x.bT,.int .i64 x.bk,.bool x.free,.rs 5 (x.calls.map aw.pv)]=x.pv:=rfl
theorem Cx(n a b:Int):bH [.int .i64 n,.int .i64 a,.int .i64 b]=some (.bool (wi n a b)):=by simp only[bH,oN,asInt,if_true,U,dy];rfl
theorem UT(n:Int):gJ [.int .i64 n]=some (.bool (wi n 0 36524)):=by simp only[gJ,wh,asInt,if_true,U,dy];rfl
def xG(k:Int):PV:=.agg [.bool (decide (k=1)||decide (k=3)),.bool (decide (k=1)),.bool (decide (k=5)),.bool (decide (k=5)),.bool (decide (k=4)||decide (k=5))]
theorem UU(k:Int):fo [.int .i64 k]=some (xG k):=by
 simp only[fo,so,asInt,if_true,U,fa];unfold xG;by_cases h1:k=1
 ·subst h1;rfl
 ·by_cases h3:k=3
  ·subst h3;rfl
  ·by_cases h4:k=4
   ·subst h4;rfl
   ·by_cases h5:k=5
    ·subst h5;rfl
    ·simp[h1,h3,h4,h5]
theorem ab1(k:Int):asAgg 5 (xG k)=some ():=rfl
theorem aeL(k:Int):cell (xG k) 0=.bool (decide (k=1)||decide (k=3)):=rfl
theorem aeM(k:Int):cell (xG k) 1=.bool (decide (k=1)):=rfl
theorem aeN(k:Int):cell (xG k) 2=.bool (decide (k=5)):=rfl
theorem aeO(k:Int):cell (xG k) 3=.bool (decide (k=5)):=rfl
theorem aeP(k:Int):cell (xG k) 4=.bool (decide (k=4)||decide (k=5)):=rfl
theorem UW(n:Nat):decide ((n:Int)>0)=decide (n>0):=by rw[Bool.eq_iff_iff];simp only[decide_eq_true_eq];omega
theorem HA(m:gP)(h:m.Ok):cM [m.pv]=some (.int .i64 (fU m)):=by
 have hid:=ua m.dw h.dw;have gz:=nU m.calls 64 0 3155932800 h.calls.1;simp only[res]at gz;simp only[cM,mr,Fk,Fl,Fm,Fo,Fq,Fs,Ft,Fu,Fv,Fx,Fy,xE,xF,D5,U,Cx,UT,UU,ab1,asInt,bx,ab,if_true,asBool,hid,bn,US];unfold fU;simp only[decide_eq_true_eq];cases wi m.source 0 7 with
 |false=>rfl
 |true=>
  by_cases h2:m.seq<1
  ·simp only[h2,if_true,Bool.not_true,Bool.false_eq_true,Bool.true_eq_false,if_false]
  simp only[h2,if_true,Bool.not_true,Bool.false_eq_true,Bool.true_eq_false,if_false];cases(!wi m.lI 0 3155932800|| !wi m.iD 0 3155932800||decide (m.lI≥m.iD))with
  |true=>rfl
  |false=>
   cases wi m.kind 1 6 with
   |false=>rfl
   |true=>
    cases eN m.dw with
    |false=>rfl
    |true=>
     cases wi m.day 0 36524 with
     |false=>rfl
     |true=>
      by_cases h7:m.inst<0
      ·simp only[h7,if_true,Bool.not_true,Bool.false_eq_true,Bool.true_eq_false,if_false]
      simp only[h7,if_true,Bool.not_true,Bool.false_eq_true,Bool.true_eq_false,if_false];have e0:PV.agg [cell (xG m.kind) 0,cell (xG m.kind) 1,cell (xG m.kind) 2,cell (xG m.kind) 3,cell (xG m.kind) 4]=xG m.kind:=rfl;rw[e0];simp only[dW,k8,Fk,Fl,Fm,Fo,Fq,Fs,Ft,Fu,Fv,Fx,Fy,xE,xF,D5,U,ab1,aeL,aeM,aeN,aeO,aeP,Cx,asBool,gz,bU,List.length_cons,List.length_nil,Nat.reduceAdd,if_true,List.getD_cons_zero,List.getD_cons_succ,asInt,bx,ab,bn,dy,jC,List.length_map,UW];generalize (decide (m.kind=1)||decide (m.kind=3))=uC;generalize decide (m.kind=1)=uS;generalize decide (m.kind=5)=uR;generalize (decide (m.kind=4)||uR)=uL;generalize (bu m.calls 64 0 3155932800).2=e;cases(uC&& !wi m.call 0 31||uS&& !wi m.bT (-43200) 43200||uR&& !wi m.bk 0 63)with
      |true=>rfl
      |false=>
       cases uL with
       |true=>
        by_cases he:e=0
        ·subst he;cases(!uC&& !decide (m.call=0)|| !uS&& !decide (m.bT=0)|| !uR&& !decide (m.bk=0)|| !uR&&m.free|| !true&&decide (m.calls.length>0))<;>rfl
        ·simp[he]
       |false=>cases(!uC&& !decide (m.call=0)|| !uS&& !decide (m.bT=0)|| !uR&& !decide (m.bk=0)|| !uR&&m.free|| !false&&decide (m.calls.length>0))<;>rfl
end Go.Ab.Tt
namespace Go.Ab.Tt
set_option maxRecDepth 100000
set_option linter.unusedVariables false
set_option linter.unusedSimpArgs false
theorem Sr{R:Type}(l:List bA)(m:gP)(g:Nat→R)(fin:Option R):c9 ((List.range l.length).findSome? fun k=>if decide ((l.map bh)[k]?=some m.key)=true then some (some (g k))else none) fin=(match Ao l m with|some k=>some (g k)|none=>fin):=by rw[pU (fun k=>decide ((l.map bh)[k]?=some m.key)) (fun k=>some (g k))];unfold Ao;cases(List.range l.length).find? (fun k=>decide ((l.map bh)[k]?=some m.key))<;>rfl
theorem UX(l:List bA)(m:gP)(k:Nat)(hk:k<l.length):decide ((l.map bh)[k]?=some m.key)=(decide (l[k].id=m.dw)&&decide (l[k].day=m.day)&&decide (l[k].inst=m.inst)):=by rw[Bool.eq_iff_iff];simp[List.getElem?_eq_getElem hk,bh,gP.key,and_assoc]
def HB(l:List bA)(m:gP):PV:=match Ao l m with|some k=>.bl [.int .i64 k,.bool true]|none=>.bl [.int .i64 0,.bool false]
theorem uz(N:ag)(m:gP)(hr:N.runs.length≤maxLen):bI [N.pv,m.pv]=some (HB N.runs m):=by
 have hm:=aW;simp only[bI,kZ,pD,rq,rr,ru,ry,rz,rA,rB,rC,rD,U];simp only[Fk,Fl,Fm,Fo,Fq,Fs,Ft,Fu,Fv,Fx,Fy,xE,xF,D5,U,asInt,bx,ab,if_true,asBool,List.length_map];generalize N.runs=l at hr⊢;have hs:=Sr l m (fun k=>PV.bl [.int .i64 k,.bool true]) (some (PV.bl [.int .i64 0,.bool false]));have hR:(match Ao l m with|some k=>some (PV.bl [.int .i64 k,.bool true])|none=>some (PV.bl [.int .i64 0,.bool false]))=some (HB l m):=by unfold HB;cases Ao l m<;>rfl
 rw[←hR,←hs];refine aX (fun k=>(l.map bA.pv,(l.length:Int),(k:Int),m.source,m.seq,m.lI,m.iD,m.kind,m.dw,m.day,m.inst,m.call,m.bT,m.bk,m.free,m.calls.map aw.pv,())) l.length _ (fun k hk rec=>?_) (fun rec=>?_) (by have:=aS;omega) rfl
 ·have h1:decide ((k:Int)<(l.length:Int))=true:=by simp;omega
  rw[UX l m k hk];unfold lJ;dsimp only;rw[if_pos h1,az,List.getElem?_map,List.getElem?_eq_getElem hk];simp only[Option.map_some,U,OM,ON,OO,asInt,bx,if_true,fa,dy,an (show k<9223372036854775807 by omega)];cases decide (l[k].id=m.dw)&&decide (l[k].day=m.day)&&decide (l[k].inst=m.inst)<;>rfl
 ·unfold lJ;dsimp only;rw[if_neg (by simp)]
end Go.Ab.Tt
namespace Go.Ab.Tt
set_option maxRecDepth 100000
set_option linter.unusedVariables false
set_option linter.unusedSimpArgs false
theorem ab2(x:aw):cell x.pv 3=.bool x.Hw:=rfl
theorem ab3(x:aw):cell x.pv 4=.bool x.Ct:=rfl
theorem ab4(x:aw):asAgg 5 x.pv=some ():=rfl
def Span(c:aw):Prop:=0≤c.arr∧c.arr≤c.dep∧c.dep≤gX
variable{c:aw}
theorem sC(h:Span c):0≤gY c∧gY c≤30:=by obtain⟨h1,h2,h3⟩:=h;unfold gY;split<;>omega
theorem mR:gX=3155932800:=rfl
theorem wrap_small{x:Int}(h1: -100000000000≤x)(h2:x≤100000000000):IntKind.i64.wrap x=x:=fy (by omega) (by omega)
theorem Cy(h:Span c):e8 [c.pv]=some (.int .i64 (gY c)):=by
 have:=mR;obtain⟨h1,h2,h3⟩:=h;simp only[e8,tN,ab4,G0,zI,zJ,ab2,ab3,asInt,asBool,U,if_true];rw[wrap_small (by omega) (by omega)];unfold gY;by_cases hd:c.dep-c.arr<30
 ·rw[if_neg (by omega),if_pos hd]
 ·rw[if_neg hd];by_cases he:30<c.dep-c.arr
  ·rw[if_pos he]
  ·rw[if_neg he];congr 2;omega
def zU(l:List aw)(k:Nat):Bool:=(l[k]?).elim false fun c=>decide (c.arr<((iy l k).map aw.dep).getD 0)||decide (c.dep<c.arr)||decide (c.dep>gX)
theorem Ph{R:Type}(l:List aw)(no fin:Option R):c9 ((List.range l.length).findSome? fun k=>if zU l k=true then some no else none) fin=if uv l=true then fin else no:=by
 rw[pU (zU l) (fun _=>no)];by_cases h:uv l=true
 ·rw[if_pos h];have:(List.range l.length).find? (zU l)=none:=by rw[List.find?_eq_none];intro k hk;have:=List.all_eq_true.1 h k hk;rw[List.mem_range]at hk;simp only[List.getElem?_eq_getElem hk,Option.elim_some]at this;simp only[zU,List.getElem?_eq_getElem hk,Option.elim_some];simpa using this
  rw[this];rfl
 ·rw[if_neg h];cases hf:(List.range l.length).find? (zU l)with
  |some k=>rfl
  |none=>exfalso;apply h;unfold uv;rw[List.all_eq_true];intro k hk;have:=List.find?_eq_none.1 hf k hk;rw[List.mem_range]at hk;simp only[zU,List.getElem?_eq_getElem hk,Option.elim_some]at this;simp only[List.getElem?_eq_getElem hk,Option.elim_some];simpa using this
variable{l:List aw}
theorem AK(h:uv l=true){k:Nat}(hk:k<l.length):((iy l k).map aw.dep).getD 0≤l[k].arr∧l[k].arr≤l[k].dep∧l[k].dep≤gX:=by have:=List.all_eq_true.1 h k (List.mem_range.2 hk);simp only[List.getElem?_eq_getElem hk,Option.elim_some,Bool.not_eq_true',Bool.or_eq_false_iff,decide_eq_false_iff_not]at this;omega
theorem nX(h:uv l=true):∀k,(hk:k<l.length)→Span l[k]:=by
 intro k;induction k with
 |zero=>intro hk;obtain⟨a,b,c⟩:=AK h hk;exact⟨a,b,c⟩
 |succ k ih=>
  intro hk;obtain⟨a,b,c⟩:=AK h hk;obtain⟨x,y,z⟩:=ih (by omega);have:((iy l (k+1)).map aw.dep).getD 0=(l[k]'(by omega)).dep:=by show((l[k]?).map aw.dep).getD 0=_;rw[List.getElem?_eq_getElem (by omega)];rfl
  rw[this]at a;exact⟨by omega,b,c⟩
theorem xH(l:List aw)(hl:l.length≤maxLen):ee [.rs 5 (l.map aw.pv)]=some (.bool (uv l)):=by
 have hm:=aW;simp only[ee,qB,ab,if_true,U,List.length_map];have hs:=Ph l (some (PV.bool false)) (some (PV.bool true));have hR:(if uv l=true then some (PV.bool true)else some (PV.bool false))=some (.bool (uv l)):=by cases uv l<;>rfl
 rw[←hR,←hs];refine aX (fun k=>(((iy l k).map aw.dep).getD 0,l.map aw.pv,(l.length:Int),(k:Int),())) l.length _ (fun k hk rec=>?_) (fun rec=>?_) (by have:=aS;omega) rfl
 ·have h1:decide ((k:Int)<(l.length:Int))=true:=by simp;omega
  unfold me;dsimp only;have hp:((iy l (k+1)).map aw.dep).getD 0=l[k].dep:=by show((l[k]?).map aw.dep).getD 0=_;rw[List.getElem?_eq_getElem hk];rfl
  rw[if_pos h1,az,List.getElem?_map,List.getElem?_eq_getElem hk];simp only[Option.map_some,U,zI,zJ,asInt,if_true,bn,an (show k<9223372036854775807 by omega),hp];have:zU l k=(decide (l[k].arr<((iy l k).map aw.dep).getD 0)||decide (l[k].dep<l[k].arr)||decide (l[k].dep>3155932800)):=by simp only[zU,List.getElem?_eq_getElem hk,Option.elim_some];rfl
  rw[this];cases(decide (l[k].arr<((iy l k).map aw.dep).getD 0)||decide (l[k].dep<l[k].arr)||decide (l[k].dep>3155932800))<;>rfl
 ·unfold me;dsimp only;rw[if_neg (by simp)]
theorem Nk(h:uv l=true){n:Nat}(hn:n<l.length){bT:Int}(h1: -43200≤bT)(h2:bT≤43200):0≤nc l n bT∧nc l n bT≤3200000000:=by
 obtain⟨a,b,c⟩:=nX h n hn;obtain⟨x,y,z⟩:=AK h hn;have:=mR;have hb:0≤((iy l n).map aw.dep).getD 0:=by
  cases n with
  |zero=>exact Int.le_refl _
  |succ n=>show 0≤((l[n]?).map aw.dep).getD 0;rw[List.getElem?_eq_getElem (by omega)];obtain⟨a,b,c⟩:=nX h n (by omega);show 0≤l[n].dep;omega
 unfold nc;rw[List.getElem?_eq_getElem hn];simp only[Option.map_some,Option.getD_some];split<;>omega
theorem zV(c d:aw)(ds:List aw)(a:Int):gv (c::d::ds) a=if(late c a).dep>gX then none else(gv (d::ds) (d.arr+(late c a).dep-c.dep)).map fun r=>late c a::r:=by rw[gv]
theorem D6(c:aw)(a:Int):gv [c] a=if(late c a).dep>gX then none else some [late c a]:=by rw[gv]
theorem Pj(c:aw)(cs:List aw)(a:Int)(h:(late c a).dep>gX):gv (c::cs) a=none:=by
 cases cs with
 |nil=>rw[D6,if_pos h]
 |cons d ds=>rw[zV,if_pos h]
theorem HC{a:Int}(h:Span c)(h0:0≤a)(h1:a≤8000000000):0≤(late c a).dep∧(late c a).dep≤8000000030:=by obtain⟨p,q⟩:=sC h;obtain⟨x,y,z⟩:=h;have:=mR;show 0≤(if a+gY c>c.dep then a+gY c else c.dep)∧(if a+gY c>c.dep then a+gY c else c.dep)≤8000000030;split<;>omega
theorem yT{d:aw}{a:Int}(h:Span c)(hd:Span d)(hcd:c.dep≤d.arr)(h0:0≤a)(h1:¬(late c a).dep>gX):0≤d.arr+(late c a).dep-c.dep∧d.arr+(late c a).dep-c.dep≤8000000000:=by
 obtain⟨p,q⟩:=sC h;obtain⟨x,y,z⟩:=h;obtain⟨x',y',z'⟩:=hd;have:=mR;have hh:c.dep≤(late c a).dep:=by show c.dep≤if a+gY c>c.dep then a+gY c else c.dep;split<;>omega
 omega
theorem ve(h:uv l=true):∀k,(hk:k+1<l.length)→(l[k]'(by omega)).dep≤l[k+1].arr:=by
 intro k hk;obtain⟨a,b,c⟩:=AK h hk;have:((iy l (k+1)).map aw.dep).getD 0=(l[k]'(by omega)).dep:=by show((l[k]?).map aw.dep).getD 0=_;rw[List.getElem?_eq_getElem (by omega)];rfl
 rw[this]at a;exact a
theorem vf(l:List aw)(hl:l.length≤1000000):dd [.rs 5 (l.map aw.pv)]=some (.rs 5 (l.map aw.pv)):=by
 have hb:1000000*32≤aa:=by decide
 simp only[dd,qC,ab,if_true,U,List.length_map];rw[if_pos (by refine⟨by omega,by omega,?_,by decide,by decide⟩;rw[Int.toNat_natCast];omega)];congr 2;rw[Int.toNat_natCast,List.length_replicate,List.take_of_length_le (by simp),List.drop_eq_nil_of_le (by simp),List.append_nil]
end Go.Ab.Tt
namespace Go.Ab.Tt
set_option maxRecDepth 100000
set_option linter.unusedVariables false
set_option linter.unusedSimpArgs false
theorem D7(x:bA):aZ 5 (cell x.pN 7)=some (x.calls.map aw.pv):=rfl
def outs(pre:List aw)(l:List aw)(k:Nat):List PV:=pre.map aw.pv++(l.drop k).map aw.pv
theorem HD(pre l:List aw)(k:Nat)(hp:pre.length=k)(hk:k≤l.length):(outs pre l k).length=l.length:=by unfold outs;simp;omega
theorem HE(pre l:List aw)(k:Nat)(hp:pre.length=k)(hk:k<l.length):(outs pre l k)[k]?=some l[k].pv:=by unfold outs;rw[List.getElem?_append_right (by simp;omega)];simp[hp,List.getElem?_eq_getElem hk]
theorem HF(pre l:List aw)(k:Nat)(hp:pre.length=k)(hk:k<l.length)(x:aw):(outs pre l k).set k x.pv=outs (pre++[x]) l (k+1):=by
 unfold outs;rw[List.set_append_right _ _ (by simp;omega)];have h0:k-(pre.map aw.pv).length=0:=by simp;omega
 rw[h0,List.drop_eq_getElem_cons hk,List.map_cons,List.set_cons_zero,List.map_append,List.append_assoc];rfl
variable{S R:Type}
theorem Cz{body:S→(S→Option R)→Option R}(st:Int→Nat→List PV→S)(l:List aw)(i:Nat)(err:Option R)(fin:List PV→Option R)(Ai:∀k a out rec,k<i→k<l.length→body (st a k out) rec=rec (st a (k+1) out))(tq:∀k a pre rec,i≤k→(hk:k<l.length)→pre.length=k→0≤a→a≤8000000000→body (st a k (outs pre l k)) rec=if(late l[k] a).dep>gX then err else if h:k+1<l.length then rec (st (l[k+1].arr+(late l[k] a).dep-l[k].dep) (k+1) (outs (pre++[late l[k] a]) l (k+1)))else rec (st a (k+1) (outs (pre++[late l[k] a]) l (k+1))))(mU:∀a out rec,body (st a l.length out) rec=fin out)(jd:∀k,(hk:k<l.length)→Span l[k])(hor:∀k,(hk:k+1<l.length)→(l[k]'(by omega)).dep≤l[k+1].arr)(hi:i<l.length)(hl:l.length+1<rounds)(a:Int)(h0:0≤a)(h1:a≤8000000000):cd.run body (st a 0 (l.map aw.pv))=match gv (l.drop i) a with|some r=>fin ((l.take i++r).map aw.pv)|none=>err:=by
 rw[kQ];have hA:∀k,k≤i→∀fu,cF body (k+fu) (st a (i-k) (l.map aw.pv))=cF body fu (st a i (l.map aw.pv)):=by
  intro k;induction k with
  |zero=>intro _ fu;rw[Nat.zero_add];rfl
  |succ k ih=>intro hk fu;rw[show k+1+fu=(k+fu)+1 by omega,cF,Ai (i-(k+1)) a _ _ (by omega) (by omega),show i-(k+1)+1=i-k by omega];exact ih (by omega) fu
 have hB:∀(j:Nat)(k:Nat)(a:Int)(pre:List aw)(fu:Nat),k+j=l.length→i≤k→j<fu→0≤a→a≤8000000000→pre.length=k→cF body fu (st a k (outs pre l k))=match gv (l.drop k) a with|some r=>fin ((pre++r).map aw.pv)|none=>err:=by
  intro j;induction j with
  |zero=>
   intro k a pre fu hk zP hf _ _ hp;obtain⟨fu,rfl⟩:∃f,fu=f+1:=⟨fu-1,by omega⟩;have kK:k=l.length:=by omega
   subst kK;rw[cF,mU,List.drop_length];simp[gv,outs]
  |succ j ih=>
   intro k a pre fu hk zP hf V4 ha1 hp;obtain⟨fu,rfl⟩:∃f,fu=f+1:=⟨fu-1,by omega⟩;have kK:k<l.length:=by omega
   have hc:=jd k kK;rw[cF,tq k a pre _ zP kK hp V4 ha1,List.drop_eq_getElem_cons kK];by_cases ux:(late l[k] a).dep>gX
   ·rw[if_pos ux,Pj _ _ _ ux]
   ·rw[if_neg ux];by_cases hn:k+1<l.length
    ·rw[dif_pos hn];obtain⟨n0,n1⟩:=yT hc (jd (k+1) hn) (hor k hn) V4 ux;rw[ih (k+1) _ _ fu (by omega) (by omega) (by omega) n0 n1 (by simp[hp]),List.drop_eq_getElem_cons hn,zV,if_neg ux];cases gv (l[k+1]::l.drop (k+1+1)) (l[k+1].arr+(late l[k] a).dep-l[k].dep)with
     |none=>rfl
     |some r=>simp
    ·rw[dif_neg hn];have hj:j=0:=by omega
     subst hj;obtain⟨fu,rfl⟩:∃f,fu=f+1:=⟨fu-1,by omega⟩;have XZ:k+1=l.length:=by omega
     rw[cF,List.drop_eq_nil_of_le (by omega),D6,if_neg ux];have:=mU a (outs (pre++[late l[k] a]) l (k+1)) (cF body fu);rw[←XZ]at this;rw[this];simp[outs,List.drop_eq_nil_of_le (show l.length≤k+1 by omega)]
 have e1:cd.run body (st a 0 (l.map aw.pv))=cF body rounds (st a 0 (l.map aw.pv)):=rfl;have e2:=hA i (Nat.le_refl _) (rounds-i);rw[Nat.sub_self,show i+(rounds-i)=rounds by omega]at e2;rw[e2];have e3:l.map aw.pv=outs (l.take i) l i:=by unfold outs;rw[←List.map_append,List.take_append_drop]
 rw[e3];exact hB (l.length-i) i a (l.take i) (rounds-i) (by omega) (Nat.le_refl _) (by omega) h0 h1 (by simp;omega)
theorem X0{body:S→(S→Option R)→Option R}(st:Nat→Nat→List PV→S)(l:List aH)(p:aH→Bool)(out:List PV→Option R)(tq:∀j i x rec,(hi:i<l.length)→x.length=l.length→j≤i→x[i]?=some l[i].pv→body (st j i x) rec=if p l[i]=true then rec (st (j+1) (i+1) (x.set j l[i].pv))else rec (st j (i+1) x))(mU:∀j x rec,x.length=l.length→j≤l.length→body (st j l.length x) rec=out (x.take j)):∀n j i x fu,i+n=l.length→j≤i→x.length=l.length→x.take j=((l.take i).filter p).map aH.pv→x.drop i=(l.drop i).map aH.pv→n<fu→cF body fu (st j i x)=out ((l.filter p).map aH.pv):=by
 intro n;induction n with
 |zero=>
  intro j i x fu hi hj hx ht hd hf;obtain⟨fu,rfl⟩:∃f,fu=f+1:=⟨fu-1,by omega⟩;have:i=l.length:=by omega
  subst this;rw[cF,mU j x _ hx hj,ht,List.take_length]
 |succ n ih=>
  intro j i x fu hi hj hx ht hd hf;obtain⟨fu,rfl⟩:∃f,fu=f+1:=⟨fu-1,by omega⟩;have PU:i<l.length:=by omega
  have eI:x[i]?=some l[i].pv:=by have:=congrArg (fun y=>y[0]?) hd;simpa[List.getElem?_drop,PU]using this
  have Ms:x.drop (i+1)=(l.drop (i+1)).map aH.pv:=by rw[←List.drop_drop,hd,←List.map_drop,List.drop_drop]
  rw[cF,tq j i x _ PU hx hj eI];by_cases hp:p l[i]=true
  ·rw[if_pos hp];refine ih (j+1) (i+1) _ fu (by omega) (by omega) (by rw[List.length_set,hx]) ?_ ?_ (by omega)
   ·rw[List.take_succ_eq_append_getElem PU,List.filter_append,List.map_append,←ht];simp only[List.filter_cons,hp,if_true,List.filter_nil,List.map_cons,List.map_nil];have xP:j<(x.set j l[i].pv).length:=by rw[List.length_set];omega
    rw[List.take_succ_eq_append_getElem xP,List.getElem_set_self,List.take_set_of_le (Nat.le_refl j)]
   ·rw[List.drop_set_of_lt (by omega),Ms]
  ·rw[if_neg hp];refine ih j (i+1) x fu (by omega) (by omega) hx ?_ Ms (by omega);rw[List.take_succ_eq_append_getElem PU,List.filter_append,List.map_append,←ht];simp[hp]
theorem Ss{S':Type}{body:S→(S→Option R)→Option R}{body3:S'→(S'→Option R)→Option R}(st:Nat→S)(Y8:Nat→Nat→List PV→S')(l:List aH)(p:aH→Bool)(out:List PV→Option R)(X6:∀j i x rec,(hi:i<l.length)→x.length=l.length→j≤i→x[i]?=some l[i].pv→body3 (Y8 j i x) rec=if p l[i]=true then rec (Y8 (j+1) (i+1) (x.set j l[i].pv))else rec (Y8 j (i+1) x))(ab5:∀j x rec,x.length=l.length→j≤l.length→body3 (Y8 j l.length x) rec=out (x.take j))(tq:∀k rec,(hk:k<l.length)→body (st k) rec=if p l[k]=true then rec (st (k+1))else cd.run body3 (Y8 k (k+1) (l.map aH.pv)))(mU:∀rec,body (st l.length) rec=out (l.map aH.pv))(hl:l.length+1<rounds):cd.run body (st 0)=out ((l.filter p).map aH.pv):=by
 have:∀n k fu,k+n=l.length→n<fu→(l.take k).filter p=l.take k→cF body fu (st k)=out ((l.filter p).map aH.pv):=by
  intro n;induction n with
  |zero=>
   intro k fu hk hf ht;obtain⟨fu,rfl⟩:∃f,fu=f+1:=⟨fu-1,by omega⟩;have:k=l.length:=by omega
   subst this;rw[List.take_length]at ht;rw[cF,mU,ht]
  |succ n ih=>
   intro k fu hk hf ht;obtain⟨fu,rfl⟩:∃f,fu=f+1:=⟨fu-1,by omega⟩;have kK:k<l.length:=by omega
   rw[cF,tq k _ kK];by_cases hp:p l[k]=true
   ·rw[if_pos hp];refine ih (k+1) fu (by omega) (by omega) ?_;rw[List.take_succ_eq_append_getElem kK,List.filter_append,ht];simp[hp]
   ·rw[if_neg hp,kQ];refine X0 Y8 l p out X6 ab5 (l.length-(k+1)) k (k+1) _ rounds (by omega) (by omega) (by simp) ?_ (by rw[List.map_drop]) (by omega);rw[List.take_succ_eq_append_getElem kK,List.filter_append,ht,←List.map_take];simp[hp]
 rw[kQ];exact this l.length 0 rounds (by omega) (by omega) (by simp)
structure Pk(N:ag):Prop where
 ok:N.Ok
 stops:N.stops.length≤1000
 ae:N.ae.length≤1000
 runs:N.runs.length≤100
 ah:N.ah.length≤1000
 paths:N.paths.length≤1000
 ar:N.ar.length≤1000
 calls:∀r∈N.runs,r.calls.length≤1000
def z9:PV:=.agg [.rs 0 [],.rs 0 [],.rs 0 [],.rs 0 [],.rs 0 [],.rs 0 [],.int .i64 0,.int .i64 0,.int .i64 0]
theorem St(N:ag)(h:N.Ok)(hp:N.paths.length≤4096):jK [N.pv]=some (.bool (decide ((dD N).2.2=0))):=by have hc:=OX N h hp;simp only[jK,tV,pD,rq,rr,ru,ry,rz,rA,rB,rC,rD,U,yF,hc];simp only[fX,bU,List.length_cons,List.length_nil,Nat.reduceAdd,if_true,List.getD_cons_zero,List.getD_cons_succ,asInt,U,zL]
end Go.Ab.Tt
namespace Go.Ab.Tt
set_option maxRecDepth 100000
set_option linter.unusedVariables false
set_option linter.unusedSimpArgs false
def X7(N:ag)(m:gP):PV:=if(sX N m).2=0 then .bl [(sX N m).1.pv,.int .i64 0]else .bl [z9,.int .i64 (sX N m).2]
def rJ(N:ag)(m:gP):PV:=if(dD N).2.2=0 then(if fU m=0 then X7 N m else .bl [z9,.int .i64 (fU m)])else .bl [z9,.int .i64 21]
def Su(N:ag)(m:gP)(k:Nat):=((N.runs.length:Int),(k:Int),N.stops.map Stop.pv,N.ae.map av.pv,N.runs.map bA.pv,N.ah.map aH.pv,N.paths.map Path.pv,N.ar.map aR.pv,N.aO,N.within,N.cap,(0:Int),(0:Int),(0:Int),N.ar.map aR.pv,N.aO,N.within,N.cap,m.source,m.seq,m.lI,m.iD,m.kind,m.dw,m.day,m.inst,m.call,m.bT,m.bk,m.free,m.calls.map aw.pv,(0:Int),(0:Int),(0:Int),N.stops.map Stop.pv,N.ae.map av.pv,mix bA.pN bA.pv N.runs k,N.ah.map aH.pv,N.paths.map Path.pv,())
theorem Pl(l:List bA):(mix bA.pN bA.pv l l.length).map PV.strip=l.map bA.pv:=by rw[E3,kq]
theorem uA{e:Int}{x y:Option PV}:(if(e !=0)=true then x else y)=if e=0 then y else x:=by by_cases h:e=0<;>simp[h]
theorem qf(l:List bA)(i:Nat)(hi:i<l.length):(l.map bA.pN)[i]?=some l[i].pN:=by simp[hi]
theorem Sv(l:List bA)(i:Nat)(hi:i<l.length):af (i:Int) (l.map bA.pN).length:=by rw[List.length_map];exact⟨by omega,by omega⟩
theorem sD(x:bA)(l:List aw):PV.agg [.int .i64 x.dw,.int .i64 x.day,.int .i64 x.inst,.str x.id,.int .i64 x.bk,.bool x.free,.bool x.nF,.fO 5 (l.map aw.pv)]=({x with calls:=l}:bA).pN:=rfl
theorem D8(n:Int):Ab.asInt .i64 (.int .i64 n)=some n:=rfl
theorem Nl(x:aw):PV.agg [cell x.pv 0,cell x.pv 1,cell x.pv 2,cell x.pv 3,cell x.pv 4]=x.pv:=rfl
theorem kI1(x:aw):Ab.asInt .i64 (cell x.pv 1)=some x.arr:=rfl
theorem kI2(x:aw):Ab.asInt .i64 (cell x.pv 2)=some x.dep:=rfl
theorem V5(x:aw)(a:Int):PV.agg (cell x.pv 0::.int .i64 a::over [] [cell x.pv 2,cell x.pv 3,cell x.pv 4])=({x with arr:=a}:aw).pv:=rfl
theorem V6(x:aw)(d:Int):PV.agg (cell x.pv 0::cell x.pv 1::.int .i64 d::over [] [cell x.pv 3,cell x.pv 4])=({x with dep:=d}:aw).pv:=rfl
theorem V7(c:aw)(a:Int):(if a+gY c>c.dep then a+gY c else c.dep)=(late c a).dep:=by cases c;exact id rfl
theorem Nn(c:aw)(a:Int):aw.mk c.stop a (late c a).dep c.Hw c.Ct=late c a:=rfl
theorem UY(x:bA)(l:List PV):(if(8:Nat)=1 then PV.fO 5 l else .agg (cell x.pN 0::cell x.pN 1::cell x.pN 2::cell x.pN 3::cell x.pN 4::cell x.pN 5::cell x.pN 6::.fO 5 l::over [] []))=.agg [.int .i64 x.dw,.int .i64 x.day,.int .i64 x.inst,.str x.id,.int .i64 x.bk,.bool x.free,.bool x.nF,.fO 5 l]:=rfl
theorem V8(x:bA):PV.agg (cell x.pN 0::cell x.pN 1::cell x.pN 2::cell x.pN 3::cell x.pN 4::cell x.pN 5::.bool true::over [] [cell x.pN 7])=({x with nF:=true}:bA).pN:=rfl
theorem yU(l:List bA)(i:Nat)(x:bA):((l.map bA.pN).set i x.pN).map PV.strip=(l.set i x).map bA.pv:=by rw[←List.map_set,kq]
theorem HG{A:Type}(l:List A)(k:Nat)(x:A)(h:k<l.length):(l.set k x)[k]?=some x:=by simp[h]
theorem im(k n:Nat)(h:k<n):af (k:Int) n:=⟨by omega,by omega⟩
def K2(N:ag)(i c:Nat)(a:Int)(k:Nat)(out:List PV):=((i:Int),(c:Int),a,((N.runs[i]?).elim 0 fun r=>(r.calls.length:Int)),(k:Int),(i:Int),N.runs.map bA.pN,out,N.aO,N.within,N.cap,(0:Int),(0:Int),(0:Int),N.stops.map Stop.pv,N.ae.map av.pv,N.ah.map aH.pv,N.paths.map Path.pv,N.ar.map aR.pv,())
def Fz(N:ag)(i:Nat)(l:List aw):ag:=match N.runs[i]? with|some r=>{N with runs:=N.runs.set i {r with calls:=l}}|none=>N
theorem Sw(N:ag)(h:Pk N)(i c:Nat)(hi:i<N.runs.length)(hc:c<N.runs[i].calls.length)(ho:uv N.runs[i].calls=true)(a:Int)(h0:0≤a)(h1:a≤8000000000):cd.run dH (K2 N i c a 0 (N.runs[i].calls.map aw.pv))=match gv (N.runs[i].calls.drop c) a with|some r=>some (.bl [(Fz N i (N.runs[i].calls.take c++r)).pv,.int .i64 0])|none=>some (.bl [z9,.int .i64 10]):=by
 have hlen:=h.calls N.runs[i] (List.getElem_mem hi);have Y9:1003<rounds:=by decide
 have jd:=nX ho;refine(Cz (K2 N i c) N.runs[i].calls c (some (.bl [z9,.int .i64 10])) (fun out=>some (.bl [.agg [.rs 4 (N.stops.map Stop.pv),.rs 3 (N.ae.map av.pv),.rs 8 (((N.runs.map bA.pN).set i (.agg [.int .i64 N.runs[i].dw,.int .i64 N.runs[i].day,.int .i64 N.runs[i].inst,.str N.runs[i].id,.int .i64 N.runs[i].bk,.bool N.runs[i].free,.bool N.runs[i].nF,.fO 5 out])).map PV.strip),.rs 5 (N.ah.map aH.pv),.rs 4 (N.paths.map Path.pv),.rs 6 (N.ar.map aR.pv),.int .i64 N.aO,.int .i64 N.within,.int .i64 N.cap],.int .i64 0])) (fun k a out rec hk kK=>?_) (fun k a pre rec hk kK hp V4 ha1=>?_) (fun a out rec=>?_) jd (ve ho) hc (by omega) a h0 h1).trans ?_
 ·unfold K2 dH;dsimp only;rw[List.getElem?_eq_getElem hi,Option.elim_some,if_pos (by rw[decide_eq_true_eq];omega),if_pos (by rw[decide_eq_true_eq];omega),an (by omega),Int.toNat_natCast]
 ·obtain⟨d0,d1⟩:=sC (jd k kK);obtain⟨s0,s1,s2⟩:=jd k kK;have hlm:=mR;have YY:=HD pre N.runs[i].calls k hp (by omega);have WO:∀x,((outs pre N.runs[i].calls k).set k x).length=N.runs[i].calls.length:=fun x=>by rw[List.length_set,YY]
  unfold K2 dH;dsimp only;rw[List.getElem?_eq_getElem hi,Option.elim_some,if_pos (by rw[decide_eq_true_eq];omega),if_neg (by rw[decide_eq_true_eq];omega)];simp only[Int.toNat_natCast,qf _ _ hi,U,D7,List.length_map,im k _ kK,if_true,List.getElem?_map,List.getElem?_eq_getElem kK,Option.map_some,YY,HE pre _ k hp kK,kI2,Nl,Cy (jd k kK),D8,V5,V6,WO,HG _ _ _ (show k<(outs pre N.runs[i].calls k).length by omega),List.set_set,wrap_small (show-100000000000≤a+gY N.runs[i].calls[k] by omega) (show a+gY N.runs[i].calls[k]≤100000000000 by omega),V7,Nn,an (show k<9223372036854775807 by omega),HF pre _ k hp kK,decide_eq_true_eq];have ep:=HC (jd k kK) V4 ha1;by_cases ux:(late N.runs[i].calls[k] a).dep>gX
  ·rw[if_pos (show(late N.runs[i].calls[k] a).dep>3155932800 by omega),if_pos ux];rfl
  ·rw[if_neg (show¬(late N.runs[i].calls[k] a).dep>3155932800 by omega),if_neg ux];by_cases hn:k+1<N.runs[i].calls.length
   ·obtain⟨n0,n1⟩:=yT (jd k kK) (jd (k+1) hn) (ve ho k hn) V4 ux;obtain⟨t0,t1,t2⟩:=jd (k+1) hn;rw[if_pos (by omega),dif_pos hn,if_pos (im _ _ hn),List.getElem?_eq_getElem hn];simp only[Option.map_some,U,kI1];rw[wrap_small (x:=N.runs[i].calls[k+1].arr+(late N.runs[i].calls[k] a).dep) (by omega) (by omega),wrap_small (by omega) (by omega)]
   ·rw[if_neg (by omega),dif_neg hn]
 ·unfold K2 dH;dsimp only;rw[List.getElem?_eq_getElem hi,Option.elim_some,if_neg (by simp)];simp only[Int.toNat_natCast,qf _ _ hi,U,Sv _ _ hi,if_true,UY]
 ·cases gv (N.runs[i].calls.drop c) a with
  |none=>rfl
  |some r=>simp only[sD,yU];simp only[Fz,List.getElem?_eq_getElem hi];rfl
theorem FA(x:aH):PV.agg [cell x.pv 0,cell x.pv 1,cell x.pv 2,cell x.pv 3,cell x.pv 4]=x.pv:=rfl
def yV(i:Nat)(l:aH):Bool:= !(decide (l.a=(i:Int))||decide (l.b=(i:Int)))
theorem vg(x:aH)(i:Nat):bP [x.pv,.rp [.int .i64 i]]=some (.bool (!yV i x)):=by have hA:asAgg 5 x.pv=some ():=rfl;simp only[bP,lb,hA,DL,MR,link2,MS,G3,asInt,asBool,if_true,U,bn,fa,yV,Bool.not_not]
def X8(N:ag)(i:Nat)(runs:List PV)(j k:Nat)(x:List PV):=((j:Int),(k:Int),x,(i:Int),N.aO,N.within,N.cap,(0:Int),(0:Int),(0:Int),N.stops.map Stop.pv,N.ae.map av.pv,runs,N.paths.map Path.pv,N.ar.map aR.pv,())
def Np(N:ag)(runs:List PV)(x:List PV):Option PV:=some (.bl [.agg [.rs 4 (N.stops.map Stop.pv),.rs 3 (N.ae.map av.pv),.rs 8 (runs.map PV.strip),.rs 5 x,.rs 4 (N.paths.map Path.pv),.rs 6 (N.ar.map aR.pv),.int .i64 N.aO,.int .i64 N.within,.int .i64 N.cap],.int .i64 0])
theorem Sx(N:ag)(h:Pk N)(i:Nat)(runs:List PV):cd.run (jh cd) ((N.ah.length:Int),0,N.ah.map aH.pv,(i:Int),N.aO,N.within,N.cap,0,0,0,N.stops.map Stop.pv,N.ae.map av.pv,runs,N.paths.map Path.pv,N.ar.map aR.pv,())=Np N runs ((N.ah.filter (yV i)).map aH.pv):=by
 have hk:=h.ah;have Y9:1003<rounds:=by decide
 refine Ss (fun k=>((N.ah.length:Int),(k:Int),N.ah.map aH.pv,(i:Int),N.aO,N.within,N.cap,0,0,0,N.stops.map Stop.pv,N.ae.map av.pv,runs,N.paths.map Path.pv,N.ar.map aR.pv,())) (X8 N i runs) (body3:=jj cd) N.ah (yV i) (Np N runs) (fun j k x rec kK hx hj hg=>?_) (fun j x rec hx hj=>?_) (fun k rec kK=>?_) (fun rec=>?_) (by omega)
 ·unfold X8 jj;dsimp only;rw[if_pos (by rw[decide_eq_true_eq];omega),if_pos (im _ _ (by omega)),Int.toNat_natCast,hg];simp only[U,FA,vg,asBool,Bool.not_not,an (show k<9223372036854775807 by omega),an (show j<9223372036854775807 by omega),im j x.length (by omega),if_true,Int.toNat_natCast,List.getElem?_eq_getElem (show j<x.length by omega)]
 ·unfold X8 jj;dsimp only;rw[if_neg (by rw[hx];simp)];simp only[Int.toNat_natCast,Int.toNat_zero,Nat.sub_zero,List.drop_zero];rw[if_pos (by exact⟨by omega,by omega,by omega,trivial⟩),if_pos (by exact⟨trivial,trivial,by omega,by omega⟩),if_pos (by refine⟨by omega,by omega,?_,trivial⟩;simp only[List.length_append,List.length_take,List.length_replicate,List.length_drop];omega)];unfold Np;rw[List.take_append_of_le_length (by simp;omega),List.take_take,Nat.min_self]
 ·unfold jh;dsimp only;rw[if_pos (by rw[decide_eq_true_eq];omega),if_pos (im _ _ (by simpa using kK)),Int.toNat_natCast,List.getElem?_map,List.getElem?_eq_getElem kK];simp only[Option.map_some,U,FA,vg,asBool,an (show k<9223372036854775807 by omega),fa];cases hp:yV i N.ah[k]with
  |true=>simp only[Bool.not_true,Bool.false_eq_true,if_false,if_true]
  |false=>simp only[Bool.not_false,if_true,Bool.false_eq_true,if_false];rw[if_neg (by rw[decide_eq_true_eq];omega)];rfl
 ·unfold jh;dsimp only;rw[if_neg (by simp)];rfl
theorem Sy(x:aw):setCells 5 x.pv 3 1 (.bool false)=({x with Hw:=false}:aw).pv:=rfl
theorem Sz(x:aw):setCells 5 x.pv 4 1 (.bool false)=({x with Ct:=false}:aw).pv:=rfl
theorem ab6(x:bA)(l:List aw):setRow 8 x.pN 7 (.fO 5 (l.map aw.pv))=({x with calls:=l}:bA).pN:=rfl
theorem Pm(N:ag)(m:gP)(h:Pk N)(hm:m.Ok)(hv:(dD N).2.2=0)(hc:m.calls.length≤1000)(rec:_→Option PV):jl cd (Su N m N.runs.length) rec=some (X7 N m):=by
 have hr:=h.runs;have hp:=vM (N.ar.map aR.pv) (by simpa using h.ar);have ht:=uz N m (by
  have:1000≤maxLen:=by decide
  omega)
 unfold Su jl;dsimp only;rw[if_neg (by simp),hp];simp only[U,ab,if_true,Pl,yF,US,ht];rw[E3];unfold X7 sX HB;simp only[fa,decide_eq_true_eq];by_cases k5:m.kind=5
 ·simp only[k5,if_true];cases htg:Ao N.runs m with
  |some i=>simp only[bU,List.length_cons,List.length_nil,Nat.reduceAdd,if_true,U,List.getD_cons_zero,List.getD_cons_succ,asInt,asBool,Option.isSome_some];rfl
  |none=>
   have gz:=nU m.calls N.stops.length 0 3155932800 hm.calls.1;simp only[res]at gz;have X9:=vf m.calls (by omega);simp only[bU,List.length_cons,List.length_nil,Nat.reduceAdd,if_true,U,List.getD_cons_zero,List.getD_cons_succ,asInt,asBool,Option.isSome_none,Bool.false_eq_true,if_false,List.length_map,bn,Bool.or_eq_true,decide_eq_true_eq,gz,uA];by_cases mi:m.bk<0∨m.bk≥(N.ae.length:Int)
   ·rw[if_pos mi,if_pos mi];rfl
   ·rw[if_neg mi,if_neg mi];by_cases he:(bu m.calls (N.stops.length:Int) 0 3155932800).2=0
    ·rw[if_pos he,if_neg (show¬((N.runs.length:Int)≥1024) by omega),X9];simp only[U,ab,if_true,he,ne_eq,not_true,if_false,if_neg (show¬(N.runs.length≥1024) by omega)];rw[if_pos (by
      have:101*80≤aa:=by decide
      rw[List.length_append,List.length_map,List.length_singleton];omega)]
     rw[List.map_append,kq];have:(N.runs++[KX m]).map bA.pv=N.runs.map bA.pv++[.agg [.int .i64 (-1),.int .i64 m.day,.int .i64 m.inst,.str m.dw,.int .i64 m.bk,.bool m.free,.bool false,.rs 5 (m.calls.map aw.pv)]]:=by simp[KX,bA.pv]
     simp only[ag.pv,this,if_true];rfl
    ·rw[if_neg he,if_neg he,if_pos he,if_neg he];rfl
 ·simp only[if_neg k5];cases htg:Ao N.runs m with
  |none=>simp only[bU,List.length_cons,List.length_nil,Nat.reduceAdd,if_true,U,List.getD_cons_zero,List.getD_cons_succ,asInt,asBool,Bool.not_false];rfl
  |some i=>
   obtain⟨hi,zP,_⟩:=xC htg;have pS:af (i:Int) N.runs.length:=⟨by omega,by omega⟩;have sd:=uh hv N.runs[i] (List.getElem_mem hi);simp only[bU,List.length_cons,List.length_nil,Nat.reduceAdd,if_true,U,List.getD_cons_zero,List.getD_cons_succ,asInt,asBool,Bool.not_true,Bool.false_eq_true,if_false,qf _ _ hi,List.getElem?_eq_getElem hi,pS,D7,Int.toNat_natCast,List.length_map,bn,dy,Bool.or_eq_true,decide_eq_true_eq];have To:((decide (m.kind=1)||decide (m.kind=3))&&(decide (m.call<0)||decide (m.call≥(N.runs[i].calls.length:Int))))=decide ((m.kind=1∨m.kind=3)∧(m.call<0∨m.call≥(N.runs[i].calls.length:Int))):=by rw[Bool.eq_iff_iff];simp
   rw[To];simp only[decide_eq_true_eq];by_cases hn:(m.kind=1∨m.kind=3)∧(m.call<0∨m.call≥(N.runs[i].calls.length:Int))
   ·rw[if_pos hn,if_pos hn];rfl
   rw[if_neg hn,if_neg hn];by_cases k1:m.kind=1
   ·simp only[k1,if_true];have OU:¬(m.call<0∨m.call≥(N.runs[i].calls.length:Int)):=fun hh=>hn ⟨.inl k1,hh⟩;have aeQ:=not_or.1 OU;unfold prop;rw[if_neg OU,if_neg (show¬(m.call<0∨m.call≥(N.runs[i].calls.length:Int))from OU)];by_cases hs:m.bT< -43200∨m.bT>43200
    ·rw[if_pos hs,if_pos hs];rfl
    rw[if_neg hs,if_neg hs];obtain⟨c,CO⟩:∃c:Nat,m.call=(c:Int):=⟨m.call.toNat,by omega⟩;have vD:c<N.runs[i].calls.length:=by omega
    have hlen:=h.calls N.runs[i] (List.getElem_mem hi);have ho:=xH N.runs[i].calls (by
     have:1000≤maxLen:=by decide
     omega)
    have hrq:NK (cell N.runs[i].pN 7)=some (.rs 5 (N.runs[i].calls.map aw.pv)):=rfl;simp only[hrq,U,ho,asBool];cases Ya:uv N.runs[i].calls with
    |false=>rfl
    |true=>
     have eu:0≤(N.runs[i].calls.length:Int)∧(N.runs[i].calls.length:Int)≤(N.runs[i].calls.length:Int)∧(N.runs[i].calls.length:Int).toNat*32≤aa∧0<32∧0<5:=by
      have:1000*32≤aa:=by decide
      refine⟨by omega,by omega,?_,by decide,by decide⟩;rw[Int.toNat_natCast];omega
     rw[if_neg (by decide),if_pos (by rw[Int.toNat_natCast]at eu;exact eu)];simp only[CO,Int.toNat_natCast];obtain⟨a1,a2⟩:=Nk Ya vD (show-43200≤m.bT by omega) (show m.bT≤43200 by omega);have hA:=Sw N h i c hi vD Ya _ a1 (by omega);have Tq:∀z:PV,List.take (List.replicate N.runs[i].calls.length z).length (N.runs[i].calls.map aw.pv)++List.drop N.runs[i].calls.length (List.replicate N.runs[i].calls.length z)=N.runs[i].calls.map aw.pv:=fun z=>by rw[List.length_replicate,List.take_of_length_le (by simp),List.drop_eq_nil_of_le (by simp),List.append_nil]
     have hS:∀A out,K2 N i c A 0 out=((i:Int),(c:Int),A,(N.runs[i].calls.length:Int),0,(i:Int),N.runs.map bA.pN,out,N.aO,N.within,N.cap,0,0,0,N.stops.map Stop.pv,N.ae.map av.pv,N.ah.map aH.pv,N.paths.map Path.pv,N.ar.map aR.pv,()):=fun A out=>by unfold K2;rw[List.getElem?_eq_getElem hi];rfl
     rw[hS]at hA;have hF:∀o,(match gv (N.runs[i].calls.drop c) (nc N.runs[i].calls c m.bT)with|some r=>some (PV.bl [(Fz N i (N.runs[i].calls.take c++r)).pv,.int .i64 0])|none=>some (PV.bl [z9,.int .i64 10]))=o→cd.run dH ((i:Int),(c:Int),nc N.runs[i].calls c m.bT,(N.runs[i].calls.length:Int),0,(i:Int),N.runs.map bA.pN,N.runs[i].calls.map aw.pv,N.aO,N.within,N.cap,0,0,0,N.stops.map Stop.pv,N.ae.map av.pv,N.ah.map aH.pv,N.paths.map Path.pv,N.ar.map aR.pv,())=o:=fun o ho=>hA.trans ho;have hlm:=mR;obtain⟨s0,s1,s2⟩:=nX Ya c vD;have tJ:∀A,A=nc N.runs[i].calls c m.bT→cd.run dH ((i:Int),(c:Int),A,(N.runs[i].calls.length:Int),0,(i:Int),N.runs.map bA.pN,N.runs[i].calls.map aw.pv,N.aO,N.within,N.cap,0,0,0,N.stops.map Stop.pv,N.ae.map av.pv,N.ah.map aH.pv,N.paths.map Path.pv,N.ar.map aR.pv,())=some (if(match(match gv (N.runs[i].calls.drop c) (nc N.runs[i].calls c m.bT)with|some r=>(some (N.runs[i].calls.take c++r),(0:Int))|none=>(none,10))with|(some l,_)=>(({N with runs:=N.runs.set i {N.runs[i]with calls:=l}}:ag),(0:Int))|(none,e)=>(N,e)).2=0 then PV.bl [(match(match gv (N.runs[i].calls.drop c) (nc N.runs[i].calls c m.bT)with|some r=>(some (N.runs[i].calls.take c++r),(0:Int))|none=>(none,10))with|(some l,_)=>(({N with runs:=N.runs.set i {N.runs[i]with calls:=l}}:ag),(0:Int))|(none,e)=>(N,e)).1.pv,.int .i64 0]else .bl [z9,.int .i64 (match(match gv (N.runs[i].calls.drop c) (nc N.runs[i].calls c m.bT)with|some r=>(some (N.runs[i].calls.take c++r),(0:Int))|none=>(none,10))with|(some l,_)=>(({N with runs:=N.runs.set i {N.runs[i]with calls:=l}}:ag),(0:Int))|(none,e)=>(N,e)).2]):=by
      intro A sY;subst sY;apply hF;cases gv (N.runs[i].calls.drop c) (nc N.runs[i].calls c m.bT)with
      |none=>rfl
      |some r=>simp only[Fz,List.getElem?_eq_getElem hi];rfl
     cases c with
     |zero=>rw[if_neg (by decide),if_pos (im _ _ vD)];simp only[List.getElem?_map,List.getElem?_eq_getElem vD,Option.map_some,U,zI,asInt,if_true,Tq];refine tJ _ ?_;rw[wrap_small (by omega) (by omega)];unfold nc;rw[List.getElem?_eq_getElem vD];simp only[iy,Option.map_some,Option.map_none,Option.getD_none,Option.getD_some];by_cases hx:N.runs[i].calls[0].arr+m.bT<0<;>simp[hx]
     |succ j=>
      have hj:j<N.runs[i].calls.length:=by omega
      rw[if_pos (by omega),vb j (by omega),if_pos (im _ _ hj)];simp only[Int.toNat_natCast,List.getElem?_map,List.getElem?_eq_getElem hj,Option.map_some,U,zI,zJ,asInt,if_true,Tq,im _ _ vD,List.getElem?_eq_getElem vD];refine tJ _ ?_;rw[wrap_small (by omega) (by omega)];unfold nc;rw[List.getElem?_eq_getElem vD];simp only[iy,List.getElem?_eq_getElem hj,Option.map_some,Option.getD_some]
   simp only[if_neg k1];by_cases k2:m.kind=2
   ·simp only[k2,if_true,qf _ _ hi,U,V8,yU];rfl
   simp only[if_neg k2];by_cases k3:m.kind=3
   ·simp only[k3,if_true];have OU:=not_or.1 (fun hh=>hn ⟨.inr k3,hh⟩:¬(m.call<0∨m.call≥(N.runs[i].calls.length:Int)));obtain⟨c,CO⟩:∃c:Nat,m.call=(c:Int):=⟨m.call.toNat,by omega⟩;have vD:c<N.runs[i].calls.length:=by omega
    simp only[CO,Int.toNat_natCast,im c _ vD,if_true,List.getElem?_map,List.getElem?_eq_getElem vD,Option.map_some,U,Sy,←List.map_set,ab6,List.length_set,List.length_map,pS,List.getElem?_set_self hi,D7,List.getElem?_set_self vD,Sz,List.set_set,kq];simp only[nr,List.getElem?_eq_getElem vD];rfl
   simp only[if_neg k3];by_cases k4:m.kind=4
   ·simp only[k4,if_true];have gz:=nU m.calls N.stops.length 0 3155932800 hm.calls.1;simp only[res]at gz;have X9:=vf m.calls (by omega);simp only[gz,U,bU,List.length_cons,List.length_nil,Nat.reduceAdd,if_true,List.getD_cons_zero,List.getD_cons_succ,asInt,uA];by_cases he:(bu m.calls (N.stops.length:Int) 0 3155932800).2=0
    ·simp only[he,X9,U,ab,if_true,ne_eq,not_true,if_false];rw[Sx N h i,UY,sD];unfold Np;rw[yU];rfl
    ·rw[if_neg he,if_neg he,if_pos he,if_neg he];rfl
   simp only[if_neg k4];rfl
theorem Nq(x:bA)(l:List PV):(if(8:Nat)=1 then PV.fO 5 l else .agg (cell x.pv 0::cell x.pv 1::cell x.pv 2::cell x.pv 3::cell x.pv 4::cell x.pv 5::cell x.pv 6::.fO 5 l::over [] []))=.agg [.int .i64 x.dw,.int .i64 x.day,.int .i64 x.inst,.str x.id,.int .i64 x.bk,.bool x.free,.bool x.nF,.fO 5 l]:=rfl
theorem wB(N:ag)(m:gP)(h:Pk N)(hm:m.Ok)(hc:m.calls.length≤1000):aY [N.pv,m.pv]=some (rJ N m):=by
 have hr:=h.runs;have Y9:1003<rounds:=by decide
 have Be:=Ci N h.ok (by have:=h.paths;omega);have hmk:=HA m hm;have f1:=Cj (N.stops.map Stop.pv) (by simpa using h.stops);have f2:=zN (N.ae.map av.pv) (by simpa using h.ae);have f3:=DN (N.runs.map bA.pv) (by simp;omega);have f4:=Ck (N.ah.map aH.pv) (by simpa using h.ah);have f5:=uk (N.paths.map Path.pv) (by simpa using h.paths);simp only[aY,mq,pD,rq,rr,ru,ry,rz,rA,rB,rC,rD,U,yF,Be];simp only[fX,bU,List.length_cons,List.length_nil,Nat.reduceAdd,if_true,List.getD_cons_zero,List.getD_cons_succ,asInt,U,Fk,Fl,Fm,Fo,Fq,Fs,Ft,Fu,Fv,Fx,Fy,xE,xF,D5,bx,ab,asBool,US,hmk,uA,f1,f2,f3,f4,f5,List.length_map];unfold rJ;by_cases hv:(dD N).2.2=0
 ·rw[if_pos hv,if_pos hv];by_cases he:fU m=0
  ·rw[if_pos he,if_pos he];refine bL (Su N m) N.runs.length (fun k hk rec=>?_) (fun rec=>Pm N m h hm hv hc rec) (by omega) (by unfold Su;rw[Hi];rfl);have fc:=Cl (N.runs[k].calls.map aw.pv) (by simpa using h.calls _ (List.getElem_mem hk));unfold Su jl;dsimp only;rw[if_pos (by rw[decide_eq_true_eq];omega),if_pos (E4 _ _ _ _ hk),Int.toNat_natCast,M1 _ _ _ _ hk];simp only[U,EU,fc,ab,if_true,E4 _ _ _ _ hk,Nq,an (show k<9223372036854775807 by omega)];have:=M3 bA.pN bA.pv N.runs k hk;rw[←this];rfl
  ·rw[if_neg he,if_neg he];rfl
 ·rw[if_neg hv,if_neg hv];rfl
structure nu(q:PV)(m:gP):Prop where
 hA:asAgg 13 q=some ()
 h0:cell q 0=.int .i64 m.source
 h1:cell q 1=.int .i64 m.seq
 h2:cell q 2=.int .i64 m.lI
 h3:cell q 3=.int .i64 m.iD
 h4:cell q 4=.int .i64 m.kind
 h5:cell q 5=.str m.dw
 h6:cell q 6=.int .i64 m.day
 h7:cell q 7=.int .i64 m.inst
 h8:cell q 8=.int .i64 m.call
 h9:cell q 9=.int .i64 m.bT
 FT:cell q 10=.int .i64 m.bk
 Yb:cell q 11=.bool m.free
 Yc:ab 5 (cell q 12)=some (m.calls.map aw.pv)
def Nr(q:PV):PV:=.agg [cell q 0,cell q 1,cell q 2,cell q 3,cell q 4,cell q 5,cell q 6,cell q 7,cell q 8,cell q 9,cell q 10,cell q 11,cell q 12]
theorem nu.agg{q:PV}{m:gP}(h:nu q m):nu (Nr q) m:=⟨rfl,h.h0,h.h1,h.h2,h.h3,h.h4,h.h5,h.h6,h.h7,h.h8,h.h9,h.FT,h.Yb,h.Yc⟩
structure zW(p:PV)(N:ag):Prop where
 hA:asAgg 9 p=some ()
 h0:ab 4 (cell p 0)=some (N.stops.map Stop.pv)
 h1:ab 3 (cell p 1)=some (N.ae.map av.pv)
 h2:ab 8 (cell p 2)=some (N.runs.map bA.pv)
 h3:ab 5 (cell p 3)=some (N.ah.map aH.pv)
 h4:ab 4 (cell p 4)=some (N.paths.map Path.pv)
 h5:ab 6 (cell p 5)=some (N.ar.map aR.pv)
 h6:asInt .i64 (cell p 6)=some N.aO
 h7:asInt .i64 (cell p 7)=some N.within
 h8:asInt .i64 (cell p 8)=some N.cap
theorem SA(N:ag):zW N.pv N:=⟨rfl,rfl,rfl,rfl,rfl,rfl,rfl,rfl,rfl,rfl⟩
theorem Yd(x:gP):ab 5 (cell x.pv 12)=some (x.calls.map aw.pv):=rfl
theorem HH{q:PV}{m:gP}(hq:nu q m):cM [q]=cM [m.pv]:=by simp only[cM,mr,hq.hA,hq.h0,hq.h1,hq.h2,hq.h3,hq.h4,hq.h5,hq.h6,hq.h7,hq.h8,hq.h9,hq.FT,hq.Yb,hq.Yc,Fk,Fl,Fm,Fo,Fq,Fs,Ft,Fu,Fv,Fx,Fy,xE,xF,Yd]
theorem zX{p q:PV}{N:ag}{m:gP}(hp:zW p N)(hq:nu q m):bI [p,q]=bI [N.pv,m.pv]:=by simp only[bI,kZ,hp.hA,hp.h0,hp.h1,hp.h2,hp.h3,hp.h4,hp.h5,hp.h6,hp.h7,hp.h8,hq.hA,hq.h0,hq.h1,hq.h2,hq.h3,hq.h4,hq.h5,hq.h6,hq.h7,hq.h8,hq.h9,hq.FT,hq.Yb,hq.Yc,pD,rq,rr,ru,ry,rz,rA,rB,rC,rD,Fk,Fl,Fm,Fo,Fq,Fs,Ft,Fu,Fv,Fx,Fy,xE,xF,Yd]
theorem K3{p q:PV}{N:ag}{m:gP}(hp:zW p N)(hq:nu q m):aY [p,q]=aY [N.pv,m.pv]:=by simp only[aY,mq,hp.hA,hp.h0,hp.h1,hp.h2,hp.h3,hp.h4,hp.h5,hp.h6,hp.h7,hp.h8,hq.hA,hq.h0,hq.h1,hq.h2,hq.h3,hq.h4,hq.h5,hq.h6,hq.h7,hq.h8,hq.h9,hq.FT,hq.Yb,hq.Yc,pD,rq,rr,ru,ry,rz,rA,rB,rC,rD,Fk,Fl,Fm,Fo,Fq,Fs,Ft,Fu,Fv,Fx,Fy,xE,xF,Yd,U]
end Go.Ab.Tt
