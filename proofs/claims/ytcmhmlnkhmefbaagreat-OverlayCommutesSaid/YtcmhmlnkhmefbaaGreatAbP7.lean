import Derived.Test.YtcmhmlnkhmefbaaGreatAbP6
import Derived.OrdersIn
set_option linter.unusedVariables false
namespace Go.Ab
open Go.RowKit (Below)
def sR(f F:Fr):Prop:=∀t,f t=F t∨f t=.top
theorem sR.refl(f:Fr):sR f f:=fun _=>.inl rfl
theorem sR.put{f F:Fr}(h:sR f F)(d:Option Nat)(v:V):sR (gP f d v) (gP F d v):=by
 intro t;cases d with
 |none=>exact h t
 |some d=>
  simp only[gP,fh];cases Nat.beq t d
  ·exact h t
  ·exact .inl rfl
theorem dQ{f:Fr}{d:Option Nat}{v:V}{t:Nat}(h:d≠some t):gP f d v t=f t:=by
 cases d with
 |none=>rfl
 |some d=>exact ou (fun e=>h (by rw[e]))
theorem iQ{f:Fr}{v:V}{t:Nat}:gP f (some t) v t=v:=by simp[gP,fh,Nat.beq_refl]
section
variable {E:Env} {ops:Array Oper} {w0:bx}
variable{nt:Nat}{μ:Ro}{φ:Nat→aF}{f:Fr}{m:Mem}{a:Act}
theorem Rel.weaken{f':Fr}{w:World}(h:Rel E.P E.aH nt w0 μ φ f m a w)(hf:sR f' f):Rel E.P E.aH nt w0 μ φ f' m a w:=
 {h with
  fr:=fun t=>by
   rcases hf t with e|e
   ·rw[e];exact h.fr t
   ·rw[e];exact .top,
  live:=fun t id hid=>by
   rcases hf t with e|e
   ·rw[e]at hid;exact h.live t id hid
   ·rw[e]at hid;cases hid}
variable{t:Nat}
theorem BC{d:Nat}{y:Value}(hd:d<a.tmps.size):(a.put (some d) y).tmps.getD t undef=if t=d then y else a.tmps.getD t undef:=by
 simp only[Act.put,Array.getD_eq_getD_getElem?,Array.getElem?_setIfInBounds];by_cases e:d=t
 ·subst e;simp[hd]
 ·have e':¬t=d:=fun h=>e h.symm;simp[e,e']
theorem Rel.put{nt:Nat}{μ μ':Ro}{φ φ':Nat→aF}{f f':Fr}{m m':Mem}{a:Act}{w w':World}(h:Rel E.P E.aH nt w0 μ φ f m a w)(hle:GJ μ μ'){dst:Option Nat}{v:V}{y:Value}(hd:∀d,dst=some d→d<nt)(hM:ax E.P E.aH w0 μ' φ' m' w')(hF:ck E.P μ' φ' m' f' (az nt w0 a))(hv:ai E.P μ' φ' v y)(hl:∀id,v.has id=true→(m' id).isSome=true):Rel E.P E.aH nt w0 μ' φ' (gP f' dst v) m' (a.put dst y) w':=by
 refine{toax:=hM,size:=?_,defers:=?_,kF:=h.kF,fr:=fun t=>?_,live:=fun t id hid=>?_}
 ·cases dst<;>simp[Act.put,h.size]
 ·cases dst<;>exact h.defers.mono hle
 ·cases dst with
  |none=>exact hF.fr t
  |some d=>
   have br:d<a.tmps.size:=by rw[h.size];exact hd d rfl
   have hf:=hF.fr t;by_cases e:t=d
   ·subst e;rw[og (hd t rfl),BC br,if_pos rfl,iQ];exact hv
   ·rw[dQ (by simpa using fun h=>e h.symm)];unfold az at hf⊢;split
    ·rename_i ht;rw[if_pos ht]at hf;rw[BC br,if_neg e];exact hf
    ·rename_i ht;rw[if_neg ht]at hf;exact hf
 ·by_cases e:dst=some t
  ·subst e;rw[iQ]at hid;exact hl id hid
  ·rw[dQ e]at hid;exact hF.live t id hid
theorem Ux(h:t<E.fn.ntmps):bB E f (.tmp t)=f t:=by simp only[bB];rw[show Nat.blt t E.fn.ntmps=true by rw[Nat.blt_eq];exact h];rfl
theorem BD{p:PV}(h:bB E f (.tmp t)=.pv p):t<E.fn.ntmps∧f t=.pv p:=by
 simp only[bB]at h;cases e:Nat.blt t E.fn.ntmps with
 |true=>rw[e]at h;exact⟨by rwa[Nat.blt_eq]at e,h⟩
 |false=>rw[e]at h;cases h
theorem Q4{F:Fr}(h:sR f F)(q:Operand):bB E f q=bB E F q∨bB E f q=.top:=by
 cases q with
 |tmp t=>
  simp only[bB];cases Nat.blt t E.fn.ntmps with
  |true=>exact h t
  |false=>exact .inr rfl
 |_=>exact .inl rfl
def oG(nt:Nat)(ops:Array Oper)(A:List (Nat×Bool))(f:Fr):Prop:=∀g∈A,∃t,(ops[g.1]?).bind (·.dst)=some t∧t<nt∧f t=.pv (.bool g.2)
def wU(ops:Array Oper)(A:List (Nat×Bool))(a:Act):Prop:=∀g∈A,∃t,(ops[g.1]?).bind (·.dst)=some t∧a.tmps.getD t undef=.bool g.2
def Xp(ops:Array Oper)(A:List (Nat×Bool))(l:List (Nat×Oper)):Prop:=∀x∈l,∀g∈A,∀t,(ops[g.1]?).bind (·.dst)=some t→x.2.dst≠some t
variable{d:Option Nat}{A:List (Nat×Bool)}
theorem oG.put(h:oG nt ops A f){v:V}(hd:∀g∈A,∀t,(ops[g.1]?).bind (·.dst)=some t→d≠some t):oG nt ops A (gP f d v):=by intro g hg;obtain⟨t,h1,h0,h2⟩:=h g hg;exact⟨t,h1,h0,by rw[dQ (hd g hg t h1)];exact h2⟩
variable{o:Oper}
theorem gS(h:tb E o=true):∀d,o.dst=some d→d<E.fn.ntmps:=by intro d hd;simp only[tb,hd]at h;rw[Nat.blt_eq]at h;exact h
variable{b:Bool}
theorem se{j:Nat}(h:(ops[j]?).bind (·.dst)=some t)(hb:a.tmps.getD t undef=.bool b):yielded ops a.tmps j=some b:=by
 simp only[yielded,h,Option.bind_some];have:a.tmps[t]?=some (.bool b):=by
  rw[Array.getD_eq_getD_getElem?]at hb;cases e:a.tmps[t]? with
  |none=>rw[e]at hb;simp[undef]at hb
  |some x=>rw[e]at hb;simpa using hb
 rw[this]
theorem yq(ho:guardOf o A=none)(hA:wU ops A a):Region.wanted o (yielded ops a.tmps)=true:=by
 unfold guardOf at ho;unfold Region.wanted;split at ho
 ·rename_i hg;simp[hg]
 ·rename_i g hg;split at ho
  ·rename_i bO;obtain⟨t,h1,h2⟩:=hA g (by simpa using bO);simp only[hg];rw[se h1 h2];simp
  ·cases ho
theorem wU.put(h:wU ops A a){y:Value}(hs:∀t,d=some t→t<a.tmps.size)(hd:∀g∈A,∀t,(ops[g.1]?).bind (·.dst)=some t→d≠some t):wU ops A (a.put d y):=by
 intro g hg;obtain⟨t,h1,h2⟩:=h g hg;refine⟨t,h1,?_⟩;cases d with
 |none=>exact h2
 |some d=>rw[BC (hs d rfl),if_neg fun e=>hd g hg t h1 (by rw[e])];exact h2
def Oy(ops:Array Oper)(f:Fr)(o:Oper):Prop:=∃g,o.guard=some g∧∀t,(ops[g.1]?).bind (·.dst)=some t→f t=.bm []∨f t=.pv (.bool (!g.2))
theorem Oz{P:Program}{x:Value}(h:ai P μ φ (.bm []) x):x=undef:=by
 cases h with
 | @bm _ xs h1 _=>have:xs= #[]:=Array.eq_empty_of_size_eq_zero (by simpa using h1.symm);subst this;rfl
theorem BE{P:Program}:ai P μ φ (.bm []) undef:=.bm rfl (by simp)
theorem vC{w:World}(h:Rel E.P E.aH nt w0 μ φ f m a w)(hd:Oy ops f o):Region.wanted o (yielded ops a.tmps)=false:=by
 obtain⟨g,hg,ht⟩:=hd;simp only[Region.wanted,hg];cases hs:(ops[g.1]?).bind (·.dst)with
 |none=>simp[yielded,hs]
 |some t=>
  have hy:nt≤t→yielded ops a.tmps g.1=none:=fun hle=>by simp only[yielded,hs,Option.bind_some];rw[Array.getElem?_eq_none (by rw[h.size];exact hle)]
  by_cases CN:nt≤t
  ·rw[hy CN];rfl
  have br:t<nt:=Nat.lt_of_not_le CN;have h3:=h.fr t;rw[og br]at h3;rcases ht t hs with e|e
  ·rw[e]at h3;have h4:=Oz h3;have:yielded ops a.tmps g.1=none:=by
    simp only[yielded,hs,Option.bind_some];rw[Array.getD_eq_getD_getElem?]at h4;cases e:a.tmps[t]? with
    |none=>rfl
    |some x=>rw[e]at h4;simp only[Option.getD_some]at h4;subst h4;rfl
   rw[this];rfl
  ·rw[e]at h3;rw[se hs (oE h3)];cases g.2<;>rfl
theorem sf{t:Nat}:∀{l:List (Nat×Oper)}{f:Fr},(∀x∈l,x.2.dst≠some t)→gC f l t=f t
 |[],_,_=>rfl
 |x::r,f,h=>by rw[gC,sf (fun y hy=>h y (by simp[hy])),dQ (h x (by simp))]
theorem uQ{t:Nat}:∀{l:List (Nat×Oper)}{f:Fr},(∀x∈l,x.2.dst≠some t)→kJ f l t=f t
 |[],_,_=>rfl
 |x::r,f,h=>by rw[kJ,uQ (fun y hy=>h y (by simp[hy])),dQ (h x (by simp))]
theorem yr{t:Nat}:∀{l:List (Nat×Oper)}{f:Fr},(f t=.top∨∃x∈l,x.2.dst=some t)→kJ f l t=.top
 |[],_,h=>by
  rcases h with h|⟨x,hx,_⟩
  ·exact h
  ·cases hx
 |x::r,f,h=>by
  rw[kJ];by_cases e:x.2.dst=some t
  ·exact yr (.inl (by rw[e,iQ]))
  ·refine yr ?_;rcases h with h|⟨y,hy,hd⟩
   ·exact .inl (by rw[dQ e];exact h)
   ·rcases List.mem_cons.1 hy with rfl|hy
    ·exact absurd hd e
    ·exact .inr ⟨y,hy,hd⟩
theorem uT{l:List (Nat×Oper)}{F:Fr}(h:∀t,(∀x∈l,x.2.dst≠some t)→f t=F t∨f t=.top):sR (kJ f l) F:=by
 intro t;by_cases e:∃x∈l,x.2.dst=some t
 ·exact .inr (yr (.inr e))
 ·have e':∀x∈l,x.2.dst≠some t:=fun x hx hd=>e ⟨x,hx,hd⟩;rw[uQ e'];exact h t e'
theorem wV{g:Nat×Bool}{tj:Nat}(hj:(ops[g.1]?).bind (·.dst)=some tj):∀{l:List (Nat×Oper)}{done:List Nat}{f:Fr},ta g done l=true→(∀x∈l,ops[x.1]?=some x.2)→(∀x∈l,x.2.dst≠some tj)→f tj=.pv (.bool (!g.2))→(∀j∈done,∀t,(ops[j]?).bind (·.dst)=some t→f t=.bm [])→∀(pre post:List (Nat×Oper))(x:Nat×Oper),l=pre++x::post→Oy ops (gC f pre) x.2
 |[],_,_,_,_,_,_,_,pre,post,x,h=>by simp at h
 |y::r,done,f,hg,hl,hd,hb,Jn,pre,post,x,h=>by
  simp only[ta,Bool.and_eq_true]at hg;cases pre with
  |nil=>
   simp only[List.nil_append,List.cons.injEq]at h;obtain⟨rfl,rfl⟩:=h;rw[gC];have h1:=hg.1;split at h1
   ·rename_i hh Q5;refine⟨hh,Q5,fun t ht=>?_⟩;rcases Bool.or_eq_true_iff.1 h1 with h2|h2
    ·simp only[Bool.and_eq_true]at h2;have e1:=Nat.eq_of_beq_eq_true h2.1;have e2:hh.2=g.2:=by simpa using h2.2
     rw[e1]at ht;rw[hj]at ht;cases ht;exact .inr (by rw[e2];exact hb)
    ·exact .inl (Jn _ (by simpa using h2) t ht)
   ·cases h1
  |cons z pre=>
   simp only[List.cons_append,List.cons.injEq]at h;obtain⟨rfl,h⟩:=h;rw[gC];refine wV hj hg.2 (fun x hx=>hl x (by simp[hx])) (fun x hx=>hd x (by simp[hx])) (by rw[dQ (hd y (by simp))];exact hb) (fun j hjm t ht=>?_) pre post x h;by_cases e:y.2.dst=some t
   ·rw[e,iQ]
   ·rw[dQ e];rcases List.mem_cons.1 hjm with rfl|hjm
    ·rw[hl y (by simp)]at ht;exact absurd ht e
    ·exact Jn j hjm t ht
theorem BF{A:List (Nat×Bool)}:∀{l a b:List (Nat×Oper)},y0 A l=(a,b)→l=a++b
 |[],a,b,h=>by simp[y0]at h;obtain⟨rfl,rfl⟩:=h;rfl
 |x::r,a,b,h=>by
  simp only[y0]at h;split at h
  ·cases hs:y0 A r with
   |mk a' b'=>rw[hs]at h;simp only[Prod.mk.injEq]at h;obtain⟨rfl,rfl⟩:=h;rw[BF hs];rfl
  ·simp only[Prod.mk.injEq]at h;obtain⟨rfl,rfl⟩:=h;rfl
theorem wW{v:V}(h:vk v=some b):v=.pv (.bool b):=by
 unfold vk at h;split at h
 ·cases h;rfl
 ·cases h
theorem VX(hE:iJ E){site:Nat}{draw:Bool}{v:V}{f':Fr}{m':Mem}{ft:bp}(hn:draw=true∨∃c x y,o.op=.pick c x y)(h:∀(R':Type)(k':V→Fr→Mem→bp→Option R'),Ge E draw site o f m k'=k' v f' m' ft):sc E draw site o f m v f' m' ft:=by
 have hx:=EF hE (h (V×Fr×Mem×bp) fun v f m ft=>some (v,f,m,ft));rcases hx with⟨v1,f1,m1,Zd,h1,h2⟩|⟨h1,h2,_⟩
 rotate_left
 ·rcases hn with hn|⟨c,x,y,hn⟩
  ·rw[hn]at h1;cases h1
  ·exact absurd hn (h2 c x y)
 simp only[Option.some.injEq,Prod.mk.injEq]at h1;obtain⟨rfl,rfl,rfl,rfl⟩:=h1;exact h2
theorem GK{R:Type}{site:Nat}{draw:Bool}{p:Oper}{c:Nat}{x y:Operand}{k:V→Fr→Mem→bp→Option R}(hp:p.op=.pick (.tmp c) x y)(hb:bB E f (.tmp c)=.pv (.bool b)):Ge E draw site p f m k=k (bB E f (if b then x else y)) f m []:=by
 have jb:vJ E site p f m=none:=by simp only[vJ,hp]
 unfold Ge;rw[jb];have e:(bif draw then none else bif E.yW site then(none:Option Sp)else none)=none:=by cases draw<;>cases E.yW site<;>rfl
 rw[e];simp only[cX,hp,hb];cases b<;>rfl
end
end Go.Ab
set_option linter.unusedVariables false
namespace Go.Ab
open Go.RowKit (Below)
section
variable {E:Env} {ops:Array Oper} {w0:bx}
theorem tv{rd:Option Nat}{Q:Exit→Act→World→Prop}{tail:List Nat}:∀(l:List (Nat×Oper))(f:Fr),(∀x∈l,ops[x.1]?=some x.2)→(∀x∈l,tb E x.2=true)→(∀(pre post:List (Nat×Oper))(x:Nat×Oper),l=pre++x::post→Oy ops (gC f pre) x.2)→∀{μ:Ro}{φ:Nat→aF}{m:Mem}{a:Act}{w:World},Rel E.P E.aH E.fn.ntmps w0 μ φ f m a w→∀(A:List (Nat×Bool)),wU ops A a→Xp ops A l→(∀a',Rel E.P E.aH E.fn.ntmps w0 μ φ (gC f l) m a' w→wU ops A a'→wpOpsIn (FR rd) 0 E.P ops Q tail a' w)→wpOpsIn (FR rd) 0 E.P ops Q (l.map (·.1)++tail) a w
 |[],f,_,_,_,_,_,_,a,_,hR,_,hA,_,hK=>hK a hR hA
 |x::r,f,hl,hd,BG,μ,φ,m,a,w,hR,A,hA,BH,hK=>by simp only[List.map_cons,List.cons_append,wpOpsIn];rw[hl x (by simp)];simp only;rw[vC hR (BG [] r x rfl)];simp only[Bool.false_eq_true,if_false];refine And.intro (fun _ _=>trivial) (tv r (gP f x.2.dst (.bm [])) (fun y hy=>hl y (by simp[hy])) (fun y hy=>hd y (by simp[hy])) (fun pre post y h=>?_) (hR.put (fun _ _ h=>h) (gS (hd x (by simp))) hR.toax hR.jq BE (fun id hid=>by simp[V.has,cq]at hid)) A (hA.put (fun t ht=>by rw[hR.size];exact gS (hd x (by simp)) t ht) fun g nP t ht=>BH x (by simp) g nP t ht) (fun y hy=>BH y (by simp[hy])) hK);have:=BG (x::pre) post y (by rw[h];rfl);rwa[gC]at this
theorem vT:∀{ft:bp},wJ ft=true→∀x∈ft,x.1=false
 |[],_,x,hx=>by cases hx
 |(w,id)::r,h,x,hx=>by
  simp only[wJ,Bool.and_eq_true,Bool.not_eq_true']at h;rcases List.mem_cons.1 hx with rfl|hx
  ·exact h.1
  ·exact vT h.2 x hx
theorem gy(hE:iJ E){rd:Option Nat}(hY:qR E.P E.aH E.fn.ntmps E.yl w0):∀(fuel:Nat){mode:Nat}(iv:mode=0∨mode=3){R:Type}{A:List (Nat×Bool)}{l:List (Nat×Oper)}{f:Fr}{m:Mem}{lg:Log}{k:Fr→Mem→Option R}{r:R},cp E ops mode fuel R A l f m lg k=some r→(∀x∈l,ops[x.1]?=some x.2)→Xp ops A l→(mode=3→∀x∈l,eV x.2=true)→∀(μ:Ro)(φ:Nat→aF)(a:Act)(w:World)(Q:Exit→Act→World→Prop)(tail:List Nat),Rel E.P E.aH E.fn.ntmps w0 μ φ f m a w→wU ops A a→(∀(f':Fr)(m':Mem)(μ':Ro)(φ':Nat→aF)(a':Act)(w':World),k f' m'=some r→Rel E.P E.aH E.fn.ntmps w0 μ' φ' f' m' a' w'→wU ops A a'→(mode=3→m'=m∧∀t,(∀x∈l,x.2.dst≠some t)→f' t=f t)→wpOpsIn (FR rd) 0 E.P ops Q tail a' w')→wpOpsIn (FR rd) 0 E.P ops Q (l.map (·.1)++tail) a w
 |0,_,_,_,_,_,_,_,_,_,_,h,_,_,_,_,_,_,_,_,_,_,_,_=>by simp[cp]at h
 |fuel+1,mode,iv,R,A,[],f,m,lg,k,r,h,_,_,_,μ,φ,a,w,Q,tail,hR,hA,hK=>by simp only[cp]at h;exact hK f m μ φ a w h hR hA fun _=>⟨rfl,fun _ _=>rfl⟩
 |fuel+1,mode,iv,R,A,(i,o)::rest,f,m,lg,k,r,h,hl,BH,P2,μ,φ,a,w,Q,tail,hR,hA,hK=>by
  simp only[cp]at h;split at h
  ·rename_i hg;split at h
   ·rename_i hd;have ML:Nat.beq mode 2=false:=by rcases iv with rfl|rfl<;>rfl
    simp only[ML,cond_false]at h;rw[←ML]at h;have hdf:=yp h;rcases EF hE h with⟨v,f1,m1,ft,hk,OA⟩|⟨_,pS⟩
    rotate_left
    ·simp only[List.map_cons,List.cons_append,wpOpsIn];rw[hl (i,o) (by simp)];simp only;rw[yq hg hA,if_pos rfl];refine BB.vS pS rd w0 μ φ a w _ Q hY hR fun v f1 m1 y w' μ' φ' hk hle hM hF hv Ep=>?_;have cG:Nat.beq mode 2=false:=by rcases iv with rfl|rfl<;>rfl
     rw[cG]at hk;simp only[Bool.false_eq_true,if_false]at hk;rcases iv with rfl|rfl
     ·simp only[Nat.beq,if_true]at hk;exact gy hE hY fuel (.inl rfl) hk (fun x hx=>hl x (by simp[hx])) (fun x hx=>BH x (by simp[hx])) (fun hm x hx=>P2 hm x (by simp[hx])) _ _ _ _ Q tail (hR.put hle (gS hd) hM hF hv Ep) (hA.put (fun t ht=>by rw[hR.size];exact gS hd t ht) fun g nP t ht=>BH (i,o) (by simp) g nP t ht) fun f' m' μ2 φ2 a' w2 jn iq sT mh=>hK f' m' μ2 φ2 a' w2 jn iq sT fun h=>by cases h
     ·simp[Nat.beq,wJ]at hk
    have cG:Nat.beq mode 2=false:=by rcases iv with rfl|rfl<;>rfl
    rw[cG]at hk;simp only[Bool.false_eq_true,if_false]at hk;have hq:(mode=3→f1=f∧m1=m)∧cp E ops mode fuel R A rest (gP f1 o.dst v) m1 lg k=some r:=by
     rcases iv with rfl|rfl
     ·simp only[Nat.beq,if_true]at hk;exact⟨fun h=>(by cases h),hk⟩
     ·simp only[Nat.beq,Bool.false_eq_true,if_false]at hk;split at hk
      ·rename_i hqf;exact⟨fun h=>OA.same (P2 rfl (i,o) (by simp)) (vT hqf),hk⟩
      ·cases hk
    obtain⟨Q6,hk⟩:=hq;simp only[List.map_cons,List.cons_append,wpOpsIn];rw[hl (i,o) (by simp)];simp only;rw[yq hg hA,if_pos rfl];refine OA.vS hdf rd w0 μ φ a w _ Q hR fun y w' μ' φ' hle hM hF hv Ep=>?_;refine gy hE hY fuel iv hk (fun x hx=>hl x (by simp[hx])) (fun x hx=>BH x (by simp[hx])) (fun hm x hx=>P2 hm x (by simp[hx])) _ _ _ _ Q tail (hR.put hle (gS hd) hM hF hv Ep) (hA.put (fun t ht=>by rw[hR.size];exact gS hd t ht) fun g nP t ht=>BH (i,o) (by simp) g nP t ht) fun f' m' μ2 φ2 a' w2 jn iq sT mh=>?_;refine hK f' m' μ2 φ2 a' w2 jn iq sT fun VY=>?_;obtain⟨e1,e2⟩:=Q6 VY;obtain⟨e3,e4⟩:=mh VY;refine⟨by rw[e3,e2],fun t ht=>?_⟩;rw[e4 t fun x hx=>ht x (by simp[hx]),dQ (ht (i,o) (by simp)),e1]
   ·cases h
  ·rename_i j xV hg;split at h
   ·rename_i tj P3;split at h
    ·rename_i b hb;have Q7:tj<E.fn.ntmps:=by
      simp only[bB]at hb;cases e:Nat.blt tj E.fn.ntmps with
      |true=>rwa[Nat.blt_eq]at e
      |false=>rw[e]at hb;cases hb
     have hbf:f tj=.pv (.bool b):=by simp only[bB]at hb;rw[show Nat.blt tj E.fn.ntmps=true by rw[Nat.blt_eq];exact Q7]at hb;exact hb
     have hba:a.tmps.getD tj undef=.bool b:=by have:=(ak hR (.tmp tj)).1;rw[hb]at this;exact oE this
     generalize jb:y0 A ((i,o)::rest)=sp at h;obtain⟨body,Gg⟩:=sp;have kV:=BF jb;simp only at h;split at h
     ·rename_i VZ;split at h
      ·rename_i hc;simp only[Bool.and_eq_true,List.all_eq_true,Bool.not_eq_true',beq_eq_false_iff_ne,ne_eq]at hc VZ;obtain⟨⟨Eu,Q8⟩,V0⟩:=hc;have hm0:mode=0:=Nat.eq_of_beq_eq_true VZ.1;subst hm0;have bO:∀z∈body,z∈(i,o)::rest:=fun z hz=>by rw[kV];simp[hz]
       have sG:∀z∈Gg,z∈(i,o)::rest:=fun z hz=>by rw[kV];simp[hz]
       by_cases OB:b=xV
       ·have:Ql xV b=true:=by subst OB;cases b<;>rfl
        rw[this]at h;simp only[cond]at h;have Xq:fh f tj (.pv (.bool xV))=f:=funext fun t=>by
         unfold fh;cases e:Nat.beq t tj with
         |false=>rfl
         |true=>rw[Nat.eq_of_beq_eq_true e];simp only[cond];rw[←OB];exact hbf.symm
        rw[Xq]at h;refine gy hE hY fuel iv h hl (fun z hz g nP t ht=>?_) (fun h=>by cases h) _ _ _ _ Q tail hR (fun g nP=>?_) fun f' m' μ2 φ2 a' w2 jn iq sT mh=>hK f' m' μ2 φ2 a' w2 jn iq (fun g nP=>sT g (by simp[nP])) fun h=>by cases h
        ·rcases List.mem_cons.1 nP with rfl|nP
         ·simp only[P3]at ht;cases ht;exact V0 z hz
         ·exact BH z hz g nP t ht
        ·rcases List.mem_cons.1 nP with rfl|nP
         ·exact⟨tj,P3,by rw[hba,OB]⟩
         ·exact hA g nP
       ·have:Ql xV b=false:=by cases b<;>cases xV<;>first|rfl|exact absurd rfl OB
        rw[this]at h;simp only[cond]at h;have hbn:b= !xV:=by cases b<;>cases xV<;>first|rfl|exact absurd rfl OB
        have Xq:fh f tj (.pv (.bool !xV))=f:=funext fun t=>by
         unfold fh;cases e:Nat.beq t tj with
         |false=>rfl
         |true=>rw[Nat.eq_of_beq_eq_true e];simp only[cond];rw[←hbn];exact hbf.symm
        rw[Xq]at h;rw[kV,List.map_append,List.append_assoc];refine tv body f (fun z hz=>hl z (bO z hz)) Eu (wV P3 Q8 (fun z hz=>hl z (bO z hz)) (fun z hz=>V0 z (bO z hz)) (by rw[hbf,hbn]) (by simp)) hR A hA (fun z hz g nP t ht=>BH z (bO z hz) g nP t ht) fun a' iq sT=>?_
        ·refine gy hE hY fuel iv h (fun z hz=>hl z (sG z hz)) (fun z hz=>BH z (sG z hz)) (fun h=>by cases h) _ _ _ _ Q tail iq sT fun f' m' μ2 φ2 a' w2 jn iq sT mh=>hK f' m' μ2 φ2 a' w2 jn iq sT fun h=>by cases h
      ·cases h
     ·split at h
      ·rename_i ip p kK;split at h
       ·rename_i c x y Jq;split at h
        ·rename_i hc;simp only[Bool.and_eq_true,List.all_eq_true,Bool.not_eq_true',beq_eq_false_iff_ne,ne_eq]at hc;obtain⟨⟨⟨⟨⟨⟨Jr,Xr⟩,vD⟩,Q8⟩,_⟩,hpd⟩,_⟩:=hc;have Jr:=Nat.eq_of_beq_eq_true Jr;subst Jr;have Xr:guardOf p A=none:=by simpa using Xr
         obtain⟨rb,IH,h⟩:=Option.bind_eq_some_iff.1 h;have bO:∀z∈body,z∈(i,o)::rest:=fun z hz=>by rw[kV];simp[hz]
         have sG:∀z∈kK,z∈(i,o)::rest:=fun z hz=>by rw[kV];simp[hz]
         have GL:(ip,p)∈(i,o)::rest:=by rw[kV];simp
         rw[kV,List.map_append,List.append_assoc];have after:∀(f1:Fr)(μ1:Ro)(φ1:Nat→aF)(a1:Act)(w1:World)(q:Operand),Rel E.P E.aH E.fn.ntmps w0 μ1 φ1 f1 m a1 w1→wU ops A a1→(∀t,(∀z∈body,z.2.dst≠some t)→f1 t=f t)→bB E f1 q=.pv (.bool rb)→(q=if b then x else y)→wpOpsIn (FR rd) 0 E.P ops Q (((ip,p)::kK).map (·.1)++tail) a1 w1:=by
          intro f1 μ1 φ1 a1 w1 q Js hA1 Xs hq hqe;have Tx:bB E f1 (.tmp c)=.pv (.bool b):=by simp only[bB];rw[show Nat.blt c E.fn.ntmps=true by rw[Nat.blt_eq];exact Q7];show f1 c=_;rw[Xs c fun z hz=>(vD z hz).2];exact hbf
          simp only[List.map_cons,List.cons_append,wpOpsIn];rw[hl (ip,p) GL];simp only;rw[yq Xr hA1,if_pos rfl];have OA:sc E (Nat.beq mode 1||Nat.beq mode 2) (cF E p.dst) p f1 m (.pv (.bool rb)) f1 m []:=VX hE (.inr ⟨_,_,_,Jq⟩) fun R' k'=>by rw[GK Jq Tx,←hqe,hq]
          refine OA.vS (fun c h=>by rw[Jq]at h;cases h) rd w0 μ1 φ1 a1 w1 _ Q Js fun z w' μ' φ' mh hM hF hv Ep=>?_;have hle:sR (gP (kJ f body) p.dst (.pv (.bool rb))) (gP f1 p.dst (.pv (.bool rb))):=sR.put (uT fun t ht=>.inl (Xs t ht).symm) _ _;refine gy hE hY fuel iv h (fun z hz=>hl z (sG z hz)) (fun z hz=>BH z (sG z hz)) (fun hm z hz=>P2 hm z (sG z hz)) _ _ _ _ Q tail ((Js.put mh (gS hpd) hM hF hv Ep).weaken hle) (hA1.put (fun t ht=>by rw[Js.size];exact gS hpd t ht) fun g nP t ht=>BH (ip,p) GL g nP t ht) fun f' m' μ2 φ2 a' w2 jn iq sT mh=>?_;refine hK f' m' μ2 φ2 a' w2 jn iq sT fun VY=>?_;obtain⟨e3,e4⟩:=mh VY;refine⟨e3,fun t ht=>?_⟩;rw[e4 t fun z hz=>ht z (sG z hz),dQ (ht (ip,p) GL),uQ fun z hz=>ht z (bO z hz)]
         have go:∀q,b=xV→(q=if b then x else y)→cp E ops 3 fuel Bool ((j,xV)::A) body f m lg (fun f _=>vk (bB E f q))=some rb→wpOpsIn (FR rd) 0 E.P ops Q (body.map (·.1)++(((ip,p)::kK).map (·.1)++tail)) a w:=by
          intro q OB hq Uy;refine gy hE hY fuel (.inr rfl) Uy (fun z hz=>hl z (bO z hz)) ?_ (fun _ z hz=>(vD z hz).1.1) _ _ _ _ Q _ hR ?_ fun f' m' μ2 φ2 a' w2 jn iq sT mh=>?_
          ·intro z hz g nP t ht;rcases List.mem_cons.1 nP with rfl|nP
           ·simp only[P3]at ht;cases ht;exact(vD z hz).2
           ·exact BH z (bO z hz) g nP t ht
          ·intro g nP;rcases List.mem_cons.1 nP with rfl|nP
           ·exact⟨c,P3,by rw[hba,OB]⟩
           ·exact hA g nP
          ·obtain⟨e1,e2⟩:=mh rfl;subst e1;exact after f' μ2 φ2 a' w2 q iq (fun g nP=>sT g (by simp[nP])) e2 (wW jn) hq
         have no:∀q,b= !xV→(q=if b then x else y)→vk (bB E (kJ f body) q)=some rb→wpOpsIn (FR rd) 0 E.P ops Q (body.map (·.1)++(((ip,p)::kK).map (·.1)++tail)) a w:=by
          intro q OB hq Uy;refine tv body f (fun z hz=>hl z (bO z hz)) (fun z hz=>(vD z hz).1.2) (wV P3 Q8 (fun z hz=>hl z (bO z hz)) (fun z hz=>(vD z hz).2) (by rw[hbf,OB]) (by simp)) hR A hA (fun z hz g nP t ht=>BH z (bO z hz) g nP t ht) fun a' iq sT=>?_;refine after _ μ φ a' w q iq sT (fun t ht=>sf ht) ?_ hq;have hv:=wW Uy;cases q with
          |tmp t=>
           simp only[bB]at hv⊢;have hle:sR (kJ f body) (gC f body):=uT fun t ht=>.inl (sf ht).symm;cases e:Nat.blt t E.fn.ntmps with
           |false=>rw[e]at hv;cases hv
           |true=>
            rw[e]at hv;simp only[cond]at hv⊢;rcases hle t with e|e
            ·rw[←e];exact hv
            ·rw[e]at hv;cases hv
          |_=>exact hv
         have hbm:(bif Nat.beq mode 0 then 3 else mode)=3:=by rcases iv with rfl|rfl<;>rfl
         rw[hbm]at IH;cases xV<;>cases b<;>simp only[cond]at IH
         ·exact go y rfl rfl IH
         ·exact no x rfl rfl IH
         ·exact no y rfl rfl IH
         ·exact go x rfl rfl IH
        ·cases h
       ·cases h
      ·cases h
    ·cases h
   ·cases h
end
end Go.Ab
set_option linter.unusedVariables false
namespace Go.Ab
open Go.RowKit (Below)
structure Rec where
 i:Nat
 o:Oper
 v:V
 wr:List (Nat×bJ)
 ft:bp
 kl:Kl
def Rec.fs(r:Rec)(f:Fr):Fr:=gP (kf r.kl f) r.o.dst r.v
def Rec.ms(r:Rec)(m:Mem):Mem:=qK r.wr (km r.kl m)
def Rec.DC(r:Rec)(id:Nat):Prop:=∃b,(b,id)∈r.kl
def kG(f:Fr):List Rec→Fr
 |[]=>f
 |r::l=>kG (r.fs f) l
def nF(m:Mem):List Rec→Mem
 |[]=>m
 |r::l=>nF (r.ms m) l
def mD(S:Nat→Bool)(f:Fr):List Rec→Fr
 |[]=>f
 |r::l=>mD S (bif S r.i then r.fs f else f) l
def mE(S:Nat→Bool)(m:Mem):List Rec→Mem
 |[]=>m
 |r::l=>mE S (bif S r.i then r.ms m else m) l
theorem BI:∀{wr:List (Nat×bJ)}{m:Mem}{j:Nat},(∀b,(j,b)∉wr)→qK wr m j=m j
 |[],_,_,_=>rfl
 |(id,b)::r,m,j,h=>by rw[qK,BI fun b' hb=>h b' (by simp[hb])];exact ao fun e=>h b (by simp[e])
theorem Q9:∀{wr:List (Nat×bJ)}{j:Nat},(∃b,(j,b)∈wr)→∃b',(j,b')∈wr∧∀m:Mem,qK wr m j=some b'
 |[],_,h=>by obtain⟨b,hb⟩:=h;cases hb
 |(id,b)::r,j,h=>by
  by_cases hr:∃b,(j,b)∈r
  ·obtain⟨b',h1,h2⟩:=Q9 hr;exact⟨b',by simp[h1],fun m=>h2 _⟩
  ·obtain⟨b0,hb⟩:=h;rcases List.mem_cons.1 hb with hb|hb
   ·simp only[Prod.mk.injEq]at hb;obtain⟨rfl,rfl⟩:=hb;refine⟨b0,by simp,fun m=>?_⟩;rw[qK,BI fun b' fQ=>hr ⟨b',fQ⟩];simp
   ·exact absurd ⟨b0,hb⟩ hr
mutual
theorem GM{id:Nat}:∀{v:V},v.sP id=true→v.has id=true
 |.agg cs,h=>sg (cs:=cs) (by simpa[V.sP]using h)
 |.bm cs,h=>sg (cs:=cs) (by simpa[V.sP]using h)
 |.fn _ cs,h=>sg (cs:=cs) (by simpa[V.sP]using h)
 |.sY _ _ _,h=>h
 |.wC _ _ _ _ _ _,h=>h
 |.pv _,h=>by cases h
 |.bj,h=>by cases h
 |.op _ _,h=>by cases h
 |.oe _ _ _,h=>by cases h
 |.os _,h=>by cases h
 |.fg _ _ _,h=>by cases h
 |.om _,h=>by cases h
 |.yl _,h=>by cases h
 |.it _,h=>by cases h
 |.top,h=>by cases h
theorem sg{id:Nat}:∀{cs:List V},wE id cs=true→cq id cs=true
 |[],h=>by cases h
 |c::r,h=>by
  simp only[wE,Bool.or_eq_true]at h;simp only[cq,Bool.or_eq_true];rcases h with h|h
  ·exact .inl (GM h)
  ·exact .inr (sg h)
end
variable{id:Nat}
theorem zo{v:V}(h:v.has id=false):pM id v=v:=by unfold pM;rw[h];rfl
theorem zp{id:Nat}:∀{cs:List V},cq id cs=false→cs.map (pM id)=cs
 |[],_=>rfl
 |c::r,h=>by simp only[cq,Bool.or_eq_false_iff]at h;simp only[List.map_cons,zo h.1,zp h.2]
theorem GN{b:bJ}(h:b.names id=false):fI id b=b:=by
 cases b with
 |box cs=>simp only[fI,zp (show cq id cs=false from h)]
 |_=>rfl
theorem wX{v:V}(h:v.has id=false):lW id v=v:=by
 unfold lW;cases h2:v.sP id with
 |false=>rfl
 |true=>rw[GM h2]at h;cases h
theorem wY{id:Nat}:∀{cs:List V},cq id cs=false→cs.map (lW id)=cs
 |[],_=>rfl
 |c::r,h=>by simp only[cq,Bool.or_eq_false_iff]at h;simp only[List.map_cons,wX h.1,wY h.2]
theorem EG{b:bJ}(h:b.names id=false):dO id b=b:=by
 cases b with
 |box cs=>simp only[dO,wY (show cq id cs=false from h)]
 |_=>rfl
theorem BJ:∀{kl:Kl}{f:Fr}{t:Nat},(∀id,(∃b,(b,id)∈kl)→(f t).has id=false)→kf kl f t=f t
 |[],_,_,_=>rfl
 |(true,id)::r,f,t,h=>by have h0:eP id f t=f t:=zo (h id ⟨true,by simp⟩);rw[kf,BJ (kl:=r) (f:=eP id f) fun j hj=>by rw[h0];exact h j (let⟨b,hb⟩:=hj;⟨b,by simp[hb]⟩),h0]
 |(false,id)::r,f,t,h=>by have h0:gi id f t=f t:=wX (h id ⟨false,by simp⟩);rw[kf,BJ (kl:=r) (f:=gi id f) fun j hj=>by rw[h0];exact h j (let⟨b,hb⟩:=hj;⟨b,by simp[hb]⟩),h0]
theorem wZ:∀{kl:Kl}{f g:Fr}{t:Nat},f t=g t→kf kl f t=kf kl g t
 |[],_,_,_,h=>h
 |(true,id)::r,f,g,t,h=>wZ (kl:=r) (f:=eP id f) (g:=eP id g) (by simp only[eP,h])
 |(false,id)::r,f,g,t,h=>wZ (kl:=r) (f:=gi id f) (g:=gi id g) (by simp only[gi,h])
theorem BK:∀{kl:Kl}{m:Mem}{j:Nat},(∀id,(∃b,(b,id)∈kl)→j≠id∧∀b,m j=some b→b.names id=false)→km kl m j=m j
 |[],_,_,_=>rfl
 |(true,id)::r,m,j,h=>by
  obtain⟨h1,h2⟩:=h id ⟨true,by simp⟩;have h0:bf (bC id m) id j=m j:=by
   rw[eQ h1];unfold bC;cases hm:m j with
   |none=>rfl
   |some b=>simp only[GN (h2 b hm)]
  rw[km,BK (kl:=r) (m:=bf (bC id m) id) fun i hi=>by rw[h0];exact h i (let⟨b,hb⟩:=hi;⟨b,by simp[hb]⟩),h0]
 |(false,id)::r,m,j,h=>by
  obtain⟨h1,h2⟩:=h id ⟨false,by simp⟩;have h0:eS id m j=m j:=by
   unfold eS;cases hm:m j with
   |none=>rfl
   |some b=>simp only[EG (h2 b hm)]
  rw[km,BK (kl:=r) (m:=eS id m) fun i hi=>by rw[h0];exact h i (let⟨b,hb⟩:=hi;⟨b,by simp[hb]⟩),h0]
theorem BL:∀{kl:Kl}{m n:Mem}{j:Nat},m j=n j→km kl m j=km kl n j
 |[],_,_,_,h=>h
 |(true,id)::r,m,n,j,h=>BL (kl:=r) (m:=bf (bC id m) id) (n:=bf (bC id n) id) (by
  by_cases e:j=id
  ·subst e;simp
  ·rw[eQ e,eQ e];simp only[bC,h])
 |(false,id)::r,m,n,j,h=>BL (kl:=r) (m:=eS id m) (n:=eS id n) (by simp only[eS,h])
variable{r:Rec}
theorem Rec.GO{f:Fr}{t:Nat}(h:r.o.dst=some t):r.fs f t=r.v:=by unfold Rec.fs;rw[h,iQ]
theorem Rec.MN{f:Fr}{t:Nat}(h:r.o.dst≠some t)(hc:∀id,r.DC id→(f t).has id=false):r.fs f t=f t:=by unfold Rec.fs;rw[dQ h];exact BJ hc
theorem Rec.BM{f g:Fr}{t:Nat}(h:f t=g t):r.fs f t=r.fs g t:=by
 by_cases e:r.o.dst=some t
 ·rw[GO e,GO e]
 ·unfold Rec.fs;rw[dQ e,dQ e];exact wZ h
theorem Rec.V1{j:Nat}(h:∃b,(j,b)∈r.wr):∃b',(j,b')∈r.wr∧∀m,r.ms m j=some b':=let⟨b',h1,h2⟩:=Q9 h;⟨b',h1,fun m=>h2 _⟩
theorem Rec.Ra{m:Mem}{j:Nat}(h:∀b,(j,b)∉r.wr)(hc:∀id,r.DC id→j≠id∧∀b,m j=some b→b.names id=false):r.ms m j=m j:=by unfold Rec.ms;rw[BI h];exact BK hc
theorem Rec.BN{m n:Mem}{j:Nat}(h:m j=n j):r.ms m j=r.ms n j:=by
 by_cases e:∃b,(j,b)∈r.wr
 ·obtain⟨b,_,e⟩:=Rec.V1 e;rw[e,e]
 ·have e':∀b,(j,b)∉r.wr:=fun b hb=>e ⟨b,hb⟩;unfold Rec.ms;rw[BI e',BI e'];exact BL h
section
variable {S S':Nat→Bool}
theorem GP{f:Fr}:∀{l l':List Rec},kG f (l++l')=kG (kG f l) l':=by
 intro l;induction l generalizing f with
 |nil=>intro l';rfl
 |cons r l ih=>intro l';exact ih
theorem GQ{m:Mem}:∀{l l':List Rec},nF m (l++l')=nF (nF m l) l':=by
 intro l;induction l generalizing m with
 |nil=>intro l';rfl
 |cons r l ih=>intro l';exact ih
theorem tw{f:Fr}:∀{l l':List Rec},mD S f (l++l')=mD S (mD S f l) l':=by
 intro l;induction l generalizing f with
 |nil=>intro l';rfl
 |cons r l ih=>intro l';exact ih
theorem tx{m:Mem}:∀{l l':List Rec},mE S m (l++l')=mE S (mE S m l) l':=by
 intro l;induction l generalizing m with
 |nil=>intro l';rfl
 |cons r l ih=>intro l';exact ih
theorem DD{t:Nat}:∀{l:List Rec}{f:Fr},(∀q∈l,q.o.dst≠some t∧q.kl=[])→kG f l t=f t
 |[],_,_=>rfl
 |r::l,f,h=>by rw[kG,DD fun q hq=>h q (by simp[hq])];obtain⟨h1,h2⟩:=h r (by simp);exact Rec.MN h1 fun id⟨b,hid⟩=>by rw[h2]at hid;cases hid
theorem nQ{t:Nat}:∀{l:List Rec}{f:Fr},(∀q∈l,S q.i=true→q.o.dst≠some t∧∀id,q.DC id→(f t).has id=false)→mD S f l t=f t
 |[],_,_=>rfl
 |r::l,f,h=>by
  have h0:(bif S r.i then r.fs f else f) t=f t:=by
   cases e:S r.i with
   |false=>rfl
   |true=>obtain⟨h1,h2⟩:=h r (by simp) e;exact Rec.MN h1 h2
  rw[mD,nQ fun q hq hs=>by rw[h0];exact h q (by simp[hq]) hs,h0]
theorem BO{t:Nat}:∀{l:List Rec}{f g:Fr},f t=g t→(∀q∈l,S q.i=false→q.o.dst≠some t∧q.kl=[])→mD S f l t=kG g l t
 |[],_,_,h,_=>h
 |r::l,f,g,h,hs=>by
  rw[mD,kG];refine BO ?_ fun q hq=>hs q (by simp[hq]);cases e:S r.i with
  |true=>exact Rec.BM h
  |false=>obtain⟨h1,h2⟩:=hs r (by simp) e;rw[Rec.MN h1 fun id⟨b,hid⟩=>by rw[h2]at hid;cases hid];exact h
theorem vU{t:Nat}:∀{l:List Rec}{f g:Fr},f t=g t→(∀q∈l,S q.i=S' q.i)→mD S f l t=mD S' g l t
 |[],_,_,h,_=>h
 |r::l,f,g,h,hs=>by
  rw[mD,mD];refine vU ?_ fun q hq=>hs q (by simp[hq]);rw[hs r (by simp)];cases S' r.i
  ·exact h
  ·exact Rec.BM h
theorem nR{j:Nat}:∀{l:List Rec}{m:Mem},(∀q∈l,S q.i=true→(∀b,(j,b)∉q.wr)∧∀id,q.DC id→j≠id∧∀b,m j=some b→b.names id=false)→mE S m l j=m j
 |[],_,_=>rfl
 |r::l,m,h=>by
  have h0:(bif S r.i then r.ms m else m) j=m j:=by
   cases e:S r.i with
   |false=>rfl
   |true=>obtain⟨h1,h2⟩:=h r (by simp) e;exact Rec.Ra h1 h2
  rw[mE,nR fun q hq hs=>by rw[h0];exact h q (by simp[hq]) hs,h0]
theorem BP{j:Nat}:∀{l:List Rec}{m n:Mem},m j=n j→(∀q∈l,S q.i=false→(∀b,(j,b)∉q.wr)∧q.kl=[])→mE S m l j=nF n l j
 |[],_,_,h,_=>h
 |r::l,m,n,h,hs=>by
  rw[mE,nF];refine BP ?_ fun q hq=>hs q (by simp[hq]);cases e:S r.i with
  |true=>exact Rec.BN h
  |false=>obtain⟨h1,h2⟩:=hs r (by simp) e;rw[Rec.Ra h1 fun id⟨b,hid⟩=>by rw[h2]at hid;cases hid];exact h
theorem vV{j:Nat}:∀{l:List Rec}{m n:Mem},m j=n j→(∀q∈l,S q.i=S' q.i)→mE S m l j=mE S' n l j
 |[],_,_,h,_=>h
 |r::l,m,n,h,hs=>by
  rw[mE,mE];refine vV ?_ fun q hq=>hs q (by simp[hq]);rw[hs r (by simp)];cases S' r.i
  ·exact h
  ·exact Rec.BN h
end
section
variable {E:Env} {ops:Array Oper} {w0:bx}
def DE(E:Env)(ops:Array Oper)(w0:bx)(r:Rec)(f:Fr)(m:Mem):Prop:=∀(f2:Fr)(m2:Mem),(∀t∈r.o.looksAt ops,f2 t=f t)→(∀x∈r.ft,m2 x.2=m x.2)→∀(μ:Ro)(φ:Nat→aF)(a:Act)(w:World)(K:Act→World→Prop)(Q:Exit→Act→World→Prop),Rel E.P E.aH E.fn.ntmps w0 μ φ f2 m2 a w→(∀μ' φ' a' w',Rel E.P E.aH E.fn.ntmps w0 μ' φ' (r.fs f2) (r.ms m2) a' w'→K a' w')→if Region.wanted r.o (yielded ops a.tmps)then∀rd:Option Nat,r.o.wpIn (FR rd) 0 E.P a w K Q else K (a.put r.o.dst undef) w
def fk(E:Env)(ops:Array Oper)(w0:bx):Fr→Mem→List Rec→Prop
 |_,_,[]=>True
 |f,m,r::l=>DE E ops w0 r f m∧(∀id b,(id,b)∈r.wr→(true,id)∈r.ft)∧fk E ops w0 (r.fs f) (r.ms m) l
theorem fk.append{f:Fr}{m:Mem}{l l':List Rec}:fk E ops w0 f m (l++l')↔fk E ops w0 f m l∧fk E ops w0 (kG f l) (nF m l) l':=by
 induction l generalizing f m with
 |nil=>simp[fk,kG,nF]
 |cons r l ih=>simp only[List.cons_append,fk,kG,nF,ih,and_assoc]
def Clean(ops:Array Oper)(id:Nat)(r:Rec)(f:Fr)(m:Mem):Prop:=(∀t∈r.o.looksAt ops,(f t).has id=false)∧r.v.has id=false∧(∀x∈r.ft,x.2≠id∧∀b,m x.2=some b→b.names id=false)∧∀j b,(j,b)∈r.wr→(∀m,r.ms m j=some b)→j≠id∧b.names id=false
def mn(ops:Array Oper):Fr→Mem→List Rec→Prop
 |_,_,[]=>True
 |f,m,r::l=>(∀q∈l,∀id,q.DC id→reach ops 4 q.o r.i=true∨Clean ops id r f m)∧mn ops (r.fs f) (r.ms m) l
theorem mn.append{f:Fr}{m:Mem}{l l':List Rec}(h:mn ops f m (l++l')):mn ops (kG f l) (nF m l) l':=by
 induction l generalizing f m with
 |nil=>exact h
 |cons r l ih=>exact ih h.2
def Ord(ops:Array Oper)(q r:Rec):Prop:=reach ops 4 r.o q.i=true∨(q.o.apart ops r.o=true∧(∀id b,(id,b)∈q.wr→∀x∈r.ft,x.2≠id)∧∀id b,(id,b)∈r.wr→∀x∈q.ft,x.2≠id)
theorem OC{o:Oper}{j:Nat}(h:AS o j=true):∃e∈o.after,Region.binds .any e=true∧e.on=j:=by unfold AS at h;obtain⟨e,he,h⟩:=List.any_eq_true.1 h;have he:e∈o.after:=Array.mem_toList_iff.1 he;simp only[Bool.and_eq_true]at h;exact⟨e,he,h.1,Nat.eq_of_beq_eq_true h.2⟩
abbrev aA(l:Array Bool):Nat→Bool:=fun i=>l.getD i false
def vW(ops:Array Oper)(listed:Array Bool):Prop:=∀i o,ops[i]?=some o→aA listed i=true→∀e∈o.after,Region.binds .any e=true→aA listed e.on=true
theorem oH(listed:Array Bool)(sF:vW ops listed):∀(n:Nat)(o:Oper)(j:Nat),(∀e∈o.after,Region.binds .any e=true→aA listed e.on=true)→reach ops n o j=true→aA listed j=true:=by
 have aah:∀(o:Oper)(j:Nat),(∀e∈o.after,Region.binds .any e=true→aA listed e.on=true)→AS o j=true→aA listed j=true:=fun o j ho h=>by obtain⟨e,he,hb,hon⟩:=OC h;have:=ho e he hb;rw[hon]at this;exact this
 intro n;induction n with
 |zero=>exact fun o j ho h=>aah o j ho h
 |succ n ihn=>
  intro o j ho h;simp only[reach,Bool.or_eq_true]at h;rcases h with h|h
  ·exact aah o j ho h
  ·obtain⟨e,he,h⟩:=List.any_eq_true.1 h;simp only[Bool.and_eq_true]at h;obtain⟨hb,h⟩:=h;have he:e∈o.after:=Array.mem_toList_iff.1 he;split at h
   ·rename_i p hp;exact ihn p j (sF e.on p hp (ho e he hb)) h
   ·cases h
theorem Rb{rd:Option Nat}{recs:List Rec}{f0:Fr}{m0:Mem}{Q:Exit→Act→World→Prop}{base:Nat→Bool}(br:recs.Pairwise fun q r=>q.i<r.i)(pS:∀r∈recs,ops[r.i]?=some r.o)(Rc:∀r∈recs,base r.i=false)(Re:∀i o,ops[i]?=some o→base i=false→(∀r∈recs,r.i≠i)→(∀r∈recs,reach ops 8 o r.i=true)∨∃j,reach ops 8 o j=true∧base j=false∧∀r∈recs,r.i≠j)(aai:recs.Pairwise (Ord ops))(kH:recs.Pairwise fun q r=>q.kl≠[]→reach ops 4 r.o q.i=true)(aeh:mn ops f0 m0 recs)(MO:∀r∈recs,∀e∈r.o.after,Region.binds .any e=true→e.on<r.i∧(base e.on=true∨∃q∈recs,q.i=e.on))(wB:fk E ops w0 f0 m0 recs)(hQ:∀(fuel:Nat)(listed:Array Bool),listed.size=ops.size→listed.toList.countP (fun b=> !b)≤fuel→vW ops listed→(∀i,aA listed i=true↔base i=true∨∃r∈recs,r.i=i)→∀μ φ a w,Rel E.P E.aH E.fn.ntmps w0 μ φ (kG f0 recs) (nF m0 recs) a w→wpAnyIn (FR rd) 0 E.P .any ops Q fuel listed a w):∀(fuel:Nat)(listed:Array Bool),listed.size=ops.size→listed.toList.countP (fun b=> !b)≤fuel→vW ops listed→(∀i,base i=true→aA listed i=true)→(∀i,aA listed i=true→base i=true∨∃r∈recs,r.i=i)→∀(μ:Ro)(φ:Nat→aF)(a:Act)(w:World),Rel E.P E.aH E.fn.ntmps w0 μ φ (mD (aA listed) f0 recs) (mE (aA listed) m0 recs) a w→wpAnyIn (FR rd) 0 E.P .any ops Q fuel listed a w:=by
 have done:∀(fuel:Nat)(listed:Array Bool),listed.size=ops.size→listed.toList.countP (fun b=> !b)≤fuel→vW ops listed→(∀i,base i=true→aA listed i=true)→(∀i,aA listed i=true→base i=true∨∃r∈recs,r.i=i)→(∀r∈recs,aA listed r.i=true)→∀(μ:Ro)(φ:Nat→aF)(a:Act)(w:World),Rel E.P E.aH E.fn.ntmps w0 μ φ (mD (aA listed) f0 recs) (mE (aA listed) m0 recs) a w→wpAnyIn (FR rd) 0 E.P .any ops Q fuel listed a w:=by
  intro fuel listed hs hc sF hb pB hl μ φ a w hR;have e1:mD (aA listed) f0 recs=kG f0 recs:=funext fun t=>BO rfl fun q hq hf=>by rw[hl q hq]at hf;cases hf
  have e2:mE (aA listed) m0 recs=nF m0 recs:=funext fun t=>BP rfl fun q hq hf=>by rw[hl q hq]at hf;cases hf
  rw[e1,e2]at hR;exact hQ fuel listed hs hc sF (fun i=>⟨pB i,fun h=>h.elim (hb i) fun⟨r,hr,e⟩=>e▸hl r hr⟩) μ φ a w hR
 have Uz:∀(listed:Array Bool),listed.size=ops.size→(∀i,base i=true→aA listed i=true)→(∀r∈recs,r.i∉Region.ready .any ops listed)→∀(n:Nat)(r:Rec),r∈recs→r.i<n→aA listed r.i=true:=by
  intro listed hs hb hr n;induction n with
  |zero=>intro r _ h;omega
  |succ n ih=>
   intro r qL hi;cases hc:aA listed r.i with
   |true=>rfl
   |false=>
    exfalso;have br:r.i<listed.size:=by rw[hs];exact(Array.getElem?_eq_some_iff.1 (pS r qL)).1
    refine hr r qL (mem_ready.2 ⟨by simp only[aA,Array.getD_eq_getD_getElem?,Array.getElem?_eq_getElem br,Option.getD_some]at hc⊢;exact hc,r.o,pS r qL,fun e he fQ=>?_⟩);obtain⟨h1,h2⟩:=MO r qL e he fQ;rcases h2 with h2|⟨q,hq,Rf⟩
    ·exact hb _ h2
    ·have:=ih q hq (by omega);rwa[Rf]at this
 intro fuel;induction fuel with
 |zero=>
  intro listed hs hc sF hb pB μ φ a w hR;refine done 0 listed hs hc sF hb pB (fun r hr=>?_) μ φ a w hR;have br:r.i<listed.size:=by rw[hs];exact(Array.getElem?_eq_some_iff.1 (pS r hr)).1
  have:=List.countP_eq_zero.1 (Nat.le_zero.1 hc) listed[r.i] (by simp);simp only[aA,Array.getD_eq_getD_getElem?,Array.getElem?_eq_getElem br,Option.getD_some];simpa using this
 |succ fuel ih=>
  intro listed hs hc sF hb pB μ φ a w hR;by_cases Rg:∀r∈recs,aA listed r.i=true
  ·exact done (fuel+1) listed hs hc sF hb pB Rg μ φ a w hR
  have aaj:∃r∈recs,aA listed r.i=false:=by
   refine Classical.byContradiction fun cS=>Rg fun r hr=>?_;cases hx:aA listed r.i with
   |true=>rfl
   |false=>exact absurd ⟨r,hr,hx⟩ cS
  refine⟨fun h0=>absurd (fun r hr=>Uz listed hs hb (fun r hr h=>by rw[h0]at h;cases h) (r.i+1) r hr (by omega)) Rg,fun i hi=>?_⟩;obtain⟨OD,o,ho,yt⟩:=mem_ready.1 hi;have aak:aA listed i=false:=by
   have br:i<listed.size:=by rw[hs];exact(Array.getElem?_eq_some_iff.1 ho).1
   simp only[aA,Array.getD_eq_getD_getElem?,Array.getElem?_eq_getElem br,Option.getD_some]at OD⊢;exact OD
  have hex:∃r∈recs,r.i=i∧r.o=o:=by
   refine Classical.byContradiction fun cS=>?_;have Gs:∀r∈recs,r.i≠i:=fun r hr e=>cS ⟨r,hr,e,by have:=pS r hr;rw[e,ho]at this;exact(Option.some.inj this).symm⟩;have hbi:base i=false:=by
    cases hx:base i with
    |false=>rfl
    |true=>rw[hb i hx]at aak;cases aak
   rcases Re i o ho hbi Gs with h|⟨j,h1,h2,h3⟩
   ·obtain⟨r,hr,UA⟩:=aaj;rw[oH listed sF 8 o r.i yt (h r hr)]at UA;cases UA
   ·have:=oH listed sF 8 o j yt h1;rcases pB j this with h|⟨r,hr,e⟩
    ·rw[h]at h2;cases h2
    ·exact h3 r hr e
  obtain⟨r,hr,rfl,rfl⟩:=hex;have Rh:r.i<listed.size:=by rw[hs];exact(Array.getElem?_eq_some_iff.1 ho).1
  have hSi:aA listed r.i=false:=by simp only[aA,Array.getD_eq_getD_getElem?,Array.getElem?_eq_getElem Rh,Option.getD_some]at OD⊢;exact OD
  obtain⟨pre,post,kV⟩:=List.append_of_mem hr;subst kV;have Ad:∀q∈pre,Ord ops q r:=fun q hq=>(List.pairwise_append.1 aai).2.2 q hq r (by simp);have MP:∀q∈post,Ord ops r q:=fun q hq=>(List.pairwise_cons.1 (List.pairwise_append.1 aai).2.1).1 q hq;have Xt:∀q∈post,q.i≠r.i:=fun q hq=>by have:=(List.pairwise_cons.1 (List.pairwise_append.1 br).2.1).1 q hq;omega
  have aal:∀q∈pre,q.i≠r.i:=fun q hq=>by have:=(List.pairwise_append.1 br).2.2 q hq r (by simp);omega
  have aam:∀q:Rec,reach ops 4 r.o q.i=true→aA listed q.i=true:=fun q h=>oH listed sF 4 r.o q.i yt h;have Jt:∀q∈post,reach ops 4 q.o r.i=true→aA listed q.i=false:=fun q hq h=>by
   cases PU:aA listed q.i with
   |false=>rfl
   |true=>have:=oH listed sF 4 q.o r.i (sF q.i q.o (pS q (by simp[hq])) PU) h;rw[hSi]at this;cases this
  have V2:∀(f:Fr),mD (aA listed) f (r::post)=mD (aA listed) f post:=fun f=>by rw[mD,hSi];rfl
  have Ri:∀(m:Mem),mE (aA listed) m (r::post)=mE (aA listed) m post:=fun m=>by rw[mE,hSi];rfl
  obtain⟨_,Xu,ZU,_⟩:=fk.append.1 wB;have hc:=aeh.append.1;have V3:∀q∈pre,q.kl≠[]→reach ops 4 r.o q.i=true:=fun q hq=>(List.pairwise_append.1 kH).2.2 q hq r (by simp);have Rj:r.kl≠[]→∀q∈post,reach ops 4 q.o r.i=true:=fun h q hq=>(List.pairwise_cons.1 (List.pairwise_append.1 kH).2.1).1 q hq h;unfold wpOpIn;rw[pS r hr];simp only;have Xs:∀t∈r.o.looksAt ops,mD (aA listed) f0 pre t=kG f0 pre t:=fun t ht=>BO rfl fun q hq hs=>by
   have Gs:¬reach ops 4 r.o q.i=true:=fun h=>by rw[aam q h]at hs;cases hs
   refine⟨fun hd=>?_,?_⟩
   ·rcases Ad q hq with h|⟨h,_⟩
    ·exact Gs h
    ·exact absurd ht ((Oper.apart_spec h).1 t hd)
   ·exact Classical.byContradiction fun cS=>Gs (V3 q hq cS)
  have TB:∀x∈r.ft,mE (aA listed) m0 pre x.2=nF m0 pre x.2:=fun x hx=>BP rfl fun q hq hs=>by
   have Gs:¬reach ops 4 r.o q.i=true:=fun h=>by rw[aam q h]at hs;cases hs
   refine⟨fun b hb=>?_,?_⟩
   ·rcases Ad q hq with h|⟨_,h,_⟩
    ·exact Gs h
    ·exact absurd rfl (h _ b hb x hx)
   ·exact Classical.byContradiction fun cS=>Gs (V3 q hq cS)
  have Tv:∀q∈post,aA listed q.i=true→¬reach ops 4 q.o r.i=true:=fun q hq hs h=>by rw[Jt q hq h]at hs;cases hs
  have hf2:∀t∈r.o.looksAt ops,mD (aA listed) f0 (pre++r::post) t=kG f0 pre t:=fun t ht=>by
   rw[tw,V2,nQ fun q hq hs=>⟨fun hd=>?_,fun id hid=>?_⟩]
   ·exact Xs t ht
   ·rcases MP q hq with h|⟨h,_⟩
    ·exact Tv q hq hs h
    ·exact absurd ht ((Oper.apart_spec h).2.2 t hd)
   ·rw[Xs t ht];rcases hc q hq id hid with h|h
    ·exact absurd h (Tv q hq hs)
    ·exact h.1 t ht
  have cG:∀x∈r.ft,mE (aA listed) m0 (pre++r::post) x.2=nF m0 pre x.2:=fun x hx=>by
   rw[tx,Ri,nR fun q hq hs=>⟨fun b hb=>?_,fun id hid=>?_⟩]
   ·exact TB x hx
   ·rcases MP q hq with h|⟨_,_,h⟩
    ·exact Tv q hq hs h
    ·exact absurd rfl (h _ b hb x hx)
   ·rw[TB x hx];rcases hc q hq id hid with h|h
    ·exact absurd h (Tv q hq hs)
    ·exact h.2.2.1 x hx
  have hwp:=Xu _ _ hf2 cG μ φ a w (wpAnyIn (FR rd) 0 E.P .any ops Q fuel (listed.setIfInBounds r.i true)) Q hR fun μ' φ' a' w' iq=>by
   have V4:∀j,aA (listed.setIfInBounds r.i true) j=if j=r.i then true else aA listed j:=fun j=>by
    simp only[aA,Array.getD_eq_getD_getElem?,Array.getElem?_setIfInBounds];by_cases e:r.i=j
    ·subst e;simp[Rh]
    ·have e':¬j=r.i:=fun h=>e h.symm;simp[e,e']
   refine ih (listed.setIfInBounds r.i true) (by simp[hs]) ?_ ?_ ?_ ?_ μ' φ' a' w' ?_
   ·rw[Array.toList_setIfInBounds,List.countP_set (by simpa using Rh)];have:listed.toList[r.i]'(by simpa using Rh)=false:=by simp only[aA,Array.getD_eq_getD_getElem?,Array.getElem?_eq_getElem Rh,Option.getD_some]at hSi;simpa using hSi
    rw[this];simp only[Bool.not_false,if_true,Bool.not_true,Bool.false_eq_true,if_false];omega
   ·intro i' o' OE mW e he Eu;rw[V4]at mW⊢;split
    ·rfl
    ·split at mW
     ·rename_i Rf;subst Rf;have:o'=r.o:=by rw[pS r hr]at OE;exact(Option.some.inj OE).symm
      subst this;exact yt e he Eu
     ·exact sF i' o' OE mW e he Eu
   ·intro i' mW;rw[V4];split
    ·rfl
    ·exact hb i' mW
   ·intro i' mW;rw[V4]at mW;split at mW
    ·rename_i Rf;exact Or.inr ⟨r,hr,Rf.symm⟩
    ·exact pB i' mW
   ·have V5:∀q∈pre,aA (listed.setIfInBounds r.i true) q.i=aA listed q.i:=fun q hq=>by rw[V4,if_neg (aal q hq)]
    have tz:∀q∈post,aA (listed.setIfInBounds r.i true) q.i=aA listed q.i:=fun q hq=>by rw[V4,if_neg (Xt q hq)]
    have hSr:aA (listed.setIfInBounds r.i true) r.i=true:=by rw[V4,if_pos rfl]
    have e1:mD (aA (listed.setIfInBounds r.i true)) f0 (pre++r::post)=r.fs (mD (aA listed) f0 (pre++r::post)):=funext fun t=>by
     have hg:mD (aA (listed.setIfInBounds r.i true)) f0 pre=mD (aA listed) f0 pre:=funext fun s=>vU rfl V5;rw[tw,tw,V2,mD,hSr,hg];simp only[cond];by_cases hk:r.kl=[]
     ·by_cases hd:r.o.dst=some t
      ·rw[Rec.GO hd,nQ fun q hq hs=>⟨fun hqd=>?_,fun id hid=>?_⟩,Rec.GO hd]
       ·rw[tz q hq]at hs;rcases MP q hq with h|⟨h,_⟩
        ·exact Tv q hq hs h
        ·exact absurd hqd ((Oper.apart_spec h).2.1 t hd)
       ·rw[tz q hq]at hs;rw[Rec.GO hd];rcases hc q hq id hid with h|h
        ·exact absurd h (Tv q hq hs)
        ·exact h.2.1
      ·have yj:∀(g:Fr),r.fs g t=g t:=fun g=>Rec.MN hd fun id⟨b,hid⟩=>by rw[hk]at hid;cases hid
       rw[yj];exact vU (yj _) tz
     ·have OD:∀q∈post,aA listed q.i=false:=fun q hq=>Jt q hq (Rj hk q hq);rw[nQ fun q hq hs=>by rw[tz q hq,OD q hq]at hs;cases hs];exact Rec.BM (nQ fun q hq hs=>by rw[OD q hq]at hs;cases hs).symm
    have e2:mE (aA (listed.setIfInBounds r.i true)) m0 (pre++r::post)=r.ms (mE (aA listed) m0 (pre++r::post)):=funext fun j=>by
     have hg:mE (aA (listed.setIfInBounds r.i true)) m0 pre=mE (aA listed) m0 pre:=funext fun s=>vV rfl V5;rw[tx,tx,Ri,mE,hSr,hg];simp only[cond];by_cases hk:r.kl=[]
     ·by_cases hd:∃b,(j,b)∈r.wr
      ·obtain⟨b,hd,uM⟩:=Rec.V1 hd;rw[uM,nR fun q hq hs=>⟨fun b' hqd=>?_,fun id hid=>?_⟩,uM]
       ·rw[tz q hq]at hs;rcases MP q hq with h|⟨_,_,h⟩
        ·exact Tv q hq hs h
        ·exact absurd rfl (h j b' hqd (true,j) (ZU j b hd))
       ·rw[tz q hq]at hs;rcases hc q hq id hid with h|h
        ·exact absurd h (Tv q hq hs)
        ·obtain⟨h1,h2⟩:=h.2.2.2 j b hd uM;refine⟨h1,fun b' fQ=>?_⟩;rw[uM]at fQ;cases fQ;exact h2
      ·have MD:∀b,(j,b)∉r.wr:=fun b hb=>hd ⟨b,hb⟩;have yj:∀(g:Mem),r.ms g j=g j:=fun g=>Rec.Ra MD fun id⟨b,hid⟩=>by rw[hk]at hid;cases hid
       rw[yj];exact vV (yj _) tz
     ·have OD:∀q∈post,aA listed q.i=false:=fun q hq=>Jt q hq (Rj hk q hq);rw[nR fun q hq hs=>by rw[tz q hq,OD q hq]at hs;cases hs];exact Rec.BN (nR fun q hq hs=>by rw[OD q hq]at hs;cases hs).symm
    rw[e1,e2];exact iq
  split
  ·rename_i hw;rw[if_pos hw]at hwp;exact hwp rd
  ·rename_i hw;rw[if_neg hw]at hwp;exact⟨fun _ _=>trivial,hwp⟩
end
end Go.Ab
set_option linter.unusedVariables false
namespace Go.Ab
open Go.RowKit (Below)
section
variable {E:Env} {ops:Array Oper} {w0:bx}
variable{o:Oper}
theorem OG{t:Nat}(h:.tmp t∈o.op.operands):t∈o.looksAt ops:=by unfold Oper.looksAt;refine List.mem_append.2 (.inl (List.mem_filterMap.2 ⟨.tmp t,by simpa using h,rfl⟩))
theorem tA{g:Nat×Bool}{t:Nat}(hg:o.guard=some g)(h:(ops[g.1]?).bind (·.dst)=some t):t∈o.looksAt ops:=by unfold Oper.looksAt;rw[hg];refine List.mem_append.2 (.inr ?_);show t∈((ops[g.1]?).bind (·.dst)).toList;rw[h];simp
variable{f F:Fr}
theorem uU(h:∀t∈o.looksAt ops,f t=F t):∀x∈o.op.operands,bB E f x=bB E F x:=by
 intro x hx;cases x with
 |tmp t=>simp only[bB];rw[h t (OG hx)]
 |_=>rfl
variable{A:List (Nat×Bool)}{φ:Nat→aF}{a:Act}{w:World}
theorem GR{f2:Fr}{m2:Mem}{μ:Ro}(hg:guardOf o A=none)(hA:oG E.fn.ntmps ops A f)(hR:Rel E.P E.aH E.fn.ntmps w0 μ φ f2 m2 a w)(hf:∀t∈o.looksAt ops,f2 t=f t):Region.wanted o (yielded ops a.tmps)=true:=by
 unfold guardOf at hg;unfold Region.wanted;split at hg
 ·rename_i Q5;simp[Q5]
 ·rename_i g Q5;split at hg
  ·rename_i bO;obtain⟨t,h1,h0,h2⟩:=hA g (by simpa using bO);have h3:=hR.fr t;rw[og h0,hf t (tA Q5 h1),h2]at h3;simp only[Q5];rw[se h1 (oE h3)];simp
  ·cases hg
variable{i:Nat}{ft:bp}{m:Mem}
theorem BQ(hE:iJ E){v:V}{wr:List (Nat×bJ)}(hg:guardOf o A=none)(hA:oG E.fn.ntmps ops A f)(hd:tb E o=true)(hn:∀(f2:Fr)(m2:Mem),(∀x∈o.op.operands,bB E f2 x=bB E f x)→(∀x∈ft,m2 x.2=m x.2)→∀(R':Type)(k':V→Fr→Mem→bp→Option R'),Ge E true (cF E o.dst) o f2 m2 k'=k' v f2 (qK wr m2) ft):DE E ops w0 ⟨i,o,v,wr,ft,[]⟩ f m:=by
 intro f2 m2 hf hm μ φ a w K Q hR hK;have hw:Region.wanted o (yielded ops a.tmps)=true:=by
  unfold guardOf at hg;unfold Region.wanted;split at hg
  ·rename_i Q5;simp[Q5]
  ·rename_i g Q5;split at hg
   ·rename_i bO;obtain⟨t,h1,h0,h2⟩:=hA g (by simpa using bO);have h3:=hR.fr t;rw[og h0,hf t (tA Q5 h1),h2]at h3;simp only[Q5];rw[se h1 (oE h3)];simp
   ·cases hg
 simp only at hf hm hK⊢;rw[if_pos hw];exact fun rd=>(VX hE (.inl rfl) (hn f2 m2 (uU hf) hm)).vS (yp (hn f2 m2 (uU hf) hm Unit fun _ _ _ _=>some ())) rd w0 μ φ a w K Q hR fun y w' μ' φ' hle hM hF hv hl=>hK _ _ _ _ (hR.put hle (gS hd) hM hF hv hl)
theorem Ju(hd:tb E o=true)(BG:Oy ops f o):DE E ops w0 ⟨i,o,.bm [],[],[],[]⟩ f m:=by
 intro f2 m2 hf hm μ φ a w K Q hR hK;simp only at hf hm hK⊢;have Xv:Oy ops f2 o:=by obtain⟨g,hg,ht⟩:=BG;exact⟨g,hg,fun t h=>by rw[hf t (tA hg h)];exact ht t h⟩
 rw[vC hR Xv];simp only[Bool.false_eq_true,if_false];exact hK _ _ _ _ (hR.put (fun _ _ h=>h) (gS hd) hR.toax hR.jq BE (fun id hid=>by simp[V.has,cq]at hid))
def w7(x:Nat×Oper):Rec:=⟨x.1,x.2,.bm [],[],[],[]⟩
theorem DF{m:Mem}:∀(l:List (Nat×Oper))(F:Fr),(∀x∈l,tb E x.2=true)→(∀(pre post:List (Nat×Oper))(x:Nat×Oper),l=pre++x::post→Oy ops (gC F pre) x.2)→fk E ops w0 F m (l.map w7)∧kG F (l.map w7)=gC F l
 |[],F,_,_=>⟨trivial,rfl⟩
 |x::r,F,hd,BG=>by obtain⟨h1,h2⟩:=DF (m:=m) r (gP F x.2.dst (.bm [])) (fun y hy=>hd y (by simp[hy])) (fun pre post y h=>by have:=BG (x::pre) post y (by rw[h];rfl);rwa[gC]at this);exact⟨⟨Ju (hd x (by simp)) (BG [] r x rfl),by simp[w7],h1⟩,h2⟩
theorem DG{m:Mem}:∀{l:List Rec},(∀q∈l,q.wr=[]∧q.kl=[])→nF m l=m
 |[],_=>rfl
 |r::l,h=>by
  obtain⟨h1,h2⟩:=h r (by simp);have:r.ms m=m:=by unfold Rec.ms;rw[h1,h2];rfl
  rw[nF,this];exact DG fun q hq=>h q (by simp[hq])
theorem fk.wr:∀{l:List Rec}{f:Fr}{m:Mem},fk E ops w0 f m l→∀q∈l,∀id b,(id,b)∈q.wr→(true,id)∈q.ft
 |[],_,_,_,q,hq=>by cases hq
 |r::l,f,m,h,q,hq=>by
  rcases List.mem_cons.1 hq with rfl|hq
  ·exact h.2.1
  ·exact fk.wr h.2.2 q hq
def Rk(q r:Rec):Prop:=reach ops 4 r.o q.i=true∨((∀id b,(id,b)∈q.wr→∀x∈r.ft,x.2≠id)∧∀id b,(id,b)∈r.wr→∀x∈q.ft,x.2≠id)
theorem GS{o:Oper}{w:Bool}{id:Nat}:∀{lg:Log},Mn ops o w id lg=true→∀x∈lg,id≠x.2.2∨(w=false∧x.2.1=false)∨reach ops 4 o x.1=true
 |[],_,x,hx=>by cases hx
 |(j,w',nA)::lg,h,x,hx=>by
  simp only[Mn,Bool.and_eq_true]at h;rcases List.mem_cons.1 hx with rfl|hx
  ·have h1:=h.1;simp only[Bool.or_eq_true,Bool.not_eq_true',Bool.and_eq_true]at h1;rcases h1 with(h1|h1)|h1
   ·exact .inl fun e=>by subst e;simp[Nat.beq_refl]at h1
   ·exact .inr (.inl h1)
   ·exact .inr (.inr h1)
  ·exact GS h.2 x hx
theorem yu{o:Oper}{lg:Log}:∀{ft:bp},xU ops o lg ft=true→∀y∈ft,∀x∈lg,y.2≠x.2.2∨(y.1=false∧x.2.1=false)∨reach ops 4 o x.1=true
 |[],_,y,hy=>by cases hy
 |(w,id)::ft,h,y,hy=>by
  simp only[xU,Bool.and_eq_true]at h;rcases List.mem_cons.1 hy with rfl|hy
  ·exact GS h.1
  ·exact yu h.2 y hy
theorem BR{o:Oper}{id:Nat}:∀{lg:Log},Ao ops o id lg=true→∀x∈lg,x.2.2=uA id→reach ops 4 o x.1=true
 |[],_,x,hx=>by cases hx
 |(j,w,n)::lg,h,x,hx=>by
  simp only[Ao,Bool.and_eq_true,Bool.or_eq_true,Bool.not_eq_true']at h;intro he;rcases List.mem_cons.1 hx with rfl|hx
  ·rcases h.1 with h1|h1
   ·simp only at he;rw[he,Nat.beq_refl]at h1;cases h1
   ·exact h1
  ·exact BR h.2 x hx he
mutual
theorem MQ{id:Nat}:∀(v:V),v.has id=true→id∈v.ids
 |.agg cs,h=>q8 cs (by simpa only[V.has]using h)
 |.bm cs,h=>q8 cs (by simpa only[V.has]using h)
 |.fn _ cs,h=>q8 cs (by simpa only[V.has]using h)
 |.os j,h=>by have:=Nat.eq_of_beq_eq_true h;subst this;simp[V.ids]
 |.fg j _ _,h=>by have:=Nat.eq_of_beq_eq_true h;subst this;simp[V.ids]
 |.oe j _ _,h=>by have:=Nat.eq_of_beq_eq_true h;subst this;simp[V.ids]
 |.om j,h=>by have:=Nat.eq_of_beq_eq_true h;subst this;simp[V.ids]
 |.sY j _ _,h=>by have:=Nat.eq_of_beq_eq_true h;subst this;simp[V.ids]
 |.wC j _ _ _ _ _,h=>by have:=Nat.eq_of_beq_eq_true h;subst this;simp[V.ids]
 |.op j _,h=>by have:=Nat.eq_of_beq_eq_true h;subst this;simp[V.ids]
 |.it j,h=>by have:=Nat.eq_of_beq_eq_true h;subst this;simp[V.ids]
 |.yl j,h=>by have:=Nat.eq_of_beq_eq_true h;subst this;simp[V.ids]
 |.pv _,h=>by cases h
 |.bj,h=>by cases h
 |.top,h=>by cases h
theorem q8{id:Nat}:∀(cs:List V),cq id cs=true→id∈Gf cs
 |[],h=>by cases h
 |v::r,h=>by
  simp only[cq,Bool.or_eq_true]at h;simp only[Gf,List.mem_append];rcases h with h|h
  ·exact .inl (MQ v h)
  ·exact .inr (q8 r h)
end
variable{id:Nat}
theorem w8{b:bJ}(h:b.names id=true):id∈AU (some b):=by
 cases b with
 |box cs=>exact q8 cs h
 |_=>cases h
theorem vX{m m':Mem}{id:Nat}:∀{ft:bp}{x:Bool×Nat},x∈ft→(id∈AU (m x.2)∨id∈AU (m' x.2))→id∈Em m m' ft
 |y::ft,x,hx,h=>by
  simp only[Em,List.mem_append];rcases List.mem_cons.1 hx with rfl|hx
  ·exact .inl h
  ·exact .inr (vX hx h)
theorem Rl{v:V}{wr:List (Nat×bJ)}(zq:∀t∈o.looksAt ops,f t=F t)(Xw:∀j b,(j,b)∈wr→(true,j)∈ft)(hn:id∉An ops o f m (qK wr m) v ft)(hft:∀x∈ft,x.2≠id):Clean ops id ⟨i,o,v,wr,ft,[]⟩ F m:=by
 simp only[An,List.mem_append,not_or]at hn;obtain⟨⟨h1,h2⟩,h3⟩:=hn;refine⟨fun t ht=>?_,?_,fun x hx=>⟨hft x hx,fun b hb=>?_⟩,fun j b hb uM=>⟨hft _ (Xw j b hb),?_⟩⟩
 ·cases e:(F t).has id with
  |false=>rfl
  |true=>exact absurd (q8 _ (cT.2 ⟨f t,List.mem_map.2 ⟨t,ht,rfl⟩,by rw[zq t ht];exact e⟩)) h1
 ·cases e:v.has id with
  |false=>rfl
  |true=>exact absurd (MQ _ e) h2
 ·cases e:b.names id with
  |false=>rfl
  |true=>exact absurd (vX hx (.inl (by rw[hb];exact w8 e))) h3
 ·cases e:b.names id with
  |false=>rfl
  |true=>exact absurd (vX (Xw j b hb) (.inr (by have fQ:qK wr m j=some b:=uM m;simp only;rw[fQ];exact w8 e))) h3
variable{R:Type}
theorem Jv{site:Nat}{rd:bp}(h:rQ E f m o=some (id,rd)){k:V→Fr→Mem→bp→Option R}{r:R}(hx:cX E false site o f m k=some r):(∀x∈rd,x.1=false)∧∃dI,k (.os id) (eP id f) (an (bf (bC id m) id) id dI) [(true,0)]=some r∧∀(f2:Fr)(m2:Mem),(∀x∈o.op.operands,bB E f2 x=bB E f x)→(∀x∈(true,id)::rd,m2 x.2=m x.2)→∀(R':Type)(k':V→Fr→Mem→bp→Option R'),cX E false site o f2 m2 k'=k' (.os id) (eP id f2) (an (bf (bC id m2) id) id dI) [(true,0)]:=by
 obtain⟨dst,op,type,pos,after,guard⟩:=o;unfold rQ at h;simp only at h;split at h
 ·rename_i c;obtain⟨callee,args,argTypes⟩:=c;simp only at h;split at h
  ·rename_i nA x t t' jz Xj;split at h
   ·rename_i e hu;split at h
    ·rename_i new rd' yb;split at h
     ·cases h
     ·rename_i Xk;simp only[Option.some.injEq,Prod.mk.injEq]at h;obtain⟨rfl,rfl⟩:=h;obtain⟨he1,he2,_⟩:=l0 yb;have aei:∀m2:Mem,bf (bC nA m2) nA nA=none:=fun m2=>by simp[bf,Nat.beq_refl]
      have main:∀(f2:Fr)(m2:Mem),args.toList.map (bB E f2)=[.os nA,x]→m2 nA=m nA→eH m2 (aS E.P e) x=some (new,rd')→∀(R':Type)(k':V→Fr→Mem→bp→Option R'),cX E false site ⟨dst,.call ⟨.builtin .append,args,argTypes⟩,type,pos,after,guard⟩ f2 m2 k'=if !(decide (t'=t))then none else if(dg E e).isNone then none else match m nA with
       |some (.arr sz et es)=>if et=e∧sz=aS E.P e∧x.has nA=false then(if(es++new).length*CJ E.P e≤aa∧0<CJ E.P e then k' (.os nA) (eP nA f2) (an (bf (bC nA m2) nA) nA (.arr sz e (es++new))) [(true,0)]else none)else none
       |_=>none:=by
       intro f2 m2 h1 h2 h3 R' k'
       simp only[cX,h1,Xj,wI,Bool.false_or,hu,h3,h2]
       split
       ·rfl
       ·split
        ·rfl
        ·split
         ·rename_i sz et es ML;simp only[fresh,aei,ML]
         ·rename_i cS;split
          ·rename_i sz et es cG;exact absurd cG (cS sz et es)
          ·rfl
      rw[main f m jz rfl yb]at hx;refine⟨he2,?_⟩;split at hx
      ·cases hx
      ·rename_i Tw;split at hx
       ·cases hx
       ·rename_i A3;split at hx
        ·rename_i sz et es hm;split at hx
         ·rename_i hc3;split at hx
          ·rename_i hc4;refine⟨_,hx,fun f2 m2 hf cG R' k'=>?_⟩;have ha:args.toList.map (bB E f2)=[.os nA,x]:=by rw[←jz];exact qu fun y hy=>hf y (by simp only[Op.operands,Call.operands];simp[Array.mem_toList_iff.1 hy])
           rw[main f2 m2 ha (cG (true,nA) (by simp)) (he1 m2 fun y hy=>cG y (by simp[hy])) R' k'];rw[if_neg Tw,if_neg A3,hm];simp only;rw[if_pos hc3,if_pos hc4]
          ·cases hx
         ·cases hx
        ·cases hx
    ·cases h
   ·cases h
  ·cases h
 ·cases h
theorem sR.kill(h:sR f F)(id:Nat):sR (eP id f) (eP id F):=fun t=>by
 rcases h t with e|e
 ·exact .inl (by simp only[eP,e])
 ·exact .inr (by simp only[eP,e];rfl)
theorem oG.kill{nt:Nat}(h:oG nt ops A f)(id:Nat):oG nt ops A (eP id f):=by intro g hg;obtain⟨t,h1,h0,h2⟩:=h g hg;exact⟨t,h1,h0,by simp only[eP,h2];rfl⟩
theorem Rm{x:Nat×bp}(h:rQ E f m o=some x):isApp E o=true:=by
 obtain⟨dst,op,type,pos,after,guard⟩:=o;unfold rQ at h;simp only at h;unfold isApp;split at h
 ·rename_i c;obtain⟨callee,args,argTypes⟩:=c;simp only at h;split at h
  ·simp
  ·cases h
 ·cases h
theorem EH{rd:bp}(h:rQ E f m o=some (id,rd)):∃c x t t',o.op=.call c∧c.callee=.builtin .append∧c.args.toList.map (bB E f)=[.os id,x]∧c.argTypes.toList=[t,t']:=by
 unfold rQ at h;split at h
 ·rename_i c hc;split at h
  ·rename_i nA x t t' h1 h2 h3;split at h
   ·split at h
    ·split at h
     ·cases h
     ·simp only[Option.some.injEq,Prod.mk.injEq]at h;obtain⟨rfl,_⟩:=h;exact⟨c,x,t,t',hc,h1,h2,h3⟩
    ·cases h
   ·cases h
  ·cases h
 ·cases h
theorem OH{kl:Kl}(h:En E f m o=some (kl,ft)){k:V→Fr→Mem→bp→Option R}{r:R}(hx:Ge E false (cF E o.dst) o f m k=some r):isApp E o=true∧∃v wr Zd,k v (kf kl f) (qK wr (km kl m)) Zd=some r∧(∀x∈wr,(true,x.1)∈ft)∧(∀x∈kl,(true,x.2)∈ft)∧∀(f2:Fr)(m2:Mem),(∀x∈o.op.operands,bB E f2 x=bB E f x)→(∀x∈ft,m2 x.2=m x.2)→∀(R':Type)(k':V→Fr→Mem→bp→Option R'),Ge E false (cF E o.dst) o f2 m2 k'=k' v (kf kl f2) (qK wr (km kl m2)) Zd:=by
 unfold En at h;unfold Ge at hx;split at h
 ·rename_i sp jb;simp only[Option.some.injEq]at h;have hn:E.yW (cF E o.dst)=true:=by
   cases hn:E.yW (cF E o.dst)with
   |true=>rfl
   |false=>rw[hn]at jb;cases jb
  rw[hn]at jb hx;simp only[cond]at jb hx;rw[jb]at hx;obtain⟨v,wr,h1,h2,h3,h4,_,_⟩:=Jp jb hx;rw[h]at h1 h2 h3 h4;refine⟨by unfold isApp;rw[hn];rfl,v,wr,ft,h1,h2,h3,fun f2 m2 hf hm R' k'=>?_⟩;have:=Jm jb hf (by rw[h];exact hm);unfold Ge;rw[hn];simp only[cond];rw[this];exact h4 f2 m2 R' k'
 ·rename_i jb;split at h
  ·rename_i id rd Rn;simp only[Option.some.injEq,Prod.mk.injEq]at h;obtain⟨rfl,rfl⟩:=h;have e0:(bif false then none else bif E.yW (cF E o.dst)then vJ E (cF E o.dst) o f m else none)=(bif E.yW (cF E o.dst)then vJ E (cF E o.dst) o f m else none):=rfl;rw[e0,jb]at hx;simp only at hx;obtain⟨wR,dI,hk,hn⟩:=Jv Rn hx;refine⟨Rm Rn,.os id,[(id,dI)],[(true,0)],hk,by simp,by simp,fun f2 m2 hf hm R' k'=>?_⟩;have Rp:(bif E.yW (cF E o.dst)then vJ E (cF E o.dst) o f2 m2 else none)=none:=by
    cases I2:E.yW (cF E o.dst)with
    |false=>rfl
    |true=>
     simp only[cond];obtain⟨c,x,t,t',hc,UB,jz,Q3⟩:=EH Rn;have Xx:c.args.toList.map (bB E f2)=[.os id,x]:=by rw[←jz];exact List.map_congr_left fun y hy=>hf y (by rw[hc];simp only[Op.operands,Call.operands];rw[UB];simp[Array.mem_toList_iff.1 hy])
     have cG:m2 id=m id:=hm (true,id) (by simp);have VY:∃sz et es,m id=some (.arr sz et es):=by
      obtain⟨dst,op,type,pos,after,guard⟩:=o;simp only at hc;subst hc;obtain⟨callee,args,argTypes⟩:=c;simp only at UB jz Q3;subst UB;simp only[cX,jz,Q3,wI,Bool.false_or]at hx;split at hx
      ·cases hx
      ·split at hx
       ·split at hx
        ·cases hx
        ·split at hx
         ·split at hx
          ·rename_i sz et es hm;exact⟨sz,et,es,hm⟩
          ·cases hx
         ·cases hx
       ·cases hx
     obtain⟨sz,et,es,VY⟩:=VY;unfold vJ;rw[hc];simp only[UB,Xx,Q3,cG,VY];split<;>first|rfl|(rename_i heq;cases heq)
   unfold Ge;have e1:(bif false then none else bif E.yW (cF E o.dst)then vJ E (cF E o.dst) o f2 m2 else none)=(bif E.yW (cF E o.dst)then vJ E (cF E o.dst) o f2 m2 else none):=rfl;rw[e1,Rp];exact hn f2 m2 hf hm R' k'
  ·cases h
theorem sR.vo(h:sR f F)(id:Nat):sR (gi id f) (gi id F):=fun t=>by
 rcases h t with e|e
 ·exact .inl (by simp only[gi,e])
 ·exact .inr (by simp only[gi,e];rfl)
theorem sR.kf:∀{kl:Kl}{f F:Fr},sR f F→sR (Go.Ab.kf kl f) (Go.Ab.kf kl F)
 |[],_,_,h=>h
 |(true,id)::r,f,F,h=>sR.kf (kl:=r) (f:=eP id f) (F:=eP id F) (h.kill id)
 |(false,id)::r,f,F,h=>sR.kf (kl:=r) (f:=gi id f) (F:=gi id F) (h.vo id)
theorem oG.vo{nt:Nat}(h:oG nt ops A f)(id:Nat):oG nt ops A (gi id f):=by intro g hg;obtain⟨t,h1,h0,h2⟩:=h g hg;exact⟨t,h1,h0,by simp only[gi,h2];rfl⟩
theorem oG.kf{nt:Nat}{A:List (Nat×Bool)}:∀{kl:Kl}{f:Fr},oG nt ops A f→oG nt ops A (Go.Ab.kf kl f)
 |[],_,h=>h
 |(true,id)::r,f,h=>oG.kf (kl:=r) (f:=eP id f) (h.kill id)
 |(false,id)::r,f,h=>oG.kf (kl:=r) (f:=gi id f) (h.vo id)
theorem OI(hE:iJ E)(hY:qR E.P E.aH E.fn.ntmps E.yl w0){v:V}{wr:List (Nat×bJ)}{kl:Kl}{Zd:bp}(hg:guardOf o A=none)(hA:oG E.fn.ntmps ops A F)(hd:tb E o=true)(OA:∀x∈o.op.operands,bB E f x=bB E F x)(hn:∀(f2:Fr)(m2:Mem),(∀x∈o.op.operands,bB E f2 x=bB E f x)→(∀x∈ft,m2 x.2=m x.2)→∀(R':Type)(k':V→Fr→Mem→bp→Option R'),Ge E false (cF E o.dst) o f2 m2 k'=k' v (kf kl f2) (qK wr (km kl m2)) Zd):DE E ops w0 ⟨i,o,v,wr,ft,kl⟩ F m:=by
 intro f2 m2 hf hm μ φ a w K Q hR hK;have hw:Region.wanted o (yielded ops a.tmps)=true:=GR hg hA hR hf;simp only at hf hm hK⊢;rw[if_pos hw];have hx:=hn f2 m2 (fun x hx=>by rw[uU hf x hx,OA x hx]) hm (V×Fr×Mem) fun v f m _=>some (v,f,m);rcases EF hE hx with⟨v,f',m',ft,h1,h2⟩|⟨_,h2⟩
 ·simp only[Option.some.injEq,Prod.mk.injEq]at h1;obtain⟨rfl,rfl,rfl⟩:=h1;exact fun rd=>h2.vS (yp hx) rd w0 μ φ a w K Q hR fun y w' μ' φ' hle hM hF hv hl=>hK _ _ _ _ (hR.put hle (gS hd) hM hF hv hl)
 ·refine fun rd=>BB.vS h2 rd w0 μ φ a w K Q hY hR fun v f' m' y w' μ' φ' h1 hle hM hF hv hl=>?_;simp only[Option.some.injEq,Prod.mk.injEq]at h1;obtain⟨rfl,rfl,rfl⟩:=h1;exact hK _ _ _ _ (hR.put hle (gS hd) hM hF hv hl)
structure EI(ops:Array Oper)(mode:Nat)(F:Fr)(m:Mem)(lg:Log)(recs:List Rec):Prop where
 one:mode=1→∀q∈recs,q.wr=[]∧q.kl=[]
 ord:mode=2→recs.Pairwise (Rk (ops:=ops))
 log:mode=2→∀q∈recs,∀y∈q.ft,∀x∈lg,y.2≠x.2.2∨(y.1=false∧x.2.1=false)∨reach ops 4 q.o x.1=true
 kl:recs.Pairwise fun q r=>q.kl≠[]→reach ops 4 r.o q.i=true
 cln:mn ops F m recs
 nam:∀q∈recs,∀id,q.DC id→mode=2∧ops.toList.any (isApp E)=true∧(true,id)∈q.ft∧∀x∈lg,x.2.2=uA id→reach ops 4 q.o x.1=true
theorem mn.none:∀{l:List Rec}{f:Fr}{m:Mem},(∀q∈l,q.kl=[])→mn ops f m l
 |[],_,_,_=>trivial
 |r::l,f,m,h=>⟨fun q hq id⟨b,hid⟩=>(by rw[h q (by simp[hq])]at hid;cases hid),mn.none fun q hq=>h q (by simp[hq])⟩
theorem kW(hE:iJ E)(hY:qR E.P E.aH E.fn.ntmps E.yl w0){mode:Nat}(iv:mode=1∨mode=2):∀(fuel:Nat){R:Type}{A:List (Nat×Bool)}{l:List (Nat×Oper)}{f:Fr}{m:Mem}{lg:Log}{k:Fr→Mem→Option R}{r:R},cp E ops mode fuel R A l f m lg k=some r→(∀x∈l,ops[x.1]?=some x.2)→(mode=1→∀x∈l,eV x.2=true)→Xp ops A l→∀F:Fr,sR f F→oG E.fn.ntmps ops A F→(∀x∈l,∀t∈x.2.looksAt ops,f t=F t)→∃(recs:List Rec)(f':Fr),k f' (nF m recs)=some r∧sR f' (kG F recs)∧recs.map (fun r=>(r.i,r.o))=l∧fk E ops w0 F m recs∧EI (E:=E) ops mode F m lg recs
 |0,_,_,_,_,_,_,_,_,h,_,_,_,_,_,_,_=>by simp[cp]at h
 |fuel+1,R,A,[],f,m,lg,k,r,h,_,_,_,F,hF,_,_=>by simp only[cp]at h;exact⟨[],f,h,hF,rfl,trivial,by simp,fun _=>.nil,by simp,.nil,trivial,by simp⟩
 |fuel+1,R,A,(i,o)::rest,f,m,lg,k,r,h,hl,P2,BH,F,hF,hA,zq=>by
  have TB:(Nat.beq mode 1||Nat.beq mode 2)=true:=by rcases iv with rfl|rfl<;>rfl
  simp only[cp,TB]at h;split at h
  ·rename_i hg;split at h
   ·rename_i hd;have aan:∀x∈o.op.operands,bB E f x=bB E F x:=uU (zq (i,o) (by simp));split at h
    ·rename_i kl ft jb;have Xy:mode=2:=by
      rcases iv with rfl|rfl
      ·cases jb
      ·rfl
     subst Xy;have jb:En E f m o=some (kl,ft):=jb;split at h
     ·rename_i Ba;simp only[Bool.and_eq_true,List.all_eq_true]at Ba;obtain⟨⟨aej,aek⟩,ael⟩:=Ba;obtain⟨Rn,v,wr,Zd,hk,Xw,kH,hn⟩:=OH jb h;obtain⟨recs,f',c1,c2,c3,c4,c5⟩:=kW hE hY (.inr rfl) fuel hk (fun x hx=>hl x (by simp[hx])) (fun hm=>by cases hm) (fun x hx=>BH x (by simp[hx])) (gP (kf kl F) o.dst v) ((sR.kf (kl:=kl) hF).put _ _) (oG.put (oG.kf (kl:=kl) hA) fun g nP t ht=>BH (i,o) (by simp) g nP t ht) (fun x hx t ht=>by
       by_cases e:o.dst=some t
       ·rw[e,iQ,iQ]
       ·rw[dQ e,dQ e];exact wZ (zq x (by simp[hx]) t ht))
      have pS:∀q∈recs,reach ops 4 q.o i=true:=fun q hq=>ael (q.i,q.o) (by rw[←c3];exact List.mem_map.2 ⟨q,hq,rfl⟩);have Xz:ops.toList.any (isApp E)=true:=List.any_eq_true.2 ⟨o,List.mem_of_getElem? (by rw[Array.getElem?_toList];exact hl (i,o) (by simp)),Rn⟩;refine⟨⟨i,o,v,wr,ft,kl⟩::recs,f',c1,c2,by simp[c3],⟨OI hE hY hg hA hd aan hn,fun j b hb=>Xw _ hb,c4⟩,?_⟩;refine⟨fun hm=>(by cases hm),fun hm=>List.pairwise_cons.2 ⟨fun q hq=>.inl (pS q hq),c5.ord hm⟩,fun hm q hq=>?_,List.pairwise_cons.2 ⟨fun q hq _=>pS q hq,c5.kl⟩,⟨fun q hq nA _=>.inl (pS q hq),c5.cln⟩,fun q hq nA hid=>?_⟩
      ·rcases List.mem_cons.1 hq with rfl|hq
       ·exact yu aej
       ·exact fun y hy x hx=>c5.log hm q hq y hy x (List.mem_append.2 (.inr hx))
      ·rcases List.mem_cons.1 hq with rfl|hq
       ·obtain⟨bb,hid⟩:=hid;exact⟨rfl,Xz,kH _ hid,BR (aek _ hid)⟩
       ·obtain⟨g1,g2,g3,g4⟩:=c5.nam q hq nA hid;exact⟨g1,g2,g3,fun x hx=>g4 x (List.mem_append.2 (.inr hx))⟩
     ·cases h
    ·rcases EF hE h with⟨v,f1,m1,ft,hk,OA⟩|⟨vP,_⟩
     rotate_left
     ·cases vP
     obtain⟨Xs,wr,aao,Xw,hn⟩:=OA.drawn rfl;subst Xs;have N7:∀(f2:Fr)(m2:Mem),(∀x∈o.op.operands,bB E f2 x=bB E F x)→(∀x∈ft,m2 x.2=m x.2)→∀(R':Type)(k':V→Fr→Mem→bp→Option R'),Ge E true (cF E o.dst) o f2 m2 k'=k' v f2 (qK wr m2) ft:=fun f2 m2 hf=>hn f2 m2 fun x hx=>by rw[hf x hx,aan x hx]
     have step:∀(Ze:List (Nat×bJ))(lg':Log),qK Ze m=m1→(mode=1→Ze=[])→(∀id b,(id,b)∈Ze→(true,id)∈ft)→DE E ops w0 ⟨i,o,v,Ze,ft,[]⟩ F m→cp E ops mode fuel R A rest (gP f1 o.dst v) m1 lg' k=some r→(mode=2→lg'=(bif ops.toList.any (isApp E)then(An ops o f1 m m1 v ft).map (fun n=>(i,false,uA n))else[])++(ft.map (fun x=>(i,x))++lg)∧xU ops o lg ft=true)→∃(recs:List Rec)(f':Fr),k f' (nF m recs)=some r∧sR f' (kG F recs)∧recs.map (fun r=>(r.i,r.o))=(i,o)::rest∧fk E ops w0 F m recs∧EI (E:=E) ops mode F m lg recs:=by
      intro Ze lg' hwm MH hw2 Xu Uy hlg;obtain⟨recs,f',c1,c2,c3,c4,c5⟩:=kW hE hY iv fuel Uy (fun x hx=>hl x (by simp[hx])) (fun hm x hx=>P2 hm x (by simp[hx])) (fun x hx=>BH x (by simp[hx])) (gP F o.dst v) (hF.put _ _) (oG.put hA fun g nP t ht=>BH (i,o) (by simp) g nP t ht) (fun x hx t ht=>by
       by_cases e:o.dst=some t
       ·rw[e,iQ,iQ]
       ·rw[dQ e,dQ e];exact zq x (by simp[hx]) t ht)
      subst hwm;refine⟨⟨i,o,v,Ze,ft,[]⟩::recs,f',c1,c2,by simp[c3],⟨Xu,hw2,c4⟩,?_⟩;have V6:mode=2→∀x∈lg,x∈lg':=fun hm x hx=>by rw[(hlg hm).1];exact List.mem_append.2 (.inr (List.mem_append.2 (.inr hx)))
      have Rq:mode=2→∀x∈ft,(i,x)∈lg':=fun hm x hx=>by rw[(hlg hm).1];exact List.mem_append.2 (.inr (List.mem_append.2 (.inl (List.mem_map.2 ⟨x,hx,rfl⟩))))
      refine⟨fun hm q hq=>?_,fun hm=>List.pairwise_cons.2 ⟨fun q hq=>?_,c5.ord hm⟩,fun hm q hq=>?_,List.pairwise_cons.2 ⟨fun q hq h=>absurd rfl h,c5.kl⟩,⟨fun q hq id hid=>?_,c5.cln⟩,fun q hq id hid=>?_⟩
      ·rcases List.mem_cons.1 hq with rfl|hq
       ·exact⟨MH hm,rfl⟩
       ·exact c5.one hm q hq
      ·have d2:=c5.log hm;by_cases he:reach ops 4 q.o i=true
       ·exact .inl he
       ·refine .inr ⟨fun id b hb x hx hxi=>?_,fun id b hb x hx hxi=>?_⟩
        ·rcases d2 q hq x hx (i,true,id) (Rq hm (true,id) (hw2 id b hb))with h|h|h
         ·exact h hxi
         ·cases h.2
         ·exact he h
        ·rcases d2 q hq (true,id) (fk.wr c4 q hq id b hb) (i,x) (Rq hm x hx)with h|h|h
         ·exact h hxi.symm
         ·cases h.1
         ·exact he h
      ·rcases List.mem_cons.1 hq with rfl|hq
       ·exact yu (hlg hm).2
       ·exact fun y hy x hx=>c5.log hm q hq y hy x (V6 hm x hx)
      ·obtain⟨g1,g2,g3,g4⟩:=c5.nam q hq id hid;by_cases he:reach ops 4 q.o i=true
       ·exact .inl he
       ·refine .inr (Rl (zq (i,o) (by simp)) hw2 (fun bO=>he (g4 (i,false,uA id) ?_ rfl)) fun x hx hxi=>?_)
        ·rw[(hlg g1).1,g2];exact List.mem_append.2 (.inl (List.mem_map.2 ⟨id,bO,rfl⟩))
        ·rcases c5.log g1 q hq (true,id) g3 (i,x) (Rq g1 x hx)with h|h|h
         ·exact h hxi.symm
         ·cases h.1
         ·exact he h
      ·rcases List.mem_cons.1 hq with rfl|hq
       ·obtain⟨_,hid⟩:=hid;cases hid
       ·obtain⟨g1,g2,g3,g4⟩:=c5.nam q hq id hid;exact⟨g1,g2,g3,fun x hx=>g4 x (V6 g1 x hx)⟩
     rcases iv with rfl|rfl
     ·simp only[Nat.beq,Bool.false_eq_true,if_false]at hk;split at hk
      ·rename_i hqf;have hwn:wr=[]:=by
        cases wr with
        |nil=>rfl
        |cons x l=>have:=vT hqf _ (Xw x (by simp));cases this
       subst hwn;exact step [] lg aao.symm (fun _=>rfl) (by simp) (BQ hE hg hA hd N7) hk (by simp)
      ·cases hk
     ·simp only[Nat.beq,if_true]at hk;split at hk
      ·rename_i hof;exact step wr _ aao.symm (by simp) (fun id b hb=>Xw _ hb) (BQ hE hg hA hd N7) hk fun _=>⟨rfl,hof⟩
      ·cases hk
   ·cases h
  ·rename_i j xV hg;split at h
   ·rename_i tj P3;split at h
    ·rename_i b hb;generalize jb:y0 A ((i,o)::rest)=sp at h;obtain⟨body,Gg⟩:=sp;have kV:=BF jb;have hm0:Nat.beq mode 0=false:=by rcases iv with rfl|rfl<;>rfl
     simp only[hm0,Bool.false_and,Bool.false_eq_true,if_false]at h;split at h
     ·rename_i ip p kK;split at h
      ·rename_i c x y Jq;split at h
       ·rename_i hc;simp only[Bool.and_eq_true,List.all_eq_true,Bool.not_eq_true',beq_eq_false_iff_ne,ne_eq]at hc;obtain⟨⟨⟨⟨⟨⟨Jr,Xr⟩,vD⟩,Q8⟩,XA⟩,hpd⟩,cG⟩:=hc;have XB:mode=1:=by
         rcases iv with h|h
         ·exact h
         ·subst h;simp[Nat.beq]at cG
        subst XB;have Jr:=Nat.eq_of_beq_eq_true Jr;subst Jr;have Xr:guardOf p A=none:=by simpa using Xr
        obtain⟨rb,IH,h⟩:=Option.bind_eq_some_iff.1 h;have bO:∀z∈body,z∈(i,o)::rest:=fun z hz=>by rw[kV];simp[hz]
        have sG:∀z∈kK,z∈(i,o)::rest:=fun z hz=>by rw[kV];simp[hz]
        have GL:(ip,p)∈(i,o)::rest:=by rw[kV];simp
        obtain⟨Q7,hb⟩:=BD hb;have hFc:F c=.pv (.bool b):=by
         rcases hF c with e|e
         ·rw[←e];exact hb
         ·rw[e]at hb;cases hb
        have after:∀(pT:List Rec)(q:Operand),pT.map (fun r=>(r.i,r.o))=body→fk E ops w0 F m pT→(∀q∈pT,q.wr=[]∧q.kl=[])→bB E (kG F pT) q=.pv (.bool rb)→(q=if b then x else y)→∃(recs:List Rec)(f':Fr),k f' (nF m recs)=some r∧sR f' (kG F recs)∧recs.map (fun r=>(r.i,r.o))=body++(ip,p)::kK∧fk E ops w0 F m recs∧(∀q∈recs,q.wr=[]∧q.kl=[]):=by
         intro pT q aap aaq hwn hq hqe;have UC:∀t,(∀z∈body,z.2.dst≠some t)→kG F pT t=F t:=fun t ht=>DD fun q hq=>⟨ht (q.i,q.o) (by rw[←aap];exact List.mem_map.2 ⟨q,hq,rfl⟩),(hwn q hq).2⟩;have hA1:oG E.fn.ntmps ops A (kG F pT):=fun g nP=>by obtain⟨t,h1,h0,h2⟩:=hA g nP;exact⟨t,h1,h0,by rw[UC t fun z hz=>BH z (bO z hz) g nP t h1];exact h2⟩
         have Tx:kG F pT c=.pv (.bool b):=by rw[UC c fun z hz=>(vD z hz).2];exact hFc
         have hrp:DE E ops w0 ⟨ip,p,.pv (.bool rb),[],[],[]⟩ (kG F pT) m:=BQ hE Xr hA1 hpd fun f2 m2 hf hm R' k'=>by
          have pB:bB E f2 (.tmp c)=.pv (.bool b):=by have:=hf (.tmp c) (by rw[Jq];simp[Op.operands]);rw[this,Ux Q7];exact Tx
          have VJ:bB E f2 q=.pv (.bool rb):=by rw[hf q (by rw[Jq,hqe];cases b<;>simp[Op.operands])];exact hq
          rw[GK Jq pB,←hqe,VJ];rfl
         obtain⟨recs,f',c1,c2,c3,c4,c5⟩:=kW hE hY (.inl rfl) fuel h (fun z hz=>hl z (sG z hz)) (fun hm z hz=>P2 hm z (sG z hz)) (fun z hz=>BH z (sG z hz)) (gP (kG F pT) p.dst (.pv (.bool rb))) (sR.put (uT fun t ht=>by rw[UC t ht];exact hF t) _ _) (oG.put hA1 fun g nP t ht=>BH (ip,p) GL g nP t ht) (fun z hz t ht=>by
          by_cases e:p.dst=some t
          ·rw[e,iQ,iQ]
          ·have ZT:∀u∈body,u.2.dst≠some t:=fun u hu hud=>by
            have h1:=XA z hz;simp only[blind,List.all_eq_true]at h1;have h2:=h1 u hu;rw[hud]at h2;simp only[Bool.not_eq_true']at h2;have:(z.2.looksAt ops).elem t=true:=by simpa using ht
            rw[this]at h2;cases h2
           rw[dQ e,dQ e,uQ ZT,UC t ZT];exact zq z (sG z hz) t ht)
         have hmB:nF m pT=m:=DG hwn;refine⟨pT++⟨ip,p,.pv (.bool rb),[],[],[]⟩::recs,f',?_,?_,by simp[aap,c3],?_,fun q hq=>?_⟩
         ·rw[GQ,hmB];exact c1
         ·rw[GP];exact c2
         ·refine fk.append.2 ⟨aaq,?_⟩;rw[hmB];exact⟨hrp,by simp,c4⟩
         ·rcases List.mem_append.1 hq with h|h
          ·exact hwn q h
          ·rcases List.mem_cons.1 h with rfl|h
           ·exact⟨rfl,rfl⟩
           ·exact c5.one rfl q h
        have fin:(∃(recs:List Rec)(f':Fr),k f' (nF m recs)=some r∧sR f' (kG F recs)∧recs.map (fun r=>(r.i,r.o))=body++(ip,p)::kK∧fk E ops w0 F m recs∧(∀q∈recs,q.wr=[]∧q.kl=[]))→∃(recs:List Rec)(f':Fr),k f' (nF m recs)=some r∧sR f' (kG F recs)∧recs.map (fun r=>(r.i,r.o))=(i,o)::rest∧fk E ops w0 F m recs∧EI (E:=E) ops 1 F m lg recs:=by rintro⟨recs,f',c1,c2,c3,c4,c5⟩;exact⟨recs,f',c1,c2,by rw[kV];exact c3,c4,fun _=>c5,fun h=>(by cases h),fun h=>(by cases h),List.Pairwise.imp_of_mem (R:=fun _ _=>True) (fun{q r}hq hr _ h=>absurd (c5 q hq).2 h) (List.pairwise_of_forall fun _ _=>trivial),mn.none fun q hq=>(c5 q hq).2,fun q hq id⟨_,hid⟩=>(by rw[(c5 q hq).2]at hid;cases hid)⟩
        have go:∀q,b=xV→(q=if b then x else y)→cp E ops 1 fuel Bool ((j,xV)::A) body f m lg (fun f _=>vk (bB E f q))=some rb→∃(recs:List Rec)(f':Fr),k f' (nF m recs)=some r∧sR f' (kG F recs)∧recs.map (fun r=>(r.i,r.o))=body++(ip,p)::kK∧fk E ops w0 F m recs∧(∀q∈recs,q.wr=[]∧q.kl=[]):=by
         intro q OB hq Uy;obtain⟨pT,f1,c1,c2,c3,c4,c5⟩:=kW hE hY (.inl rfl) fuel Uy (fun z hz=>hl z (bO z hz)) (fun hm z hz=>P2 hm z (bO z hz)) (fun z hz g nP t ht=>by
          rcases List.mem_cons.1 nP with rfl|nP
          ·simp only[P3]at ht;cases ht;exact(vD z hz).2
          ·exact BH z (bO z hz) g nP t ht) F hF (fun g nP=>by
          rcases List.mem_cons.1 nP with rfl|nP
          ·exact⟨c,P3,Q7,by rw[hFc,OB]⟩
          ·exact hA g nP) (fun z hz=>zq z (bO z hz))
         refine after pT q c3 c4 (c5.one rfl) ?_ hq;have hv:=wW c1;rcases Q4 (E:=E) c2 q with e|e
         ·rw[←e];exact hv
         ·rw[e]at hv;cases hv
        have no:∀q,b= !xV→(q=if b then x else y)→vk (bB E (kJ f body) q)=some rb→∃(recs:List Rec)(f':Fr),k f' (nF m recs)=some r∧sR f' (kG F recs)∧recs.map (fun r=>(r.i,r.o))=body++(ip,p)::kK∧fk E ops w0 F m recs∧(∀q∈recs,q.wr=[]∧q.kl=[]):=by
         intro q OB hq Uy;obtain⟨s1,s2⟩:=DF (E:=E) (w0:=w0) (m:=m) body F (fun z hz=>(vD z hz).1.2) (wV P3 Q8 (fun z hz=>hl z (bO z hz)) (fun z hz=>(vD z hz).2) (by rw[hFc,OB]) (by simp));refine after (body.map w7) q (by simp[w7,Function.comp_def]) s1 (fun u hu=>by obtain⟨z,_,rfl⟩:=List.mem_map.1 hu;exact⟨rfl,rfl⟩) ?_ hq;rw[s2];have hv:=wW Uy;have hle:sR (kJ f body) (gC F body):=uT fun t ht=>by rw[sf ht];exact hF t
         rcases Q4 (E:=E) hle q with e|e
         ·rw[←e];exact hv
         ·rw[e]at hv;cases hv
        refine fin ?_;cases xV<;>cases b<;>simp only[cond]at IH
        ·exact go y rfl rfl IH
        ·exact no x rfl rfl IH
        ·exact no y rfl rfl IH
        ·exact go x rfl rfl IH
       ·cases h
      ·cases h
     ·cases h
    ·cases h
   ·cases h
theorem qv{l:List Oper}:(i,o)∈(List.range l.length).zip l↔l[i]?=some o:=by
 rw[List.mem_iff_getElem?];constructor
 ·rintro⟨n,hn⟩;rw[List.getElem?_zip_eq_some]at hn;obtain⟨h1,h2⟩:=hn;rw[List.getElem?_range (by have:=(List.getElem?_eq_some_iff.1 h2).1;omega)]at h1;simp only[Option.some.injEq]at h1;subst h1;exact h2
 ·intro h;refine⟨i,List.getElem?_zip_eq_some.2 ⟨?_,h⟩⟩;exact List.getElem?_range (by have:=(List.getElem?_eq_some_iff.1 h).1;omega)
theorem tB:∀{l done:List (Nat×Oper)},me ops done l=true→(∀x∈l,∀d∈done,reach ops 4 x.2 d.1=true∨d.2.apart ops x.2=true)∧l.Pairwise (fun q r=>reach ops 4 r.2 q.1=true∨q.2.apart ops r.2=true)∧∀x∈l,∀e∈x.2.after,Region.binds .any e=true→e.on<x.1
 |[],_,_=>⟨by simp,.nil,by simp⟩
 |(i,o)::r,done,h=>by
  simp only[me,Bool.and_eq_true]at h;obtain⟨⟨h1,h2⟩,h3⟩:=h;obtain⟨i1,i2,i3⟩:=tB h3;have Bf:∀{done:List (Nat×Oper)},uB ops done o=true→∀d∈done,reach ops 4 o d.1=true∨d.2.apart ops o=true:=by
   intro done;induction done with
   |nil=>intro _ d hd;cases hd
   |cons x l ih=>
    intro h d hd;simp only[uB,Bool.and_eq_true,Bool.or_eq_true]at h;rcases List.mem_cons.1 hd with rfl|hd
    ·exact h.1.symm
    ·exact ih h.2 d hd
  refine⟨fun x hx d hd=>?_,List.pairwise_cons.2 ⟨fun x hx=>i1 x hx (i,o) (by simp),i2⟩,fun x hx e he hb=>?_⟩
  ·rcases List.mem_cons.1 hx with rfl|hx
   ·exact Bf h2 d hd
   ·exact i1 x hx d (by simp[hd])
  ·rcases List.mem_cons.1 hx with rfl|hx
   ·have:=List.all_eq_true.1 h1 e (Array.mem_toList_iff.2 he);simp only[hb,Bool.not_true,Bool.false_or]at this;rwa[Nat.blt_eq]at this
   ·exact i3 x hx e he hb
variable{rd:Option Nat}{fuel:Nat}{Q:Exit→Act→World→Prop}
theorem tC(hE:iJ E)(hY:qR E.P E.aH E.fn.ntmps E.yl w0){mode:Nat}(iv:mode=1∨mode=2){l:List (Nat×Oper)}{base:Nat→Bool}(P2:mode=1→∀x∈l,eV x.2=true){k:Fr→Mem→Option R}{r:R}(hmz:∀x∈l,ops[x.1]?=some x.2)(V7:(l.map Prod.fst).Pairwise (·<·))(Rc:∀x∈l,base x.1=false)(Re:∀i o,ops[i]?=some o→base i=false→(∀x∈l,x.1≠i)→(∀x∈l,reach ops 8 o x.1=true)∨∃j,reach ops 8 o j=true∧base j=false∧∀x∈l,x.1≠j)(aem:∀x∈l,∀e∈x.2.after,Region.binds .any e=true→base e.on=true∨∃y∈l,y.1=e.on)(hi:me ops [] l=true)(h:cp E ops mode fuel R [] l f m [] k=some r)(hQ:∀(fuel:Nat)(listed:Array Bool),listed.size=ops.size→listed.toList.countP (fun b=> !b)≤fuel→vW ops listed→(∀i,aA listed i=true↔base i=true∨∃x∈l,x.1=i)→∀f' m' μ φ a w,k f' m'=some r→Rel E.P E.aH E.fn.ntmps w0 μ φ f' m' a w→wpAnyIn (FR rd) 0 E.P .any ops Q fuel listed a w):∀(fuel:Nat)(listed:Array Bool),listed.size=ops.size→listed.toList.countP (fun b=> !b)≤fuel→vW ops listed→(∀i,aA listed i=true↔base i=true)→∀(μ:Ro)(φ:Nat→aF)(a:Act)(w:World),Rel E.P E.aH E.fn.ntmps w0 μ φ f m a w→wpAnyIn (FR rd) 0 E.P .any ops Q fuel listed a w:=by
 intro aar listed hs hc sF hb μ φ a w hR;obtain⟨recs,f',c1,c2,c3,c4,c5⟩:=kW (w0:=w0) hE hY iv fuel h hmz P2 (by intro x hx g hg;cases hg) f (sR.refl f) (by intro g hg;cases hg) (fun _ _ _ _=>rfl);obtain⟨_,i2,i3⟩:=tB hi;have bO:∀q∈recs,(q.i,q.o)∈l:=fun q hq=>by rw[←c3];exact List.mem_map.2 ⟨q,hq,rfl⟩
 have hof:∀x∈l,∃q∈recs,q.i=x.1:=fun x hx=>by rw[←c3]at hx;obtain⟨q,hq,rfl⟩:=List.mem_map.1 hx;exact⟨q,hq,rfl⟩
 have Bf:recs.Pairwise fun q r=>reach ops 4 r.o q.i=true∨q.o.apart ops r.o=true:=by rw[←c3,List.pairwise_map]at i2;exact i2
 have TC:recs.Pairwise (Rk (ops:=ops)):=by
  rcases iv with hm|hm
  ·exact List.Pairwise.imp_of_mem (fun{q r}hq hr _=>.inr ⟨fun id b hb=>(by rw[(c5.one hm q hq).1]at hb;cases hb),fun id b hb=>(by rw[(c5.one hm r hr).1]at hb;cases hb)⟩) Bf
  ·exact c5.ord hm
 refine Rb (E:=E) (w0:=w0) (recs:=recs) (f0:=f) (m0:=m) (base:=base) ?_ (fun q hq=>hmz _ (bO q hq)) (fun q hq=>Rc _ (bO q hq)) (fun i o ho hbi cS=>?_) ?_ c5.kl c5.cln (fun q hq e he Eu=>⟨i3 _ (bO q hq) e he Eu,?_⟩) c4 ?_ aar listed hs hc sF (fun i hi=>(hb i).2 hi) (fun i hi=>Or.inl ((hb i).1 hi)) μ φ a w ?_
 ·rw[←c3,List.map_map]at V7;have h2:(recs.map (Prod.fst∘fun r=>(r.i,r.o))).Pairwise (·<·):=V7;rw[List.pairwise_map]at h2;exact h2
 ·have aen:∀x∈l,x.1≠i:=fun x hx e=>by obtain⟨q,hq,Rf⟩:=hof x hx;exact cS q hq (by rw[Rf];exact e)
  rcases Re i o ho hbi aen with h1|⟨j,h1,h2,h3⟩
  ·exact Or.inl fun q hq=>h1 _ (bO q hq)
  ·exact Or.inr ⟨j,h1,h2,fun q hq=>h3 _ (bO q hq)⟩
 ·refine List.Pairwise.imp (fun{q r}h=>?_) (List.Pairwise.and Bf TC);obtain⟨h1,h2⟩:=h;rcases h1 with h1|h1
  ·exact .inl h1
  ·rcases h2 with h2|h2
   ·exact .inl h2
   ·exact .inr ⟨h1,h2⟩
 ·rcases aem _ (bO q hq) e he Eu with h1|⟨y,hy,h1⟩
  ·exact Or.inl h1
  ·obtain⟨q',N9,Rf⟩:=hof y hy;exact Or.inr ⟨q',N9,by rw[Rf];exact h1⟩
 ·intro V8 MR Uk A3 aeo pB μ2 φ2 a2 w2 Dw;refine hQ V8 MR Uk A3 aeo (fun i=>?_) _ _ μ2 φ2 a2 w2 c1 (Dw.weaken c2);rw[pB i];constructor
  ·rintro(h1|⟨q,hq,h1⟩)
   ·exact Or.inl h1
   ·exact Or.inr ⟨_,bO q hq,h1⟩
  ·rintro(h1|⟨x,hx,h1⟩)
   ·exact Or.inl h1
   ·obtain⟨q,hq,Rf⟩:=hof x hx;exact Or.inr ⟨q,hq,by rw[Rf];exact h1⟩
 ·have hS:∀q∈recs,aA listed q.i=false:=fun q hq=>by
   cases hx:aA listed q.i with
   |false=>rfl
   |true=>have:=(hb q.i).1 hx;rw[Rc _ (bO q hq)]at this;cases this
  rw[show mD (aA listed) f recs=f from funext fun t=>nQ fun q hq hs=>(by rw[hS q hq]at hs;cases hs),show mE (aA listed) m recs=m from funext fun t=>nR fun q hq hs=>(by rw[hS q hq]at hs;cases hs)];exact hR
variable{x:Nat×Oper}
theorem vY(hx:x∈(List.range ops.size).zip ops.toList):ops[x.1]?=some x.2:=by have:=(qv (l:=ops.toList) (i:=x.1) (o:=x.2)).1 (by simpa using hx);rwa[Array.getElem?_toList]at this
theorem oI(ho:ops[i]?=some o):(i,o)∈(List.range ops.size).zip ops.toList:=by have:=(qv (l:=ops.toList) (i:=i) (o:=o)).2 (by rw[Array.getElem?_toList];exact ho);simpa using this
theorem zip_fst:((List.range ops.size).zip ops.toList).map Prod.fst=List.range ops.size:=by rw[List.map_fst_zip (by simp)]
variable{P:Program}
theorem BS{F:Fence}{n:Nat}{listed:Array Bool}(hs:listed.size=ops.size)(wQ:∀i o,ops[i]?=some o→aA listed i=true)(hq:Q .normal a w):wpAnyIn F n P .any ops Q fuel listed a w:=by
 have hr:Region.ready .any ops listed=[]:=by
  apply List.eq_nil_iff_forall_not_mem.2;intro j hj;obtain⟨h0,o,ho,_⟩:=mem_ready.1 hj;have h1:=wQ j o ho;have br:j<listed.size:=by rw[hs];exact(Array.getElem?_eq_some_iff.1 ho).1
  simp only[aA,Array.getD_eq_getD_getElem?,Array.getElem?_eq_getElem br,Option.getD_some]at h0 h1;rw[h0]at h1;cases h1
 cases fuel with
 |zero=>exact⟨hr,hq⟩
 |succ fuel=>exact⟨fun _=>hq,fun i hi=>by rw[hr]at hi;cases hi⟩
theorem tD(n j:Nat):aA (Array.replicate n false) j=false:=by simp only[aA,Array.getD_eq_getD_getElem?,Array.getElem?_replicate];split<;>rfl
theorem count_le(n:Nat):(Array.replicate n false).toList.countP (fun b=> !b)≤n:=by have:=List.countP_le_length (p:=fun b=> !b) (l:=(Array.replicate n false).toList);simpa using this
theorem zr:vW ops (Array.replicate ops.size false):=fun i o _ h=>by rw[tD]at h;cases h
theorem BT(hE:iJ E)(hY:qR E.P E.aH E.fn.ntmps E.yl w0){mode:Nat}(iv:mode=1∨mode=2)(P2:mode=1→∀o∈ops,eV o=true){k:Fr→Mem→Option R}{r:R}(hi:me ops [] ((List.range ops.size).zip ops.toList)=true)(h:cp E ops mode fuel R [] ((List.range ops.size).zip ops.toList) f m [] k=some r){μ:Ro}(hR:Rel E.P E.aH E.fn.ntmps w0 μ φ f m a w)(hQ:∀f' m' μ' φ' a' w',k f' m'=some r→Rel E.P E.aH E.fn.ntmps w0 μ' φ' f' m' a' w'→Q .normal a' w'):wpAnyIn (FR rd) 0 E.P .any ops Q ops.size (Array.replicate ops.size false) a w:=by
 refine tC (w0:=w0) (base:=fun _=>false) hE hY iv (fun hm x hx=>P2 hm x.2 (Array.mem_of_getElem? (vY hx))) (fun x hx=>vY hx) (by rw[zip_fst];exact List.pairwise_lt_range) (fun _ _=>rfl) (fun i o ho _ cS=>absurd rfl (cS _ (oI ho))) (fun x hx e he hb=>Or.inr ?_) hi h ?_ ops.size _ (by simp) (count_le _) zr (fun i=>by rw[tD]) μ φ a w hR
 ·obtain⟨_,_,i3⟩:=tB hi;have h1:=i3 x hx e he hb;have h2:x.1<ops.size:=(Array.getElem?_eq_some_iff.1 (vY hx)).1;exact⟨_,oI (Array.getElem?_eq_getElem (show e.on<ops.size by omega)),rfl⟩
 ·intro V8 MR Uk _ _ pB f' m' μ2 φ2 a2 w2 hk Dw;exact BS Uk (fun i o ho=>(pB i).2 (Or.inr ⟨_,oI ho,rfl⟩)) (hQ _ _ _ _ _ _ hk Dw)
theorem w9{j:Nat}(h:((List.range ops.size).zip ops.toList)[j]?=some x):x.1=j:=by
 have h1:(((List.range ops.size).zip ops.toList).map Prod.fst)[j]?=some x.1:=by rw[List.getElem?_map,h];rfl
 rw[zip_fst]at h1;obtain⟨h2,h3⟩:=List.getElem?_eq_some_iff.1 h1;rw[List.getElem_range]at h3;exact h3.symm
theorem mF{p:Nat}:x∈((List.range ops.size).zip ops.toList).take p↔x∈(List.range ops.size).zip ops.toList∧x.1<p:=by
 constructor
 ·intro h;obtain⟨j,hj⟩:=List.getElem?_of_mem h;have hjp:j<p:=by have:=(List.getElem?_eq_some_iff.1 hj).1;simp at this;omega
  rw[List.getElem?_take_of_lt hjp]at hj;exact⟨List.mem_of_getElem? hj,by rw[w9 hj];exact hjp⟩
 ·rintro⟨h,hx⟩;obtain⟨j,hj⟩:=List.getElem?_of_mem h;have:=w9 hj;exact List.mem_of_getElem? (i:=j) (by rw[List.getElem?_take_of_lt (by omega)];exact hj)
theorem q9{p:Nat}:x∈((List.range ops.size).zip ops.toList).drop p↔x∈(List.range ops.size).zip ops.toList∧p≤x.1:=by
 constructor
 ·intro h;obtain⟨j,hj⟩:=List.getElem?_of_mem h;rw[List.getElem?_drop]at hj;exact⟨List.mem_of_getElem? hj,by rw[w9 hj];omega⟩
 ·rintro⟨h,hx⟩;obtain⟨j,hj⟩:=List.getElem?_of_mem h;have:=w9 hj;exact List.mem_of_getElem? (i:=j-p) (by rw[List.getElem?_drop,show p+(j-p)=j by omega];exact hj)
variable{K:Act→World→Prop}{Q':Exit→Act→World→Prop}
theorem Oper.Jw{F:Fence}{n:Nat}(h:∀e a w,e≠.normal→Q' e a w→Q e a w)(hh:o.wpIn F n P a w K Q'):o.wpIn F n P a w K Q:=by
 unfold Oper.wpIn at*;refine⟨hh.1,?_⟩;have hh:=hh.2;have aas:LetsOut Q'→LetsOut Q:=fun⟨a,w,hq⟩=>⟨a,w,h _ _ _ (by simp) hq⟩;generalize (o.semAt F.round a.eval).run P w=r at*;cases r with
 |ok x w'=>
  cases x<;>simp only[Oper.uponIn]at hh⊢<;>first
   |exact hh
   |exact⟨hh.1,CallsIn.mono hh.2 (fun e w'' he=>by cases e<;>first|exact aas he|exact h _ _ _ (by simp) he|exact he)⟩
   |exact⟨hh.1,RoundIn.mono hh.2 (fun e w'' he=>by cases e<;>first|exact aas he|exact h _ _ _ (by simp) he|exact he)⟩
 |halt x w'=>cases x<;>simp only[Oper.uponIn]at hh⊢<;>first|exact h _ _ _ (by simp) hh|exact hh
theorem EJ{F:Fence}{n:Nat}(h:∀e a w,e≠.normal→Q' e a w→Q e a w)(hh:wpOpIn F n P ops Q' i K a w):wpOpIn F n P ops Q i K a w:=by
 unfold wpOpIn at*;split
 ·simpa[*]using hh
 ·rename_i o ho;simp only[ho]at hh;split
  ·rename_i hw;simp only[hw,if_true]at hh;exact Oper.Jw h hh
  ·rename_i hw;simp only[hw]at hh;exact hh
theorem Jx(hE:iJ E)(hY:qR E.P E.aH E.fn.ntmps E.yl w0){p:Nat}(OJ:Qo ops p=true){k:Fr→Mem→Option R}{r:R}(XC:me ops [] (((List.range ops.size).zip ops.toList).take p)=true)(hi3:me ops [] (((List.range ops.size).zip ops.toList).drop (p+1))=true){n1 n2 n3:Nat}(h:(cp E ops 2 n1 R [] (((List.range ops.size).zip ops.toList).take p) f m [] fun f m=>cp E ops 0 n2 R [] ((((List.range ops.size).zip ops.toList).drop p).take 1) f m [] fun f m=>cp E ops 2 n3 R [] (((List.range ops.size).zip ops.toList).drop (p+1)) f m [] k)=some r){μ:Ro}(hR:Rel E.P E.aH E.fn.ntmps w0 μ φ f m a w)(hQ:∀f' m' μ' φ' a' w',k f' m'=some r→Rel E.P E.aH E.fn.ntmps w0 μ' φ' f' m' a' w'→Q .normal a' w'):wpAnyIn (FR rd) 0 E.P .any ops Q ops.size (Array.replicate ops.size false) a w:=by
 unfold Qo at OJ;cases ho:ops[p]? with
 |none=>rw[ho]at OJ;cases OJ
 |some o=>
  rw[ho]at OJ;simp only[Bool.and_eq_true]at OJ;obtain⟨⟨_,CP⟩,Zf⟩:=OJ;have hpn:p<ops.size:=(Array.getElem?_eq_some_iff.1 ho).1;have MO:∀e∈o.after,Region.binds .any e=true→e.on<p:=fun e he hb=>by have:=List.all_eq_true.1 CP e (Array.mem_toList_iff.2 he);rw[hb,Bool.not_true,Bool.false_or]at this;exact Nat.le_of_ble_eq_true this
  have aep:∀i,i<p→reach ops 8 o i=true:=fun i hi=>by
   have:=List.all_eq_true.1 Zf _ (oI (Array.getElem?_eq_getElem (show i<ops.size by omega)));simp only at this;have hb:Nat.blt i p=true:=by simp[Nat.blt];omega
   rw[hb]at this;exact this
  have aat:∀i o',ops[i]?=some o'→p<i→reach ops 8 o' p=true:=fun i o' OE hi=>by
   have:=List.all_eq_true.1 Zf _ (oI OE);simp only at this;have hb:Nat.blt i p=false:=by
    cases hx:Nat.blt i p with
    |false=>rfl
    |true=>have:i<p:=Nat.le_of_ble_eq_true hx;omega
   have pB:Nat.beq i p=false:=by
    cases hx:Nat.beq i p with
    |false=>rfl
    |true=>have:=Nat.eq_of_beq_eq_true hx;omega
   rw[hb,pB]at this;simpa using this
  refine tC (w0:=w0) (base:=fun _=>false) hE hY (.inr rfl) (fun h=>by cases h) (fun x hx=>vY (mF.1 hx).1) (by rw[List.map_take,zip_fst];exact(List.pairwise_lt_range).sublist (List.take_sublist _ _)) (fun _ _=>rfl) (fun i o' OE _ cS=>?_) (fun x hx e he hb=>Or.inr ?_) XC h ?_ ops.size _ (by simp) (count_le _) zr (fun i=>by rw[tD]) μ φ a w hR
  ·have hip:¬i<p:=fun hc=>cS _ (mF.2 ⟨oI OE,hc⟩) rfl;by_cases hi:i=p
   ·subst hi;rw[ho]at OE;cases OE;exact Or.inl fun x hx=>aep _ (mF.1 hx).2
   ·exact Or.inr ⟨p,aat i o' OE (by omega),rfl,fun x hx=>by have:=(mF.1 hx).2;omega⟩
  ·obtain⟨_,_,i3⟩:=tB XC;have h1:=i3 x hx e he hb;have h2:=(mF.1 hx).2;exact⟨_,mF.2 ⟨oI (Array.getElem?_eq_getElem (show e.on<ops.size by omega)),by show e.on<p;omega⟩,rfl⟩
  ·intro fuel listed hs hc sF hb f1 m1 μ1 φ1 a1 w1 Om Js;have br:∀i,aA listed i=true↔i<p:=fun i=>by
    rw[hb i];constructor
    ·rintro(h|⟨x,hx,rfl⟩)
     ·cases h
     ·exact(mF.1 hx).2
    ·intro hi;exact Or.inr ⟨_,mF.2 ⟨oI (Array.getElem?_eq_getElem (show i<ops.size by omega)),hi⟩,rfl⟩
   have lZ:p<listed.size:=by rw[hs];exact hpn
   have hpu:aA listed p=false:=by
    cases hx:aA listed p with
    |false=>rfl
    |true=>have:=(br p).1 hx;omega
   have XD:listed[p]=false:=by simpa only[aA,Array.getD_eq_getD_getElem?,Array.getElem?_eq_getElem lZ,Option.getD_some]using hpu
   cases fuel with
   |zero=>have:=List.countP_eq_zero.1 (Nat.le_zero.1 hc) listed[p] (by simp);rw[XD]at this;simp at this
   |succ fuel=>
    have Rr:p∈Region.ready .any ops listed:=mem_ready.2 ⟨by simp only[Array.getD_eq_getD_getElem?,Array.getElem?_eq_getElem lZ,Option.getD_some];exact XD,o,ho,fun e he Eu=>(br e.on).2 (MO e he Eu)⟩;refine⟨(fun h0=>by rw[h0]at Rr;cases Rr),fun i hi=>?_⟩;obtain⟨OD,o',OE,yt⟩:=mem_ready.1 hi;have pS:i<listed.size:=by rw[hs];exact(Array.getElem?_eq_some_iff.1 OE).1
    have hiu:aA listed i=false:=by simp only[aA,Array.getD_eq_getD_getElem?,Array.getElem?_eq_getElem pS,Option.getD_some]at OD⊢;exact OD
    have hip:i=p:=by
     refine Classical.byContradiction fun cS=>?_;have h1:¬i<p:=fun hc=>by rw[(br i).2 hc]at hiu;cases hiu
     have:=oH listed sF 8 o' p yt (aat i o' OE (by omega));rw[hpu]at this;cases this
    subst hip;have hL:(((List.range ops.size).zip ops.toList).drop i).take 1=[(i,o)]:=by
     have hlen:i<((List.range ops.size).zip ops.toList).length:=by simp;exact hpn
     rw[List.drop_eq_getElem_cons hlen];have hg:((List.range ops.size).zip ops.toList)[i]=(i,o):=by have h1:((List.range ops.size).zip ops.toList)[i]?=some ((List.range ops.size).zip ops.toList)[i]:=List.getElem?_eq_getElem hlen;have h2:=w9 h1;have h3:=vY (List.mem_of_getElem? h1);rw[h2,ho]at h3;exact Prod.ext h2 (Option.some.inj h3).symm
     rw[hg];rfl
    rw[hL]at Om;have V4:∀j,aA (listed.setIfInBounds i true) j=if j=i then true else aA listed j:=fun j=>by
     simp only[aA,Array.getD_eq_getD_getElem?,Array.getElem?_setIfInBounds];by_cases e:i=j
     ·subst e;simp[lZ]
     ·have e':¬j=i:=fun h=>e h.symm;simp[e,e']
    have hle:∀j,aA (listed.setIfInBounds i true) j=true↔j≤i:=fun j=>by
     rw[V4];by_cases e:j=i
     ·simp[e]
     ·rw[if_neg e,br];omega
    have aau:=gy (rd:=rd) (w0:=w0) hE hY _ (.inl rfl) Om (by intro x hx;rw[List.mem_singleton]at hx;subst hx;exact ho) (by intro x hx g hg;cases hg) (fun h=>by cases h) μ1 φ1 a1 w1 (fun e a w=>(e=.normal∧wpAnyIn (FR rd) 0 E.P .any ops Q fuel (listed.setIfInBounds i true) a w)∨(e≠.normal∧Q e a w)) [] Js (by intro g hg;cases hg) fun f2 m2 μ2 φ2 a2 w2 Un Dw _ _=>Or.inl ⟨rfl,?_⟩
    ·rw[List.append_nil,List.map_cons,List.map_nil,wpOpsIn_cons]at aau;refine wpOpIn_mono (fun a w hq=>?_) (EJ (fun e a w cS hq=>?_) aau)
     ·rcases hq with⟨_,h⟩|⟨h,_⟩
      ·exact h
      ·exact absurd rfl h
     ·rcases hq with⟨h,_⟩|⟨_,h⟩
      ·exact absurd h cS
      ·exact h
    ·refine tC (w0:=w0) (base:=fun j=>decide (j≤i)) hE hY (.inr rfl) (fun h=>by cases h) (fun x hx=>vY (q9.1 hx).1) (by rw[List.map_drop,zip_fst];exact(List.pairwise_lt_range).sublist (List.drop_sublist _ _)) (fun x hx=>by have:=(q9.1 hx).2;simp;omega) (fun j oj hj hbj cS=>?_) (fun x hx e he Eu=>?_) hi3 Un ?_ fuel _ (by simp[hs]) ?_ ?_ (fun j=>by rw[hle j];simp) μ2 φ2 a2 w2 Dw
     ·simp only[decide_eq_false_iff_not]at hbj;exact absurd rfl (cS _ (q9.2 ⟨oI hj,by show i+1≤j;omega⟩))
     ·obtain⟨_,_,i3⟩:=tB hi3;have h1:=i3 x hx e he Eu;have h2:x.1<ops.size:=(Array.getElem?_eq_some_iff.1 (vY (q9.1 hx).1)).1;by_cases hei:e.on≤i
      ·exact Or.inl (by simpa using hei)
      ·exact Or.inr ⟨_,q9.2 ⟨oI (Array.getElem?_eq_getElem (show e.on<ops.size by omega)),by show i+1≤e.on;omega⟩,rfl⟩
     ·intro agq adU hs3 _ _ hb3 f3 m3 μ3 φ3 a3 w3 Zg hR3;refine BS hs3 (fun j oj hj=>(hb3 j).2 ?_) (hQ _ _ _ _ _ _ Zg hR3);by_cases Jk:j≤i
      ·exact Or.inl (by simpa using Jk)
      ·exact Or.inr ⟨_,q9.2 ⟨oI hj,by show i+1≤j;omega⟩,rfl⟩
     ·rw[Array.toList_setIfInBounds,List.countP_set (by simpa using lZ)];have:listed.toList[i]'(by simpa using lZ)=false:=by simpa using XD
      rw[this];simp only[Bool.not_false,if_true,Bool.not_true,Bool.false_eq_true,if_false];omega
     ·intro j oj hj hlj e he Eu;rw[hle]at hlj⊢;by_cases Jk:j=i
      ·subst Jk;rw[ho]at hj;cases hj;have:=MO e he Eu;omega
      ·have h1:=sF j oj hj ((br j).2 (by omega)) e he Eu;have:=(br e.on).1 h1;omega
end
end Go.Ab
