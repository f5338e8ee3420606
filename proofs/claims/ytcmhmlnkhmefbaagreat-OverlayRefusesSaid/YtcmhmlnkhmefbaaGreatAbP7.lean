import Derived.Test.YtcmhmlnkhmefbaaGreatAbP6
import Derived.OrdersIn
set_option linter.unusedVariables false
namespace Go.Ab
open Go.RowKit (Below)
def sR(f F:Fr):Prop:=∀t,f t=F t∨f t=.top
theorem sR.refl(f:Fr):sR f f:=fun _=>.inl rfl
theorem sR.put{f F:Fr}(h:sR f F)(d:Option Nat)(v:V):sR (gO f d v) (gO F d v):=by
 intro t;cases d with
 |none=>exact h t
 |some d=>
  simp only[gO,fj];cases Nat.beq t d
  ·exact h t
  ·exact .inl rfl
theorem dP{f:Fr}{d:Option Nat}{v:V}{t:Nat}(h:d≠some t):gO f d v t=f t:=by
 cases d with
 |none=>rfl
 |some d=>exact ou (fun e=>h (by rw[e]))
theorem iR{f:Fr}{v:V}{t:Nat}:gO f (some t) v t=v:=by simp[gO,fj,Nat.beq_refl]
section
variable {E:Env} {ops:Array Oper} {w0:bt}
variable{nt:Nat}{μ:Ro}{φ:Nat→aG}{f:Fr}{m:Mem}{a:Act}
theorem Rel.weaken{f':Fr}{w:World}(h:Rel E.P E.aI nt w0 μ φ f m a w)(hf:sR f' f):Rel E.P E.aI nt w0 μ φ f' m a w:=
 {h with
  fr:=fun t=>by
   rcases hf t with e|e
   ·rw[e];exact h.fr t
   ·rw[e];exact .top,
  live:=fun t id hid=>by
   rcases hf t with e|e
   ·rw[e]at hid;exact h.live t id hid
   ·rw[e]at hid;cases hid}
variable{t:Nat}
theorem Bx{d:Nat}{y:Value}(hd:d<a.tmps.size):(a.put (some d) y).tmps.getD t undef=if t=d then y else a.tmps.getD t undef:=by
 simp only[Act.put,Array.getD_eq_getD_getElem?,Array.getElem?_setIfInBounds];by_cases e:d=t
 ·subst e;simp[hd]
 ·have e':¬t=d:=fun h=>e h.symm;simp[e,e']
theorem Rel.put{nt:Nat}{μ μ':Ro}{φ φ':Nat→aG}{f f':Fr}{m m':Mem}{a:Act}{w w':World}(h:Rel E.P E.aI nt w0 μ φ f m a w)(hle:Gu μ μ'){dst:Option Nat}{v:V}{y:Value}(hd:∀d,dst=some d→d<nt)(hM:ay E.P E.aI w0 μ' φ' m' w')(hF:cm E.P μ' φ' m' f' (aA nt w0 a))(hv:ag E.P μ' φ' v y)(hl:∀id,v.has id=true→(m' id).isSome=true):Rel E.P E.aI nt w0 μ' φ' (gO f' dst v) m' (a.put dst y) w':=by
 refine{toay:=hM,size:=?_,defers:=?_,kJ:=h.kJ,fr:=fun t=>?_,live:=fun t id hid=>?_}
 ·cases dst<;>simp[Act.put,h.size]
 ·cases dst<;>exact h.defers.mono hle
 ·cases dst with
  |none=>exact hF.fr t
  |some d=>
   have bq:d<a.tmps.size:=by rw[h.size];exact hd d rfl
   have hf:=hF.fr t;by_cases e:t=d
   ·subst e;rw[og (hd t rfl),Bx bq,if_pos rfl,iR];exact hv
   ·rw[dP (by simpa using fun h=>e h.symm)];unfold aA at hf⊢;split
    ·rename_i ht;rw[if_pos ht]at hf;rw[Bx bq,if_neg e];exact hf
    ·rename_i ht;rw[if_neg ht]at hf;exact hf
 ·by_cases e:dst=some t
  ·subst e;rw[iR]at hid;exact hl id hid
  ·rw[dP e]at hid;exact hF.live t id hid
theorem T5(h:t<E.fn.ntmps):bA E f (.tmp t)=f t:=by simp only[bA];rw[show Nat.blt t E.fn.ntmps=true by rw[Nat.blt_eq];exact h];rfl
theorem Bz{p:PV}(h:bA E f (.tmp t)=.pv p):t<E.fn.ntmps∧f t=.pv p:=by
 simp only[bA]at h;cases e:Nat.blt t E.fn.ntmps with
 |true=>rw[e]at h;exact⟨by rwa[Nat.blt_eq]at e,h⟩
 |false=>rw[e]at h;cases h
theorem QO{F:Fr}(h:sR f F)(q:Operand):bA E f q=bA E F q∨bA E f q=.top:=by
 cases q with
 |tmp t=>
  simp only[bA];cases Nat.blt t E.fn.ntmps with
  |true=>exact h t
  |false=>exact .inr rfl
 |_=>exact .inl rfl
def oG(nt:Nat)(ops:Array Oper)(A:List (Nat×Bool))(f:Fr):Prop:=∀g∈A,∃t,(ops[g.1]?).bind (·.dst)=some t∧t<nt∧f t=.pv (.bool g.2)
def wU(ops:Array Oper)(A:List (Nat×Bool))(a:Act):Prop:=∀g∈A,∃t,(ops[g.1]?).bind (·.dst)=some t∧a.tmps.getD t undef=.bool g.2
def WX(ops:Array Oper)(A:List (Nat×Bool))(l:List (Nat×Oper)):Prop:=∀x∈l,∀g∈A,∀t,(ops[g.1]?).bind (·.dst)=some t→x.2.dst≠some t
variable{d:Option Nat}{A:List (Nat×Bool)}
theorem oG.put(h:oG nt ops A f){v:V}(hd:∀g∈A,∀t,(ops[g.1]?).bind (·.dst)=some t→d≠some t):oG nt ops A (gO f d v):=by intro g hg;obtain⟨t,h1,h0,h2⟩:=h g hg;exact⟨t,h1,h0,by rw[dP (hd g hg t h1)];exact h2⟩
variable{o:Oper}
theorem gR(h:ta E o=true):∀d,o.dst=some d→d<E.fn.ntmps:=by intro d hd;simp only[ta,hd]at h;rw[Nat.blt_eq]at h;exact h
variable{b:Bool}
theorem se{j:Nat}(h:(ops[j]?).bind (·.dst)=some t)(hb:a.tmps.getD t undef=.bool b):yielded ops a.tmps j=some b:=by
 simp only[yielded,h,Option.bind_some];have:a.tmps[t]?=some (.bool b):=by
  rw[Array.getD_eq_getD_getElem?]at hb;cases e:a.tmps[t]? with
  |none=>rw[e]at hb;simp[undef]at hb
  |some x=>rw[e]at hb;simpa using hb
 rw[this]
theorem yq(ho:guardOf o A=none)(hA:wU ops A a):Region.wanted o (yielded ops a.tmps)=true:=by
 unfold guardOf at ho;unfold Region.wanted;split at ho
 ·rename_i hg;simp[hg]
 ·rename_i g hg;split at ho
  ·rename_i bO;obtain⟨t,h1,h2⟩:=hA g (by simpa using bO);simp only[hg];rw[se h1 h2];simp
  ·cases ho
theorem wU.put(h:wU ops A a){y:Value}(hs:∀t,d=some t→t<a.tmps.size)(hd:∀g∈A,∀t,(ops[g.1]?).bind (·.dst)=some t→d≠some t):wU ops A (a.put d y):=by
 intro g hg;obtain⟨t,h1,h2⟩:=h g hg;refine⟨t,h1,?_⟩;cases d with
 |none=>exact h2
 |some d=>rw[Bx (hs d rfl),if_neg fun e=>hd g hg t h1 (by rw[e])];exact h2
def Oa(ops:Array Oper)(f:Fr)(o:Oper):Prop:=∃g,o.guard=some g∧∀t,(ops[g.1]?).bind (·.dst)=some t→f t=.bl []∨f t=.pv (.bool (!g.2))
theorem Ob{P:Program}{x:Value}(h:ag P μ φ (.bl []) x):x=undef:=by
 cases h with
 | @bl _ xs h1 _=>have:xs= #[]:=Array.eq_empty_of_size_eq_zero (by simpa using h1.symm);subst this;rfl
theorem BA{P:Program}:ag P μ φ (.bl []) undef:=.bl rfl (by simp)
theorem vB{w:World}(h:Rel E.P E.aI nt w0 μ φ f m a w)(hd:Oa ops f o):Region.wanted o (yielded ops a.tmps)=false:=by
 obtain⟨g,hg,ht⟩:=hd;simp only[Region.wanted,hg];cases hs:(ops[g.1]?).bind (·.dst)with
 |none=>simp[yielded,hs]
 |some t=>
  have hy:nt≤t→yielded ops a.tmps g.1=none:=fun hle=>by simp only[yielded,hs,Option.bind_some];rw[Array.getElem?_eq_none (by rw[h.size];exact hle)]
  by_cases CJ:nt≤t
  ·rw[hy CJ];rfl
  have bq:t<nt:=Nat.lt_of_not_le CJ;have h3:=h.fr t;rw[og bq]at h3;rcases ht t hs with e|e
  ·rw[e]at h3;have h4:=Ob h3;have:yielded ops a.tmps g.1=none:=by
    simp only[yielded,hs,Option.bind_some];rw[Array.getD_eq_getD_getElem?]at h4;cases e:a.tmps[t]? with
    |none=>rfl
    |some x=>rw[e]at h4;simp only[Option.getD_some]at h4;subst h4;rfl
   rw[this];rfl
  ·rw[e]at h3;rw[se hs (oE h3)];cases g.2<;>rfl
theorem sf{t:Nat}:∀{l:List (Nat×Oper)}{f:Fr},(∀x∈l,x.2.dst≠some t)→gB f l t=f t
 |[],_,_=>rfl
 |x::r,f,h=>by rw[gB,sf (fun y hy=>h y (by simp[hy])),dP (h x (by simp))]
theorem uP{t:Nat}:∀{l:List (Nat×Oper)}{f:Fr},(∀x∈l,x.2.dst≠some t)→kM f l t=f t
 |[],_,_=>rfl
 |x::r,f,h=>by rw[kM,uP (fun y hy=>h y (by simp[hy])),dP (h x (by simp))]
theorem yr{t:Nat}:∀{l:List (Nat×Oper)}{f:Fr},(f t=.top∨∃x∈l,x.2.dst=some t)→kM f l t=.top
 |[],_,h=>by
  rcases h with h|⟨x,hx,_⟩
  ·exact h
  ·cases hx
 |x::r,f,h=>by
  rw[kM];by_cases e:x.2.dst=some t
  ·exact yr (.inl (by rw[e,iR]))
  ·refine yr ?_;rcases h with h|⟨y,hy,hd⟩
   ·exact .inl (by rw[dP e];exact h)
   ·rcases List.mem_cons.1 hy with rfl|hy
    ·exact absurd hd e
    ·exact .inr ⟨y,hy,hd⟩
theorem uQ{l:List (Nat×Oper)}{F:Fr}(h:∀t,(∀x∈l,x.2.dst≠some t)→f t=F t∨f t=.top):sR (kM f l) F:=by
 intro t;by_cases e:∃x∈l,x.2.dst=some t
 ·exact .inr (yr (.inr e))
 ·have e':∀x∈l,x.2.dst≠some t:=fun x hx hd=>e ⟨x,hx,hd⟩;rw[uP e'];exact h t e'
theorem wV{g:Nat×Bool}{tj:Nat}(hj:(ops[g.1]?).bind (·.dst)=some tj):∀{l:List (Nat×Oper)}{done:List Nat}{f:Fr},s9 g done l=true→(∀x∈l,ops[x.1]?=some x.2)→(∀x∈l,x.2.dst≠some tj)→f tj=.pv (.bool (!g.2))→(∀j∈done,∀t,(ops[j]?).bind (·.dst)=some t→f t=.bl [])→∀(pre post:List (Nat×Oper))(x:Nat×Oper),l=pre++x::post→Oa ops (gB f pre) x.2
 |[],_,_,_,_,_,_,_,pre,post,x,h=>by simp at h
 |y::r,done,f,hg,hl,hd,hb,I4,pre,post,x,h=>by
  simp only[s9,Bool.and_eq_true]at hg;cases pre with
  |nil=>
   simp only[List.nil_append,List.cons.injEq]at h;obtain⟨rfl,rfl⟩:=h;rw[gB];have h1:=hg.1;split at h1
   ·rename_i hh QP;refine⟨hh,QP,fun t ht=>?_⟩;rcases Bool.or_eq_true_iff.1 h1 with h2|h2
    ·simp only[Bool.and_eq_true]at h2;have e1:=Nat.eq_of_beq_eq_true h2.1;have e2:hh.2=g.2:=by simpa using h2.2
     rw[e1]at ht;rw[hj]at ht;cases ht;exact .inr (by rw[e2];exact hb)
    ·exact .inl (I4 _ (by simpa using h2) t ht)
   ·cases h1
  |cons z pre=>
   simp only[List.cons_append,List.cons.injEq]at h;obtain⟨rfl,h⟩:=h;rw[gB];refine wV hj hg.2 (fun x hx=>hl x (by simp[hx])) (fun x hx=>hd x (by simp[hx])) (by rw[dP (hd y (by simp))];exact hb) (fun j hjm t ht=>?_) pre post x h;by_cases e:y.2.dst=some t
   ·rw[e,iR]
   ·rw[dP e];rcases List.mem_cons.1 hjm with rfl|hjm
    ·rw[hl y (by simp)]at ht;exact absurd ht e
    ·exact I4 j hjm t ht
theorem BB{A:List (Nat×Bool)}:∀{l a b:List (Nat×Oper)},yY A l=(a,b)→l=a++b
 |[],a,b,h=>by simp[yY]at h;obtain⟨rfl,rfl⟩:=h;rfl
 |x::r,a,b,h=>by
  simp only[yY]at h;split at h
  ·cases hs:yY A r with
   |mk a' b'=>rw[hs]at h;simp only[Prod.mk.injEq]at h;obtain⟨rfl,rfl⟩:=h;rw[BB hs];rfl
  ·simp only[Prod.mk.injEq]at h;obtain⟨rfl,rfl⟩:=h;rfl
theorem wW{v:V}(h:vj v=some b):v=.pv (.bool b):=by
 unfold vj at h;split at h
 ·cases h;rfl
 ·cases h
theorem Vs(hE:iK E){site:Nat}{draw:Bool}{v:V}{f':Fr}{m':Mem}{ft:bn}(hn:draw=true∨∃c x y,o.op=.pick c x y)(h:∀(R':Type)(k':V→Fr→Mem→bn→Option R'),F1 E draw site o f m k'=k' v f' m' ft):sc E draw site o f m v f' m' ft:=by
 have hx:=Ew hE (h (V×Fr×Mem×bn) fun v f m ft=>some (v,f,m,ft));rcases hx with⟨v1,f1,m1,YM,h1,h2⟩|⟨h1,h2,_⟩
 rotate_left
 ·rcases hn with hn|⟨c,x,y,hn⟩
  ·rw[hn]at h1;cases h1
  ·exact absurd hn (h2 c x y)
 simp only[Option.some.injEq,Prod.mk.injEq]at h1;obtain⟨rfl,rfl,rfl,rfl⟩:=h1;exact h2
theorem Gv{R:Type}{site:Nat}{draw:Bool}{p:Oper}{c:Nat}{x y:Operand}{k:V→Fr→Mem→bn→Option R}(hp:p.op=.pick (.tmp c) x y)(hb:bA E f (.tmp c)=.pv (.bool b)):F1 E draw site p f m k=k (bA E f (if b then x else y)) f m []:=by
 have je:vI E site p f m=none:=by simp only[vI,hp]
 unfold F1;rw[je];have e:(bif draw then none else bif E.yU site then(none:Option Sp)else none)=none:=by cases draw<;>cases E.yU site<;>rfl
 rw[e];simp only[cY,hp,hb];cases b<;>rfl
end
end Go.Ab
set_option linter.unusedVariables false
namespace Go.Ab
open Go.RowKit (Below)
section
variable {E:Env} {ops:Array Oper} {w0:bt}
theorem tu{rd:Option Nat}{Q:Exit→Act→World→Prop}{tail:List Nat}:∀(l:List (Nat×Oper))(f:Fr),(∀x∈l,ops[x.1]?=some x.2)→(∀x∈l,ta E x.2=true)→(∀(pre post:List (Nat×Oper))(x:Nat×Oper),l=pre++x::post→Oa ops (gB f pre) x.2)→∀{μ:Ro}{φ:Nat→aG}{m:Mem}{a:Act}{w:World},Rel E.P E.aI E.fn.ntmps w0 μ φ f m a w→∀(A:List (Nat×Bool)),wU ops A a→WX ops A l→(∀a',Rel E.P E.aI E.fn.ntmps w0 μ φ (gB f l) m a' w→wU ops A a'→wpOpsIn (FR rd) 0 E.P ops Q tail a' w)→wpOpsIn (FR rd) 0 E.P ops Q (l.map (·.1)++tail) a w
 |[],f,_,_,_,_,_,_,a,_,hR,_,hA,_,hK=>hK a hR hA
 |x::r,f,hl,hd,BC,μ,φ,m,a,w,hR,A,hA,BD,hK=>by simp only[List.map_cons,List.cons_append,wpOpsIn];rw[hl x (by simp)];simp only;rw[vB hR (BC [] r x rfl)];simp only[Bool.false_eq_true,if_false];refine And.intro (fun _ _=>trivial) (tu r (gO f x.2.dst (.bl [])) (fun y hy=>hl y (by simp[hy])) (fun y hy=>hd y (by simp[hy])) (fun pre post y h=>?_) (hR.put (fun _ _ h=>h) (gR (hd x (by simp))) hR.toay hR.js BA (fun id hid=>by simp[V.has,cr]at hid)) A (hA.put (fun t ht=>by rw[hR.size];exact gR (hd x (by simp)) t ht) fun g nP t ht=>BD x (by simp) g nP t ht) (fun y hy=>BD y (by simp[hy])) hK);have:=BC (x::pre) post y (by rw[h];rfl);rwa[gB]at this
theorem vS:∀{ft:bn},wK ft=true→∀x∈ft,x.1=false
 |[],_,x,hx=>by cases hx
 |(w,id)::r,h,x,hx=>by
  simp only[wK,Bool.and_eq_true,Bool.not_eq_true']at h;rcases List.mem_cons.1 hx with rfl|hx
  ·exact h.1
  ·exact vS h.2 x hx
theorem gx(hE:iK E){rd:Option Nat}(hY:qS E.P E.aI E.fn.ntmps E.yl w0):∀(fuel:Nat){mode:Nat}(iv:mode=0∨mode=3){R:Type}{A:List (Nat×Bool)}{l:List (Nat×Oper)}{f:Fr}{m:Mem}{lg:Log}{k:Fr→Mem→Option R}{r:R},cq E ops mode fuel R A l f m lg k=some r→(∀x∈l,ops[x.1]?=some x.2)→WX ops A l→(mode=3→∀x∈l,eW x.2=true)→∀(μ:Ro)(φ:Nat→aG)(a:Act)(w:World)(Q:Exit→Act→World→Prop)(tail:List Nat),Rel E.P E.aI E.fn.ntmps w0 μ φ f m a w→wU ops A a→(∀(f':Fr)(m':Mem)(μ':Ro)(φ':Nat→aG)(a':Act)(w':World),k f' m'=some r→Rel E.P E.aI E.fn.ntmps w0 μ' φ' f' m' a' w'→wU ops A a'→(mode=3→m'=m∧∀t,(∀x∈l,x.2.dst≠some t)→f' t=f t)→wpOpsIn (FR rd) 0 E.P ops Q tail a' w')→wpOpsIn (FR rd) 0 E.P ops Q (l.map (·.1)++tail) a w
 |0,_,_,_,_,_,_,_,_,_,_,h,_,_,_,_,_,_,_,_,_,_,_,_=>by simp[cq]at h
 |fuel+1,mode,iv,R,A,[],f,m,lg,k,r,h,_,_,_,μ,φ,a,w,Q,tail,hR,hA,hK=>by simp only[cq]at h;exact hK f m μ φ a w h hR hA fun _=>⟨rfl,fun _ _=>rfl⟩
 |fuel+1,mode,iv,R,A,(i,o)::rest,f,m,lg,k,r,h,hl,BD,PH,μ,φ,a,w,Q,tail,hR,hA,hK=>by
  simp only[cq]at h;split at h
  ·rename_i hg;split at h
   ·rename_i hd;have Mq:Nat.beq mode 2=false:=by rcases iv with rfl|rfl<;>rfl
    simp only[Mq,cond_false]at h;rw[←Mq]at h;have ZU:=yp h;rcases Ew hE h with⟨v,f1,m1,ft,hk,Oc⟩|⟨_,pP⟩
    rotate_left
    ·simp only[List.map_cons,List.cons_append,wpOpsIn];rw[hl (i,o) (by simp)];simp only;rw[yq hg hA,if_pos rfl];refine Bw.vR pP rd w0 μ φ a w _ Q hY hR fun v f1 m1 y w' μ' φ' hk hle hM hF hv Eh=>?_;have cO:Nat.beq mode 2=false:=by rcases iv with rfl|rfl<;>rfl
     rw[cO]at hk;simp only[Bool.false_eq_true,if_false]at hk;rcases iv with rfl|rfl
     ·simp only[Nat.beq,if_true]at hk;exact gx hE hY fuel (.inl rfl) hk (fun x hx=>hl x (by simp[hx])) (fun x hx=>BD x (by simp[hx])) (fun hm x hx=>PH hm x (by simp[hx])) _ _ _ _ Q tail (hR.put hle (gR hd) hM hF hv Eh) (hA.put (fun t ht=>by rw[hR.size];exact gR hd t ht) fun g nP t ht=>BD (i,o) (by simp) g nP t ht) fun f' m' μ2 φ2 a' w2 jB iq sT mj=>hK f' m' μ2 φ2 a' w2 jB iq sT fun h=>by cases h
     ·simp[Nat.beq,wK]at hk
    have cO:Nat.beq mode 2=false:=by rcases iv with rfl|rfl<;>rfl
    rw[cO]at hk;simp only[Bool.false_eq_true,if_false]at hk;have hq:(mode=3→f1=f∧m1=m)∧cq E ops mode fuel R A rest (gO f1 o.dst v) m1 lg k=some r:=by
     rcases iv with rfl|rfl
     ·simp only[Nat.beq,if_true]at hk;exact⟨fun h=>(by cases h),hk⟩
     ·simp only[Nat.beq,Bool.false_eq_true,if_false]at hk;split at hk
      ·rename_i hqf;exact⟨fun h=>Oc.same (PH rfl (i,o) (by simp)) (vS hqf),hk⟩
      ·cases hk
    obtain⟨QQ,hk⟩:=hq;simp only[List.map_cons,List.cons_append,wpOpsIn];rw[hl (i,o) (by simp)];simp only;rw[yq hg hA,if_pos rfl];refine Oc.vR ZU rd w0 μ φ a w _ Q hR fun y w' μ' φ' hle hM hF hv Eh=>?_;refine gx hE hY fuel iv hk (fun x hx=>hl x (by simp[hx])) (fun x hx=>BD x (by simp[hx])) (fun hm x hx=>PH hm x (by simp[hx])) _ _ _ _ Q tail (hR.put hle (gR hd) hM hF hv Eh) (hA.put (fun t ht=>by rw[hR.size];exact gR hd t ht) fun g nP t ht=>BD (i,o) (by simp) g nP t ht) fun f' m' μ2 φ2 a' w2 jB iq sT mj=>?_;refine hK f' m' μ2 φ2 a' w2 jB iq sT fun Vt=>?_;obtain⟨e1,e2⟩:=QQ Vt;obtain⟨e3,e4⟩:=mj Vt;refine⟨by rw[e3,e2],fun t ht=>?_⟩;rw[e4 t fun x hx=>ht x (by simp[hx]),dP (ht (i,o) (by simp)),e1]
   ·cases h
  ·rename_i j xV hg;split at h
   ·rename_i tj PI;split at h
    ·rename_i b hb;have QR:tj<E.fn.ntmps:=by
      simp only[bA]at hb;cases e:Nat.blt tj E.fn.ntmps with
      |true=>rwa[Nat.blt_eq]at e
      |false=>rw[e]at hb;cases hb
     have ZZ:f tj=.pv (.bool b):=by simp only[bA]at hb;rw[show Nat.blt tj E.fn.ntmps=true by rw[Nat.blt_eq];exact QR]at hb;exact hb
     have hba:a.tmps.getD tj undef=.bool b:=by have:=(al hR (.tmp tj)).1;rw[hb]at this;exact oE this
     generalize je:yY A ((i,o)::rest)=sp at h;obtain⟨body,F3⟩:=sp;have kY:=BB je;simp only at h;split at h
     ·rename_i Vu;split at h
      ·rename_i hc;simp only[Bool.and_eq_true,List.all_eq_true,Bool.not_eq_true',beq_eq_false_iff_ne,ne_eq]at hc Vu;obtain⟨⟨El,QS⟩,Vv⟩:=hc;have Z0:mode=0:=Nat.eq_of_beq_eq_true Vu.1;subst Z0;have bO:∀z∈body,z∈(i,o)::rest:=fun z hz=>by rw[kY];simp[hz]
       have sG:∀z∈F3,z∈(i,o)::rest:=fun z hz=>by rw[kY];simp[hz]
       by_cases Od:b=xV
       ·have:P3 xV b=true:=by subst Od;cases b<;>rfl
        rw[this]at h;simp only[cond]at h;have WY:fj f tj (.pv (.bool xV))=f:=funext fun t=>by
         unfold fj;cases e:Nat.beq t tj with
         |false=>rfl
         |true=>rw[Nat.eq_of_beq_eq_true e];simp only[cond];rw[←Od];exact ZZ.symm
        rw[WY]at h;refine gx hE hY fuel iv h hl (fun z hz g nP t ht=>?_) (fun h=>by cases h) _ _ _ _ Q tail hR (fun g nP=>?_) fun f' m' μ2 φ2 a' w2 jB iq sT mj=>hK f' m' μ2 φ2 a' w2 jB iq (fun g nP=>sT g (by simp[nP])) fun h=>by cases h
        ·rcases List.mem_cons.1 nP with rfl|nP
         ·simp only[PI]at ht;cases ht;exact Vv z hz
         ·exact BD z hz g nP t ht
        ·rcases List.mem_cons.1 nP with rfl|nP
         ·exact⟨tj,PI,by rw[hba,Od]⟩
         ·exact hA g nP
       ·have:P3 xV b=false:=by cases b<;>cases xV<;>first|rfl|exact absurd rfl Od
        rw[this]at h;simp only[cond]at h;have hbn:b= !xV:=by cases b<;>cases xV<;>first|rfl|exact absurd rfl Od
        have WY:fj f tj (.pv (.bool !xV))=f:=funext fun t=>by
         unfold fj;cases e:Nat.beq t tj with
         |false=>rfl
         |true=>rw[Nat.eq_of_beq_eq_true e];simp only[cond];rw[←hbn];exact ZZ.symm
        rw[WY]at h;rw[kY,List.map_append,List.append_assoc];refine tu body f (fun z hz=>hl z (bO z hz)) El (wV PI QS (fun z hz=>hl z (bO z hz)) (fun z hz=>Vv z (bO z hz)) (by rw[ZZ,hbn]) (by simp)) hR A hA (fun z hz g nP t ht=>BD z (bO z hz) g nP t ht) fun a' iq sT=>?_
        ·refine gx hE hY fuel iv h (fun z hz=>hl z (sG z hz)) (fun z hz=>BD z (sG z hz)) (fun h=>by cases h) _ _ _ _ Q tail iq sT fun f' m' μ2 φ2 a' w2 jB iq sT mj=>hK f' m' μ2 φ2 a' w2 jB iq sT fun h=>by cases h
      ·cases h
     ·split at h
      ·rename_i ip p kN;split at h
       ·rename_i c x y I7;split at h
        ·rename_i hc;simp only[Bool.and_eq_true,List.all_eq_true,Bool.not_eq_true',beq_eq_false_iff_ne,ne_eq]at hc;obtain⟨⟨⟨⟨⟨⟨I8,WZ⟩,vC⟩,QS⟩,_⟩,hpd⟩,_⟩:=hc;have I8:=Nat.eq_of_beq_eq_true I8;subst I8;have WZ:guardOf p A=none:=by simpa using WZ
         obtain⟨rb,Ip,h⟩:=Option.bind_eq_some_iff.1 h;have bO:∀z∈body,z∈(i,o)::rest:=fun z hz=>by rw[kY];simp[hz]
         have sG:∀z∈kN,z∈(i,o)::rest:=fun z hz=>by rw[kY];simp[hz]
         have Gw:(ip,p)∈(i,o)::rest:=by rw[kY];simp
         rw[kY,List.map_append,List.append_assoc];have after:∀(f1:Fr)(μ1:Ro)(φ1:Nat→aG)(a1:Act)(w1:World)(q:Operand),Rel E.P E.aI E.fn.ntmps w0 μ1 φ1 f1 m a1 w1→wU ops A a1→(∀t,(∀z∈body,z.2.dst≠some t)→f1 t=f t)→bA E f1 q=.pv (.bool rb)→(q=if b then x else y)→wpOpsIn (FR rd) 0 E.P ops Q (((ip,p)::kN).map (·.1)++tail) a1 w1:=by
          intro f1 μ1 φ1 a1 w1 q I9 Z1 W0 hq hqe;have Td:bA E f1 (.tmp c)=.pv (.bool b):=by simp only[bA];rw[show Nat.blt c E.fn.ntmps=true by rw[Nat.blt_eq];exact QR];show f1 c=_;rw[W0 c fun z hz=>(vC z hz).2];exact ZZ
          simp only[List.map_cons,List.cons_append,wpOpsIn];rw[hl (ip,p) Gw];simp only;rw[yq WZ Z1,if_pos rfl];have Oc:sc E (Nat.beq mode 1||Nat.beq mode 2) (cG E p.dst) p f1 m (.pv (.bool rb)) f1 m []:=Vs hE (.inr ⟨_,_,_,I7⟩) fun R' k'=>by rw[Gv I7 Td,←hqe,hq]
          refine Oc.vR (fun c h=>by rw[I7]at h;cases h) rd w0 μ1 φ1 a1 w1 _ Q I9 fun z w' μ' φ' mj hM hF hv Eh=>?_;have hle:sR (gO (kM f body) p.dst (.pv (.bool rb))) (gO f1 p.dst (.pv (.bool rb))):=sR.put (uQ fun t ht=>.inl (W0 t ht).symm) _ _;refine gx hE hY fuel iv h (fun z hz=>hl z (sG z hz)) (fun z hz=>BD z (sG z hz)) (fun hm z hz=>PH hm z (sG z hz)) _ _ _ _ Q tail ((I9.put mj (gR hpd) hM hF hv Eh).weaken hle) (Z1.put (fun t ht=>by rw[I9.size];exact gR hpd t ht) fun g nP t ht=>BD (ip,p) Gw g nP t ht) fun f' m' μ2 φ2 a' w2 jB iq sT mj=>?_;refine hK f' m' μ2 φ2 a' w2 jB iq sT fun Vt=>?_;obtain⟨e3,e4⟩:=mj Vt;refine⟨e3,fun t ht=>?_⟩;rw[e4 t fun z hz=>ht z (sG z hz),dP (ht (ip,p) Gw),uP fun z hz=>ht z (bO z hz)]
         have go:∀q,b=xV→(q=if b then x else y)→cq E ops 3 fuel Bool ((j,xV)::A) body f m lg (fun f _=>vj (bA E f q))=some rb→wpOpsIn (FR rd) 0 E.P ops Q (body.map (·.1)++(((ip,p)::kN).map (·.1)++tail)) a w:=by
          intro q Od hq T6;refine gx hE hY fuel (.inr rfl) T6 (fun z hz=>hl z (bO z hz)) ?_ (fun _ z hz=>(vC z hz).1.1) _ _ _ _ Q _ hR ?_ fun f' m' μ2 φ2 a' w2 jB iq sT mj=>?_
          ·intro z hz g nP t ht;rcases List.mem_cons.1 nP with rfl|nP
           ·simp only[PI]at ht;cases ht;exact(vC z hz).2
           ·exact BD z (bO z hz) g nP t ht
          ·intro g nP;rcases List.mem_cons.1 nP with rfl|nP
           ·exact⟨c,PI,by rw[hba,Od]⟩
           ·exact hA g nP
          ·obtain⟨e1,e2⟩:=mj rfl;subst e1;exact after f' μ2 φ2 a' w2 q iq (fun g nP=>sT g (by simp[nP])) e2 (wW jB) hq
         have no:∀q,b= !xV→(q=if b then x else y)→vj (bA E (kM f body) q)=some rb→wpOpsIn (FR rd) 0 E.P ops Q (body.map (·.1)++(((ip,p)::kN).map (·.1)++tail)) a w:=by
          intro q Od hq T6;refine tu body f (fun z hz=>hl z (bO z hz)) (fun z hz=>(vC z hz).1.2) (wV PI QS (fun z hz=>hl z (bO z hz)) (fun z hz=>(vC z hz).2) (by rw[ZZ,Od]) (by simp)) hR A hA (fun z hz g nP t ht=>BD z (bO z hz) g nP t ht) fun a' iq sT=>?_;refine after _ μ φ a' w q iq sT (fun t ht=>sf ht) ?_ hq;have hv:=wW T6;cases q with
          |tmp t=>
           simp only[bA]at hv⊢;have hle:sR (kM f body) (gB f body):=uQ fun t ht=>.inl (sf ht).symm;cases e:Nat.blt t E.fn.ntmps with
           |false=>rw[e]at hv;cases hv
           |true=>
            rw[e]at hv;simp only[cond]at hv⊢;rcases hle t with e|e
            ·rw[←e];exact hv
            ·rw[e]at hv;cases hv
          |_=>exact hv
         have Z2:(bif Nat.beq mode 0 then 3 else mode)=3:=by rcases iv with rfl|rfl<;>rfl
         rw[Z2]at Ip;cases xV<;>cases b<;>simp only[cond]at Ip
         ·exact go y rfl rfl Ip
         ·exact no x rfl rfl Ip
         ·exact no y rfl rfl Ip
         ·exact go x rfl rfl Ip
        ·cases h
       ·cases h
      ·cases h
    ·cases h
   ·cases h
end
end Go.Ab
set_option linter.unusedVariables false
namespace Go.Ab
open Go.RowKit (Below)
structure Rec where
 i:Nat
 o:Oper
 v:V
 wr:List (Nat×bK)
 ft:bn
 kl:Kl
def Rec.fs(r:Rec)(f:Fr):Fr:=gO (kf r.kl f) r.o.dst r.v
def Rec.ms(r:Rec)(m:Mem):Mem:=qL r.wr (km r.kl m)
def Rec.Du(r:Rec)(id:Nat):Prop:=∃b,(b,id)∈r.kl
def kK(f:Fr):List Rec→Fr
 |[]=>f
 |r::l=>kK (r.fs f) l
def nF(m:Mem):List Rec→Mem
 |[]=>m
 |r::l=>nF (r.ms m) l
def mF(S:Nat→Bool)(f:Fr):List Rec→Fr
 |[]=>f
 |r::l=>mF S (bif S r.i then r.fs f else f) l
def mG(S:Nat→Bool)(m:Mem):List Rec→Mem
 |[]=>m
 |r::l=>mG S (bif S r.i then r.ms m else m) l
theorem BE:∀{wr:List (Nat×bK)}{m:Mem}{j:Nat},(∀b,(j,b)∉wr)→qL wr m j=m j
 |[],_,_,_=>rfl
 |(id,b)::r,m,j,h=>by rw[qL,BE fun b' hb=>h b' (by simp[hb])];exact aq fun e=>h b (by simp[e])
theorem QT:∀{wr:List (Nat×bK)}{j:Nat},(∃b,(j,b)∈wr)→∃b',(j,b')∈wr∧∀m:Mem,qL wr m j=some b'
 |[],_,h=>by obtain⟨b,hb⟩:=h;cases hb
 |(id,b)::r,j,h=>by
  by_cases hr:∃b,(j,b)∈r
  ·obtain⟨b',h1,h2⟩:=QT hr;exact⟨b',by simp[h1],fun m=>h2 _⟩
  ·obtain⟨b0,hb⟩:=h;rcases List.mem_cons.1 hb with hb|hb
   ·simp only[Prod.mk.injEq]at hb;obtain⟨rfl,rfl⟩:=hb;refine⟨b0,by simp,fun m=>?_⟩;rw[qL,BE fun b' fP=>hr ⟨b',fP⟩];simp
   ·exact absurd ⟨b0,hb⟩ hr
mutual
theorem Gx{id:Nat}:∀{v:V},v.sP id=true→v.has id=true
 |.agg cs,h=>sg (cs:=cs) (by simpa[V.sP]using h)
 |.bl cs,h=>sg (cs:=cs) (by simpa[V.sP]using h)
 |.fn _ cs,h=>sg (cs:=cs) (by simpa[V.sP]using h)
 |.sX _ _ _,h=>h
 |.wE _ _ _ _ _ _,h=>h
 |.pv _,h=>by cases h
 |.bh,h=>by cases h
 |.op _ _,h=>by cases h
 |.oe _ _ _,h=>by cases h
 |.os _,h=>by cases h
 |.fi _ _ _,h=>by cases h
 |.om _,h=>by cases h
 |.yl _,h=>by cases h
 |.it _,h=>by cases h
 |.top,h=>by cases h
theorem sg{id:Nat}:∀{cs:List V},wF id cs=true→cr id cs=true
 |[],h=>by cases h
 |c::r,h=>by
  simp only[wF,Bool.or_eq_true]at h;simp only[cr,Bool.or_eq_true];rcases h with h|h
  ·exact .inl (Gx h)
  ·exact .inr (sg h)
end
variable{id:Nat}
theorem zm{v:V}(h:v.has id=false):pJ id v=v:=by unfold pJ;rw[h];rfl
theorem zn{id:Nat}:∀{cs:List V},cr id cs=false→cs.map (pJ id)=cs
 |[],_=>rfl
 |c::r,h=>by simp only[cr,Bool.or_eq_false_iff]at h;simp only[List.map_cons,zm h.1,zn h.2]
theorem Gy{b:bK}(h:b.names id=false):fH id b=b:=by
 cases b with
 |box cs=>simp only[fH,zn (show cr id cs=false from h)]
 |_=>rfl
theorem wX{v:V}(h:v.has id=false):lY id v=v:=by
 unfold lY;cases h2:v.sP id with
 |false=>rfl
 |true=>rw[Gx h2]at h;cases h
theorem wY{id:Nat}:∀{cs:List V},cr id cs=false→cs.map (lY id)=cs
 |[],_=>rfl
 |c::r,h=>by simp only[cr,Bool.or_eq_false_iff]at h;simp only[List.map_cons,wX h.1,wY h.2]
theorem Ey{b:bK}(h:b.names id=false):dN id b=b:=by
 cases b with
 |box cs=>simp only[dN,wY (show cr id cs=false from h)]
 |_=>rfl
theorem BF:∀{kl:Kl}{f:Fr}{t:Nat},(∀id,(∃b,(b,id)∈kl)→(f t).has id=false)→kf kl f t=f t
 |[],_,_,_=>rfl
 |(true,id)::r,f,t,h=>by have h0:eP id f t=f t:=zm (h id ⟨true,by simp⟩);rw[kf,BF (kl:=r) (f:=eP id f) fun j hj=>by rw[h0];exact h j (let⟨b,hb⟩:=hj;⟨b,by simp[hb]⟩),h0]
 |(false,id)::r,f,t,h=>by have h0:gh id f t=f t:=wX (h id ⟨false,by simp⟩);rw[kf,BF (kl:=r) (f:=gh id f) fun j hj=>by rw[h0];exact h j (let⟨b,hb⟩:=hj;⟨b,by simp[hb]⟩),h0]
theorem wZ:∀{kl:Kl}{f g:Fr}{t:Nat},f t=g t→kf kl f t=kf kl g t
 |[],_,_,_,h=>h
 |(true,id)::r,f,g,t,h=>wZ (kl:=r) (f:=eP id f) (g:=eP id g) (by simp only[eP,h])
 |(false,id)::r,f,g,t,h=>wZ (kl:=r) (f:=gh id f) (g:=gh id g) (by simp only[gh,h])
theorem BG:∀{kl:Kl}{m:Mem}{j:Nat},(∀id,(∃b,(b,id)∈kl)→j≠id∧∀b,m j=some b→b.names id=false)→km kl m j=m j
 |[],_,_,_=>rfl
 |(true,id)::r,m,j,h=>by
  obtain⟨h1,h2⟩:=h id ⟨true,by simp⟩;have h0:bg (bB id m) id j=m j:=by
   rw[eQ h1];unfold bB;cases hm:m j with
   |none=>rfl
   |some b=>simp only[Gy (h2 b hm)]
  rw[km,BG (kl:=r) (m:=bg (bB id m) id) fun i hi=>by rw[h0];exact h i (let⟨b,hb⟩:=hi;⟨b,by simp[hb]⟩),h0]
 |(false,id)::r,m,j,h=>by
  obtain⟨h1,h2⟩:=h id ⟨false,by simp⟩;have h0:eS id m j=m j:=by
   unfold eS;cases hm:m j with
   |none=>rfl
   |some b=>simp only[Ey (h2 b hm)]
  rw[km,BG (kl:=r) (m:=eS id m) fun i hi=>by rw[h0];exact h i (let⟨b,hb⟩:=hi;⟨b,by simp[hb]⟩),h0]
theorem BH:∀{kl:Kl}{m n:Mem}{j:Nat},m j=n j→km kl m j=km kl n j
 |[],_,_,_,h=>h
 |(true,id)::r,m,n,j,h=>BH (kl:=r) (m:=bg (bB id m) id) (n:=bg (bB id n) id) (by
  by_cases e:j=id
  ·subst e;simp
  ·rw[eQ e,eQ e];simp only[bB,h])
 |(false,id)::r,m,n,j,h=>BH (kl:=r) (m:=eS id m) (n:=eS id n) (by simp only[eS,h])
variable{r:Rec}
theorem Rec.Gz{f:Fr}{t:Nat}(h:r.o.dst=some t):r.fs f t=r.v:=by unfold Rec.fs;rw[h,iR]
theorem Rec.Ms{f:Fr}{t:Nat}(h:r.o.dst≠some t)(hc:∀id,r.Du id→(f t).has id=false):r.fs f t=f t:=by unfold Rec.fs;rw[dP h];exact BF hc
theorem Rec.BI{f g:Fr}{t:Nat}(h:f t=g t):r.fs f t=r.fs g t:=by
 by_cases e:r.o.dst=some t
 ·rw[Gz e,Gz e]
 ·unfold Rec.fs;rw[dP e,dP e];exact wZ h
theorem Rec.Vw{j:Nat}(h:∃b,(j,b)∈r.wr):∃b',(j,b')∈r.wr∧∀m,r.ms m j=some b':=let⟨b',h1,h2⟩:=QT h;⟨b',h1,fun m=>h2 _⟩
theorem Rec.QU{m:Mem}{j:Nat}(h:∀b,(j,b)∉r.wr)(hc:∀id,r.Du id→j≠id∧∀b,m j=some b→b.names id=false):r.ms m j=m j:=by unfold Rec.ms;rw[BE h];exact BG hc
theorem Rec.BJ{m n:Mem}{j:Nat}(h:m j=n j):r.ms m j=r.ms n j:=by
 by_cases e:∃b,(j,b)∈r.wr
 ·obtain⟨b,_,e⟩:=Rec.Vw e;rw[e,e]
 ·have e':∀b,(j,b)∉r.wr:=fun b hb=>e ⟨b,hb⟩;unfold Rec.ms;rw[BE e',BE e'];exact BH h
section
variable {S S':Nat→Bool}
theorem GA{f:Fr}:∀{l l':List Rec},kK f (l++l')=kK (kK f l) l':=by
 intro l;induction l generalizing f with
 |nil=>intro l';rfl
 |cons r l ih=>intro l';exact ih
theorem GB{m:Mem}:∀{l l':List Rec},nF m (l++l')=nF (nF m l) l':=by
 intro l;induction l generalizing m with
 |nil=>intro l';rfl
 |cons r l ih=>intro l';exact ih
theorem tv{f:Fr}:∀{l l':List Rec},mF S f (l++l')=mF S (mF S f l) l':=by
 intro l;induction l generalizing f with
 |nil=>intro l';rfl
 |cons r l ih=>intro l';exact ih
theorem tw{m:Mem}:∀{l l':List Rec},mG S m (l++l')=mG S (mG S m l) l':=by
 intro l;induction l generalizing m with
 |nil=>intro l';rfl
 |cons r l ih=>intro l';exact ih
theorem Dv{t:Nat}:∀{l:List Rec}{f:Fr},(∀q∈l,q.o.dst≠some t∧q.kl=[])→kK f l t=f t
 |[],_,_=>rfl
 |r::l,f,h=>by rw[kK,Dv fun q hq=>h q (by simp[hq])];obtain⟨h1,h2⟩:=h r (by simp);exact Rec.Ms h1 fun id⟨b,hid⟩=>by rw[h2]at hid;cases hid
theorem nQ{t:Nat}:∀{l:List Rec}{f:Fr},(∀q∈l,S q.i=true→q.o.dst≠some t∧∀id,q.Du id→(f t).has id=false)→mF S f l t=f t
 |[],_,_=>rfl
 |r::l,f,h=>by
  have h0:(bif S r.i then r.fs f else f) t=f t:=by
   cases e:S r.i with
   |false=>rfl
   |true=>obtain⟨h1,h2⟩:=h r (by simp) e;exact Rec.Ms h1 h2
  rw[mF,nQ fun q hq hs=>by rw[h0];exact h q (by simp[hq]) hs,h0]
theorem BK{t:Nat}:∀{l:List Rec}{f g:Fr},f t=g t→(∀q∈l,S q.i=false→q.o.dst≠some t∧q.kl=[])→mF S f l t=kK g l t
 |[],_,_,h,_=>h
 |r::l,f,g,h,hs=>by
  rw[mF,kK];refine BK ?_ fun q hq=>hs q (by simp[hq]);cases e:S r.i with
  |true=>exact Rec.BI h
  |false=>obtain⟨h1,h2⟩:=hs r (by simp) e;rw[Rec.Ms h1 fun id⟨b,hid⟩=>by rw[h2]at hid;cases hid];exact h
theorem vT{t:Nat}:∀{l:List Rec}{f g:Fr},f t=g t→(∀q∈l,S q.i=S' q.i)→mF S f l t=mF S' g l t
 |[],_,_,h,_=>h
 |r::l,f,g,h,hs=>by
  rw[mF,mF];refine vT ?_ fun q hq=>hs q (by simp[hq]);rw[hs r (by simp)];cases S' r.i
  ·exact h
  ·exact Rec.BI h
theorem nR{j:Nat}:∀{l:List Rec}{m:Mem},(∀q∈l,S q.i=true→(∀b,(j,b)∉q.wr)∧∀id,q.Du id→j≠id∧∀b,m j=some b→b.names id=false)→mG S m l j=m j
 |[],_,_=>rfl
 |r::l,m,h=>by
  have h0:(bif S r.i then r.ms m else m) j=m j:=by
   cases e:S r.i with
   |false=>rfl
   |true=>obtain⟨h1,h2⟩:=h r (by simp) e;exact Rec.QU h1 h2
  rw[mG,nR fun q hq hs=>by rw[h0];exact h q (by simp[hq]) hs,h0]
theorem BL{j:Nat}:∀{l:List Rec}{m n:Mem},m j=n j→(∀q∈l,S q.i=false→(∀b,(j,b)∉q.wr)∧q.kl=[])→mG S m l j=nF n l j
 |[],_,_,h,_=>h
 |r::l,m,n,h,hs=>by
  rw[mG,nF];refine BL ?_ fun q hq=>hs q (by simp[hq]);cases e:S r.i with
  |true=>exact Rec.BJ h
  |false=>obtain⟨h1,h2⟩:=hs r (by simp) e;rw[Rec.QU h1 fun id⟨b,hid⟩=>by rw[h2]at hid;cases hid];exact h
theorem vU{j:Nat}:∀{l:List Rec}{m n:Mem},m j=n j→(∀q∈l,S q.i=S' q.i)→mG S m l j=mG S' n l j
 |[],_,_,h,_=>h
 |r::l,m,n,h,hs=>by
  rw[mG,mG];refine vU ?_ fun q hq=>hs q (by simp[hq]);rw[hs r (by simp)];cases S' r.i
  ·exact h
  ·exact Rec.BJ h
end
section
variable {E:Env} {ops:Array Oper} {w0:bt}
def Dw(E:Env)(ops:Array Oper)(w0:bt)(r:Rec)(f:Fr)(m:Mem):Prop:=∀(f2:Fr)(m2:Mem),(∀t∈r.o.looksAt ops,f2 t=f t)→(∀x∈r.ft,m2 x.2=m x.2)→∀(μ:Ro)(φ:Nat→aG)(a:Act)(w:World)(K:Act→World→Prop)(Q:Exit→Act→World→Prop),Rel E.P E.aI E.fn.ntmps w0 μ φ f2 m2 a w→(∀μ' φ' a' w',Rel E.P E.aI E.fn.ntmps w0 μ' φ' (r.fs f2) (r.ms m2) a' w'→K a' w')→if Region.wanted r.o (yielded ops a.tmps)then∀rd:Option Nat,r.o.wpIn (FR rd) 0 E.P a w K Q else K (a.put r.o.dst undef) w
def fm(E:Env)(ops:Array Oper)(w0:bt):Fr→Mem→List Rec→Prop
 |_,_,[]=>True
 |f,m,r::l=>Dw E ops w0 r f m∧(∀id b,(id,b)∈r.wr→(true,id)∈r.ft)∧fm E ops w0 (r.fs f) (r.ms m) l
theorem fm.append{f:Fr}{m:Mem}{l l':List Rec}:fm E ops w0 f m (l++l')↔fm E ops w0 f m l∧fm E ops w0 (kK f l) (nF m l) l':=by
 induction l generalizing f m with
 |nil=>simp[fm,kK,nF]
 |cons r l ih=>simp only[List.cons_append,fm,kK,nF,ih,and_assoc]
def Clean(ops:Array Oper)(id:Nat)(r:Rec)(f:Fr)(m:Mem):Prop:=(∀t∈r.o.looksAt ops,(f t).has id=false)∧r.v.has id=false∧(∀x∈r.ft,x.2≠id∧∀b,m x.2=some b→b.names id=false)∧∀j b,(j,b)∈r.wr→(∀m,r.ms m j=some b)→j≠id∧b.names id=false
def mq(ops:Array Oper):Fr→Mem→List Rec→Prop
 |_,_,[]=>True
 |f,m,r::l=>(∀q∈l,∀id,q.Du id→reach ops 4 q.o r.i=true∨Clean ops id r f m)∧mq ops (r.fs f) (r.ms m) l
theorem mq.append{f:Fr}{m:Mem}{l l':List Rec}(h:mq ops f m (l++l')):mq ops (kK f l) (nF m l) l':=by
 induction l generalizing f m with
 |nil=>exact h
 |cons r l ih=>exact ih h.2
def Ord(ops:Array Oper)(q r:Rec):Prop:=reach ops 4 r.o q.i=true∨(q.o.apart ops r.o=true∧(∀id b,(id,b)∈q.wr→∀x∈r.ft,x.2≠id)∧∀id b,(id,b)∈r.wr→∀x∈q.ft,x.2≠id)
theorem Oe{o:Oper}{j:Nat}(h:AP o j=true):∃e∈o.after,Region.binds .any e=true∧e.on=j:=by unfold AP at h;obtain⟨e,he,h⟩:=List.any_eq_true.1 h;have he:e∈o.after:=Array.mem_toList_iff.1 he;simp only[Bool.and_eq_true]at h;exact⟨e,he,h.1,Nat.eq_of_beq_eq_true h.2⟩
abbrev aB(l:Array Bool):Nat→Bool:=fun i=>l.getD i false
def vV(ops:Array Oper)(aj:Array Bool):Prop:=∀i o,ops[i]?=some o→aB aj i=true→∀e∈o.after,Region.binds .any e=true→aB aj e.on=true
theorem oH(aj:Array Bool)(sF:vV ops aj):∀(n:Nat)(o:Oper)(j:Nat),(∀e∈o.after,Region.binds .any e=true→aB aj e.on=true)→reach ops n o j=true→aB aj j=true:=by
 have Z3:∀(o:Oper)(j:Nat),(∀e∈o.after,Region.binds .any e=true→aB aj e.on=true)→AP o j=true→aB aj j=true:=fun o j ho h=>by obtain⟨e,he,hb,hon⟩:=Oe h;have:=ho e he hb;rw[hon]at this;exact this
 intro n;induction n with
 |zero=>exact fun o j ho h=>Z3 o j ho h
 |succ n ihn=>
  intro o j ho h;simp only[reach,Bool.or_eq_true]at h;rcases h with h|h
  ·exact Z3 o j ho h
  ·obtain⟨e,he,h⟩:=List.any_eq_true.1 h;simp only[Bool.and_eq_true]at h;obtain⟨hb,h⟩:=h;have he:e∈o.after:=Array.mem_toList_iff.1 he;split at h
   ·rename_i p hp;exact ihn p j (sF e.on p hp (ho e he hb)) h
   ·cases h
theorem QV{rd:Option Nat}{recs:List Rec}{f0:Fr}{m0:Mem}{Q:Exit→Act→World→Prop}{base:Nat→Bool}(bq:recs.Pairwise fun q r=>q.i<r.i)(pP:∀r∈recs,ops[r.i]?=some r.o)(QW:∀r∈recs,base r.i=false)(QX:∀i o,ops[i]?=some o→base i=false→(∀r∈recs,r.i≠i)→(∀r∈recs,reach ops 8 o r.i=true)∨∃j,reach ops 8 o j=true∧base j=false∧∀r∈recs,r.i≠j)(Z4:recs.Pairwise (Ord ops))(kL:recs.Pairwise fun q r=>q.kl≠[]→reach ops 4 r.o q.i=true)(ad5:mq ops f0 m0 recs)(Mt:∀r∈recs,∀e∈r.o.after,Region.binds .any e=true→e.on<r.i∧(base e.on=true∨∃q∈recs,q.i=e.on))(wB:fm E ops w0 f0 m0 recs)(hQ:∀(fuel:Nat)(aj:Array Bool),aj.size=ops.size→aj.toList.countP (fun b=> !b)≤fuel→vV ops aj→(∀i,aB aj i=true↔base i=true∨∃r∈recs,r.i=i)→∀μ φ a w,Rel E.P E.aI E.fn.ntmps w0 μ φ (kK f0 recs) (nF m0 recs) a w→wpAnyIn (FR rd) 0 E.P .any ops Q fuel aj a w):∀(fuel:Nat)(aj:Array Bool),aj.size=ops.size→aj.toList.countP (fun b=> !b)≤fuel→vV ops aj→(∀i,base i=true→aB aj i=true)→(∀i,aB aj i=true→base i=true∨∃r∈recs,r.i=i)→∀(μ:Ro)(φ:Nat→aG)(a:Act)(w:World),Rel E.P E.aI E.fn.ntmps w0 μ φ (mF (aB aj) f0 recs) (mG (aB aj) m0 recs) a w→wpAnyIn (FR rd) 0 E.P .any ops Q fuel aj a w:=by
 have done:∀(fuel:Nat)(aj:Array Bool),aj.size=ops.size→aj.toList.countP (fun b=> !b)≤fuel→vV ops aj→(∀i,base i=true→aB aj i=true)→(∀i,aB aj i=true→base i=true∨∃r∈recs,r.i=i)→(∀r∈recs,aB aj r.i=true)→∀(μ:Ro)(φ:Nat→aG)(a:Act)(w:World),Rel E.P E.aI E.fn.ntmps w0 μ φ (mF (aB aj) f0 recs) (mG (aB aj) m0 recs) a w→wpAnyIn (FR rd) 0 E.P .any ops Q fuel aj a w:=by
  intro fuel aj hs hc sF hb pz hl μ φ a w hR;have e1:mF (aB aj) f0 recs=kK f0 recs:=funext fun t=>BK rfl fun q hq hf=>by rw[hl q hq]at hf;cases hf
  have e2:mG (aB aj) m0 recs=nF m0 recs:=funext fun t=>BL rfl fun q hq hf=>by rw[hl q hq]at hf;cases hf
  rw[e1,e2]at hR;exact hQ fuel aj hs hc sF (fun i=>⟨pz i,fun h=>h.elim (hb i) fun⟨r,hr,e⟩=>e▸hl r hr⟩) μ φ a w hR
 have T7:∀(aj:Array Bool),aj.size=ops.size→(∀i,base i=true→aB aj i=true)→(∀r∈recs,r.i∉Region.ready .any ops aj)→∀(n:Nat)(r:Rec),r∈recs→r.i<n→aB aj r.i=true:=by
  intro aj hs hb hr n;induction n with
  |zero=>intro r _ h;omega
  |succ n ih=>
   intro r qM hi;cases hc:aB aj r.i with
   |true=>rfl
   |false=>
    exfalso;have bq:r.i<aj.size:=by rw[hs];exact(Array.getElem?_eq_some_iff.1 (pP r qM)).1
    refine hr r qM (mem_ready.2 ⟨by simp only[aB,Array.getD_eq_getD_getElem?,Array.getElem?_eq_getElem bq,Option.getD_some]at hc⊢;exact hc,r.o,pP r qM,fun e he fP=>?_⟩);obtain⟨h1,h2⟩:=Mt r qM e he fP;rcases h2 with h2|⟨q,hq,QY⟩
    ·exact hb _ h2
    ·have:=ih q hq (by omega);rwa[QY]at this
 intro fuel;induction fuel with
 |zero=>
  intro aj hs hc sF hb pz μ φ a w hR;refine done 0 aj hs hc sF hb pz (fun r hr=>?_) μ φ a w hR;have bq:r.i<aj.size:=by rw[hs];exact(Array.getElem?_eq_some_iff.1 (pP r hr)).1
  have:=List.countP_eq_zero.1 (Nat.le_zero.1 hc) aj[r.i] (by simp);simp only[aB,Array.getD_eq_getD_getElem?,Array.getElem?_eq_getElem bq,Option.getD_some];simpa using this
 |succ fuel ih=>
  intro aj hs hc sF hb pz μ φ a w hR;by_cases QZ:∀r∈recs,aB aj r.i=true
  ·exact done (fuel+1) aj hs hc sF hb pz QZ μ φ a w hR
  have Z5:∃r∈recs,aB aj r.i=false:=by
   refine Classical.byContradiction fun cT=>QZ fun r hr=>?_;cases hx:aB aj r.i with
   |true=>rfl
   |false=>exact absurd ⟨r,hr,hx⟩ cT
  refine⟨fun h0=>absurd (fun r hr=>T7 aj hs hb (fun r hr h=>by rw[h0]at h;cases h) (r.i+1) r hr (by omega)) QZ,fun i hi=>?_⟩;obtain⟨Of,o,ho,yt⟩:=mem_ready.1 hi;have Z6:aB aj i=false:=by
   have bq:i<aj.size:=by rw[hs];exact(Array.getElem?_eq_some_iff.1 ho).1
   simp only[aB,Array.getD_eq_getD_getElem?,Array.getElem?_eq_getElem bq,Option.getD_some]at Of⊢;exact Of
  have hex:∃r∈recs,r.i=i∧r.o=o:=by
   refine Classical.byContradiction fun cT=>?_;have Gd:∀r∈recs,r.i≠i:=fun r hr e=>cT ⟨r,hr,e,by have:=pP r hr;rw[e,ho]at this;exact(Option.some.inj this).symm⟩;have hbi:base i=false:=by
    cases hx:base i with
    |false=>rfl
    |true=>rw[hb i hx]at Z6;cases Z6
   rcases QX i o ho hbi Gd with h|⟨j,h1,h2,h3⟩
   ·obtain⟨r,hr,T8⟩:=Z5;rw[oH aj sF 8 o r.i yt (h r hr)]at T8;cases T8
   ·have:=oH aj sF 8 o j yt h1;rcases pz j this with h|⟨r,hr,e⟩
    ·rw[h]at h2;cases h2
    ·exact h3 r hr e
  obtain⟨r,hr,rfl,rfl⟩:=hex;have Q0:r.i<aj.size:=by rw[hs];exact(Array.getElem?_eq_some_iff.1 ho).1
  have Z7:aB aj r.i=false:=by simp only[aB,Array.getD_eq_getD_getElem?,Array.getElem?_eq_getElem Q0,Option.getD_some]at Of⊢;exact Of
  obtain⟨pre,post,kY⟩:=List.append_of_mem hr;subst kY;have zZ:∀q∈pre,Ord ops q r:=fun q hq=>(List.pairwise_append.1 Z4).2.2 q hq r (by simp);have Mu:∀q∈post,Ord ops r q:=fun q hq=>(List.pairwise_cons.1 (List.pairwise_append.1 Z4).2.1).1 q hq;have W2:∀q∈post,q.i≠r.i:=fun q hq=>by have:=(List.pairwise_cons.1 (List.pairwise_append.1 bq).2.1).1 q hq;omega
  have Z8:∀q∈pre,q.i≠r.i:=fun q hq=>by have:=(List.pairwise_append.1 bq).2.2 q hq r (by simp);omega
  have Z9:∀q:Rec,reach ops 4 r.o q.i=true→aB aj q.i=true:=fun q h=>oH aj sF 4 r.o q.i yt h;have Ja:∀q∈post,reach ops 4 q.o r.i=true→aB aj q.i=false:=fun q hq h=>by
   cases Qb:aB aj q.i with
   |false=>rfl
   |true=>have:=oH aj sF 4 q.o r.i (sF q.i q.o (pP q (by simp[hq])) Qb) h;rw[Z7]at this;cases this
  have Vx:∀(f:Fr),mF (aB aj) f (r::post)=mF (aB aj) f post:=fun f=>by rw[mF,Z7];rfl
  have Q1:∀(m:Mem),mG (aB aj) m (r::post)=mG (aB aj) m post:=fun m=>by rw[mG,Z7];rfl
  obtain⟨_,W3,Zu,_⟩:=fm.append.1 wB;have hc:=ad5.append.1;have Vy:∀q∈pre,q.kl≠[]→reach ops 4 r.o q.i=true:=fun q hq=>(List.pairwise_append.1 kL).2.2 q hq r (by simp);have Q2:r.kl≠[]→∀q∈post,reach ops 4 q.o r.i=true:=fun h q hq=>(List.pairwise_cons.1 (List.pairwise_append.1 kL).2.1).1 q hq h;unfold wpOpIn;rw[pP r hr];simp only;have W0:∀t∈r.o.looksAt ops,mF (aB aj) f0 pre t=kK f0 pre t:=fun t ht=>BK rfl fun q hq hs=>by
   have Gd:¬reach ops 4 r.o q.i=true:=fun h=>by rw[Z9 q h]at hs;cases hs
   refine⟨fun hd=>?_,?_⟩
   ·rcases zZ q hq with h|⟨h,_⟩
    ·exact Gd h
    ·exact absurd ht ((Oper.apart_spec h).1 t hd)
   ·exact Classical.byContradiction fun cT=>Gd (Vy q hq cT)
  have W4:∀x∈r.ft,mG (aB aj) m0 pre x.2=nF m0 pre x.2:=fun x hx=>BL rfl fun q hq hs=>by
   have Gd:¬reach ops 4 r.o q.i=true:=fun h=>by rw[Z9 q h]at hs;cases hs
   refine⟨fun b hb=>?_,?_⟩
   ·rcases zZ q hq with h|⟨_,h,_⟩
    ·exact Gd h
    ·exact absurd rfl (h _ b hb x hx)
   ·exact Classical.byContradiction fun cT=>Gd (Vy q hq cT)
  have Tc:∀q∈post,aB aj q.i=true→¬reach ops 4 q.o r.i=true:=fun q hq hs h=>by rw[Ja q hq h]at hs;cases hs
  have hf2:∀t∈r.o.looksAt ops,mF (aB aj) f0 (pre++r::post) t=kK f0 pre t:=fun t ht=>by
   rw[tv,Vx,nQ fun q hq hs=>⟨fun hd=>?_,fun id hid=>?_⟩]
   ·exact W0 t ht
   ·rcases Mu q hq with h|⟨h,_⟩
    ·exact Tc q hq hs h
    ·exact absurd ht ((Oper.apart_spec h).2.2 t hd)
   ·rw[W0 t ht];rcases hc q hq id hid with h|h
    ·exact absurd h (Tc q hq hs)
    ·exact h.1 t ht
  have cO:∀x∈r.ft,mG (aB aj) m0 (pre++r::post) x.2=nF m0 pre x.2:=fun x hx=>by
   rw[tw,Q1,nR fun q hq hs=>⟨fun b hb=>?_,fun id hid=>?_⟩]
   ·exact W4 x hx
   ·rcases Mu q hq with h|⟨_,_,h⟩
    ·exact Tc q hq hs h
    ·exact absurd rfl (h _ b hb x hx)
   ·rw[W4 x hx];rcases hc q hq id hid with h|h
    ·exact absurd h (Tc q hq hs)
    ·exact h.2.2.1 x hx
  have hwp:=W3 _ _ hf2 cO μ φ a w (wpAnyIn (FR rd) 0 E.P .any ops Q fuel (aj.setIfInBounds r.i true)) Q hR fun μ' φ' a' w' iq=>by
   have Vz:∀j,aB (aj.setIfInBounds r.i true) j=if j=r.i then true else aB aj j:=fun j=>by
    simp only[aB,Array.getD_eq_getD_getElem?,Array.getElem?_setIfInBounds];by_cases e:r.i=j
    ·subst e;simp[Q0]
    ·have e':¬j=r.i:=fun h=>e h.symm;simp[e,e']
   refine ih (aj.setIfInBounds r.i true) (by simp[hs]) ?_ ?_ ?_ ?_ μ' φ' a' w' ?_
   ·rw[Array.toList_setIfInBounds,List.countP_set (by simpa using Q0)];have:aj.toList[r.i]'(by simpa using Q0)=false:=by simp only[aB,Array.getD_eq_getD_getElem?,Array.getElem?_eq_getElem Q0,Option.getD_some]at Z7;simpa using Z7
    rw[this];simp only[Bool.not_false,if_true,Bool.not_true,Bool.false_eq_true,if_false];omega
   ·intro i' o' Og mX e he El;rw[Vz]at mX⊢;split
    ·rfl
    ·split at mX
     ·rename_i QY;subst QY;have:o'=r.o:=by rw[pP r hr]at Og;exact(Option.some.inj Og).symm
      subst this;exact yt e he El
     ·exact sF i' o' Og mX e he El
   ·intro i' mX;rw[Vz];split
    ·rfl
    ·exact hb i' mX
   ·intro i' mX;rw[Vz]at mX;split at mX
    ·rename_i QY;exact Or.inr ⟨r,hr,QY.symm⟩
    ·exact pz i' mX
   ·have VA:∀q∈pre,aB (aj.setIfInBounds r.i true) q.i=aB aj q.i:=fun q hq=>by rw[Vz,if_neg (Z8 q hq)]
    have tx:∀q∈post,aB (aj.setIfInBounds r.i true) q.i=aB aj q.i:=fun q hq=>by rw[Vz,if_neg (W2 q hq)]
    have hSr:aB (aj.setIfInBounds r.i true) r.i=true:=by rw[Vz,if_pos rfl]
    have e1:mF (aB (aj.setIfInBounds r.i true)) f0 (pre++r::post)=r.fs (mF (aB aj) f0 (pre++r::post)):=funext fun t=>by
     have hg:mF (aB (aj.setIfInBounds r.i true)) f0 pre=mF (aB aj) f0 pre:=funext fun s=>vT rfl VA;rw[tv,tv,Vx,mF,hSr,hg];simp only[cond];by_cases hk:r.kl=[]
     ·by_cases hd:r.o.dst=some t
      ·rw[Rec.Gz hd,nQ fun q hq hs=>⟨fun hqd=>?_,fun id hid=>?_⟩,Rec.Gz hd]
       ·rw[tx q hq]at hs;rcases Mu q hq with h|⟨h,_⟩
        ·exact Tc q hq hs h
        ·exact absurd hqd ((Oper.apart_spec h).2.1 t hd)
       ·rw[tx q hq]at hs;rw[Rec.Gz hd];rcases hc q hq id hid with h|h
        ·exact absurd h (Tc q hq hs)
        ·exact h.2.1
      ·have yj:∀(g:Fr),r.fs g t=g t:=fun g=>Rec.Ms hd fun id⟨b,hid⟩=>by rw[hk]at hid;cases hid
       rw[yj];exact vT (yj _) tx
     ·have Of:∀q∈post,aB aj q.i=false:=fun q hq=>Ja q hq (Q2 hk q hq);rw[nQ fun q hq hs=>by rw[tx q hq,Of q hq]at hs;cases hs];exact Rec.BI (nQ fun q hq hs=>by rw[Of q hq]at hs;cases hs).symm
    have e2:mG (aB (aj.setIfInBounds r.i true)) m0 (pre++r::post)=r.ms (mG (aB aj) m0 (pre++r::post)):=funext fun j=>by
     have hg:mG (aB (aj.setIfInBounds r.i true)) m0 pre=mG (aB aj) m0 pre:=funext fun s=>vU rfl VA;rw[tw,tw,Q1,mG,hSr,hg];simp only[cond];by_cases hk:r.kl=[]
     ·by_cases hd:∃b,(j,b)∈r.wr
      ·obtain⟨b,hd,uK⟩:=Rec.Vw hd;rw[uK,nR fun q hq hs=>⟨fun b' hqd=>?_,fun id hid=>?_⟩,uK]
       ·rw[tx q hq]at hs;rcases Mu q hq with h|⟨_,_,h⟩
        ·exact Tc q hq hs h
        ·exact absurd rfl (h j b' hqd (true,j) (Zu j b hd))
       ·rw[tx q hq]at hs;rcases hc q hq id hid with h|h
        ·exact absurd h (Tc q hq hs)
        ·obtain⟨h1,h2⟩:=h.2.2.2 j b hd uK;refine⟨h1,fun b' fP=>?_⟩;rw[uK]at fP;cases fP;exact h2
      ·have Mi:∀b,(j,b)∉r.wr:=fun b hb=>hd ⟨b,hb⟩;have yj:∀(g:Mem),r.ms g j=g j:=fun g=>Rec.QU Mi fun id⟨b,hid⟩=>by rw[hk]at hid;cases hid
       rw[yj];exact vU (yj _) tx
     ·have Of:∀q∈post,aB aj q.i=false:=fun q hq=>Ja q hq (Q2 hk q hq);rw[nR fun q hq hs=>by rw[tx q hq,Of q hq]at hs;cases hs];exact Rec.BJ (nR fun q hq hs=>by rw[Of q hq]at hs;cases hs).symm
    rw[e1,e2];exact iq
  split
  ·rename_i hw;rw[if_pos hw]at hwp;exact hwp rd
  ·rename_i hw;rw[if_neg hw]at hwp;exact⟨fun _ _=>trivial,hwp⟩
end
end Go.Ab
set_option linter.unusedVariables false
namespace Go.Ab
open Go.RowKit (Below)
section
variable {E:Env} {ops:Array Oper} {w0:bt}
variable{o:Oper}
theorem Oh{t:Nat}(h:.tmp t∈o.op.operands):t∈o.looksAt ops:=by unfold Oper.looksAt;refine List.mem_append.2 (.inl (List.mem_filterMap.2 ⟨.tmp t,by simpa using h,rfl⟩))
theorem tz{g:Nat×Bool}{t:Nat}(hg:o.guard=some g)(h:(ops[g.1]?).bind (·.dst)=some t):t∈o.looksAt ops:=by unfold Oper.looksAt;rw[hg];refine List.mem_append.2 (.inr ?_);show t∈((ops[g.1]?).bind (·.dst)).toList;rw[h];simp
variable{f F:Fr}
theorem uT(h:∀t∈o.looksAt ops,f t=F t):∀x∈o.op.operands,bA E f x=bA E F x:=by
 intro x hx;cases x with
 |tmp t=>simp only[bA];rw[h t (Oh hx)]
 |_=>rfl
variable{A:List (Nat×Bool)}{φ:Nat→aG}{a:Act}{w:World}
theorem GC{f2:Fr}{m2:Mem}{μ:Ro}(hg:guardOf o A=none)(hA:oG E.fn.ntmps ops A f)(hR:Rel E.P E.aI E.fn.ntmps w0 μ φ f2 m2 a w)(hf:∀t∈o.looksAt ops,f2 t=f t):Region.wanted o (yielded ops a.tmps)=true:=by
 unfold guardOf at hg;unfold Region.wanted;split at hg
 ·rename_i QP;simp[QP]
 ·rename_i g QP;split at hg
  ·rename_i bO;obtain⟨t,h1,h0,h2⟩:=hA g (by simpa using bO);have h3:=hR.fr t;rw[og h0,hf t (tz QP h1),h2]at h3;simp only[QP];rw[se h1 (oE h3)];simp
  ·cases hg
variable{i:Nat}{ft:bn}{m:Mem}
theorem BM(hE:iK E){v:V}{wr:List (Nat×bK)}(hg:guardOf o A=none)(hA:oG E.fn.ntmps ops A f)(hd:ta E o=true)(hn:∀(f2:Fr)(m2:Mem),(∀x∈o.op.operands,bA E f2 x=bA E f x)→(∀x∈ft,m2 x.2=m x.2)→∀(R':Type)(k':V→Fr→Mem→bn→Option R'),F1 E true (cG E o.dst) o f2 m2 k'=k' v f2 (qL wr m2) ft):Dw E ops w0 ⟨i,o,v,wr,ft,[]⟩ f m:=by
 intro f2 m2 hf hm μ φ a w K Q hR hK;have hw:Region.wanted o (yielded ops a.tmps)=true:=by
  unfold guardOf at hg;unfold Region.wanted;split at hg
  ·rename_i QP;simp[QP]
  ·rename_i g QP;split at hg
   ·rename_i bO;obtain⟨t,h1,h0,h2⟩:=hA g (by simpa using bO);have h3:=hR.fr t;rw[og h0,hf t (tz QP h1),h2]at h3;simp only[QP];rw[se h1 (oE h3)];simp
   ·cases hg
 simp only at hf hm hK⊢;rw[if_pos hw];exact fun rd=>(Vs hE (.inl rfl) (hn f2 m2 (uT hf) hm)).vR (yp (hn f2 m2 (uT hf) hm Unit fun _ _ _ _=>some ())) rd w0 μ φ a w K Q hR fun y w' μ' φ' hle hM hF hv hl=>hK _ _ _ _ (hR.put hle (gR hd) hM hF hv hl)
theorem Jb(hd:ta E o=true)(BC:Oa ops f o):Dw E ops w0 ⟨i,o,.bl [],[],[],[]⟩ f m:=by
 intro f2 m2 hf hm μ φ a w K Q hR hK;simp only at hf hm hK⊢;have W5:Oa ops f2 o:=by obtain⟨g,hg,ht⟩:=BC;exact⟨g,hg,fun t h=>by rw[hf t (tz hg h)];exact ht t h⟩
 rw[vB hR W5];simp only[Bool.false_eq_true,if_false];exact hK _ _ _ _ (hR.put (fun _ _ h=>h) (gR hd) hR.toay hR.js BA (fun id hid=>by simp[V.has,cr]at hid))
def w7(x:Nat×Oper):Rec:=⟨x.1,x.2,.bl [],[],[],[]⟩
theorem Dx{m:Mem}:∀(l:List (Nat×Oper))(F:Fr),(∀x∈l,ta E x.2=true)→(∀(pre post:List (Nat×Oper))(x:Nat×Oper),l=pre++x::post→Oa ops (gB F pre) x.2)→fm E ops w0 F m (l.map w7)∧kK F (l.map w7)=gB F l
 |[],F,_,_=>⟨trivial,rfl⟩
 |x::r,F,hd,BC=>by obtain⟨h1,h2⟩:=Dx (m:=m) r (gO F x.2.dst (.bl [])) (fun y hy=>hd y (by simp[hy])) (fun pre post y h=>by have:=BC (x::pre) post y (by rw[h];rfl);rwa[gB]at this);exact⟨⟨Jb (hd x (by simp)) (BC [] r x rfl),by simp[w7],h1⟩,h2⟩
theorem Dy{m:Mem}:∀{l:List Rec},(∀q∈l,q.wr=[]∧q.kl=[])→nF m l=m
 |[],_=>rfl
 |r::l,h=>by
  obtain⟨h1,h2⟩:=h r (by simp);have:r.ms m=m:=by unfold Rec.ms;rw[h1,h2];rfl
  rw[nF,this];exact Dy fun q hq=>h q (by simp[hq])
theorem fm.wr:∀{l:List Rec}{f:Fr}{m:Mem},fm E ops w0 f m l→∀q∈l,∀id b,(id,b)∈q.wr→(true,id)∈q.ft
 |[],_,_,_,q,hq=>by cases hq
 |r::l,f,m,h,q,hq=>by
  rcases List.mem_cons.1 hq with rfl|hq
  ·exact h.2.1
  ·exact fm.wr h.2.2 q hq
def Q3(q r:Rec):Prop:=reach ops 4 r.o q.i=true∨((∀id b,(id,b)∈q.wr→∀x∈r.ft,x.2≠id)∧∀id b,(id,b)∈r.wr→∀x∈q.ft,x.2≠id)
theorem GD{o:Oper}{w:Bool}{id:Nat}:∀{lg:Log},L3 ops o w id lg=true→∀x∈lg,id≠x.2.2∨(w=false∧x.2.1=false)∨reach ops 4 o x.1=true
 |[],_,x,hx=>by cases hx
 |(j,w',nB)::lg,h,x,hx=>by
  simp only[L3,Bool.and_eq_true]at h;rcases List.mem_cons.1 hx with rfl|hx
  ·have h1:=h.1;simp only[Bool.or_eq_true,Bool.not_eq_true',Bool.and_eq_true]at h1;rcases h1 with(h1|h1)|h1
   ·exact .inl fun e=>by subst e;simp[Nat.beq_refl]at h1
   ·exact .inr (.inl h1)
   ·exact .inr (.inr h1)
  ·exact GD h.2 x hx
theorem yu{o:Oper}{lg:Log}:∀{ft:bn},xU ops o lg ft=true→∀y∈ft,∀x∈lg,y.2≠x.2.2∨(y.1=false∧x.2.1=false)∨reach ops 4 o x.1=true
 |[],_,y,hy=>by cases hy
 |(w,id)::ft,h,y,hy=>by
  simp only[xU,Bool.and_eq_true]at h;rcases List.mem_cons.1 hy with rfl|hy
  ·exact GD h.1
  ·exact yu h.2 y hy
theorem BN{o:Oper}{id:Nat}:∀{lg:Log},Al ops o id lg=true→∀x∈lg,x.2.2=uz id→reach ops 4 o x.1=true
 |[],_,x,hx=>by cases hx
 |(j,w,n)::lg,h,x,hx=>by
  simp only[Al,Bool.and_eq_true,Bool.or_eq_true,Bool.not_eq_true']at h;intro he;rcases List.mem_cons.1 hx with rfl|hx
  ·rcases h.1 with h1|h1
   ·simp only at he;rw[he,Nat.beq_refl]at h1;cases h1
   ·exact h1
  ·exact BN h.2 x hx he
mutual
theorem Mv{id:Nat}:∀(v:V),v.has id=true→id∈v.ids
 |.agg cs,h=>q9 cs (by simpa only[V.has]using h)
 |.bl cs,h=>q9 cs (by simpa only[V.has]using h)
 |.fn _ cs,h=>q9 cs (by simpa only[V.has]using h)
 |.os j,h=>by have:=Nat.eq_of_beq_eq_true h;subst this;simp[V.ids]
 |.fi j _ _,h=>by have:=Nat.eq_of_beq_eq_true h;subst this;simp[V.ids]
 |.oe j _ _,h=>by have:=Nat.eq_of_beq_eq_true h;subst this;simp[V.ids]
 |.om j,h=>by have:=Nat.eq_of_beq_eq_true h;subst this;simp[V.ids]
 |.sX j _ _,h=>by have:=Nat.eq_of_beq_eq_true h;subst this;simp[V.ids]
 |.wE j _ _ _ _ _,h=>by have:=Nat.eq_of_beq_eq_true h;subst this;simp[V.ids]
 |.op j _,h=>by have:=Nat.eq_of_beq_eq_true h;subst this;simp[V.ids]
 |.it j,h=>by have:=Nat.eq_of_beq_eq_true h;subst this;simp[V.ids]
 |.yl j,h=>by have:=Nat.eq_of_beq_eq_true h;subst this;simp[V.ids]
 |.pv _,h=>by cases h
 |.bh,h=>by cases h
 |.top,h=>by cases h
theorem q9{id:Nat}:∀(cs:List V),cr id cs=true→id∈F2 cs
 |[],h=>by cases h
 |v::r,h=>by
  simp only[cr,Bool.or_eq_true]at h;simp only[F2,List.mem_append];rcases h with h|h
  ·exact .inl (Mv v h)
  ·exact .inr (q9 r h)
end
variable{id:Nat}
theorem w8{b:bK}(h:b.names id=true):id∈AQ (some b):=by
 cases b with
 |box cs=>exact q9 cs h
 |_=>cases h
theorem vW{m m':Mem}{id:Nat}:∀{ft:bn}{x:Bool×Nat},x∈ft→(id∈AQ (m x.2)∨id∈AQ (m' x.2))→id∈Ee m m' ft
 |y::ft,x,hx,h=>by
  simp only[Ee,List.mem_append];rcases List.mem_cons.1 hx with rfl|hx
  ·exact .inl h
  ·exact .inr (vW hx h)
theorem Q4{v:V}{wr:List (Nat×bK)}(zo:∀t∈o.looksAt ops,f t=F t)(W6:∀j b,(j,b)∈wr→(true,j)∈ft)(hn:id∉Ak ops o f m (qL wr m) v ft)(hft:∀x∈ft,x.2≠id):Clean ops id ⟨i,o,v,wr,ft,[]⟩ F m:=by
 simp only[Ak,List.mem_append,not_or]at hn;obtain⟨⟨h1,h2⟩,h3⟩:=hn;refine⟨fun t ht=>?_,?_,fun x hx=>⟨hft x hx,fun b hb=>?_⟩,fun j b hb uK=>⟨hft _ (W6 j b hb),?_⟩⟩
 ·cases e:(F t).has id with
  |false=>rfl
  |true=>exact absurd (q9 _ (cU.2 ⟨f t,List.mem_map.2 ⟨t,ht,rfl⟩,by rw[zo t ht];exact e⟩)) h1
 ·cases e:v.has id with
  |false=>rfl
  |true=>exact absurd (Mv _ e) h2
 ·cases e:b.names id with
  |false=>rfl
  |true=>exact absurd (vW hx (.inl (by rw[hb];exact w8 e))) h3
 ·cases e:b.names id with
  |false=>rfl
  |true=>exact absurd (vW (W6 j b hb) (.inr (by have fP:qL wr m j=some b:=uK m;simp only;rw[fP];exact w8 e))) h3
variable{R:Type}
theorem Jc{site:Nat}{rd:bn}(h:rQ E f m o=some (id,rd)){k:V→Fr→Mem→bn→Option R}{r:R}(hx:cY E false site o f m k=some r):(∀x∈rd,x.1=false)∧∃dH,k (.os id) (eP id f) (ao (bg (bB id m) id) id dH) [(true,0)]=some r∧∀(f2:Fr)(m2:Mem),(∀x∈o.op.operands,bA E f2 x=bA E f x)→(∀x∈(true,id)::rd,m2 x.2=m x.2)→∀(R':Type)(k':V→Fr→Mem→bn→Option R'),cY E false site o f2 m2 k'=k' (.os id) (eP id f2) (ao (bg (bB id m2) id) id dH) [(true,0)]:=by
 obtain⟨dst,op,type,pos,after,guard⟩:=o;unfold rQ at h;simp only at h;split at h
 ·rename_i c;obtain⟨callee,args,argTypes⟩:=c;simp only at h;split at h
  ·rename_i nB x t t' jC WR;split at h
   ·rename_i e hu;split at h
    ·rename_i new rd' yb;split at h
     ·cases h
     ·rename_i WS;simp only[Option.some.injEq,Prod.mk.injEq]at h;obtain⟨rfl,rfl⟩:=h;obtain⟨ZQ,he2,_⟩:=l6 yb;have ad6:∀m2:Mem,bg (bB nB m2) nB nB=none:=fun m2=>by simp[bg,Nat.beq_refl]
      have main:∀(f2:Fr)(m2:Mem),args.toList.map (bA E f2)=[.os nB,x]→m2 nB=m nB→eG m2 (aT E.P e) x=some (new,rd')→∀(R':Type)(k':V→Fr→Mem→bn→Option R'),cY E false site ⟨dst,.call ⟨.builtin .append,args,argTypes⟩,type,pos,after,guard⟩ f2 m2 k'=if !(decide (t'=t))then none else if(dm E e).isNone then none else match m nB with
       |some (.arr sz et es)=>if et=e∧sz=aT E.P e∧x.has nB=false then(if(es++new).length*CE E.P e≤aa∧0<CE E.P e then k' (.os nB) (eP nB f2) (ao (bg (bB nB m2) nB) nB (.arr sz e (es++new))) [(true,0)]else none)else none
       |_=>none:=by
       intro f2 m2 h1 h2 h3 R' k'
       simp only[cY,h1,WR,wJ,Bool.false_or,hu,h3,h2]
       split
       ·rfl
       ·split
        ·rfl
        ·split
         ·rename_i sz et es Mq;simp only[fresh,ad6,Mq]
         ·rename_i cT;split
          ·rename_i sz et es cO;exact absurd cO (cT sz et es)
          ·rfl
      rw[main f m jC rfl yb]at hx;refine⟨he2,?_⟩;split at hx
      ·cases hx
      ·rename_i Vf;split at hx
       ·cases hx
       ·rename_i CI;split at hx
        ·rename_i sz et es hm;split at hx
         ·rename_i hc3;split at hx
          ·rename_i hc4;refine⟨_,hx,fun f2 m2 hf cO R' k'=>?_⟩;have ha:args.toList.map (bA E f2)=[.os nB,x]:=by rw[←jC];exact qt fun y hy=>hf y (by simp only[Op.operands,Call.operands];simp[Array.mem_toList_iff.1 hy])
           rw[main f2 m2 ha (cO (true,nB) (by simp)) (ZQ m2 fun y hy=>cO y (by simp[hy])) R' k'];rw[if_neg Vf,if_neg CI,hm];simp only;rw[if_pos hc3,if_pos hc4]
          ·cases hx
         ·cases hx
        ·cases hx
    ·cases h
   ·cases h
  ·cases h
 ·cases h
theorem sR.kill(h:sR f F)(id:Nat):sR (eP id f) (eP id F):=fun t=>by
 rcases h t with e|e
 ·exact .inl (by simp only[eP,e])
 ·exact .inr (by simp only[eP,e];rfl)
theorem oG.kill{nt:Nat}(h:oG nt ops A f)(id:Nat):oG nt ops A (eP id f):=by intro g hg;obtain⟨t,h1,h0,h2⟩:=h g hg;exact⟨t,h1,h0,by simp only[eP,h2];rfl⟩
theorem Q5{x:Nat×bn}(h:rQ E f m o=some x):isApp E o=true:=by
 obtain⟨dst,op,type,pos,after,guard⟩:=o;unfold rQ at h;simp only at h;unfold isApp;split at h
 ·rename_i c;obtain⟨callee,args,argTypes⟩:=c;simp only at h;split at h
  ·simp
  ·cases h
 ·cases h
theorem Ez{rd:bn}(h:rQ E f m o=some (id,rd)):∃c x t t',o.op=.call c∧c.callee=.builtin .append∧c.args.toList.map (bA E f)=[.os id,x]∧c.argTypes.toList=[t,t']:=by
 unfold rQ at h;split at h
 ·rename_i c hc;split at h
  ·rename_i nB x t t' h1 h2 h3;split at h
   ·split at h
    ·split at h
     ·cases h
     ·simp only[Option.some.injEq,Prod.mk.injEq]at h;obtain⟨rfl,_⟩:=h;exact⟨c,x,t,t',hc,h1,h2,h3⟩
    ·cases h
   ·cases h
  ·cases h
 ·cases h
theorem Oi{kl:Kl}(h:Ef E f m o=some (kl,ft)){k:V→Fr→Mem→bn→Option R}{r:R}(hx:F1 E false (cG E o.dst) o f m k=some r):isApp E o=true∧∃v wr YM,k v (kf kl f) (qL wr (km kl m)) YM=some r∧(∀x∈wr,(true,x.1)∈ft)∧(∀x∈kl,(true,x.2)∈ft)∧∀(f2:Fr)(m2:Mem),(∀x∈o.op.operands,bA E f2 x=bA E f x)→(∀x∈ft,m2 x.2=m x.2)→∀(R':Type)(k':V→Fr→Mem→bn→Option R'),F1 E false (cG E o.dst) o f2 m2 k'=k' v (kf kl f2) (qL wr (km kl m2)) YM:=by
 unfold Ef at h;unfold F1 at hx;split at h
 ·rename_i sp je;simp only[Option.some.injEq]at h;have hn:E.yU (cG E o.dst)=true:=by
   cases hn:E.yU (cG E o.dst)with
   |true=>rfl
   |false=>rw[hn]at je;cases je
  rw[hn]at je hx;simp only[cond]at je hx;rw[je]at hx;obtain⟨v,wr,h1,h2,h3,h4,_,_⟩:=I6 je hx;rw[h]at h1 h2 h3 h4;refine⟨by unfold isApp;rw[hn];rfl,v,wr,ft,h1,h2,h3,fun f2 m2 hf hm R' k'=>?_⟩;have:=I3 je hf (by rw[h];exact hm);unfold F1;rw[hn];simp only[cond];rw[this];exact h4 f2 m2 R' k'
 ·rename_i je;split at h
  ·rename_i id rd Q6;simp only[Option.some.injEq,Prod.mk.injEq]at h;obtain⟨rfl,rfl⟩:=h;have e0:(bif false then none else bif E.yU (cG E o.dst)then vI E (cG E o.dst) o f m else none)=(bif E.yU (cG E o.dst)then vI E (cG E o.dst) o f m else none):=rfl;rw[e0,je]at hx;simp only at hx;obtain⟨wR,dH,hk,hn⟩:=Jc Q6 hx;refine⟨Q5 Q6,.os id,[(id,dH)],[(true,0)],hk,by simp,by simp,fun f2 m2 hf hm R' k'=>?_⟩;have Q7:(bif E.yU (cG E o.dst)then vI E (cG E o.dst) o f2 m2 else none)=none:=by
    cases IE:E.yU (cG E o.dst)with
    |false=>rfl
    |true=>
     simp only[cond];obtain⟨c,x,t,t',hc,T9,jC,QN⟩:=Ez Q6;have W7:c.args.toList.map (bA E f2)=[.os id,x]:=by rw[←jC];exact List.map_congr_left fun y hy=>hf y (by rw[hc];simp only[Op.operands,Call.operands];rw[T9];simp[Array.mem_toList_iff.1 hy])
     have cO:m2 id=m id:=hm (true,id) (by simp);have Vt:∃sz et es,m id=some (.arr sz et es):=by
      obtain⟨dst,op,type,pos,after,guard⟩:=o;simp only at hc;subst hc;obtain⟨callee,args,argTypes⟩:=c;simp only at T9 jC QN;subst T9;simp only[cY,jC,QN,wJ,Bool.false_or]at hx;split at hx
      ·cases hx
      ·split at hx
       ·split at hx
        ·cases hx
        ·split at hx
         ·split at hx
          ·rename_i sz et es hm;exact⟨sz,et,es,hm⟩
          ·cases hx
         ·cases hx
       ·cases hx
     obtain⟨sz,et,es,Vt⟩:=Vt;unfold vI;rw[hc];simp only[T9,W7,QN,cO,Vt];split<;>first|rfl|(rename_i heq;cases heq)
   unfold F1;have e1:(bif false then none else bif E.yU (cG E o.dst)then vI E (cG E o.dst) o f2 m2 else none)=(bif E.yU (cG E o.dst)then vI E (cG E o.dst) o f2 m2 else none):=rfl;rw[e1,Q7];exact hn f2 m2 hf hm R' k'
  ·cases h
theorem sR.vn(h:sR f F)(id:Nat):sR (gh id f) (gh id F):=fun t=>by
 rcases h t with e|e
 ·exact .inl (by simp only[gh,e])
 ·exact .inr (by simp only[gh,e];rfl)
theorem sR.kf:∀{kl:Kl}{f F:Fr},sR f F→sR (Go.Ab.kf kl f) (Go.Ab.kf kl F)
 |[],_,_,h=>h
 |(true,id)::r,f,F,h=>sR.kf (kl:=r) (f:=eP id f) (F:=eP id F) (h.kill id)
 |(false,id)::r,f,F,h=>sR.kf (kl:=r) (f:=gh id f) (F:=gh id F) (h.vn id)
theorem oG.vn{nt:Nat}(h:oG nt ops A f)(id:Nat):oG nt ops A (gh id f):=by intro g hg;obtain⟨t,h1,h0,h2⟩:=h g hg;exact⟨t,h1,h0,by simp only[gh,h2];rfl⟩
theorem oG.kf{nt:Nat}{A:List (Nat×Bool)}:∀{kl:Kl}{f:Fr},oG nt ops A f→oG nt ops A (Go.Ab.kf kl f)
 |[],_,h=>h
 |(true,id)::r,f,h=>oG.kf (kl:=r) (f:=eP id f) (h.kill id)
 |(false,id)::r,f,h=>oG.kf (kl:=r) (f:=gh id f) (h.vn id)
theorem Oj(hE:iK E)(hY:qS E.P E.aI E.fn.ntmps E.yl w0){v:V}{wr:List (Nat×bK)}{kl:Kl}{YM:bn}(hg:guardOf o A=none)(hA:oG E.fn.ntmps ops A F)(hd:ta E o=true)(Oc:∀x∈o.op.operands,bA E f x=bA E F x)(hn:∀(f2:Fr)(m2:Mem),(∀x∈o.op.operands,bA E f2 x=bA E f x)→(∀x∈ft,m2 x.2=m x.2)→∀(R':Type)(k':V→Fr→Mem→bn→Option R'),F1 E false (cG E o.dst) o f2 m2 k'=k' v (kf kl f2) (qL wr (km kl m2)) YM):Dw E ops w0 ⟨i,o,v,wr,ft,kl⟩ F m:=by
 intro f2 m2 hf hm μ φ a w K Q hR hK;have hw:Region.wanted o (yielded ops a.tmps)=true:=GC hg hA hR hf;simp only at hf hm hK⊢;rw[if_pos hw];have hx:=hn f2 m2 (fun x hx=>by rw[uT hf x hx,Oc x hx]) hm (V×Fr×Mem) fun v f m _=>some (v,f,m);rcases Ew hE hx with⟨v,f',m',ft,h1,h2⟩|⟨_,h2⟩
 ·simp only[Option.some.injEq,Prod.mk.injEq]at h1;obtain⟨rfl,rfl,rfl⟩:=h1;exact fun rd=>h2.vR (yp hx) rd w0 μ φ a w K Q hR fun y w' μ' φ' hle hM hF hv hl=>hK _ _ _ _ (hR.put hle (gR hd) hM hF hv hl)
 ·refine fun rd=>Bw.vR h2 rd w0 μ φ a w K Q hY hR fun v f' m' y w' μ' φ' h1 hle hM hF hv hl=>?_;simp only[Option.some.injEq,Prod.mk.injEq]at h1;obtain⟨rfl,rfl,rfl⟩:=h1;exact hK _ _ _ _ (hR.put hle (gR hd) hM hF hv hl)
structure EA(ops:Array Oper)(mode:Nat)(F:Fr)(m:Mem)(lg:Log)(recs:List Rec):Prop where
 one:mode=1→∀q∈recs,q.wr=[]∧q.kl=[]
 ord:mode=2→recs.Pairwise (Q3 (ops:=ops))
 log:mode=2→∀q∈recs,∀y∈q.ft,∀x∈lg,y.2≠x.2.2∨(y.1=false∧x.2.1=false)∨reach ops 4 q.o x.1=true
 kl:recs.Pairwise fun q r=>q.kl≠[]→reach ops 4 r.o q.i=true
 cln:mq ops F m recs
 nam:∀q∈recs,∀id,q.Du id→mode=2∧ops.toList.any (isApp E)=true∧(true,id)∈q.ft∧∀x∈lg,x.2.2=uz id→reach ops 4 q.o x.1=true
theorem mq.none:∀{l:List Rec}{f:Fr}{m:Mem},(∀q∈l,q.kl=[])→mq ops f m l
 |[],_,_,_=>trivial
 |r::l,f,m,h=>⟨fun q hq id⟨b,hid⟩=>(by rw[h q (by simp[hq])]at hid;cases hid),mq.none fun q hq=>h q (by simp[hq])⟩
theorem kZ(hE:iK E)(hY:qS E.P E.aI E.fn.ntmps E.yl w0){mode:Nat}(iv:mode=1∨mode=2):∀(fuel:Nat){R:Type}{A:List (Nat×Bool)}{l:List (Nat×Oper)}{f:Fr}{m:Mem}{lg:Log}{k:Fr→Mem→Option R}{r:R},cq E ops mode fuel R A l f m lg k=some r→(∀x∈l,ops[x.1]?=some x.2)→(mode=1→∀x∈l,eW x.2=true)→WX ops A l→∀F:Fr,sR f F→oG E.fn.ntmps ops A F→(∀x∈l,∀t∈x.2.looksAt ops,f t=F t)→∃(recs:List Rec)(f':Fr),k f' (nF m recs)=some r∧sR f' (kK F recs)∧recs.map (fun r=>(r.i,r.o))=l∧fm E ops w0 F m recs∧EA (E:=E) ops mode F m lg recs
 |0,_,_,_,_,_,_,_,_,h,_,_,_,_,_,_,_=>by simp[cq]at h
 |fuel+1,R,A,[],f,m,lg,k,r,h,_,_,_,F,hF,_,_=>by simp only[cq]at h;exact⟨[],f,h,hF,rfl,trivial,by simp,fun _=>.nil,by simp,.nil,trivial,by simp⟩
 |fuel+1,R,A,(i,o)::rest,f,m,lg,k,r,h,hl,PH,BD,F,hF,hA,zo=>by
  have W4:(Nat.beq mode 1||Nat.beq mode 2)=true:=by rcases iv with rfl|rfl<;>rfl
  simp only[cq,W4]at h;split at h
  ·rename_i hg;split at h
   ·rename_i hd;have aaa:∀x∈o.op.operands,bA E f x=bA E F x:=uT (zo (i,o) (by simp));split at h
    ·rename_i kl ft je;have W8:mode=2:=by
      rcases iv with rfl|rfl
      ·cases je
      ·rfl
     subst W8;have je:Ef E f m o=some (kl,ft):=je;split at h
     ·rename_i A6;simp only[Bool.and_eq_true,List.all_eq_true]at A6;obtain⟨⟨ad7,ad8⟩,ad9⟩:=A6;obtain⟨Q6,v,wr,YM,hk,W6,kL,hn⟩:=Oi je h;obtain⟨recs,f',c1,c2,c3,c4,c5⟩:=kZ hE hY (.inr rfl) fuel hk (fun x hx=>hl x (by simp[hx])) (fun hm=>by cases hm) (fun x hx=>BD x (by simp[hx])) (gO (kf kl F) o.dst v) ((sR.kf (kl:=kl) hF).put _ _) (oG.put (oG.kf (kl:=kl) hA) fun g nP t ht=>BD (i,o) (by simp) g nP t ht) (fun x hx t ht=>by
       by_cases e:o.dst=some t
       ·rw[e,iR,iR]
       ·rw[dP e,dP e];exact wZ (zo x (by simp[hx]) t ht))
      have pP:∀q∈recs,reach ops 4 q.o i=true:=fun q hq=>ad9 (q.i,q.o) (by rw[←c3];exact List.mem_map.2 ⟨q,hq,rfl⟩);have W9:ops.toList.any (isApp E)=true:=List.any_eq_true.2 ⟨o,List.mem_of_getElem? (by rw[Array.getElem?_toList];exact hl (i,o) (by simp)),Q6⟩;refine⟨⟨i,o,v,wr,ft,kl⟩::recs,f',c1,c2,by simp[c3],⟨Oj hE hY hg hA hd aaa hn,fun j b hb=>W6 _ hb,c4⟩,?_⟩;refine⟨fun hm=>(by cases hm),fun hm=>List.pairwise_cons.2 ⟨fun q hq=>.inl (pP q hq),c5.ord hm⟩,fun hm q hq=>?_,List.pairwise_cons.2 ⟨fun q hq _=>pP q hq,c5.kl⟩,⟨fun q hq nB _=>.inl (pP q hq),c5.cln⟩,fun q hq nB hid=>?_⟩
      ·rcases List.mem_cons.1 hq with rfl|hq
       ·exact yu ad7
       ·exact fun y hy x hx=>c5.log hm q hq y hy x (List.mem_append.2 (.inr hx))
      ·rcases List.mem_cons.1 hq with rfl|hq
       ·obtain⟨bb,hid⟩:=hid;exact⟨rfl,W9,kL _ hid,BN (ad8 _ hid)⟩
       ·obtain⟨g1,g2,g3,g4⟩:=c5.nam q hq nB hid;exact⟨g1,g2,g3,fun x hx=>g4 x (List.mem_append.2 (.inr hx))⟩
     ·cases h
    ·rcases Ew hE h with⟨v,f1,m1,ft,hk,Oc⟩|⟨vO,_⟩
     rotate_left
     ·cases vO
     obtain⟨W0,wr,aab,W6,hn⟩:=Oc.drawn rfl;subst W0;have NM:∀(f2:Fr)(m2:Mem),(∀x∈o.op.operands,bA E f2 x=bA E F x)→(∀x∈ft,m2 x.2=m x.2)→∀(R':Type)(k':V→Fr→Mem→bn→Option R'),F1 E true (cG E o.dst) o f2 m2 k'=k' v f2 (qL wr m2) ft:=fun f2 m2 hf=>hn f2 m2 fun x hx=>by rw[hf x hx,aaa x hx]
     have step:∀(YN:List (Nat×bK))(lg':Log),qL YN m=m1→(mode=1→YN=[])→(∀id b,(id,b)∈YN→(true,id)∈ft)→Dw E ops w0 ⟨i,o,v,YN,ft,[]⟩ F m→cq E ops mode fuel R A rest (gO f1 o.dst v) m1 lg' k=some r→(mode=2→lg'=(bif ops.toList.any (isApp E)then(Ak ops o f1 m m1 v ft).map (fun n=>(i,false,uz n))else[])++(ft.map (fun x=>(i,x))++lg)∧xU ops o lg ft=true)→∃(recs:List Rec)(f':Fr),k f' (nF m recs)=some r∧sR f' (kK F recs)∧recs.map (fun r=>(r.i,r.o))=(i,o)::rest∧fm E ops w0 F m recs∧EA (E:=E) ops mode F m lg recs:=by
      intro YN lg' hwm Mm hw2 W3 T6 hlg;obtain⟨recs,f',c1,c2,c3,c4,c5⟩:=kZ hE hY iv fuel T6 (fun x hx=>hl x (by simp[hx])) (fun hm x hx=>PH hm x (by simp[hx])) (fun x hx=>BD x (by simp[hx])) (gO F o.dst v) (hF.put _ _) (oG.put hA fun g nP t ht=>BD (i,o) (by simp) g nP t ht) (fun x hx t ht=>by
       by_cases e:o.dst=some t
       ·rw[e,iR,iR]
       ·rw[dP e,dP e];exact zo x (by simp[hx]) t ht)
      subst hwm;refine⟨⟨i,o,v,YN,ft,[]⟩::recs,f',c1,c2,by simp[c3],⟨W3,hw2,c4⟩,?_⟩;have VB:mode=2→∀x∈lg,x∈lg':=fun hm x hx=>by rw[(hlg hm).1];exact List.mem_append.2 (.inr (List.mem_append.2 (.inr hx)))
      have Q8:mode=2→∀x∈ft,(i,x)∈lg':=fun hm x hx=>by rw[(hlg hm).1];exact List.mem_append.2 (.inr (List.mem_append.2 (.inl (List.mem_map.2 ⟨x,hx,rfl⟩))))
      refine⟨fun hm q hq=>?_,fun hm=>List.pairwise_cons.2 ⟨fun q hq=>?_,c5.ord hm⟩,fun hm q hq=>?_,List.pairwise_cons.2 ⟨fun q hq h=>absurd rfl h,c5.kl⟩,⟨fun q hq id hid=>?_,c5.cln⟩,fun q hq id hid=>?_⟩
      ·rcases List.mem_cons.1 hq with rfl|hq
       ·exact⟨Mm hm,rfl⟩
       ·exact c5.one hm q hq
      ·have d2:=c5.log hm;by_cases he:reach ops 4 q.o i=true
       ·exact .inl he
       ·refine .inr ⟨fun id b hb x hx hxi=>?_,fun id b hb x hx hxi=>?_⟩
        ·rcases d2 q hq x hx (i,true,id) (Q8 hm (true,id) (hw2 id b hb))with h|h|h
         ·exact h hxi
         ·cases h.2
         ·exact he h
        ·rcases d2 q hq (true,id) (fm.wr c4 q hq id b hb) (i,x) (Q8 hm x hx)with h|h|h
         ·exact h hxi.symm
         ·cases h.1
         ·exact he h
      ·rcases List.mem_cons.1 hq with rfl|hq
       ·exact yu (hlg hm).2
       ·exact fun y hy x hx=>c5.log hm q hq y hy x (VB hm x hx)
      ·obtain⟨g1,g2,g3,g4⟩:=c5.nam q hq id hid;by_cases he:reach ops 4 q.o i=true
       ·exact .inl he
       ·refine .inr (Q4 (zo (i,o) (by simp)) hw2 (fun bO=>he (g4 (i,false,uz id) ?_ rfl)) fun x hx hxi=>?_)
        ·rw[(hlg g1).1,g2];exact List.mem_append.2 (.inl (List.mem_map.2 ⟨id,bO,rfl⟩))
        ·rcases c5.log g1 q hq (true,id) g3 (i,x) (Q8 g1 x hx)with h|h|h
         ·exact h hxi.symm
         ·cases h.1
         ·exact he h
      ·rcases List.mem_cons.1 hq with rfl|hq
       ·obtain⟨_,hid⟩:=hid;cases hid
       ·obtain⟨g1,g2,g3,g4⟩:=c5.nam q hq id hid;exact⟨g1,g2,g3,fun x hx=>g4 x (VB g1 x hx)⟩
     rcases iv with rfl|rfl
     ·simp only[Nat.beq,Bool.false_eq_true,if_false]at hk;split at hk
      ·rename_i hqf;have hwn:wr=[]:=by
        cases wr with
        |nil=>rfl
        |cons x l=>have:=vS hqf _ (W6 x (by simp));cases this
       subst hwn;exact step [] lg aab.symm (fun _=>rfl) (by simp) (BM hE hg hA hd NM) hk (by simp)
      ·cases hk
     ·simp only[Nat.beq,if_true]at hk;split at hk
      ·rename_i hof;exact step wr _ aab.symm (by simp) (fun id b hb=>W6 _ hb) (BM hE hg hA hd NM) hk fun _=>⟨rfl,hof⟩
      ·cases hk
   ·cases h
  ·rename_i j xV hg;split at h
   ·rename_i tj PI;split at h
    ·rename_i b hb;generalize je:yY A ((i,o)::rest)=sp at h;obtain⟨body,F3⟩:=sp;have kY:=BB je;have Z0:Nat.beq mode 0=false:=by rcases iv with rfl|rfl<;>rfl
     simp only[Z0,Bool.false_and,Bool.false_eq_true,if_false]at h;split at h
     ·rename_i ip p kN;split at h
      ·rename_i c x y I7;split at h
       ·rename_i hc;simp only[Bool.and_eq_true,List.all_eq_true,Bool.not_eq_true',beq_eq_false_iff_ne,ne_eq]at hc;obtain⟨⟨⟨⟨⟨⟨I8,WZ⟩,vC⟩,QS⟩,Xa⟩,hpd⟩,cO⟩:=hc;have Xb:mode=1:=by
         rcases iv with h|h
         ·exact h
         ·subst h;simp[Nat.beq]at cO
        subst Xb;have I8:=Nat.eq_of_beq_eq_true I8;subst I8;have WZ:guardOf p A=none:=by simpa using WZ
        obtain⟨rb,Ip,h⟩:=Option.bind_eq_some_iff.1 h;have bO:∀z∈body,z∈(i,o)::rest:=fun z hz=>by rw[kY];simp[hz]
        have sG:∀z∈kN,z∈(i,o)::rest:=fun z hz=>by rw[kY];simp[hz]
        have Gw:(ip,p)∈(i,o)::rest:=by rw[kY];simp
        obtain⟨QR,hb⟩:=Bz hb;have hFc:F c=.pv (.bool b):=by
         rcases hF c with e|e
         ·rw[←e];exact hb
         ·rw[e]at hb;cases hb
        have after:∀(pQ:List Rec)(q:Operand),pQ.map (fun r=>(r.i,r.o))=body→fm E ops w0 F m pQ→(∀q∈pQ,q.wr=[]∧q.kl=[])→bA E (kK F pQ) q=.pv (.bool rb)→(q=if b then x else y)→∃(recs:List Rec)(f':Fr),k f' (nF m recs)=some r∧sR f' (kK F recs)∧recs.map (fun r=>(r.i,r.o))=body++(ip,p)::kN∧fm E ops w0 F m recs∧(∀q∈recs,q.wr=[]∧q.kl=[]):=by
         intro pQ q aac aad hwn hq hqe;have Ua:∀t,(∀z∈body,z.2.dst≠some t)→kK F pQ t=F t:=fun t ht=>Dv fun q hq=>⟨ht (q.i,q.o) (by rw[←aac];exact List.mem_map.2 ⟨q,hq,rfl⟩),(hwn q hq).2⟩;have Z1:oG E.fn.ntmps ops A (kK F pQ):=fun g nP=>by obtain⟨t,h1,h0,h2⟩:=hA g nP;exact⟨t,h1,h0,by rw[Ua t fun z hz=>BD z (bO z hz) g nP t h1];exact h2⟩
         have Td:kK F pQ c=.pv (.bool b):=by rw[Ua c fun z hz=>(vC z hz).2];exact hFc
         have hrp:Dw E ops w0 ⟨ip,p,.pv (.bool rb),[],[],[]⟩ (kK F pQ) m:=BM hE WZ Z1 hpd fun f2 m2 hf hm R' k'=>by
          have pz:bA E f2 (.tmp c)=.pv (.bool b):=by have:=hf (.tmp c) (by rw[I7];simp[Op.operands]);rw[this,T5 QR];exact Td
          have Ve:bA E f2 q=.pv (.bool rb):=by rw[hf q (by rw[I7,hqe];cases b<;>simp[Op.operands])];exact hq
          rw[Gv I7 pz,←hqe,Ve];rfl
         obtain⟨recs,f',c1,c2,c3,c4,c5⟩:=kZ hE hY (.inl rfl) fuel h (fun z hz=>hl z (sG z hz)) (fun hm z hz=>PH hm z (sG z hz)) (fun z hz=>BD z (sG z hz)) (gO (kK F pQ) p.dst (.pv (.bool rb))) (sR.put (uQ fun t ht=>by rw[Ua t ht];exact hF t) _ _) (oG.put Z1 fun g nP t ht=>BD (ip,p) Gw g nP t ht) (fun z hz t ht=>by
          by_cases e:p.dst=some t
          ·rw[e,iR,iR]
          ·have Zt:∀u∈body,u.2.dst≠some t:=fun u hu hud=>by
            have h1:=Xa z hz;simp only[blind,List.all_eq_true]at h1;have h2:=h1 u hu;rw[hud]at h2;simp only[Bool.not_eq_true']at h2;have:(z.2.looksAt ops).elem t=true:=by simpa using ht
            rw[this]at h2;cases h2
           rw[dP e,dP e,uP Zt,Ua t Zt];exact zo z (sG z hz) t ht)
         have hmB:nF m pQ=m:=Dy hwn;refine⟨pQ++⟨ip,p,.pv (.bool rb),[],[],[]⟩::recs,f',?_,?_,by simp[aac,c3],?_,fun q hq=>?_⟩
         ·rw[GB,hmB];exact c1
         ·rw[GA];exact c2
         ·refine fm.append.2 ⟨aad,?_⟩;rw[hmB];exact⟨hrp,by simp,c4⟩
         ·rcases List.mem_append.1 hq with h|h
          ·exact hwn q h
          ·rcases List.mem_cons.1 h with rfl|h
           ·exact⟨rfl,rfl⟩
           ·exact c5.one rfl q h
        have fin:(∃(recs:List Rec)(f':Fr),k f' (nF m recs)=some r∧sR f' (kK F recs)∧recs.map (fun r=>(r.i,r.o))=body++(ip,p)::kN∧fm E ops w0 F m recs∧(∀q∈recs,q.wr=[]∧q.kl=[]))→∃(recs:List Rec)(f':Fr),k f' (nF m recs)=some r∧sR f' (kK F recs)∧recs.map (fun r=>(r.i,r.o))=(i,o)::rest∧fm E ops w0 F m recs∧EA (E:=E) ops 1 F m lg recs:=by rintro⟨recs,f',c1,c2,c3,c4,c5⟩;exact⟨recs,f',c1,c2,by rw[kY];exact c3,c4,fun _=>c5,fun h=>(by cases h),fun h=>(by cases h),List.Pairwise.imp_of_mem (R:=fun _ _=>True) (fun{q r}hq hr _ h=>absurd (c5 q hq).2 h) (List.pairwise_of_forall fun _ _=>trivial),mq.none fun q hq=>(c5 q hq).2,fun q hq id⟨_,hid⟩=>(by rw[(c5 q hq).2]at hid;cases hid)⟩
        have go:∀q,b=xV→(q=if b then x else y)→cq E ops 1 fuel Bool ((j,xV)::A) body f m lg (fun f _=>vj (bA E f q))=some rb→∃(recs:List Rec)(f':Fr),k f' (nF m recs)=some r∧sR f' (kK F recs)∧recs.map (fun r=>(r.i,r.o))=body++(ip,p)::kN∧fm E ops w0 F m recs∧(∀q∈recs,q.wr=[]∧q.kl=[]):=by
         intro q Od hq T6;obtain⟨pQ,f1,c1,c2,c3,c4,c5⟩:=kZ hE hY (.inl rfl) fuel T6 (fun z hz=>hl z (bO z hz)) (fun hm z hz=>PH hm z (bO z hz)) (fun z hz g nP t ht=>by
          rcases List.mem_cons.1 nP with rfl|nP
          ·simp only[PI]at ht;cases ht;exact(vC z hz).2
          ·exact BD z (bO z hz) g nP t ht) F hF (fun g nP=>by
          rcases List.mem_cons.1 nP with rfl|nP
          ·exact⟨c,PI,QR,by rw[hFc,Od]⟩
          ·exact hA g nP) (fun z hz=>zo z (bO z hz))
         refine after pQ q c3 c4 (c5.one rfl) ?_ hq;have hv:=wW c1;rcases QO (E:=E) c2 q with e|e
         ·rw[←e];exact hv
         ·rw[e]at hv;cases hv
        have no:∀q,b= !xV→(q=if b then x else y)→vj (bA E (kM f body) q)=some rb→∃(recs:List Rec)(f':Fr),k f' (nF m recs)=some r∧sR f' (kK F recs)∧recs.map (fun r=>(r.i,r.o))=body++(ip,p)::kN∧fm E ops w0 F m recs∧(∀q∈recs,q.wr=[]∧q.kl=[]):=by
         intro q Od hq T6;obtain⟨s1,s2⟩:=Dx (E:=E) (w0:=w0) (m:=m) body F (fun z hz=>(vC z hz).1.2) (wV PI QS (fun z hz=>hl z (bO z hz)) (fun z hz=>(vC z hz).2) (by rw[hFc,Od]) (by simp));refine after (body.map w7) q (by simp[w7,Function.comp_def]) s1 (fun u hu=>by obtain⟨z,_,rfl⟩:=List.mem_map.1 hu;exact⟨rfl,rfl⟩) ?_ hq;rw[s2];have hv:=wW T6;have hle:sR (kM f body) (gB F body):=uQ fun t ht=>by rw[sf ht];exact hF t
         rcases QO (E:=E) hle q with e|e
         ·rw[←e];exact hv
         ·rw[e]at hv;cases hv
        refine fin ?_;cases xV<;>cases b<;>simp only[cond]at Ip
        ·exact go y rfl rfl Ip
        ·exact no x rfl rfl Ip
        ·exact no y rfl rfl Ip
        ·exact go x rfl rfl Ip
       ·cases h
      ·cases h
     ·cases h
    ·cases h
   ·cases h
theorem qu{l:List Oper}:(i,o)∈(List.range l.length).zip l↔l[i]?=some o:=by
 rw[List.mem_iff_getElem?];constructor
 ·rintro⟨n,hn⟩;rw[List.getElem?_zip_eq_some]at hn;obtain⟨h1,h2⟩:=hn;rw[List.getElem?_range (by have:=(List.getElem?_eq_some_iff.1 h2).1;omega)]at h1;simp only[Option.some.injEq]at h1;subst h1;exact h2
 ·intro h;refine⟨i,List.getElem?_zip_eq_some.2 ⟨?_,h⟩⟩;exact List.getElem?_range (by have:=(List.getElem?_eq_some_iff.1 h).1;omega)
theorem tA:∀{l done:List (Nat×Oper)},mh ops done l=true→(∀x∈l,∀d∈done,reach ops 4 x.2 d.1=true∨d.2.apart ops x.2=true)∧l.Pairwise (fun q r=>reach ops 4 r.2 q.1=true∨q.2.apart ops r.2=true)∧∀x∈l,∀e∈x.2.after,Region.binds .any e=true→e.on<x.1
 |[],_,_=>⟨by simp,.nil,by simp⟩
 |(i,o)::r,done,h=>by
  simp only[mh,Bool.and_eq_true]at h;obtain⟨⟨h1,h2⟩,h3⟩:=h;obtain⟨i1,i2,i3⟩:=tA h3;have Bb:∀{done:List (Nat×Oper)},uA ops done o=true→∀d∈done,reach ops 4 o d.1=true∨d.2.apart ops o=true:=by
   intro done;induction done with
   |nil=>intro _ d hd;cases hd
   |cons x l ih=>
    intro h d hd;simp only[uA,Bool.and_eq_true,Bool.or_eq_true]at h;rcases List.mem_cons.1 hd with rfl|hd
    ·exact h.1.symm
    ·exact ih h.2 d hd
  refine⟨fun x hx d hd=>?_,List.pairwise_cons.2 ⟨fun x hx=>i1 x hx (i,o) (by simp),i2⟩,fun x hx e he hb=>?_⟩
  ·rcases List.mem_cons.1 hx with rfl|hx
   ·exact Bb h2 d hd
   ·exact i1 x hx d (by simp[hd])
  ·rcases List.mem_cons.1 hx with rfl|hx
   ·have:=List.all_eq_true.1 h1 e (Array.mem_toList_iff.2 he);simp only[hb,Bool.not_true,Bool.false_or]at this;rwa[Nat.blt_eq]at this
   ·exact i3 x hx e he hb
variable{rd:Option Nat}{fuel:Nat}{Q:Exit→Act→World→Prop}
theorem tB(hE:iK E)(hY:qS E.P E.aI E.fn.ntmps E.yl w0){mode:Nat}(iv:mode=1∨mode=2){l:List (Nat×Oper)}{base:Nat→Bool}(PH:mode=1→∀x∈l,eW x.2=true){k:Fr→Mem→Option R}{r:R}(hmz:∀x∈l,ops[x.1]?=some x.2)(VC:(l.map Prod.fst).Pairwise (·<·))(QW:∀x∈l,base x.1=false)(QX:∀i o,ops[i]?=some o→base i=false→(∀x∈l,x.1≠i)→(∀x∈l,reach ops 8 o x.1=true)∨∃j,reach ops 8 o j=true∧base j=false∧∀x∈l,x.1≠j)(aea:∀x∈l,∀e∈x.2.after,Region.binds .any e=true→base e.on=true∨∃y∈l,y.1=e.on)(hi:mh ops [] l=true)(h:cq E ops mode fuel R [] l f m [] k=some r)(hQ:∀(fuel:Nat)(aj:Array Bool),aj.size=ops.size→aj.toList.countP (fun b=> !b)≤fuel→vV ops aj→(∀i,aB aj i=true↔base i=true∨∃x∈l,x.1=i)→∀f' m' μ φ a w,k f' m'=some r→Rel E.P E.aI E.fn.ntmps w0 μ φ f' m' a w→wpAnyIn (FR rd) 0 E.P .any ops Q fuel aj a w):∀(fuel:Nat)(aj:Array Bool),aj.size=ops.size→aj.toList.countP (fun b=> !b)≤fuel→vV ops aj→(∀i,aB aj i=true↔base i=true)→∀(μ:Ro)(φ:Nat→aG)(a:Act)(w:World),Rel E.P E.aI E.fn.ntmps w0 μ φ f m a w→wpAnyIn (FR rd) 0 E.P .any ops Q fuel aj a w:=by
 intro aae aj hs hc sF hb μ φ a w hR;obtain⟨recs,f',c1,c2,c3,c4,c5⟩:=kZ (w0:=w0) hE hY iv fuel h hmz PH (by intro x hx g hg;cases hg) f (sR.refl f) (by intro g hg;cases hg) (fun _ _ _ _=>rfl);obtain⟨_,i2,i3⟩:=tA hi;have bO:∀q∈recs,(q.i,q.o)∈l:=fun q hq=>by rw[←c3];exact List.mem_map.2 ⟨q,hq,rfl⟩
 have hof:∀x∈l,∃q∈recs,q.i=x.1:=fun x hx=>by rw[←c3]at hx;obtain⟨q,hq,rfl⟩:=List.mem_map.1 hx;exact⟨q,hq,rfl⟩
 have Bb:recs.Pairwise fun q r=>reach ops 4 r.o q.i=true∨q.o.apart ops r.o=true:=by rw[←c3,List.pairwise_map]at i2;exact i2
 have VD:recs.Pairwise (Q3 (ops:=ops)):=by
  rcases iv with hm|hm
  ·exact List.Pairwise.imp_of_mem (fun{q r}hq hr _=>.inr ⟨fun id b hb=>(by rw[(c5.one hm q hq).1]at hb;cases hb),fun id b hb=>(by rw[(c5.one hm r hr).1]at hb;cases hb)⟩) Bb
  ·exact c5.ord hm
 refine QV (E:=E) (w0:=w0) (recs:=recs) (f0:=f) (m0:=m) (base:=base) ?_ (fun q hq=>hmz _ (bO q hq)) (fun q hq=>QW _ (bO q hq)) (fun i o ho hbi cT=>?_) ?_ c5.kl c5.cln (fun q hq e he El=>⟨i3 _ (bO q hq) e he El,?_⟩) c4 ?_ aae aj hs hc sF (fun i hi=>(hb i).2 hi) (fun i hi=>Or.inl ((hb i).1 hi)) μ φ a w ?_
 ·rw[←c3,List.map_map]at VC;have h2:(recs.map (Prod.fst∘fun r=>(r.i,r.o))).Pairwise (·<·):=VC;rw[List.pairwise_map]at h2;exact h2
 ·have aeb:∀x∈l,x.1≠i:=fun x hx e=>by obtain⟨q,hq,QY⟩:=hof x hx;exact cT q hq (by rw[QY];exact e)
  rcases QX i o ho hbi aeb with h1|⟨j,h1,h2,h3⟩
  ·exact Or.inl fun q hq=>h1 _ (bO q hq)
  ·exact Or.inr ⟨j,h1,h2,fun q hq=>h3 _ (bO q hq)⟩
 ·refine List.Pairwise.imp (fun{q r}h=>?_) (List.Pairwise.and Bb VD);obtain⟨h1,h2⟩:=h;rcases h1 with h1|h1
  ·exact .inl h1
  ·rcases h2 with h2|h2
   ·exact .inl h2
   ·exact .inr ⟨h1,h2⟩
 ·rcases aea _ (bO q hq) e he El with h1|⟨y,hy,h1⟩
  ·exact Or.inl h1
  ·obtain⟨q',NO,QY⟩:=hof y hy;exact Or.inr ⟨q',NO,by rw[QY];exact h1⟩
 ·intro VE Mw WL CI aec pz μ2 φ2 a2 w2 Dm;refine hQ VE Mw WL CI aec (fun i=>?_) _ _ μ2 φ2 a2 w2 c1 (Dm.weaken c2);rw[pz i];constructor
  ·rintro(h1|⟨q,hq,h1⟩)
   ·exact Or.inl h1
   ·exact Or.inr ⟨_,bO q hq,h1⟩
  ·rintro(h1|⟨x,hx,h1⟩)
   ·exact Or.inl h1
   ·obtain⟨q,hq,QY⟩:=hof x hx;exact Or.inr ⟨q,hq,by rw[QY];exact h1⟩
 ·have hS:∀q∈recs,aB aj q.i=false:=fun q hq=>by
   cases hx:aB aj q.i with
   |false=>rfl
   |true=>have:=(hb q.i).1 hx;rw[QW _ (bO q hq)]at this;cases this
  rw[show mF (aB aj) f recs=f from funext fun t=>nQ fun q hq hs=>(by rw[hS q hq]at hs;cases hs),show mG (aB aj) m recs=m from funext fun t=>nR fun q hq hs=>(by rw[hS q hq]at hs;cases hs)];exact hR
variable{x:Nat×Oper}
theorem vX(hx:x∈(List.range ops.size).zip ops.toList):ops[x.1]?=some x.2:=by have:=(qu (l:=ops.toList) (i:=x.1) (o:=x.2)).1 (by simpa using hx);rwa[Array.getElem?_toList]at this
theorem oI(ho:ops[i]?=some o):(i,o)∈(List.range ops.size).zip ops.toList:=by have:=(qu (l:=ops.toList) (i:=i) (o:=o)).2 (by rw[Array.getElem?_toList];exact ho);simpa using this
theorem Ar:((List.range ops.size).zip ops.toList).map Prod.fst=List.range ops.size:=by rw[List.map_fst_zip (by simp)]
variable{P:Program}
theorem BO{F:Fence}{n:Nat}{aj:Array Bool}(hs:aj.size=ops.size)(zX:∀i o,ops[i]?=some o→aB aj i=true)(hq:Q .normal a w):wpAnyIn F n P .any ops Q fuel aj a w:=by
 have hr:Region.ready .any ops aj=[]:=by
  apply List.eq_nil_iff_forall_not_mem.2;intro j hj;obtain⟨h0,o,ho,_⟩:=mem_ready.1 hj;have h1:=zX j o ho;have bq:j<aj.size:=by rw[hs];exact(Array.getElem?_eq_some_iff.1 ho).1
  simp only[aB,Array.getD_eq_getD_getElem?,Array.getElem?_eq_getElem bq,Option.getD_some]at h0 h1;rw[h0]at h1;cases h1
 cases fuel with
 |zero=>exact⟨hr,hq⟩
 |succ fuel=>exact⟨fun _=>hq,fun i hi=>by rw[hr]at hi;cases hi⟩
theorem tC(n j:Nat):aB (Array.replicate n false) j=false:=by simp only[aB,Array.getD_eq_getD_getElem?,Array.getElem?_replicate];split<;>rfl
theorem count_le(n:Nat):(Array.replicate n false).toList.countP (fun b=> !b)≤n:=by have:=List.countP_le_length (p:=fun b=> !b) (l:=(Array.replicate n false).toList);simpa using this
theorem zp:vV ops (Array.replicate ops.size false):=fun i o _ h=>by rw[tC]at h;cases h
theorem BP(hE:iK E)(hY:qS E.P E.aI E.fn.ntmps E.yl w0){mode:Nat}(iv:mode=1∨mode=2)(PH:mode=1→∀o∈ops,eW o=true){k:Fr→Mem→Option R}{r:R}(hi:mh ops [] ((List.range ops.size).zip ops.toList)=true)(h:cq E ops mode fuel R [] ((List.range ops.size).zip ops.toList) f m [] k=some r){μ:Ro}(hR:Rel E.P E.aI E.fn.ntmps w0 μ φ f m a w)(hQ:∀f' m' μ' φ' a' w',k f' m'=some r→Rel E.P E.aI E.fn.ntmps w0 μ' φ' f' m' a' w'→Q .normal a' w'):wpAnyIn (FR rd) 0 E.P .any ops Q ops.size (Array.replicate ops.size false) a w:=by
 refine tB (w0:=w0) (base:=fun _=>false) hE hY iv (fun hm x hx=>PH hm x.2 (Array.mem_of_getElem? (vX hx))) (fun x hx=>vX hx) (by rw[Ar];exact List.pairwise_lt_range) (fun _ _=>rfl) (fun i o ho _ cT=>absurd rfl (cT _ (oI ho))) (fun x hx e he hb=>Or.inr ?_) hi h ?_ ops.size _ (by simp) (count_le _) zp (fun i=>by rw[tC]) μ φ a w hR
 ·obtain⟨_,_,i3⟩:=tA hi;have h1:=i3 x hx e he hb;have h2:x.1<ops.size:=(Array.getElem?_eq_some_iff.1 (vX hx)).1;exact⟨_,oI (Array.getElem?_eq_getElem (show e.on<ops.size by omega)),rfl⟩
 ·intro VE Mw WL _ _ pz f' m' μ2 φ2 a2 w2 hk Dm;exact BO WL (fun i o ho=>(pz i).2 (Or.inr ⟨_,oI ho,rfl⟩)) (hQ _ _ _ _ _ _ hk Dm)
theorem w9{j:Nat}(h:((List.range ops.size).zip ops.toList)[j]?=some x):x.1=j:=by
 have h1:(((List.range ops.size).zip ops.toList).map Prod.fst)[j]?=some x.1:=by rw[List.getElem?_map,h];rfl
 rw[Ar]at h1;obtain⟨h2,h3⟩:=List.getElem?_eq_some_iff.1 h1;rw[List.getElem_range]at h3;exact h3.symm
theorem mH{p:Nat}:x∈((List.range ops.size).zip ops.toList).take p↔x∈(List.range ops.size).zip ops.toList∧x.1<p:=by
 constructor
 ·intro h;obtain⟨j,hj⟩:=List.getElem?_of_mem h;have hjp:j<p:=by have:=(List.getElem?_eq_some_iff.1 hj).1;simp at this;omega
  rw[List.getElem?_take_of_lt hjp]at hj;exact⟨List.mem_of_getElem? hj,by rw[w9 hj];exact hjp⟩
 ·rintro⟨h,hx⟩;obtain⟨j,hj⟩:=List.getElem?_of_mem h;have:=w9 hj;exact List.mem_of_getElem? (i:=j) (by rw[List.getElem?_take_of_lt (by omega)];exact hj)
theorem re{p:Nat}:x∈((List.range ops.size).zip ops.toList).drop p↔x∈(List.range ops.size).zip ops.toList∧p≤x.1:=by
 constructor
 ·intro h;obtain⟨j,hj⟩:=List.getElem?_of_mem h;rw[List.getElem?_drop]at hj;exact⟨List.mem_of_getElem? hj,by rw[w9 hj];omega⟩
 ·rintro⟨h,hx⟩;obtain⟨j,hj⟩:=List.getElem?_of_mem h;have:=w9 hj;exact List.mem_of_getElem? (i:=j-p) (by rw[List.getElem?_drop,show p+(j-p)=j by omega];exact hj)
variable{K:Act→World→Prop}{Q':Exit→Act→World→Prop}
theorem Oper.Jd{F:Fence}{n:Nat}(h:∀e a w,e≠.normal→Q' e a w→Q e a w)(hh:o.wpIn F n P a w K Q'):o.wpIn F n P a w K Q:=by
 unfold Oper.wpIn at*;refine⟨hh.1,?_⟩;have hh:=hh.2;have aaf:LetsOut Q'→LetsOut Q:=fun⟨a,w,hq⟩=>⟨a,w,h _ _ _ (by simp) hq⟩;generalize (o.semAt F.round a.eval).run P w=r at*;cases r with
 |ok x w'=>
  cases x<;>simp only[Oper.uponIn]at hh⊢<;>first
   |exact hh
   |exact⟨hh.1,CallsIn.mono hh.2 (fun e w'' he=>by cases e<;>first|exact aaf he|exact h _ _ _ (by simp) he|exact he)⟩
   |exact⟨hh.1,RoundIn.mono hh.2 (fun e w'' he=>by cases e<;>first|exact aaf he|exact h _ _ _ (by simp) he|exact he)⟩
 |halt x w'=>cases x<;>simp only[Oper.uponIn]at hh⊢<;>first|exact h _ _ _ (by simp) hh|exact hh
theorem EB{F:Fence}{n:Nat}(h:∀e a w,e≠.normal→Q' e a w→Q e a w)(hh:wpOpIn F n P ops Q' i K a w):wpOpIn F n P ops Q i K a w:=by
 unfold wpOpIn at*;split
 ·simpa[*]using hh
 ·rename_i o ho;simp only[ho]at hh;split
  ·rename_i hw;simp only[hw,if_true]at hh;exact Oper.Jd h hh
  ·rename_i hw;simp only[hw]at hh;exact hh
theorem Je(hE:iK E)(hY:qS E.P E.aI E.fn.ntmps E.yl w0){p:Nat}(Ol:P6 ops p=true){k:Fr→Mem→Option R}{r:R}(Xc:mh ops [] (((List.range ops.size).zip ops.toList).take p)=true)(hi3:mh ops [] (((List.range ops.size).zip ops.toList).drop (p+1))=true){n1 n2 n3:Nat}(h:(cq E ops 2 n1 R [] (((List.range ops.size).zip ops.toList).take p) f m [] fun f m=>cq E ops 0 n2 R [] ((((List.range ops.size).zip ops.toList).drop p).take 1) f m [] fun f m=>cq E ops 2 n3 R [] (((List.range ops.size).zip ops.toList).drop (p+1)) f m [] k)=some r){μ:Ro}(hR:Rel E.P E.aI E.fn.ntmps w0 μ φ f m a w)(hQ:∀f' m' μ' φ' a' w',k f' m'=some r→Rel E.P E.aI E.fn.ntmps w0 μ' φ' f' m' a' w'→Q .normal a' w'):wpAnyIn (FR rd) 0 E.P .any ops Q ops.size (Array.replicate ops.size false) a w:=by
 unfold P6 at Ol;cases ho:ops[p]? with
 |none=>rw[ho]at Ol;cases Ol
 |some o=>
  rw[ho]at Ol;simp only[Bool.and_eq_true]at Ol;obtain⟨⟨_,CL⟩,YO⟩:=Ol;have hpn:p<ops.size:=(Array.getElem?_eq_some_iff.1 ho).1;have Mt:∀e∈o.after,Region.binds .any e=true→e.on<p:=fun e he hb=>by have:=List.all_eq_true.1 CL e (Array.mem_toList_iff.2 he);rw[hb,Bool.not_true,Bool.false_or]at this;exact Nat.le_of_ble_eq_true this
  have aed:∀i,i<p→reach ops 8 o i=true:=fun i hi=>by
   have:=List.all_eq_true.1 YO _ (oI (Array.getElem?_eq_getElem (show i<ops.size by omega)));simp only at this;have hb:Nat.blt i p=true:=by simp[Nat.blt];omega
   rw[hb]at this;exact this
  have aag:∀i o',ops[i]?=some o'→p<i→reach ops 8 o' p=true:=fun i o' Og hi=>by
   have:=List.all_eq_true.1 YO _ (oI Og);simp only at this;have hb:Nat.blt i p=false:=by
    cases hx:Nat.blt i p with
    |false=>rfl
    |true=>have:i<p:=Nat.le_of_ble_eq_true hx;omega
   have pz:Nat.beq i p=false:=by
    cases hx:Nat.beq i p with
    |false=>rfl
    |true=>have:=Nat.eq_of_beq_eq_true hx;omega
   rw[hb,pz]at this;simpa using this
  refine tB (w0:=w0) (base:=fun _=>false) hE hY (.inr rfl) (fun h=>by cases h) (fun x hx=>vX (mH.1 hx).1) (by rw[List.map_take,Ar];exact(List.pairwise_lt_range).sublist (List.take_sublist _ _)) (fun _ _=>rfl) (fun i o' Og _ cT=>?_) (fun x hx e he hb=>Or.inr ?_) Xc h ?_ ops.size _ (by simp) (count_le _) zp (fun i=>by rw[tC]) μ φ a w hR
  ·have hip:¬i<p:=fun hc=>cT _ (mH.2 ⟨oI Og,hc⟩) rfl;by_cases hi:i=p
   ·subst hi;rw[ho]at Og;cases Og;exact Or.inl fun x hx=>aed _ (mH.1 hx).2
   ·exact Or.inr ⟨p,aag i o' Og (by omega),rfl,fun x hx=>by have:=(mH.1 hx).2;omega⟩
  ·obtain⟨_,_,i3⟩:=tA Xc;have h1:=i3 x hx e he hb;have h2:=(mH.1 hx).2;exact⟨_,mH.2 ⟨oI (Array.getElem?_eq_getElem (show e.on<ops.size by omega)),by show e.on<p;omega⟩,rfl⟩
  ·intro fuel aj hs hc sF hb f1 m1 μ1 φ1 a1 w1 N1 I9;have bq:∀i,aB aj i=true↔i<p:=fun i=>by
    rw[hb i];constructor
    ·rintro(h|⟨x,hx,rfl⟩)
     ·cases h
     ·exact(mH.1 hx).2
    ·intro hi;exact Or.inr ⟨_,mH.2 ⟨oI (Array.getElem?_eq_getElem (show i<ops.size by omega)),hi⟩,rfl⟩
   have l5:p<aj.size:=by rw[hs];exact hpn
   have hpu:aB aj p=false:=by
    cases hx:aB aj p with
    |false=>rfl
    |true=>have:=(bq p).1 hx;omega
   have Xd:aj[p]=false:=by simpa only[aB,Array.getD_eq_getD_getElem?,Array.getElem?_eq_getElem l5,Option.getD_some]using hpu
   cases fuel with
   |zero=>have:=List.countP_eq_zero.1 (Nat.le_zero.1 hc) aj[p] (by simp);rw[Xd]at this;simp at this
   |succ fuel=>
    have Q9:p∈Region.ready .any ops aj:=mem_ready.2 ⟨by simp only[Array.getD_eq_getD_getElem?,Array.getElem?_eq_getElem l5,Option.getD_some];exact Xd,o,ho,fun e he El=>(bq e.on).2 (Mt e he El)⟩;refine⟨(fun h0=>by rw[h0]at Q9;cases Q9),fun i hi=>?_⟩;obtain⟨Of,o',Og,yt⟩:=mem_ready.1 hi;have pP:i<aj.size:=by rw[hs];exact(Array.getElem?_eq_some_iff.1 Og).1
    have hiu:aB aj i=false:=by simp only[aB,Array.getD_eq_getD_getElem?,Array.getElem?_eq_getElem pP,Option.getD_some]at Of⊢;exact Of
    have hip:i=p:=by
     refine Classical.byContradiction fun cT=>?_;have h1:¬i<p:=fun hc=>by rw[(bq i).2 hc]at hiu;cases hiu
     have:=oH aj sF 8 o' p yt (aag i o' Og (by omega));rw[hpu]at this;cases this
    subst hip;have hL:(((List.range ops.size).zip ops.toList).drop i).take 1=[(i,o)]:=by
     have hlen:i<((List.range ops.size).zip ops.toList).length:=by simp;exact hpn
     rw[List.drop_eq_getElem_cons hlen];have hg:((List.range ops.size).zip ops.toList)[i]=(i,o):=by have h1:((List.range ops.size).zip ops.toList)[i]?=some ((List.range ops.size).zip ops.toList)[i]:=List.getElem?_eq_getElem hlen;have h2:=w9 h1;have h3:=vX (List.mem_of_getElem? h1);rw[h2,ho]at h3;exact Prod.ext h2 (Option.some.inj h3).symm
     rw[hg];rfl
    rw[hL]at N1;have Vz:∀j,aB (aj.setIfInBounds i true) j=if j=i then true else aB aj j:=fun j=>by
     simp only[aB,Array.getD_eq_getD_getElem?,Array.getElem?_setIfInBounds];by_cases e:i=j
     ·subst e;simp[l5]
     ·have e':¬j=i:=fun h=>e h.symm;simp[e,e']
    have hle:∀j,aB (aj.setIfInBounds i true) j=true↔j≤i:=fun j=>by
     rw[Vz];by_cases e:j=i
     ·simp[e]
     ·rw[if_neg e,bq];omega
    have aah:=gx (rd:=rd) (w0:=w0) hE hY _ (.inl rfl) N1 (by intro x hx;rw[List.mem_singleton]at hx;subst hx;exact ho) (by intro x hx g hg;cases hg) (fun h=>by cases h) μ1 φ1 a1 w1 (fun e a w=>(e=.normal∧wpAnyIn (FR rd) 0 E.P .any ops Q fuel (aj.setIfInBounds i true) a w)∨(e≠.normal∧Q e a w)) [] I9 (by intro g hg;cases hg) fun f2 m2 μ2 φ2 a2 w2 TT Dm _ _=>Or.inl ⟨rfl,?_⟩
    ·rw[List.append_nil,List.map_cons,List.map_nil,wpOpsIn_cons]at aah;refine wpOpIn_mono (fun a w hq=>?_) (EB (fun e a w cT hq=>?_) aah)
     ·rcases hq with⟨_,h⟩|⟨h,_⟩
      ·exact h
      ·exact absurd rfl h
     ·rcases hq with⟨h,_⟩|⟨_,h⟩
      ·exact absurd h cT
      ·exact h
    ·refine tB (w0:=w0) (base:=fun j=>decide (j≤i)) hE hY (.inr rfl) (fun h=>by cases h) (fun x hx=>vX (re.1 hx).1) (by rw[List.map_drop,Ar];exact(List.pairwise_lt_range).sublist (List.drop_sublist _ _)) (fun x hx=>by have:=(re.1 hx).2;simp;omega) (fun j oj hj hbj cT=>?_) (fun x hx e he El=>?_) hi3 TT ?_ fuel _ (by simp[hs]) ?_ ?_ (fun j=>by rw[hle j];simp) μ2 φ2 a2 w2 Dm
     ·simp only[decide_eq_false_iff_not]at hbj;exact absurd rfl (cT _ (re.2 ⟨oI hj,by show i+1≤j;omega⟩))
     ·obtain⟨_,_,i3⟩:=tA hi3;have h1:=i3 x hx e he El;have h2:x.1<ops.size:=(Array.getElem?_eq_some_iff.1 (vX (re.1 hx).1)).1;by_cases hei:e.on≤i
      ·exact Or.inl (by simpa using hei)
      ·exact Or.inr ⟨_,re.2 ⟨oI (Array.getElem?_eq_getElem (show e.on<ops.size by omega)),by show i+1≤e.on;omega⟩,rfl⟩
     ·intro age adI hs3 _ _ hb3 f3 m3 μ3 φ3 a3 w3 YP hR3;refine BO hs3 (fun j oj hj=>(hb3 j).2 ?_) (hQ _ _ _ _ _ _ YP hR3);by_cases I1:j≤i
      ·exact Or.inl (by simpa using I1)
      ·exact Or.inr ⟨_,re.2 ⟨oI hj,by show i+1≤j;omega⟩,rfl⟩
     ·rw[Array.toList_setIfInBounds,List.countP_set (by simpa using l5)];have:aj.toList[i]'(by simpa using l5)=false:=by simpa using Xd
      rw[this];simp only[Bool.not_false,if_true,Bool.not_true,Bool.false_eq_true,if_false];omega
     ·intro j oj hj hlj e he El;rw[hle]at hlj⊢;by_cases I1:j=i
      ·subst I1;rw[ho]at hj;cases hj;have:=Mt e he El;omega
      ·have h1:=sF j oj hj ((bq j).2 (by omega)) e he El;have:=(bq e.on).1 h1;omega
end
end Go.Ab
