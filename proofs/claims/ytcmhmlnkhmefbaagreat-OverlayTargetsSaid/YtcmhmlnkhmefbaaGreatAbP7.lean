import Derived.Test.YtcmhmlnkhmefbaaGreatAbP6
import Derived.OrdersIn
set_option linter.unusedVariables false
namespace Go.Ab
open Go.RowKit (Below)
def su(f F:Fr):Prop:=∀t,f t=F t∨f t=.top
theorem su.refl(f:Fr):su f f:=fun _=>.inl rfl
theorem su.put{f F:Fr}(h:su f F)(d:Option Nat)(v:V):su (gF f d v) (gF F d v):=by
 intro t;cases d with
 |none=>exact h t
 |some d=>
  simp only[gF,fg];cases Nat.beq t d
  ·exact h t
  ·exact .inl rfl
theorem dN{f:Fr}{d:Option Nat}{v:V}{t:Nat}(h:d≠some t):gF f d v t=f t:=by
 cases d with
 |none=>rfl
 |some d=>exact nU (fun e=>h (by rw[e]))
theorem iE{f:Fr}{v:V}{t:Nat}:gF f (some t) v t=v:=by simp[gF,fg,Nat.beq_refl]
section
variable {E:Env} {ops:Array Oper} {w0:bt}
variable{nt:Nat}{μ:Ro}{φ:Nat→aC}{f:Fr}{m:Mem}{a:Act}
theorem Rel.weaken{f':Fr}{w:World}(h:Rel E.P E.aD nt w0 μ φ f m a w)(hf:su f' f):Rel E.P E.aD nt w0 μ φ f' m a w:=
 {h with
  fr:=fun t=>by
   rcases hf t with e|e
   ·rw[e];exact h.fr t
   ·rw[e];exact .top,
  live:=fun t id hid=>by
   rcases hf t with e|e
   ·rw[e]at hid;exact h.live t id hid
   ·rw[e]at hid;cases hid}
variable{t:Nat}
theorem A4{d:Nat}{y:Value}(hd:d<a.tmps.size):(a.put (some d) y).tmps.getD t undef=if t=d then y else a.tmps.getD t undef:=by
 simp only[Act.put,Array.getD_eq_getD_getElem?,Array.getElem?_setIfInBounds];by_cases e:d=t
 ·subst e;simp[hd]
 ·have e':¬t=d:=fun h=>e h.symm;simp[e,e']
theorem Rel.put{nt:Nat}{μ μ':Ro}{φ φ':Nat→aC}{f f':Fr}{m m':Mem}{a:Act}{w w':World}(h:Rel E.P E.aD nt w0 μ φ f m a w)(hle:F2 μ μ'){dst:Option Nat}{v:V}{y:Value}(hd:∀d,dst=some d→d<nt)(hM:au E.P E.aD w0 μ' φ' m' w')(hF:cj E.P μ' φ' m' f' (aB nt w0 a))(hv:af E.P μ' φ' v y)(hl:∀id,v.has id=true→(m' id).isSome=true):Rel E.P E.aD nt w0 μ' φ' (gF f' dst v) m' (a.put dst y) w':=by
 refine{toau:=hM,size:=?_,defers:=?_,kv:=h.kv,fr:=fun t=>?_,live:=fun t id hid=>?_}
 ·cases dst<;>simp[Act.put,h.size]
 ·cases dst<;>exact h.defers.mono hle
 ·cases dst with
  |none=>exact hF.fr t
  |some d=>
   have bp:d<a.tmps.size:=by rw[h.size];exact hd d rfl
   have hf:=hF.fr t;by_cases e:t=d
   ·subst e;rw[nP (hd t rfl),A4 bp,if_pos rfl,iE];exact hv
   ·rw[dN (by simpa using fun h=>e h.symm)];unfold aB at hf⊢;split
    ·rename_i ht;rw[if_pos ht]at hf;rw[A4 bp,if_neg e];exact hf
    ·rename_i ht;rw[if_neg ht]at hf;exact hf
 ·by_cases e:dst=some t
  ·subst e;rw[iE]at hid;exact hl id hid
  ·rw[dN e]at hid;exact hF.live t id hid
theorem Td(h:t<E.fn.ntmps):bA E f (.tmp t)=f t:=by simp only[bA];rw[show Nat.blt t E.fn.ntmps=true by rw[Nat.blt_eq];exact h];rfl
theorem A5{p:PV}(h:bA E f (.tmp t)=.pv p):t<E.fn.ntmps∧f t=.pv p:=by
 simp only[bA]at h;cases e:Nat.blt t E.fn.ntmps with
 |true=>rw[e]at h;exact⟨by rwa[Nat.blt_eq]at e,h⟩
 |false=>rw[e]at h;cases h
theorem P7{F:Fr}(h:su f F)(q:Operand):bA E f q=bA E F q∨bA E f q=.top:=by
 cases q with
 |tmp t=>
  simp only[bA];cases Nat.blt t E.fn.ntmps with
  |true=>exact h t
  |false=>exact .inr rfl
 |_=>exact .inl rfl
def og(nt:Nat)(ops:Array Oper)(A:List (Nat×Bool))(f:Fr):Prop:=∀g∈A,∃t,(ops[g.1]?).bind (·.dst)=some t∧t<nt∧f t=.pv (.bool g.2)
def wo(ops:Array Oper)(A:List (Nat×Bool))(a:Act):Prop:=∀g∈A,∃t,(ops[g.1]?).bind (·.dst)=some t∧a.tmps.getD t undef=.bool g.2
def V1(ops:Array Oper)(A:List (Nat×Bool))(l:List (Nat×Oper)):Prop:=∀x∈l,∀g∈A,∀t,(ops[g.1]?).bind (·.dst)=some t→x.2.dst≠some t
variable{d:Option Nat}{A:List (Nat×Bool)}
theorem og.put(h:og nt ops A f){v:V}(hd:∀g∈A,∀t,(ops[g.1]?).bind (·.dst)=some t→d≠some t):og nt ops A (gF f d v):=by intro g hg;obtain⟨t,h1,h0,h2⟩:=h g hg;exact⟨t,h1,h0,by rw[dN (hd g hg t h1)];exact h2⟩
variable{o:Oper}
theorem gH(h:sH E o=true):∀d,o.dst=some d→d<E.fn.ntmps:=by intro d hd;simp only[sH,hd]at h;rw[Nat.blt_eq]at h;exact h
variable{b:Bool}
theorem ru{j:Nat}(h:(ops[j]?).bind (·.dst)=some t)(hb:a.tmps.getD t undef=.bool b):yielded ops a.tmps j=some b:=by
 simp only[yielded,h,Option.bind_some];have:a.tmps[t]?=some (.bool b):=by
  rw[Array.getD_eq_getD_getElem?]at hb;cases e:a.tmps[t]? with
  |none=>rw[e]at hb;simp[undef]at hb
  |some x=>rw[e]at hb;simpa using hb
 rw[this]
theorem xH(ho:guardOf o A=none)(hA:wo ops A a):Region.wanted o (yielded ops a.tmps)=true:=by
 unfold guardOf at ho;unfold Region.wanted;split at ho
 ·rename_i hg;simp[hg]
 ·rename_i g hg;split at ho
  ·rename_i bN;obtain⟨t,h1,h2⟩:=hA g (by simpa using bN);simp only[hg];rw[ru h1 h2];simp
  ·cases ho
theorem wo.put(h:wo ops A a){y:Value}(hs:∀t,d=some t→t<a.tmps.size)(hd:∀g∈A,∀t,(ops[g.1]?).bind (·.dst)=some t→d≠some t):wo ops A (a.put d y):=by
 intro g hg;obtain⟨t,h1,h2⟩:=h g hg;refine⟨t,h1,?_⟩;cases d with
 |none=>exact h2
 |some d=>rw[A4 (hs d rfl),if_neg fun e=>hd g hg t h1 (by rw[e])];exact h2
def Nv(ops:Array Oper)(f:Fr)(o:Oper):Prop:=∃g,o.guard=some g∧∀t,(ops[g.1]?).bind (·.dst)=some t→f t=.bj []∨f t=.pv (.bool (!g.2))
theorem Nx{P:Program}{x:Value}(h:af P μ φ (.bj []) x):x=undef:=by
 cases h with
 | @bj _ xs h1 _=>have:xs= #[]:=Array.eq_empty_of_size_eq_zero (by simpa using h1.symm);subst this;rfl
theorem A6{P:Program}:af P μ φ (.bj []) undef:=.bj rfl (by simp)
theorem uZ{w:World}(h:Rel E.P E.aD nt w0 μ φ f m a w)(hd:Nv ops f o):Region.wanted o (yielded ops a.tmps)=false:=by
 obtain⟨g,hg,ht⟩:=hd;simp only[Region.wanted,hg];cases hs:(ops[g.1]?).bind (·.dst)with
 |none=>simp[yielded,hs]
 |some t=>
  have hy:nt≤t→yielded ops a.tmps g.1=none:=fun hle=>by simp only[yielded,hs,Option.bind_some];rw[Array.getElem?_eq_none (by rw[h.size];exact hle)]
  by_cases Ch:nt≤t
  ·rw[hy Ch];rfl
  have bp:t<nt:=Nat.lt_of_not_le Ch;have h3:=h.fr t;rw[nP bp]at h3;rcases ht t hs with e|e
  ·rw[e]at h3;have h4:=Nx h3;have:yielded ops a.tmps g.1=none:=by
    simp only[yielded,hs,Option.bind_some];rw[Array.getD_eq_getD_getElem?]at h4;cases e:a.tmps[t]? with
    |none=>rfl
    |some x=>rw[e]at h4;simp only[Option.getD_some]at h4;subst h4;rfl
   rw[this];rfl
  ·rw[e]at h3;rw[ru hs (oc h3)];cases g.2<;>rfl
theorem ry{t:Nat}:∀{l:List (Nat×Oper)}{f:Fr},(∀x∈l,x.2.dst≠some t)→gp f l t=f t
 |[],_,_=>rfl
 |x::r,f,h=>by rw[gp,ry (fun y hy=>h y (by simp[hy])),dN (h x (by simp))]
theorem uj{t:Nat}:∀{l:List (Nat×Oper)}{f:Fr},(∀x∈l,x.2.dst≠some t)→kA f l t=f t
 |[],_,_=>rfl
 |x::r,f,h=>by rw[kA,uj (fun y hy=>h y (by simp[hy])),dN (h x (by simp))]
theorem xI{t:Nat}:∀{l:List (Nat×Oper)}{f:Fr},(f t=.top∨∃x∈l,x.2.dst=some t)→kA f l t=.top
 |[],_,h=>by
  rcases h with h|⟨x,hx,_⟩
  ·exact h
  ·cases hx
 |x::r,f,h=>by
  rw[kA];by_cases e:x.2.dst=some t
  ·exact xI (.inl (by rw[e,iE]))
  ·refine xI ?_;rcases h with h|⟨y,hy,hd⟩
   ·exact .inl (by rw[dN e];exact h)
   ·rcases List.mem_cons.1 hy with rfl|hy
    ·exact absurd hd e
    ·exact .inr ⟨y,hy,hd⟩
theorem uk{l:List (Nat×Oper)}{F:Fr}(h:∀t,(∀x∈l,x.2.dst≠some t)→f t=F t∨f t=.top):su (kA f l) F:=by
 intro t;by_cases e:∃x∈l,x.2.dst=some t
 ·exact .inr (xI (.inr e))
 ·have e':∀x∈l,x.2.dst≠some t:=fun x hx hd=>e ⟨x,hx,hd⟩;rw[uj e'];exact h t e'
theorem wq{g:Nat×Bool}{tj:Nat}(hj:(ops[g.1]?).bind (·.dst)=some tj):∀{l:List (Nat×Oper)}{done:List Nat}{f:Fr},sG g done l=true→(∀x∈l,ops[x.1]?=some x.2)→(∀x∈l,x.2.dst≠some tj)→f tj=.pv (.bool (!g.2))→(∀j∈done,∀t,(ops[j]?).bind (·.dst)=some t→f t=.bj [])→∀(pre post:List (Nat×Oper))(x:Nat×Oper),l=pre++x::post→Nv ops (gp f pre) x.2
 |[],_,_,_,_,_,_,_,pre,post,x,h=>by simp at h
 |y::r,done,f,hg,hl,hd,hb,Iy,pre,post,x,h=>by
  simp only[sG,Bool.and_eq_true]at hg;cases pre with
  |nil=>
   simp only[List.nil_append,List.cons.injEq]at h;obtain⟨rfl,rfl⟩:=h;rw[gp];have h1:=hg.1;split at h1
   ·rename_i hh P8;refine⟨hh,P8,fun t ht=>?_⟩;rcases Bool.or_eq_true_iff.1 h1 with h2|h2
    ·simp only[Bool.and_eq_true]at h2;have e1:=Nat.eq_of_beq_eq_true h2.1;have e2:hh.2=g.2:=by simpa using h2.2
     rw[e1]at ht;rw[hj]at ht;cases ht;exact .inr (by rw[e2];exact hb)
    ·exact .inl (Iy _ (by simpa using h2) t ht)
   ·cases h1
  |cons z pre=>
   simp only[List.cons_append,List.cons.injEq]at h;obtain⟨rfl,h⟩:=h;rw[gp];refine wq hj hg.2 (fun x hx=>hl x (by simp[hx])) (fun x hx=>hd x (by simp[hx])) (by rw[dN (hd y (by simp))];exact hb) (fun j hjm t ht=>?_) pre post x h;by_cases e:y.2.dst=some t
   ·rw[e,iE]
   ·rw[dN e];rcases List.mem_cons.1 hjm with rfl|hjm
    ·rw[hl y (by simp)]at ht;exact absurd ht e
    ·exact Iy j hjm t ht
theorem A7{A:List (Nat×Bool)}:∀{l a b:List (Nat×Oper)},yw A l=(a,b)→l=a++b
 |[],a,b,h=>by simp[yw]at h;obtain⟨rfl,rfl⟩:=h;rfl
 |x::r,a,b,h=>by
  simp only[yw]at h;split at h
  ·cases hs:yw A r with
   |mk a' b'=>rw[hs]at h;simp only[Prod.mk.injEq]at h;obtain⟨rfl,rfl⟩:=h;rw[A7 hs];rfl
  ·simp only[Prod.mk.injEq]at h;obtain⟨rfl,rfl⟩:=h;rfl
theorem wu{v:V}(h:uJ v=some b):v=.pv (.bool b):=by
 unfold uJ at h;split at h
 ·cases h;rfl
 ·cases h
theorem Uw(hE:iv E){site:Nat}{draw:Bool}{v:V}{f':Fr}{m':Mem}{ft:bl}(hn:draw=true∨∃c x y,o.op=.pick c x y)(h:∀(R':Type)(k':V→Fr→Mem→bl→Option R'),Fy E draw site o f m k'=k' v f' m' ft):rq E draw site o f m v f' m' ft:=by
 have hx:=D4 hE (h (V×Fr×Mem×bl) fun v f m ft=>some (v,f,m,ft));rcases hx with⟨v1,f1,m1,XQ,h1,h2⟩|⟨h1,h2,_⟩
 rotate_left
 ·rcases hn with hn|⟨c,x,y,hn⟩
  ·rw[hn]at h1;cases h1
  ·exact absurd hn (h2 c x y)
 simp only[Option.some.injEq,Prod.mk.injEq]at h1;obtain⟨rfl,rfl,rfl,rfl⟩:=h1;exact h2
theorem F3{R:Type}{site:Nat}{draw:Bool}{p:Oper}{c:Nat}{x y:Operand}{k:V→Fr→Mem→bl→Option R}(hp:p.op=.pick (.tmp c) x y)(hb:bA E f (.tmp c)=.pv (.bool b)):Fy E draw site p f m k=k (bA E f (if b then x else y)) f m []:=by
 have iS:vf E site p f m=none:=by simp only[vf,hp]
 unfold Fy;rw[iS];have e:(bif draw then none else bif E.yq site then(none:Option Sp)else none)=none:=by cases draw<;>cases E.yq site<;>rfl
 rw[e];simp only[cW,hp,hb];cases b<;>rfl
end
end Go.Ab
set_option linter.unusedVariables false
namespace Go.Ab
open Go.RowKit (Below)
section
variable {E:Env} {ops:Array Oper} {w0:bt}
theorem sW{rd:Option Nat}{Q:Exit→Act→World→Prop}{tail:List Nat}:∀(l:List (Nat×Oper))(f:Fr),(∀x∈l,ops[x.1]?=some x.2)→(∀x∈l,sH E x.2=true)→(∀(pre post:List (Nat×Oper))(x:Nat×Oper),l=pre++x::post→Nv ops (gp f pre) x.2)→∀{μ:Ro}{φ:Nat→aC}{m:Mem}{a:Act}{w:World},Rel E.P E.aD E.fn.ntmps w0 μ φ f m a w→∀(A:List (Nat×Bool)),wo ops A a→V1 ops A l→(∀a',Rel E.P E.aD E.fn.ntmps w0 μ φ (gp f l) m a' w→wo ops A a'→wpOpsIn (FR rd) 0 E.P ops Q tail a' w)→wpOpsIn (FR rd) 0 E.P ops Q (l.map (·.1)++tail) a w
 |[],f,_,_,_,_,_,_,a,_,hR,_,hA,_,hK=>hK a hR hA
 |x::r,f,hl,hd,A8,μ,φ,m,a,w,hR,A,hA,A9,hK=>by simp only[List.map_cons,List.cons_append,wpOpsIn];rw[hl x (by simp)];simp only;rw[uZ hR (A8 [] r x rfl)];simp only[Bool.false_eq_true,if_false];refine And.intro (fun _ _=>trivial) (sW r (gF f x.2.dst (.bj [])) (fun y hy=>hl y (by simp[hy])) (fun y hy=>hd y (by simp[hy])) (fun pre post y h=>?_) (hR.put (fun _ _ h=>h) (gH (hd x (by simp))) hR.toau hR.jd A6 (fun id hid=>by simp[V.has,cq]at hid)) A (hA.put (fun t ht=>by rw[hR.size];exact gH (hd x (by simp)) t ht) fun g ny t ht=>A9 x (by simp) g ny t ht) (fun y hy=>A9 y (by simp[hy])) hK);have:=A8 (x::pre) post y (by rw[h];rfl);rwa[gp]at this
theorem vq:∀{ft:bl},v7 ft=true→∀x∈ft,x.1=false
 |[],_,x,hx=>by cases hx
 |(w,id)::r,h,x,hx=>by
  simp only[v7,Bool.and_eq_true,Bool.not_eq_true']at h;rcases List.mem_cons.1 hx with rfl|hx
  ·exact h.1
  ·exact vq h.2 x hx
theorem gk(hE:iv E){rd:Option Nat}(hY:qv E.P E.aD E.fn.ntmps E.yl w0):∀(fuel:Nat){mode:Nat}(gZ:mode=0∨mode=3){R:Type}{A:List (Nat×Bool)}{l:List (Nat×Oper)}{f:Fr}{m:Mem}{lg:Log}{k:Fr→Mem→Option R}{r:R},cp E ops mode fuel R A l f m lg k=some r→(∀x∈l,ops[x.1]?=some x.2)→V1 ops A l→(mode=3→∀x∈l,eV x.2=true)→∀(μ:Ro)(φ:Nat→aC)(a:Act)(w:World)(Q:Exit→Act→World→Prop)(tail:List Nat),Rel E.P E.aD E.fn.ntmps w0 μ φ f m a w→wo ops A a→(∀(f':Fr)(m':Mem)(μ':Ro)(φ':Nat→aC)(a':Act)(w':World),k f' m'=some r→Rel E.P E.aD E.fn.ntmps w0 μ' φ' f' m' a' w'→wo ops A a'→(mode=3→m'=m∧∀t,(∀x∈l,x.2.dst≠some t)→f' t=f t)→wpOpsIn (FR rd) 0 E.P ops Q tail a' w')→wpOpsIn (FR rd) 0 E.P ops Q (l.map (·.1)++tail) a w
 |0,_,_,_,_,_,_,_,_,_,_,h,_,_,_,_,_,_,_,_,_,_,_,_=>by simp[cp]at h
 |fuel+1,mode,gZ,R,A,[],f,m,lg,k,r,h,_,_,_,μ,φ,a,w,Q,tail,hR,hA,hK=>by simp only[cp]at h;exact hK f m μ φ a w h hR hA fun _=>⟨rfl,fun _ _=>rfl⟩
 |fuel+1,mode,gZ,R,A,(i,o)::rest,f,m,lg,k,r,h,hl,A9,OZ,μ,φ,a,w,Q,tail,hR,hA,hK=>by
  simp only[cp]at h;split at h
  ·rename_i hg;split at h
   ·rename_i hd;have LN:Nat.beq mode 2=false:=by rcases gZ with rfl|rfl<;>rfl
    simp only[LN,cond_false]at h;rw[←LN]at h;have Y4:=xG h;rcases D4 hE h with⟨v,f1,m1,ft,hk,Ny⟩|⟨_,px⟩
    rotate_left
    ·simp only[List.map_cons,List.cons_append,wpOpsIn];rw[hl (i,o) (by simp)];simp only;rw[xH hg hA,if_pos rfl];refine A3.vp px rd w0 μ φ a w _ Q hY hR fun v f1 m1 y w' μ' φ' hk hle hM hF hv DO=>?_;have cN:Nat.beq mode 2=false:=by rcases gZ with rfl|rfl<;>rfl
     rw[cN]at hk;simp only[Bool.false_eq_true,if_false]at hk;rcases gZ with rfl|rfl
     ·simp only[Nat.beq,if_true]at hk;exact gk hE hY fuel (.inl rfl) hk (fun x hx=>hl x (by simp[hx])) (fun x hx=>A9 x (by simp[hx])) (fun hm x hx=>OZ hm x (by simp[hx])) _ _ _ _ Q tail (hR.put hle (gH hd) hM hF hv DO) (hA.put (fun t ht=>by rw[hR.size];exact gH hd t ht) fun g ny t ht=>A9 (i,o) (by simp) g ny t ht) fun f' m' μ2 φ2 a' w2 mM gW sx l0=>hK f' m' μ2 φ2 a' w2 mM gW sx fun h=>by cases h
     ·simp[Nat.beq,v7]at hk
    have cN:Nat.beq mode 2=false:=by rcases gZ with rfl|rfl<;>rfl
    rw[cN]at hk;simp only[Bool.false_eq_true,if_false]at hk;have hq:(mode=3→f1=f∧m1=m)∧cp E ops mode fuel R A rest (gF f1 o.dst v) m1 lg k=some r:=by
     rcases gZ with rfl|rfl
     ·simp only[Nat.beq,if_true]at hk;exact⟨fun h=>(by cases h),hk⟩
     ·simp only[Nat.beq,Bool.false_eq_true,if_false]at hk;split at hk
      ·rename_i hqf;exact⟨fun h=>Ny.same (OZ rfl (i,o) (by simp)) (vq hqf),hk⟩
      ·cases hk
    obtain⟨P9,hk⟩:=hq;simp only[List.map_cons,List.cons_append,wpOpsIn];rw[hl (i,o) (by simp)];simp only;rw[xH hg hA,if_pos rfl];refine Ny.vp Y4 rd w0 μ φ a w _ Q hR fun y w' μ' φ' hle hM hF hv DO=>?_;refine gk hE hY fuel gZ hk (fun x hx=>hl x (by simp[hx])) (fun x hx=>A9 x (by simp[hx])) (fun hm x hx=>OZ hm x (by simp[hx])) _ _ _ _ Q tail (hR.put hle (gH hd) hM hF hv DO) (hA.put (fun t ht=>by rw[hR.size];exact gH hd t ht) fun g ny t ht=>A9 (i,o) (by simp) g ny t ht) fun f' m' μ2 φ2 a' w2 mM gW sx l0=>?_;refine hK f' m' μ2 φ2 a' w2 mM gW sx fun Ux=>?_;obtain⟨e1,e2⟩:=P9 Ux;obtain⟨e3,e4⟩:=l0 Ux;refine⟨by rw[e3,e2],fun t ht=>?_⟩;rw[e4 t fun x hx=>ht x (by simp[hx]),dN (ht (i,o) (by simp)),e1]
   ·cases h
  ·rename_i j xt hg;split at h
   ·rename_i tj O0;split at h
    ·rename_i b hb;have Qa:tj<E.fn.ntmps:=by
      simp only[bA]at hb;cases e:Nat.blt tj E.fn.ntmps with
      |true=>rwa[Nat.blt_eq]at e
      |false=>rw[e]at hb;cases hb
     have Y9:f tj=.pv (.bool b):=by simp only[bA]at hb;rw[show Nat.blt tj E.fn.ntmps=true by rw[Nat.blt_eq];exact Qa]at hb;exact hb
     have hba:a.tmps.getD tj undef=.bool b:=by have:=(ak hR (.tmp tj)).1;rw[hb]at this;exact oc this
     generalize iS:yw A ((i,o)::rest)=sp at h;obtain⟨body,FA⟩:=sp;have kN:=A7 iS;simp only at h;split at h
     ·rename_i Uy;split at h
      ·rename_i hc;simp only[Bool.and_eq_true,List.all_eq_true,Bool.not_eq_true',beq_eq_false_iff_ne,ne_eq]at hc Uy;obtain⟨⟨DS,Qb⟩,Uz⟩:=hc;have Za:mode=0:=Nat.eq_of_beq_eq_true Uy.1;subst Za;have bN:∀z∈body,z∈(i,o)::rest:=fun z hz=>by rw[kN];simp[hz]
       have sf:∀z∈FA,z∈(i,o)::rest:=fun z hz=>by rw[kN];simp[hz]
       by_cases Nz:b=xt
       ·have:Pl xt b=true:=by subst Nz;cases b<;>rfl
        rw[this]at h;simp only[cond]at h;have V2:fg f tj (.pv (.bool xt))=f:=funext fun t=>by
         unfold fg;cases e:Nat.beq t tj with
         |false=>rfl
         |true=>rw[Nat.eq_of_beq_eq_true e];simp only[cond];rw[←Nz];exact Y9.symm
        rw[V2]at h;refine gk hE hY fuel gZ h hl (fun z hz g ny t ht=>?_) (fun h=>by cases h) _ _ _ _ Q tail hR (fun g ny=>?_) fun f' m' μ2 φ2 a' w2 mM gW sx l0=>hK f' m' μ2 φ2 a' w2 mM gW (fun g ny=>sx g (by simp[ny])) fun h=>by cases h
        ·rcases List.mem_cons.1 ny with rfl|ny
         ·simp only[O0]at ht;cases ht;exact Uz z hz
         ·exact A9 z hz g ny t ht
        ·rcases List.mem_cons.1 ny with rfl|ny
         ·exact⟨tj,O0,by rw[hba,Nz]⟩
         ·exact hA g ny
       ·have:Pl xt b=false:=by cases b<;>cases xt<;>first|rfl|exact absurd rfl Nz
        rw[this]at h;simp only[cond]at h;have hbn:b= !xt:=by cases b<;>cases xt<;>first|rfl|exact absurd rfl Nz
        have V2:fg f tj (.pv (.bool !xt))=f:=funext fun t=>by
         unfold fg;cases e:Nat.beq t tj with
         |false=>rfl
         |true=>rw[Nat.eq_of_beq_eq_true e];simp only[cond];rw[←hbn];exact Y9.symm
        rw[V2]at h;rw[kN,List.map_append,List.append_assoc];refine sW body f (fun z hz=>hl z (bN z hz)) DS (wq O0 Qb (fun z hz=>hl z (bN z hz)) (fun z hz=>Uz z (bN z hz)) (by rw[Y9,hbn]) (by simp)) hR A hA (fun z hz g ny t ht=>A9 z (bN z hz) g ny t ht) fun a' gW sx=>?_
        ·refine gk hE hY fuel gZ h (fun z hz=>hl z (sf z hz)) (fun z hz=>A9 z (sf z hz)) (fun h=>by cases h) _ _ _ _ Q tail gW sx fun f' m' μ2 φ2 a' w2 mM gW sx l0=>hK f' m' μ2 φ2 a' w2 mM gW sx fun h=>by cases h
      ·cases h
     ·split at h
      ·rename_i ip p kB;split at h
       ·rename_i c x y IB;split at h
        ·rename_i hc;simp only[Bool.and_eq_true,List.all_eq_true,Bool.not_eq_true',beq_eq_false_iff_ne,ne_eq]at hc;obtain⟨⟨⟨⟨⟨⟨IC,V3⟩,u7⟩,Qb⟩,_⟩,hpd⟩,_⟩:=hc;have IC:=Nat.eq_of_beq_eq_true IC;subst IC;have V3:guardOf p A=none:=by simpa using V3
         obtain⟨rb,HS,h⟩:=Option.bind_eq_some_iff.1 h;have bN:∀z∈body,z∈(i,o)::rest:=fun z hz=>by rw[kN];simp[hz]
         have sf:∀z∈kB,z∈(i,o)::rest:=fun z hz=>by rw[kN];simp[hz]
         have F4:(ip,p)∈(i,o)::rest:=by rw[kN];simp
         rw[kN,List.map_append,List.append_assoc];have after:∀(f1:Fr)(μ1:Ro)(φ1:Nat→aC)(a1:Act)(w1:World)(q:Operand),Rel E.P E.aD E.fn.ntmps w0 μ1 φ1 f1 m a1 w1→wo ops A a1→(∀t,(∀z∈body,z.2.dst≠some t)→f1 t=f t)→bA E f1 q=.pv (.bool rb)→(q=if b then x else y)→wpOpsIn (FR rd) 0 E.P ops Q (((ip,p)::kB).map (·.1)++tail) a1 w1:=by
          intro f1 μ1 φ1 a1 w1 q ID Zb V4 hq hqe;have Sq:bA E f1 (.tmp c)=.pv (.bool b):=by simp only[bA];rw[show Nat.blt c E.fn.ntmps=true by rw[Nat.blt_eq];exact Qa];show f1 c=_;rw[V4 c fun z hz=>(u7 z hz).2];exact Y9
          simp only[List.map_cons,List.cons_append,wpOpsIn];rw[hl (ip,p) F4];simp only;rw[xH V3 Zb,if_pos rfl];have Ny:rq E (Nat.beq mode 1||Nat.beq mode 2) (cE E p.dst) p f1 m (.pv (.bool rb)) f1 m []:=Uw hE (.inr ⟨_,_,_,IB⟩) fun R' k'=>by rw[F3 IB Sq,←hqe,hq]
          refine Ny.vp (fun c h=>by rw[IB]at h;cases h) rd w0 μ1 φ1 a1 w1 _ Q ID fun z w' μ' φ' l0 hM hF hv DO=>?_;have hle:su (gF (kA f body) p.dst (.pv (.bool rb))) (gF f1 p.dst (.pv (.bool rb))):=su.put (uk fun t ht=>.inl (V4 t ht).symm) _ _;refine gk hE hY fuel gZ h (fun z hz=>hl z (sf z hz)) (fun z hz=>A9 z (sf z hz)) (fun hm z hz=>OZ hm z (sf z hz)) _ _ _ _ Q tail ((ID.put l0 (gH hpd) hM hF hv DO).weaken hle) (Zb.put (fun t ht=>by rw[ID.size];exact gH hpd t ht) fun g ny t ht=>A9 (ip,p) F4 g ny t ht) fun f' m' μ2 φ2 a' w2 mM gW sx l0=>?_;refine hK f' m' μ2 φ2 a' w2 mM gW sx fun Ux=>?_;obtain⟨e3,e4⟩:=l0 Ux;refine⟨e3,fun t ht=>?_⟩;rw[e4 t fun z hz=>ht z (sf z hz),dN (ht (ip,p) F4),uj fun z hz=>ht z (bN z hz)]
         have go:∀q,b=xt→(q=if b then x else y)→cp E ops 3 fuel Bool ((j,xt)::A) body f m lg (fun f _=>uJ (bA E f q))=some rb→wpOpsIn (FR rd) 0 E.P ops Q (body.map (·.1)++(((ip,p)::kB).map (·.1)++tail)) a w:=by
          intro q Nz hq Te;refine gk hE hY fuel (.inr rfl) Te (fun z hz=>hl z (bN z hz)) ?_ (fun _ z hz=>(u7 z hz).1.1) _ _ _ _ Q _ hR ?_ fun f' m' μ2 φ2 a' w2 mM gW sx l0=>?_
          ·intro z hz g ny t ht;rcases List.mem_cons.1 ny with rfl|ny
           ·simp only[O0]at ht;cases ht;exact(u7 z hz).2
           ·exact A9 z (bN z hz) g ny t ht
          ·intro g ny;rcases List.mem_cons.1 ny with rfl|ny
           ·exact⟨c,O0,by rw[hba,Nz]⟩
           ·exact hA g ny
          ·obtain⟨e1,e2⟩:=l0 rfl;subst e1;exact after f' μ2 φ2 a' w2 q gW (fun g ny=>sx g (by simp[ny])) e2 (wu mM) hq
         have no:∀q,b= !xt→(q=if b then x else y)→uJ (bA E (kA f body) q)=some rb→wpOpsIn (FR rd) 0 E.P ops Q (body.map (·.1)++(((ip,p)::kB).map (·.1)++tail)) a w:=by
          intro q Nz hq Te;refine sW body f (fun z hz=>hl z (bN z hz)) (fun z hz=>(u7 z hz).1.2) (wq O0 Qb (fun z hz=>hl z (bN z hz)) (fun z hz=>(u7 z hz).2) (by rw[Y9,Nz]) (by simp)) hR A hA (fun z hz g ny t ht=>A9 z (bN z hz) g ny t ht) fun a' gW sx=>?_;refine after _ μ φ a' w q gW sx (fun t ht=>ry ht) ?_ hq;have hv:=wu Te;cases q with
          |tmp t=>
           simp only[bA]at hv⊢;have hle:su (kA f body) (gp f body):=uk fun t ht=>.inl (ry ht).symm;cases e:Nat.blt t E.fn.ntmps with
           |false=>rw[e]at hv;cases hv
           |true=>
            rw[e]at hv;simp only[cond]at hv⊢;rcases hle t with e|e
            ·rw[←e];exact hv
            ·rw[e]at hv;cases hv
          |_=>exact hv
         have Zc:(bif Nat.beq mode 0 then 3 else mode)=3:=by rcases gZ with rfl|rfl<;>rfl
         rw[Zc]at HS;cases xt<;>cases b<;>simp only[cond]at HS
         ·exact go y rfl rfl HS
         ·exact no x rfl rfl HS
         ·exact no y rfl rfl HS
         ·exact go x rfl rfl HS
        ·cases h
       ·cases h
      ·cases h
    ·cases h
   ·cases h
end
end Go.Ab
set_option linter.unusedVariables false
namespace Go.Ab
open Go.RowKit (Below)
structure Rec where
 i:Nat
 o:Oper
 v:V
 wr:List (Nat×bI)
 ft:bl
 kl:Kl
def Rec.fs(r:Rec)(f:Fr):Fr:=gF (kf r.kl f) r.o.dst r.v
def Rec.ms(r:Rec)(m:Mem):Mem:=qm r.wr (km r.kl m)
def Rec.CZ(r:Rec)(id:Nat):Prop:=∃b,(b,id)∈r.kl
def kx(f:Fr):List Rec→Fr
 |[]=>f
 |r::l=>kx (r.fs f) l
def ng(m:Mem):List Rec→Mem
 |[]=>m
 |r::l=>ng (r.ms m) l
def mj(S:Nat→Bool)(f:Fr):List Rec→Fr
 |[]=>f
 |r::l=>mj S (bif S r.i then r.fs f else f) l
def ml(S:Nat→Bool)(m:Mem):List Rec→Mem
 |[]=>m
 |r::l=>ml S (bif S r.i then r.ms m else m) l
theorem Ba:∀{wr:List (Nat×bI)}{m:Mem}{j:Nat},(∀b,(j,b)∉wr)→qm wr m j=m j
 |[],_,_,_=>rfl
 |(id,b)::r,m,j,h=>by rw[qm,Ba fun b' hb=>h b' (by simp[hb])];exact an fun e=>h b (by simp[e])
theorem Qc:∀{wr:List (Nat×bI)}{j:Nat},(∃b,(j,b)∈wr)→∃b',(j,b')∈wr∧∀m:Mem,qm wr m j=some b'
 |[],_,h=>by obtain⟨b,hb⟩:=h;cases hb
 |(id,b)::r,j,h=>by
  by_cases hr:∃b,(j,b)∈r
  ·obtain⟨b',h1,h2⟩:=Qc hr;exact⟨b',by simp[h1],fun m=>h2 _⟩
  ·obtain⟨b0,hb⟩:=h;rcases List.mem_cons.1 hb with hb|hb
   ·simp only[Prod.mk.injEq]at hb;obtain⟨rfl,rfl⟩:=hb;refine⟨b0,by simp,fun m=>?_⟩;rw[qm,Ba fun b' fL=>hr ⟨b',fL⟩];simp
   ·exact absurd ⟨b0,hb⟩ hr
mutual
theorem F5{id:Nat}:∀{v:V},v.sq id=true→v.has id=true
 |.agg cs,h=>rz (cs:=cs) (by simpa[V.sq]using h)
 |.bj cs,h=>rz (cs:=cs) (by simpa[V.sq]using h)
 |.fn _ cs,h=>rz (cs:=cs) (by simpa[V.sq]using h)
 |.sD _ _ _,h=>h
 |.vU _ _ _ _ _ _,h=>h
 |.pv _,h=>by cases h
 |.ba,h=>by cases h
 |.op _ _,h=>by cases h
 |.oe _ _ _,h=>by cases h
 |.os _,h=>by cases h
 |.ff _ _ _,h=>by cases h
 |.om _,h=>by cases h
 |.yl _,h=>by cases h
 |.it _,h=>by cases h
 |.top,h=>by cases h
theorem rz{id:Nat}:∀{cs:List V},vV id cs=true→cq id cs=true
 |[],h=>by cases h
 |c::r,h=>by
  simp only[vV,Bool.or_eq_true]at h;simp only[cq,Bool.or_eq_true];rcases h with h|h
  ·exact .inl (F5 h)
  ·exact .inr (rz h)
end
variable{id:Nat}
theorem yR{v:V}(h:v.has id=false):pk id v=v:=by unfold pk;rw[h];rfl
theorem yS{id:Nat}:∀{cs:List V},cq id cs=false→cs.map (pk id)=cs
 |[],_=>rfl
 |c::r,h=>by simp only[cq,Bool.or_eq_false_iff]at h;simp only[List.map_cons,yR h.1,yS h.2]
theorem F6{b:bI}(h:b.names id=false):fF id b=b:=by
 cases b with
 |box cs=>simp only[fF,yS (show cq id cs=false from h)]
 |_=>rfl
theorem wv{v:V}(h:v.has id=false):lK id v=v:=by
 unfold lK;cases h2:v.sq id with
 |false=>rfl
 |true=>rw[F5 h2]at h;cases h
theorem wx{id:Nat}:∀{cs:List V},cq id cs=false→cs.map (lK id)=cs
 |[],_=>rfl
 |c::r,h=>by simp only[cq,Bool.or_eq_false_iff]at h;simp only[List.map_cons,wv h.1,wx h.2]
theorem D5{b:bI}(h:b.names id=false):dL id b=b:=by
 cases b with
 |box cs=>simp only[dL,wx (show cq id cs=false from h)]
 |_=>rfl
theorem Bb:∀{kl:Kl}{f:Fr}{t:Nat},(∀id,(∃b,(b,id)∈kl)→(f t).has id=false)→kf kl f t=f t
 |[],_,_,_=>rfl
 |(true,id)::r,f,t,h=>by have h0:eO id f t=f t:=yR (h id ⟨true,by simp⟩);rw[kf,Bb (kl:=r) (f:=eO id f) fun j hj=>by rw[h0];exact h j (let⟨b,hb⟩:=hj;⟨b,by simp[hb]⟩),h0]
 |(false,id)::r,f,t,h=>by have h0:gb id f t=f t:=wv (h id ⟨false,by simp⟩);rw[kf,Bb (kl:=r) (f:=gb id f) fun j hj=>by rw[h0];exact h j (let⟨b,hb⟩:=hj;⟨b,by simp[hb]⟩),h0]
theorem wy:∀{kl:Kl}{f g:Fr}{t:Nat},f t=g t→kf kl f t=kf kl g t
 |[],_,_,_,h=>h
 |(true,id)::r,f,g,t,h=>wy (kl:=r) (f:=eO id f) (g:=eO id g) (by simp only[eO,h])
 |(false,id)::r,f,g,t,h=>wy (kl:=r) (f:=gb id f) (g:=gb id g) (by simp only[gb,h])
theorem Bc:∀{kl:Kl}{m:Mem}{j:Nat},(∀id,(∃b,(b,id)∈kl)→j≠id∧∀b,m j=some b→b.names id=false)→km kl m j=m j
 |[],_,_,_=>rfl
 |(true,id)::r,m,j,h=>by
  obtain⟨h1,h2⟩:=h id ⟨true,by simp⟩;have h0:aX (bB id m) id j=m j:=by
   rw[eP h1];unfold bB;cases hm:m j with
   |none=>rfl
   |some b=>simp only[F6 (h2 b hm)]
  rw[km,Bc (kl:=r) (m:=aX (bB id m) id) fun i hi=>by rw[h0];exact h i (let⟨b,hb⟩:=hi;⟨b,by simp[hb]⟩),h0]
 |(false,id)::r,m,j,h=>by
  obtain⟨h1,h2⟩:=h id ⟨false,by simp⟩;have h0:eS id m j=m j:=by
   unfold eS;cases hm:m j with
   |none=>rfl
   |some b=>simp only[D5 (h2 b hm)]
  rw[km,Bc (kl:=r) (m:=eS id m) fun i hi=>by rw[h0];exact h i (let⟨b,hb⟩:=hi;⟨b,by simp[hb]⟩),h0]
theorem Bd:∀{kl:Kl}{m n:Mem}{j:Nat},m j=n j→km kl m j=km kl n j
 |[],_,_,_,h=>h
 |(true,id)::r,m,n,j,h=>Bd (kl:=r) (m:=aX (bB id m) id) (n:=aX (bB id n) id) (by
  by_cases e:j=id
  ·subst e;simp
  ·rw[eP e,eP e];simp only[bB,h])
 |(false,id)::r,m,n,j,h=>Bd (kl:=r) (m:=eS id m) (n:=eS id n) (by simp only[eS,h])
variable{r:Rec}
theorem Rec.F7{f:Fr}{t:Nat}(h:r.o.dst=some t):r.fs f t=r.v:=by unfold Rec.fs;rw[h,iE]
theorem Rec.LP{f:Fr}{t:Nat}(h:r.o.dst≠some t)(hc:∀id,r.CZ id→(f t).has id=false):r.fs f t=f t:=by unfold Rec.fs;rw[dN h];exact Bb hc
theorem Rec.Be{f g:Fr}{t:Nat}(h:f t=g t):r.fs f t=r.fs g t:=by
 by_cases e:r.o.dst=some t
 ·rw[F7 e,F7 e]
 ·unfold Rec.fs;rw[dN e,dN e];exact wy h
theorem Rec.UA{j:Nat}(h:∃b,(j,b)∈r.wr):∃b',(j,b')∈r.wr∧∀m,r.ms m j=some b':=let⟨b',h1,h2⟩:=Qc h;⟨b',h1,fun m=>h2 _⟩
theorem Rec.Qd{m:Mem}{j:Nat}(h:∀b,(j,b)∉r.wr)(hc:∀id,r.CZ id→j≠id∧∀b,m j=some b→b.names id=false):r.ms m j=m j:=by unfold Rec.ms;rw[Ba h];exact Bc hc
theorem Rec.Bf{m n:Mem}{j:Nat}(h:m j=n j):r.ms m j=r.ms n j:=by
 by_cases e:∃b,(j,b)∈r.wr
 ·obtain⟨b,_,e⟩:=Rec.UA e;rw[e,e]
 ·have e':∀b,(j,b)∉r.wr:=fun b hb=>e ⟨b,hb⟩;unfold Rec.ms;rw[Ba e',Ba e'];exact Bd h
section
variable {S S':Nat→Bool}
theorem F8{f:Fr}:∀{l l':List Rec},kx f (l++l')=kx (kx f l) l':=by
 intro l;induction l generalizing f with
 |nil=>intro l';rfl
 |cons r l ih=>intro l';exact ih
theorem F9{m:Mem}:∀{l l':List Rec},ng m (l++l')=ng (ng m l) l':=by
 intro l;induction l generalizing m with
 |nil=>intro l';rfl
 |cons r l ih=>intro l';exact ih
theorem sX{f:Fr}:∀{l l':List Rec},mj S f (l++l')=mj S (mj S f l) l':=by
 intro l;induction l generalizing f with
 |nil=>intro l';rfl
 |cons r l ih=>intro l';exact ih
theorem sY{m:Mem}:∀{l l':List Rec},ml S m (l++l')=ml S (ml S m l) l':=by
 intro l;induction l generalizing m with
 |nil=>intro l';rfl
 |cons r l ih=>intro l';exact ih
theorem C0{t:Nat}:∀{l:List Rec}{f:Fr},(∀q∈l,q.o.dst≠some t∧q.kl=[])→kx f l t=f t
 |[],_,_=>rfl
 |r::l,f,h=>by rw[kx,C0 fun q hq=>h q (by simp[hq])];obtain⟨h1,h2⟩:=h r (by simp);exact Rec.LP h1 fun id⟨b,hid⟩=>by rw[h2]at hid;cases hid
theorem nA{t:Nat}:∀{l:List Rec}{f:Fr},(∀q∈l,S q.i=true→q.o.dst≠some t∧∀id,q.CZ id→(f t).has id=false)→mj S f l t=f t
 |[],_,_=>rfl
 |r::l,f,h=>by
  have h0:(bif S r.i then r.fs f else f) t=f t:=by
   cases e:S r.i with
   |false=>rfl
   |true=>obtain⟨h1,h2⟩:=h r (by simp) e;exact Rec.LP h1 h2
  rw[mj,nA fun q hq hs=>by rw[h0];exact h q (by simp[hq]) hs,h0]
theorem Bg{t:Nat}:∀{l:List Rec}{f g:Fr},f t=g t→(∀q∈l,S q.i=false→q.o.dst≠some t∧q.kl=[])→mj S f l t=kx g l t
 |[],_,_,h,_=>h
 |r::l,f,g,h,hs=>by
  rw[mj,kx];refine Bg ?_ fun q hq=>hs q (by simp[hq]);cases e:S r.i with
  |true=>exact Rec.Be h
  |false=>obtain⟨h1,h2⟩:=hs r (by simp) e;rw[Rec.LP h1 fun id⟨b,hid⟩=>by rw[h2]at hid;cases hid];exact h
theorem vt{t:Nat}:∀{l:List Rec}{f g:Fr},f t=g t→(∀q∈l,S q.i=S' q.i)→mj S f l t=mj S' g l t
 |[],_,_,h,_=>h
 |r::l,f,g,h,hs=>by
  rw[mj,mj];refine vt ?_ fun q hq=>hs q (by simp[hq]);rw[hs r (by simp)];cases S' r.i
  ·exact h
  ·exact Rec.Be h
theorem nB{j:Nat}:∀{l:List Rec}{m:Mem},(∀q∈l,S q.i=true→(∀b,(j,b)∉q.wr)∧∀id,q.CZ id→j≠id∧∀b,m j=some b→b.names id=false)→ml S m l j=m j
 |[],_,_=>rfl
 |r::l,m,h=>by
  have h0:(bif S r.i then r.ms m else m) j=m j:=by
   cases e:S r.i with
   |false=>rfl
   |true=>obtain⟨h1,h2⟩:=h r (by simp) e;exact Rec.Qd h1 h2
  rw[ml,nB fun q hq hs=>by rw[h0];exact h q (by simp[hq]) hs,h0]
theorem Bh{j:Nat}:∀{l:List Rec}{m n:Mem},m j=n j→(∀q∈l,S q.i=false→(∀b,(j,b)∉q.wr)∧q.kl=[])→ml S m l j=ng n l j
 |[],_,_,h,_=>h
 |r::l,m,n,h,hs=>by
  rw[ml,ng];refine Bh ?_ fun q hq=>hs q (by simp[hq]);cases e:S r.i with
  |true=>exact Rec.Bf h
  |false=>obtain⟨h1,h2⟩:=hs r (by simp) e;rw[Rec.Qd h1 fun id⟨b,hid⟩=>by rw[h2]at hid;cases hid];exact h
theorem vu{j:Nat}:∀{l:List Rec}{m n:Mem},m j=n j→(∀q∈l,S q.i=S' q.i)→ml S m l j=ml S' n l j
 |[],_,_,h,_=>h
 |r::l,m,n,h,hs=>by
  rw[ml,ml];refine vu ?_ fun q hq=>hs q (by simp[hq]);rw[hs r (by simp)];cases S' r.i
  ·exact h
  ·exact Rec.Bf h
end
section
variable {E:Env} {ops:Array Oper} {w0:bt}
def C1(E:Env)(ops:Array Oper)(w0:bt)(r:Rec)(f:Fr)(m:Mem):Prop:=∀(f2:Fr)(m2:Mem),(∀t∈r.o.looksAt ops,f2 t=f t)→(∀x∈r.ft,m2 x.2=m x.2)→∀(μ:Ro)(φ:Nat→aC)(a:Act)(w:World)(K:Act→World→Prop)(Q:Exit→Act→World→Prop),Rel E.P E.aD E.fn.ntmps w0 μ φ f2 m2 a w→(∀μ' φ' a' w',Rel E.P E.aD E.fn.ntmps w0 μ' φ' (r.fs f2) (r.ms m2) a' w'→K a' w')→if Region.wanted r.o (yielded ops a.tmps)then∀rd:Option Nat,r.o.wpIn (FR rd) 0 E.P a w K Q else K (a.put r.o.dst undef) w
def fj(E:Env)(ops:Array Oper)(w0:bt):Fr→Mem→List Rec→Prop
 |_,_,[]=>True
 |f,m,r::l=>C1 E ops w0 r f m∧(∀id b,(id,b)∈r.wr→(true,id)∈r.ft)∧fj E ops w0 (r.fs f) (r.ms m) l
theorem fj.append{f:Fr}{m:Mem}{l l':List Rec}:fj E ops w0 f m (l++l')↔fj E ops w0 f m l∧fj E ops w0 (kx f l) (ng m l) l':=by
 induction l generalizing f m with
 |nil=>simp[fj,kx,ng]
 |cons r l ih=>simp only[List.cons_append,fj,kx,ng,ih,and_assoc]
def Clean(ops:Array Oper)(id:Nat)(r:Rec)(f:Fr)(m:Mem):Prop:=(∀t∈r.o.looksAt ops,(f t).has id=false)∧r.v.has id=false∧(∀x∈r.ft,x.2≠id∧∀b,m x.2=some b→b.names id=false)∧∀j b,(j,b)∈r.wr→(∀m,r.ms m j=some b)→j≠id∧b.names id=false
def l8(ops:Array Oper):Fr→Mem→List Rec→Prop
 |_,_,[]=>True
 |f,m,r::l=>(∀q∈l,∀id,q.CZ id→reach ops 4 q.o r.i=true∨Clean ops id r f m)∧l8 ops (r.fs f) (r.ms m) l
theorem l8.append{f:Fr}{m:Mem}{l l':List Rec}(h:l8 ops f m (l++l')):l8 ops (kx f l) (ng m l) l':=by
 induction l generalizing f m with
 |nil=>exact h
 |cons r l ih=>exact ih h.2
def Ord(ops:Array Oper)(q r:Rec):Prop:=reach ops 4 r.o q.i=true∨(q.o.apart ops r.o=true∧(∀id b,(id,b)∈q.wr→∀x∈r.ft,x.2≠id)∧∀id b,(id,b)∈r.wr→∀x∈q.ft,x.2≠id)
theorem NA{o:Oper}{j:Nat}(h:Aj o j=true):∃e∈o.after,Region.binds .any e=true∧e.on=j:=by unfold Aj at h;obtain⟨e,he,h⟩:=List.any_eq_true.1 h;have he:e∈o.after:=Array.mem_toList_iff.1 he;simp only[Bool.and_eq_true]at h;exact⟨e,he,h.1,Nat.eq_of_beq_eq_true h.2⟩
abbrev aw(l:Array Bool):Nat→Bool:=fun i=>l.getD i false
def vv(ops:Array Oper)(ag:Array Bool):Prop:=∀i o,ops[i]?=some o→aw ag i=true→∀e∈o.after,Region.binds .any e=true→aw ag e.on=true
theorem oh(ag:Array Bool)(se:vv ops ag):∀(n:Nat)(o:Oper)(j:Nat),(∀e∈o.after,Region.binds .any e=true→aw ag e.on=true)→reach ops n o j=true→aw ag j=true:=by
 have Zd:∀(o:Oper)(j:Nat),(∀e∈o.after,Region.binds .any e=true→aw ag e.on=true)→Aj o j=true→aw ag j=true:=fun o j ho h=>by obtain⟨e,he,hb,hon⟩:=NA h;have:=ho e he hb;rw[hon]at this;exact this
 intro n;induction n with
 |zero=>exact fun o j ho h=>Zd o j ho h
 |succ n ihn=>
  intro o j ho h;simp only[reach,Bool.or_eq_true]at h;rcases h with h|h
  ·exact Zd o j ho h
  ·obtain⟨e,he,h⟩:=List.any_eq_true.1 h;simp only[Bool.and_eq_true]at h;obtain⟨hb,h⟩:=h;have he:e∈o.after:=Array.mem_toList_iff.1 he;split at h
   ·rename_i p hp;exact ihn p j (se e.on p hp (ho e he hb)) h
   ·cases h
theorem Qe{rd:Option Nat}{recs:List Rec}{f0:Fr}{m0:Mem}{Q:Exit→Act→World→Prop}{base:Nat→Bool}(bp:recs.Pairwise fun q r=>q.i<r.i)(px:∀r∈recs,ops[r.i]?=some r.o)(Qf:∀r∈recs,base r.i=false)(Qg:∀i o,ops[i]?=some o→base i=false→(∀r∈recs,r.i≠i)→(∀r∈recs,reach ops 8 o r.i=true)∨∃j,reach ops 8 o j=true∧base j=false∧∀r∈recs,r.i≠j)(Ze:recs.Pairwise (Ord ops))(ky:recs.Pairwise fun q r=>q.kl≠[]→reach ops 4 r.o q.i=true)(adr:l8 ops f0 m0 recs)(LQ:∀r∈recs,∀e∈r.o.after,Region.binds .any e=true→e.on<r.i∧(base e.on=true∨∃q∈recs,q.i=e.on))(vS:fj E ops w0 f0 m0 recs)(hQ:∀(fuel:Nat)(ag:Array Bool),ag.size=ops.size→ag.toList.countP (fun b=> !b)≤fuel→vv ops ag→(∀i,aw ag i=true↔base i=true∨∃r∈recs,r.i=i)→∀μ φ a w,Rel E.P E.aD E.fn.ntmps w0 μ φ (kx f0 recs) (ng m0 recs) a w→wpAnyIn (FR rd) 0 E.P .any ops Q fuel ag a w):∀(fuel:Nat)(ag:Array Bool),ag.size=ops.size→ag.toList.countP (fun b=> !b)≤fuel→vv ops ag→(∀i,base i=true→aw ag i=true)→(∀i,aw ag i=true→base i=true∨∃r∈recs,r.i=i)→∀(μ:Ro)(φ:Nat→aC)(a:Act)(w:World),Rel E.P E.aD E.fn.ntmps w0 μ φ (mj (aw ag) f0 recs) (ml (aw ag) m0 recs) a w→wpAnyIn (FR rd) 0 E.P .any ops Q fuel ag a w:=by
 have done:∀(fuel:Nat)(ag:Array Bool),ag.size=ops.size→ag.toList.countP (fun b=> !b)≤fuel→vv ops ag→(∀i,base i=true→aw ag i=true)→(∀i,aw ag i=true→base i=true∨∃r∈recs,r.i=i)→(∀r∈recs,aw ag r.i=true)→∀(μ:Ro)(φ:Nat→aC)(a:Act)(w:World),Rel E.P E.aD E.fn.ntmps w0 μ φ (mj (aw ag) f0 recs) (ml (aw ag) m0 recs) a w→wpAnyIn (FR rd) 0 E.P .any ops Q fuel ag a w:=by
  intro fuel ag hs hc se hb oY hl μ φ a w hR;have e1:mj (aw ag) f0 recs=kx f0 recs:=funext fun t=>Bg rfl fun q hq hf=>by rw[hl q hq]at hf;cases hf
  have e2:ml (aw ag) m0 recs=ng m0 recs:=funext fun t=>Bh rfl fun q hq hf=>by rw[hl q hq]at hf;cases hf
  rw[e1,e2]at hR;exact hQ fuel ag hs hc se (fun i=>⟨oY i,fun h=>h.elim (hb i) fun⟨r,hr,e⟩=>e▸hl r hr⟩) μ φ a w hR
 have Tf:∀(ag:Array Bool),ag.size=ops.size→(∀i,base i=true→aw ag i=true)→(∀r∈recs,r.i∉Region.ready .any ops ag)→∀(n:Nat)(r:Rec),r∈recs→r.i<n→aw ag r.i=true:=by
  intro ag hs hb hr n;induction n with
  |zero=>intro r _ h;omega
  |succ n ih=>
   intro r qn hi;cases hc:aw ag r.i with
   |true=>rfl
   |false=>
    exfalso;have bp:r.i<ag.size:=by rw[hs];exact(Array.getElem?_eq_some_iff.1 (px r qn)).1
    refine hr r qn (mem_ready.2 ⟨by simp only[aw,Array.getD_eq_getD_getElem?,Array.getElem?_eq_getElem bp,Option.getD_some]at hc⊢;exact hc,r.o,px r qn,fun e he fL=>?_⟩);obtain⟨h1,h2⟩:=LQ r qn e he fL;rcases h2 with h2|⟨q,hq,Qh⟩
    ·exact hb _ h2
    ·have:=ih q hq (by omega);rwa[Qh]at this
 intro fuel;induction fuel with
 |zero=>
  intro ag hs hc se hb oY μ φ a w hR;refine done 0 ag hs hc se hb oY (fun r hr=>?_) μ φ a w hR;have bp:r.i<ag.size:=by rw[hs];exact(Array.getElem?_eq_some_iff.1 (px r hr)).1
  have:=List.countP_eq_zero.1 (Nat.le_zero.1 hc) ag[r.i] (by simp);simp only[aw,Array.getD_eq_getD_getElem?,Array.getElem?_eq_getElem bp,Option.getD_some];simpa using this
 |succ fuel ih=>
  intro ag hs hc se hb oY μ φ a w hR;by_cases Qi:∀r∈recs,aw ag r.i=true
  ·exact done (fuel+1) ag hs hc se hb oY Qi μ φ a w hR
  have Zf:∃r∈recs,aw ag r.i=false:=by
   refine Classical.byContradiction fun cR=>Qi fun r hr=>?_;cases hx:aw ag r.i with
   |true=>rfl
   |false=>exact absurd ⟨r,hr,hx⟩ cR
  refine⟨fun h0=>absurd (fun r hr=>Tf ag hs hb (fun r hr h=>by rw[h0]at h;cases h) (r.i+1) r hr (by omega)) Qi,fun i hi=>?_⟩;obtain⟨NB,o,ho,xJ⟩:=mem_ready.1 hi;have Zg:aw ag i=false:=by
   have bp:i<ag.size:=by rw[hs];exact(Array.getElem?_eq_some_iff.1 ho).1
   simp only[aw,Array.getD_eq_getD_getElem?,Array.getElem?_eq_getElem bp,Option.getD_some]at NB⊢;exact NB
  have hex:∃r∈recs,r.i=i∧r.o=o:=by
   refine Classical.byContradiction fun cR=>?_;have FL:∀r∈recs,r.i≠i:=fun r hr e=>cR ⟨r,hr,e,by have:=px r hr;rw[e,ho]at this;exact(Option.some.inj this).symm⟩;have hbi:base i=false:=by
    cases hx:base i with
    |false=>rfl
    |true=>rw[hb i hx]at Zg;cases Zg
   rcases Qg i o ho hbi FL with h|⟨j,h1,h2,h3⟩
   ·obtain⟨r,hr,Tg⟩:=Zf;rw[oh ag se 8 o r.i xJ (h r hr)]at Tg;cases Tg
   ·have:=oh ag se 8 o j xJ h1;rcases oY j this with h|⟨r,hr,e⟩
    ·rw[h]at h2;cases h2
    ·exact h3 r hr e
  obtain⟨r,hr,rfl,rfl⟩:=hex;have Qj:r.i<ag.size:=by rw[hs];exact(Array.getElem?_eq_some_iff.1 ho).1
  have Zh:aw ag r.i=false:=by simp only[aw,Array.getD_eq_getD_getElem?,Array.getElem?_eq_getElem Qj,Option.getD_some]at NB⊢;exact NB
  obtain⟨pre,post,kN⟩:=List.append_of_mem hr;subst kN;have zx:∀q∈pre,Ord ops q r:=fun q hq=>(List.pairwise_append.1 Ze).2.2 q hq r (by simp);have LR:∀q∈post,Ord ops r q:=fun q hq=>(List.pairwise_cons.1 (List.pairwise_append.1 Ze).2.1).1 q hq;have V5:∀q∈post,q.i≠r.i:=fun q hq=>by have:=(List.pairwise_cons.1 (List.pairwise_append.1 bp).2.1).1 q hq;omega
  have Zi:∀q∈pre,q.i≠r.i:=fun q hq=>by have:=(List.pairwise_append.1 bp).2.2 q hq r (by simp);omega
  have Zj:∀q:Rec,reach ops 4 r.o q.i=true→aw ag q.i=true:=fun q h=>oh ag se 4 r.o q.i xJ h;have IE:∀q∈post,reach ops 4 q.o r.i=true→aw ag q.i=false:=fun q hq h=>by
   cases OS:aw ag q.i with
   |false=>rfl
   |true=>have:=oh ag se 4 q.o r.i (se q.i q.o (px q (by simp[hq])) OS) h;rw[Zh]at this;cases this
  have UB:∀(f:Fr),mj (aw ag) f (r::post)=mj (aw ag) f post:=fun f=>by rw[mj,Zh];rfl
  have Qk:∀(m:Mem),ml (aw ag) m (r::post)=ml (aw ag) m post:=fun m=>by rw[ml,Zh];rfl
  obtain⟨_,V6,YD,_⟩:=fj.append.1 vS;have hc:=adr.append.1;have UC:∀q∈pre,q.kl≠[]→reach ops 4 r.o q.i=true:=fun q hq=>(List.pairwise_append.1 ky).2.2 q hq r (by simp);have Ql:r.kl≠[]→∀q∈post,reach ops 4 q.o r.i=true:=fun h q hq=>(List.pairwise_cons.1 (List.pairwise_append.1 ky).2.1).1 q hq h;unfold wpOpIn;rw[px r hr];simp only;have V4:∀t∈r.o.looksAt ops,mj (aw ag) f0 pre t=kx f0 pre t:=fun t ht=>Bg rfl fun q hq hs=>by
   have FL:¬reach ops 4 r.o q.i=true:=fun h=>by rw[Zj q h]at hs;cases hs
   refine⟨fun hd=>?_,?_⟩
   ·rcases zx q hq with h|⟨h,_⟩
    ·exact FL h
    ·exact absurd ht ((Oper.apart_spec h).1 t hd)
   ·exact Classical.byContradiction fun cR=>FL (UC q hq cR)
  have V7:∀x∈r.ft,ml (aw ag) m0 pre x.2=ng m0 pre x.2:=fun x hx=>Bh rfl fun q hq hs=>by
   have FL:¬reach ops 4 r.o q.i=true:=fun h=>by rw[Zj q h]at hs;cases hs
   refine⟨fun b hb=>?_,?_⟩
   ·rcases zx q hq with h|⟨_,h,_⟩
    ·exact FL h
    ·exact absurd rfl (h _ b hb x hx)
   ·exact Classical.byContradiction fun cR=>FL (UC q hq cR)
  have Sn:∀q∈post,aw ag q.i=true→¬reach ops 4 q.o r.i=true:=fun q hq hs h=>by rw[IE q hq h]at hs;cases hs
  have Zk:∀t∈r.o.looksAt ops,mj (aw ag) f0 (pre++r::post) t=kx f0 pre t:=fun t ht=>by
   rw[sX,UB,nA fun q hq hs=>⟨fun hd=>?_,fun id hid=>?_⟩]
   ·exact V4 t ht
   ·rcases LR q hq with h|⟨h,_⟩
    ·exact Sn q hq hs h
    ·exact absurd ht ((Oper.apart_spec h).2.2 t hd)
   ·rw[V4 t ht];rcases hc q hq id hid with h|h
    ·exact absurd h (Sn q hq hs)
    ·exact h.1 t ht
  have cN:∀x∈r.ft,ml (aw ag) m0 (pre++r::post) x.2=ng m0 pre x.2:=fun x hx=>by
   rw[sY,Qk,nB fun q hq hs=>⟨fun b hb=>?_,fun id hid=>?_⟩]
   ·exact V7 x hx
   ·rcases LR q hq with h|⟨_,_,h⟩
    ·exact Sn q hq hs h
    ·exact absurd rfl (h _ b hb x hx)
   ·rw[V7 x hx];rcases hc q hq id hid with h|h
    ·exact absurd h (Sn q hq hs)
    ·exact h.2.2.1 x hx
  have hwp:=V6 _ _ Zk cN μ φ a w (wpAnyIn (FR rd) 0 E.P .any ops Q fuel (ag.setIfInBounds r.i true)) Q hR fun μ' φ' a' w' gW=>by
   have UD:∀j,aw (ag.setIfInBounds r.i true) j=if j=r.i then true else aw ag j:=fun j=>by
    simp only[aw,Array.getD_eq_getD_getElem?,Array.getElem?_setIfInBounds];by_cases e:r.i=j
    ·subst e;simp[Qj]
    ·have e':¬j=r.i:=fun h=>e h.symm;simp[e,e']
   refine ih (ag.setIfInBounds r.i true) (by simp[hs]) ?_ ?_ ?_ ?_ μ' φ' a' w' ?_
   ·rw[Array.toList_setIfInBounds,List.countP_set (by simpa using Qj)];have:ag.toList[r.i]'(by simpa using Qj)=false:=by simp only[aw,Array.getD_eq_getD_getElem?,Array.getElem?_eq_getElem Qj,Option.getD_some]at Zh;simpa using Zh
    rw[this];simp only[Bool.not_false,if_true,Bool.not_true,Bool.false_eq_true,if_false];omega
   ·intro i' o' NC mH e he DS;rw[UD]at mH⊢;split
    ·rfl
    ·split at mH
     ·rename_i Qh;subst Qh;have:o'=r.o:=by rw[px r hr]at NC;exact(Option.some.inj NC).symm
      subst this;exact xJ e he DS
     ·exact se i' o' NC mH e he DS
   ·intro i' mH;rw[UD];split
    ·rfl
    ·exact hb i' mH
   ·intro i' mH;rw[UD]at mH;split at mH
    ·rename_i Qh;exact Or.inr ⟨r,hr,Qh.symm⟩
    ·exact oY i' mH
   ·have UE:∀q∈pre,aw (ag.setIfInBounds r.i true) q.i=aw ag q.i:=fun q hq=>by rw[UD,if_neg (Zi q hq)]
    have sZ:∀q∈post,aw (ag.setIfInBounds r.i true) q.i=aw ag q.i:=fun q hq=>by rw[UD,if_neg (V5 q hq)]
    have hSr:aw (ag.setIfInBounds r.i true) r.i=true:=by rw[UD,if_pos rfl]
    have e1:mj (aw (ag.setIfInBounds r.i true)) f0 (pre++r::post)=r.fs (mj (aw ag) f0 (pre++r::post)):=funext fun t=>by
     have hg:mj (aw (ag.setIfInBounds r.i true)) f0 pre=mj (aw ag) f0 pre:=funext fun s=>vt rfl UE;rw[sX,sX,UB,mj,hSr,hg];simp only[cond];by_cases hk:r.kl=[]
     ·by_cases hd:r.o.dst=some t
      ·rw[Rec.F7 hd,nA fun q hq hs=>⟨fun hqd=>?_,fun id hid=>?_⟩,Rec.F7 hd]
       ·rw[sZ q hq]at hs;rcases LR q hq with h|⟨h,_⟩
        ·exact Sn q hq hs h
        ·exact absurd hqd ((Oper.apart_spec h).2.1 t hd)
       ·rw[sZ q hq]at hs;rw[Rec.F7 hd];rcases hc q hq id hid with h|h
        ·exact absurd h (Sn q hq hs)
        ·exact h.2.1
      ·have xD:∀(g:Fr),r.fs g t=g t:=fun g=>Rec.LP hd fun id⟨b,hid⟩=>by rw[hk]at hid;cases hid
       rw[xD];exact vt (xD _) sZ
     ·have NB:∀q∈post,aw ag q.i=false:=fun q hq=>IE q hq (Ql hk q hq);rw[nA fun q hq hs=>by rw[sZ q hq,NB q hq]at hs;cases hs];exact Rec.Be (nA fun q hq hs=>by rw[NB q hq]at hs;cases hs).symm
    have e2:ml (aw (ag.setIfInBounds r.i true)) m0 (pre++r::post)=r.ms (ml (aw ag) m0 (pre++r::post)):=funext fun j=>by
     have hg:ml (aw (ag.setIfInBounds r.i true)) m0 pre=ml (aw ag) m0 pre:=funext fun s=>vu rfl UE;rw[sY,sY,Qk,ml,hSr,hg];simp only[cond];by_cases hk:r.kl=[]
     ·by_cases hd:∃b,(j,b)∈r.wr
      ·obtain⟨b,hd,uf⟩:=Rec.UA hd;rw[uf,nB fun q hq hs=>⟨fun b' hqd=>?_,fun id hid=>?_⟩,uf]
       ·rw[sZ q hq]at hs;rcases LR q hq with h|⟨_,_,h⟩
        ·exact Sn q hq hs h
        ·exact absurd rfl (h j b' hqd (true,j) (YD j b hd))
       ·rw[sZ q hq]at hs;rcases hc q hq id hid with h|h
        ·exact absurd h (Sn q hq hs)
        ·obtain⟨h1,h2⟩:=h.2.2.2 j b hd uf;refine⟨h1,fun b' fL=>?_⟩;rw[uf]at fL;cases fL;exact h2
      ·have LF:∀b,(j,b)∉r.wr:=fun b hb=>hd ⟨b,hb⟩;have xD:∀(g:Mem),r.ms g j=g j:=fun g=>Rec.Qd LF fun id⟨b,hid⟩=>by rw[hk]at hid;cases hid
       rw[xD];exact vu (xD _) sZ
     ·have NB:∀q∈post,aw ag q.i=false:=fun q hq=>IE q hq (Ql hk q hq);rw[nB fun q hq hs=>by rw[sZ q hq,NB q hq]at hs;cases hs];exact Rec.Bf (nB fun q hq hs=>by rw[NB q hq]at hs;cases hs).symm
    rw[e1,e2];exact gW
  split
  ·rename_i hw;rw[if_pos hw]at hwp;exact hwp rd
  ·rename_i hw;rw[if_neg hw]at hwp;exact⟨fun _ _=>trivial,hwp⟩
end
end Go.Ab
set_option linter.unusedVariables false
namespace Go.Ab
open Go.RowKit (Below)
section
variable {E:Env} {ops:Array Oper} {w0:bt}
variable{o:Oper}
theorem ND{t:Nat}(h:.tmp t∈o.op.operands):t∈o.looksAt ops:=by unfold Oper.looksAt;refine List.mem_append.2 (.inl (List.mem_filterMap.2 ⟨.tmp t,by simpa using h,rfl⟩))
theorem s9{g:Nat×Bool}{t:Nat}(hg:o.guard=some g)(h:(ops[g.1]?).bind (·.dst)=some t):t∈o.looksAt ops:=by unfold Oper.looksAt;rw[hg];refine List.mem_append.2 (.inr ?_);show t∈((ops[g.1]?).bind (·.dst)).toList;rw[h];simp
variable{f F:Fr}
theorem uo(h:∀t∈o.looksAt ops,f t=F t):∀x∈o.op.operands,bA E f x=bA E F x:=by
 intro x hx;cases x with
 |tmp t=>simp only[bA];rw[h t (ND hx)]
 |_=>rfl
variable{A:List (Nat×Bool)}{φ:Nat→aC}{a:Act}{w:World}
theorem Ga{f2:Fr}{m2:Mem}{μ:Ro}(hg:guardOf o A=none)(hA:og E.fn.ntmps ops A f)(hR:Rel E.P E.aD E.fn.ntmps w0 μ φ f2 m2 a w)(hf:∀t∈o.looksAt ops,f2 t=f t):Region.wanted o (yielded ops a.tmps)=true:=by
 unfold guardOf at hg;unfold Region.wanted;split at hg
 ·rename_i P8;simp[P8]
 ·rename_i g P8;split at hg
  ·rename_i bN;obtain⟨t,h1,h0,h2⟩:=hA g (by simpa using bN);have h3:=hR.fr t;rw[nP h0,hf t (s9 P8 h1),h2]at h3;simp only[P8];rw[ru h1 (oc h3)];simp
  ·cases hg
variable{i:Nat}{ft:bl}{m:Mem}
theorem Bi(hE:iv E){v:V}{wr:List (Nat×bI)}(hg:guardOf o A=none)(hA:og E.fn.ntmps ops A f)(hd:sH E o=true)(hn:∀(f2:Fr)(m2:Mem),(∀x∈o.op.operands,bA E f2 x=bA E f x)→(∀x∈ft,m2 x.2=m x.2)→∀(R':Type)(k':V→Fr→Mem→bl→Option R'),Fy E true (cE E o.dst) o f2 m2 k'=k' v f2 (qm wr m2) ft):C1 E ops w0 ⟨i,o,v,wr,ft,[]⟩ f m:=by
 intro f2 m2 hf hm μ φ a w K Q hR hK;have hw:Region.wanted o (yielded ops a.tmps)=true:=by
  unfold guardOf at hg;unfold Region.wanted;split at hg
  ·rename_i P8;simp[P8]
  ·rename_i g P8;split at hg
   ·rename_i bN;obtain⟨t,h1,h0,h2⟩:=hA g (by simpa using bN);have h3:=hR.fr t;rw[nP h0,hf t (s9 P8 h1),h2]at h3;simp only[P8];rw[ru h1 (oc h3)];simp
   ·cases hg
 simp only at hf hm hK⊢;rw[if_pos hw];exact fun rd=>(Uw hE (.inl rfl) (hn f2 m2 (uo hf) hm)).vp (xG (hn f2 m2 (uo hf) hm Unit fun _ _ _ _=>some ())) rd w0 μ φ a w K Q hR fun y w' μ' φ' hle hM hF hv hl=>hK _ _ _ _ (hR.put hle (gH hd) hM hF hv hl)
theorem IF(hd:sH E o=true)(A8:Nv ops f o):C1 E ops w0 ⟨i,o,.bj [],[],[],[]⟩ f m:=by
 intro f2 m2 hf hm μ φ a w K Q hR hK;simp only at hf hm hK⊢;have V8:Nv ops f2 o:=by obtain⟨g,hg,ht⟩:=A8;exact⟨g,hg,fun t h=>by rw[hf t (s9 hg h)];exact ht t h⟩
 rw[uZ hR V8];simp only[Bool.false_eq_true,if_false];exact hK _ _ _ _ (hR.put (fun _ _ h=>h) (gH hd) hR.toau hR.jd A6 (fun id hid=>by simp[V.has,cq]at hid))
def wz(x:Nat×Oper):Rec:=⟨x.1,x.2,.bj [],[],[],[]⟩
theorem C2{m:Mem}:∀(l:List (Nat×Oper))(F:Fr),(∀x∈l,sH E x.2=true)→(∀(pre post:List (Nat×Oper))(x:Nat×Oper),l=pre++x::post→Nv ops (gp F pre) x.2)→fj E ops w0 F m (l.map wz)∧kx F (l.map wz)=gp F l
 |[],F,_,_=>⟨trivial,rfl⟩
 |x::r,F,hd,A8=>by obtain⟨h1,h2⟩:=C2 (m:=m) r (gF F x.2.dst (.bj [])) (fun y hy=>hd y (by simp[hy])) (fun pre post y h=>by have:=A8 (x::pre) post y (by rw[h];rfl);rwa[gp]at this);exact⟨⟨IF (hd x (by simp)) (A8 [] r x rfl),by simp[wz],h1⟩,h2⟩
theorem C3{m:Mem}:∀{l:List Rec},(∀q∈l,q.wr=[]∧q.kl=[])→ng m l=m
 |[],_=>rfl
 |r::l,h=>by
  obtain⟨h1,h2⟩:=h r (by simp);have:r.ms m=m:=by unfold Rec.ms;rw[h1,h2];rfl
  rw[ng,this];exact C3 fun q hq=>h q (by simp[hq])
theorem fj.wr:∀{l:List Rec}{f:Fr}{m:Mem},fj E ops w0 f m l→∀q∈l,∀id b,(id,b)∈q.wr→(true,id)∈q.ft
 |[],_,_,_,q,hq=>by cases hq
 |r::l,f,m,h,q,hq=>by
  rcases List.mem_cons.1 hq with rfl|hq
  ·exact h.2.1
  ·exact fj.wr h.2.2 q hq
def Qm(q r:Rec):Prop:=reach ops 4 r.o q.i=true∨((∀id b,(id,b)∈q.wr→∀x∈r.ft,x.2≠id)∧∀id b,(id,b)∈r.wr→∀x∈q.ft,x.2≠id)
theorem Gb{o:Oper}{w:Bool}{id:Nat}:∀{lg:Log},Lo ops o w id lg=true→∀x∈lg,id≠x.2.2∨(w=false∧x.2.1=false)∨reach ops 4 o x.1=true
 |[],_,x,hx=>by cases hx
 |(j,w',nb)::lg,h,x,hx=>by
  simp only[Lo,Bool.and_eq_true]at h;rcases List.mem_cons.1 hx with rfl|hx
  ·have h1:=h.1;simp only[Bool.or_eq_true,Bool.not_eq_true',Bool.and_eq_true]at h1;rcases h1 with(h1|h1)|h1
   ·exact .inl fun e=>by subst e;simp[Nat.beq_refl]at h1
   ·exact .inr (.inl h1)
   ·exact .inr (.inr h1)
  ·exact Gb h.2 x hx
theorem xK{o:Oper}{lg:Log}:∀{ft:bl},xr ops o lg ft=true→∀y∈ft,∀x∈lg,y.2≠x.2.2∨(y.1=false∧x.2.1=false)∨reach ops 4 o x.1=true
 |[],_,y,hy=>by cases hy
 |(w,id)::ft,h,y,hy=>by
  simp only[xr,Bool.and_eq_true]at h;rcases List.mem_cons.1 hy with rfl|hy
  ·exact Gb h.1
  ·exact xK h.2 y hy
theorem Bj{o:Oper}{id:Nat}:∀{lg:Log},zI ops o id lg=true→∀x∈lg,x.2.2=tV id→reach ops 4 o x.1=true
 |[],_,x,hx=>by cases hx
 |(j,w,n)::lg,h,x,hx=>by
  simp only[zI,Bool.and_eq_true,Bool.or_eq_true,Bool.not_eq_true']at h;intro he;rcases List.mem_cons.1 hx with rfl|hx
  ·rcases h.1 with h1|h1
   ·simp only at he;rw[he,Nat.beq_refl]at h1;cases h1
   ·exact h1
  ·exact Bj h.2 x hx he
mutual
theorem LS{id:Nat}:∀(v:V),v.has id=true→id∈v.ids
 |.agg cs,h=>qG cs (by simpa only[V.has]using h)
 |.bj cs,h=>qG cs (by simpa only[V.has]using h)
 |.fn _ cs,h=>qG cs (by simpa only[V.has]using h)
 |.os j,h=>by have:=Nat.eq_of_beq_eq_true h;subst this;simp[V.ids]
 |.ff j _ _,h=>by have:=Nat.eq_of_beq_eq_true h;subst this;simp[V.ids]
 |.oe j _ _,h=>by have:=Nat.eq_of_beq_eq_true h;subst this;simp[V.ids]
 |.om j,h=>by have:=Nat.eq_of_beq_eq_true h;subst this;simp[V.ids]
 |.sD j _ _,h=>by have:=Nat.eq_of_beq_eq_true h;subst this;simp[V.ids]
 |.vU j _ _ _ _ _,h=>by have:=Nat.eq_of_beq_eq_true h;subst this;simp[V.ids]
 |.op j _,h=>by have:=Nat.eq_of_beq_eq_true h;subst this;simp[V.ids]
 |.it j,h=>by have:=Nat.eq_of_beq_eq_true h;subst this;simp[V.ids]
 |.yl j,h=>by have:=Nat.eq_of_beq_eq_true h;subst this;simp[V.ids]
 |.pv _,h=>by cases h
 |.ba,h=>by cases h
 |.top,h=>by cases h
theorem qG{id:Nat}:∀(cs:List V),cq id cs=true→id∈Fz cs
 |[],h=>by cases h
 |v::r,h=>by
  simp only[cq,Bool.or_eq_true]at h;simp only[Fz,List.mem_append];rcases h with h|h
  ·exact .inl (LS v h)
  ·exact .inr (qG r h)
end
variable{id:Nat}
theorem wA{b:bI}(h:b.names id=true):id∈Ak (some b):=by
 cases b with
 |box cs=>exact qG cs h
 |_=>cases h
theorem vw{m m':Mem}{id:Nat}:∀{ft:bl}{x:Bool×Nat},x∈ft→(id∈Ak (m x.2)∨id∈Ak (m' x.2))→id∈DL m m' ft
 |y::ft,x,hx,h=>by
  simp only[DL,List.mem_append];rcases List.mem_cons.1 hx with rfl|hx
  ·exact .inl h
  ·exact .inr (vw hx h)
theorem Qn{v:V}{wr:List (Nat×bI)}(yT:∀t∈o.looksAt ops,f t=F t)(V9:∀j b,(j,b)∈wr→(true,j)∈ft)(hn:id∉zH ops o f m (qm wr m) v ft)(hft:∀x∈ft,x.2≠id):Clean ops id ⟨i,o,v,wr,ft,[]⟩ F m:=by
 simp only[zH,List.mem_append,not_or]at hn;obtain⟨⟨h1,h2⟩,h3⟩:=hn;refine⟨fun t ht=>?_,?_,fun x hx=>⟨hft x hx,fun b hb=>?_⟩,fun j b hb uf=>⟨hft _ (V9 j b hb),?_⟩⟩
 ·cases e:(F t).has id with
  |false=>rfl
  |true=>exact absurd (qG _ (cS.2 ⟨f t,List.mem_map.2 ⟨t,ht,rfl⟩,by rw[yT t ht];exact e⟩)) h1
 ·cases e:v.has id with
  |false=>rfl
  |true=>exact absurd (LS _ e) h2
 ·cases e:b.names id with
  |false=>rfl
  |true=>exact absurd (vw hx (.inl (by rw[hb];exact wA e))) h3
 ·cases e:b.names id with
  |false=>rfl
  |true=>exact absurd (vw (V9 j b hb) (.inr (by have fL:qm wr m j=some b:=uf m;simp only;rw[fL];exact wA e))) h3
variable{R:Type}
theorem IG{site:Nat}{rd:bl}(h:qZ E f m o=some (id,rd)){k:V→Fr→Mem→bl→Option R}{r:R}(hx:cW E false site o f m k=some r):(∀x∈rd,x.1=false)∧∃dG,k (.os id) (eO id f) (al (aX (bB id m) id) id dG) [(true,0)]=some r∧∀(f2:Fr)(m2:Mem),(∀x∈o.op.operands,bA E f2 x=bA E f x)→(∀x∈(true,id)::rd,m2 x.2=m x.2)→∀(R':Type)(k':V→Fr→Mem→bl→Option R'),cW E false site o f2 m2 k'=k' (.os id) (eO id f2) (al (aX (bB id m2) id) id dG) [(true,0)]:=by
 obtain⟨dst,op,type,pos,after,guard⟩:=o;unfold qZ at h;simp only at h;split at h
 ·rename_i c;obtain⟨callee,args,argTypes⟩:=c;simp only at h;split at h
  ·rename_i nb x t t' jq VV;split at h
   ·rename_i e hu;split at h
    ·rename_i new rd' xz;split at h
     ·cases h
     ·rename_i VW;simp only[Option.some.injEq,Prod.mk.injEq]at h;obtain⟨rfl,rfl⟩:=h;obtain⟨Y0,he2,_⟩:=lO xz;have ads:∀m2:Mem,aX (bB nb m2) nb nb=none:=fun m2=>by simp[aX,Nat.beq_refl]
      have main:∀(f2:Fr)(m2:Mem),args.toList.map (bA E f2)=[.os nb,x]→m2 nb=m nb→eF m2 (aO E.P e) x=some (new,rd')→∀(R':Type)(k':V→Fr→Mem→bl→Option R'),cW E false site ⟨dst,.call ⟨.builtin .append,args,argTypes⟩,type,pos,after,guard⟩ f2 m2 k'=if !(decide (t'=t))then none else if(dm E e).isNone then none else match m nb with
       |some (.arr sz et es)=>if et=e∧sz=aO E.P e∧x.has nb=false then(if(es++new).length*Cc E.P e≤aa∧0<Cc E.P e then k' (.os nb) (eO nb f2) (al (aX (bB nb m2) nb) nb (.arr sz e (es++new))) [(true,0)]else none)else none
       |_=>none:=by
       intro f2 m2 h1 h2 h3 R' k'
       simp only[cW,h1,VV,vZ,Bool.false_or,hu,h3,h2]
       split
       ·rfl
       ·split
        ·rfl
        ·split
         ·rename_i sz et es LN;simp only[fresh,ads,LN]
         ·rename_i cR;split
          ·rename_i sz et es cN;exact absurd cN (cR sz et es)
          ·rfl
      rw[main f m jq rfl xz]at hx;refine⟨he2,?_⟩;split at hx
      ·cases hx
      ·rename_i Uj;split at hx
       ·cases hx
       ·rename_i Cg;split at hx
        ·rename_i sz et es hm;split at hx
         ·rename_i hc3;split at hx
          ·rename_i hc4;refine⟨_,hx,fun f2 m2 hf cN R' k'=>?_⟩;have ha:args.toList.map (bA E f2)=[.os nb,x]:=by rw[←jq];exact pS fun y hy=>hf y (by simp only[Op.operands,Call.operands];simp[Array.mem_toList_iff.1 hy])
           rw[main f2 m2 ha (cN (true,nb) (by simp)) (Y0 m2 fun y hy=>cN y (by simp[hy])) R' k'];rw[if_neg Uj,if_neg Cg,hm];simp only;rw[if_pos hc3,if_pos hc4]
          ·cases hx
         ·cases hx
        ·cases hx
    ·cases h
   ·cases h
  ·cases h
 ·cases h
theorem su.kill(h:su f F)(id:Nat):su (eO id f) (eO id F):=fun t=>by
 rcases h t with e|e
 ·exact .inl (by simp only[eO,e])
 ·exact .inr (by simp only[eO,e];rfl)
theorem og.kill{nt:Nat}(h:og nt ops A f)(id:Nat):og nt ops A (eO id f):=by intro g hg;obtain⟨t,h1,h0,h2⟩:=h g hg;exact⟨t,h1,h0,by simp only[eO,h2];rfl⟩
theorem Qo{x:Nat×bl}(h:qZ E f m o=some x):isApp E o=true:=by
 obtain⟨dst,op,type,pos,after,guard⟩:=o;unfold qZ at h;simp only at h;unfold isApp;split at h
 ·rename_i c;obtain⟨callee,args,argTypes⟩:=c;simp only at h;split at h
  ·simp
  ·cases h
 ·cases h
theorem D6{rd:bl}(h:qZ E f m o=some (id,rd)):∃c x t t',o.op=.call c∧c.callee=.builtin .append∧c.args.toList.map (bA E f)=[.os id,x]∧c.argTypes.toList=[t,t']:=by
 unfold qZ at h;split at h
 ·rename_i c hc;split at h
  ·rename_i nb x t t' h1 h2 h3;split at h
   ·split at h
    ·split at h
     ·cases h
     ·simp only[Option.some.injEq,Prod.mk.injEq]at h;obtain⟨rfl,_⟩:=h;exact⟨c,x,t,t',hc,h1,h2,h3⟩
    ·cases h
   ·cases h
  ·cases h
 ·cases h
theorem NF{kl:Kl}(h:DM E f m o=some (kl,ft)){k:V→Fr→Mem→bl→Option R}{r:R}(hx:Fy E false (cE E o.dst) o f m k=some r):isApp E o=true∧∃v wr XQ,k v (kf kl f) (qm wr (km kl m)) XQ=some r∧(∀x∈wr,(true,x.1)∈ft)∧(∀x∈kl,(true,x.2)∈ft)∧∀(f2:Fr)(m2:Mem),(∀x∈o.op.operands,bA E f2 x=bA E f x)→(∀x∈ft,m2 x.2=m x.2)→∀(R':Type)(k':V→Fr→Mem→bl→Option R'),Fy E false (cE E o.dst) o f2 m2 k'=k' v (kf kl f2) (qm wr (km kl m2)) XQ:=by
 unfold DM at h;unfold Fy at hx;split at h
 ·rename_i sp iS;simp only[Option.some.injEq]at h;have hn:E.yq (cE E o.dst)=true:=by
   cases hn:E.yq (cE E o.dst)with
   |true=>rfl
   |false=>rw[hn]at iS;cases iS
  rw[hn]at iS hx;simp only[cond]at iS hx;rw[iS]at hx;obtain⟨v,wr,h1,h2,h3,h4,_,_⟩:=IA iS hx;rw[h]at h1 h2 h3 h4;refine⟨by unfold isApp;rw[hn];rfl,v,wr,ft,h1,h2,h3,fun f2 m2 hf hm R' k'=>?_⟩;have:=Ix iS hf (by rw[h];exact hm);unfold Fy;rw[hn];simp only[cond];rw[this];exact h4 f2 m2 R' k'
 ·rename_i iS;split at h
  ·rename_i id rd Qp;simp only[Option.some.injEq,Prod.mk.injEq]at h;obtain⟨rfl,rfl⟩:=h;have e0:(bif false then none else bif E.yq (cE E o.dst)then vf E (cE E o.dst) o f m else none)=(bif E.yq (cE E o.dst)then vf E (cE E o.dst) o f m else none):=rfl;rw[e0,iS]at hx;simp only at hx;obtain⟨wj,dG,hk,hn⟩:=IG Qp hx;refine⟨Qo Qp,.os id,[(id,dG)],[(true,0)],hk,by simp,by simp,fun f2 m2 hf hm R' k'=>?_⟩;have Qq:(bif E.yq (cE E o.dst)then vf E (cE E o.dst) o f2 m2 else none)=none:=by
    cases Ia:E.yq (cE E o.dst)with
    |false=>rfl
    |true=>
     simp only[cond];obtain⟨c,x,t,t',hc,Th,jq,P6⟩:=D6 Qp;have Wa:c.args.toList.map (bA E f2)=[.os id,x]:=by rw[←jq];exact List.map_congr_left fun y hy=>hf y (by rw[hc];simp only[Op.operands,Call.operands];rw[Th];simp[Array.mem_toList_iff.1 hy])
     have cN:m2 id=m id:=hm (true,id) (by simp);have Ux:∃sz et es,m id=some (.arr sz et es):=by
      obtain⟨dst,op,type,pos,after,guard⟩:=o;simp only at hc;subst hc;obtain⟨callee,args,argTypes⟩:=c;simp only at Th jq P6;subst Th;simp only[cW,jq,P6,vZ,Bool.false_or]at hx;split at hx
      ·cases hx
      ·split at hx
       ·split at hx
        ·cases hx
        ·split at hx
         ·split at hx
          ·rename_i sz et es hm;exact⟨sz,et,es,hm⟩
          ·cases hx
         ·cases hx
       ·cases hx
     obtain⟨sz,et,es,Ux⟩:=Ux;unfold vf;rw[hc];simp only[Th,Wa,P6,cN,Ux];split<;>first|rfl|(rename_i heq;cases heq)
   unfold Fy;have e1:(bif false then none else bif E.yq (cE E o.dst)then vf E (cE E o.dst) o f2 m2 else none)=(bif E.yq (cE E o.dst)then vf E (cE E o.dst) o f2 m2 else none):=rfl;rw[e1,Qq];exact hn f2 m2 hf hm R' k'
  ·cases h
theorem su.uN(h:su f F)(id:Nat):su (gb id f) (gb id F):=fun t=>by
 rcases h t with e|e
 ·exact .inl (by simp only[gb,e])
 ·exact .inr (by simp only[gb,e];rfl)
theorem su.kf:∀{kl:Kl}{f F:Fr},su f F→su (Go.Ab.kf kl f) (Go.Ab.kf kl F)
 |[],_,_,h=>h
 |(true,id)::r,f,F,h=>su.kf (kl:=r) (f:=eO id f) (F:=eO id F) (h.kill id)
 |(false,id)::r,f,F,h=>su.kf (kl:=r) (f:=gb id f) (F:=gb id F) (h.uN id)
theorem og.uN{nt:Nat}(h:og nt ops A f)(id:Nat):og nt ops A (gb id f):=by intro g hg;obtain⟨t,h1,h0,h2⟩:=h g hg;exact⟨t,h1,h0,by simp only[gb,h2];rfl⟩
theorem og.kf{nt:Nat}{A:List (Nat×Bool)}:∀{kl:Kl}{f:Fr},og nt ops A f→og nt ops A (Go.Ab.kf kl f)
 |[],_,h=>h
 |(true,id)::r,f,h=>og.kf (kl:=r) (f:=eO id f) (h.kill id)
 |(false,id)::r,f,h=>og.kf (kl:=r) (f:=gb id f) (h.uN id)
theorem NG(hE:iv E)(hY:qv E.P E.aD E.fn.ntmps E.yl w0){v:V}{wr:List (Nat×bI)}{kl:Kl}{XQ:bl}(hg:guardOf o A=none)(hA:og E.fn.ntmps ops A F)(hd:sH E o=true)(Ny:∀x∈o.op.operands,bA E f x=bA E F x)(hn:∀(f2:Fr)(m2:Mem),(∀x∈o.op.operands,bA E f2 x=bA E f x)→(∀x∈ft,m2 x.2=m x.2)→∀(R':Type)(k':V→Fr→Mem→bl→Option R'),Fy E false (cE E o.dst) o f2 m2 k'=k' v (kf kl f2) (qm wr (km kl m2)) XQ):C1 E ops w0 ⟨i,o,v,wr,ft,kl⟩ F m:=by
 intro f2 m2 hf hm μ φ a w K Q hR hK;have hw:Region.wanted o (yielded ops a.tmps)=true:=Ga hg hA hR hf;simp only at hf hm hK⊢;rw[if_pos hw];have hx:=hn f2 m2 (fun x hx=>by rw[uo hf x hx,Ny x hx]) hm (V×Fr×Mem) fun v f m _=>some (v,f,m);rcases D4 hE hx with⟨v,f',m',ft,h1,h2⟩|⟨_,h2⟩
 ·simp only[Option.some.injEq,Prod.mk.injEq]at h1;obtain⟨rfl,rfl,rfl⟩:=h1;exact fun rd=>h2.vp (xG hx) rd w0 μ φ a w K Q hR fun y w' μ' φ' hle hM hF hv hl=>hK _ _ _ _ (hR.put hle (gH hd) hM hF hv hl)
 ·refine fun rd=>A3.vp h2 rd w0 μ φ a w K Q hY hR fun v f' m' y w' μ' φ' h1 hle hM hF hv hl=>?_;simp only[Option.some.injEq,Prod.mk.injEq]at h1;obtain⟨rfl,rfl,rfl⟩:=h1;exact hK _ _ _ _ (hR.put hle (gH hd) hM hF hv hl)
structure D7(ops:Array Oper)(mode:Nat)(F:Fr)(m:Mem)(lg:Log)(recs:List Rec):Prop where
 one:mode=1→∀q∈recs,q.wr=[]∧q.kl=[]
 ord:mode=2→recs.Pairwise (Qm (ops:=ops))
 log:mode=2→∀q∈recs,∀y∈q.ft,∀x∈lg,y.2≠x.2.2∨(y.1=false∧x.2.1=false)∨reach ops 4 q.o x.1=true
 kl:recs.Pairwise fun q r=>q.kl≠[]→reach ops 4 r.o q.i=true
 cln:l8 ops F m recs
 nam:∀q∈recs,∀id,q.CZ id→mode=2∧ops.toList.any (isApp E)=true∧(true,id)∈q.ft∧∀x∈lg,x.2.2=tV id→reach ops 4 q.o x.1=true
theorem l8.none:∀{l:List Rec}{f:Fr}{m:Mem},(∀q∈l,q.kl=[])→l8 ops f m l
 |[],_,_,_=>trivial
 |r::l,f,m,h=>⟨fun q hq id⟨b,hid⟩=>(by rw[h q (by simp[hq])]at hid;cases hid),l8.none fun q hq=>h q (by simp[hq])⟩
theorem kO(hE:iv E)(hY:qv E.P E.aD E.fn.ntmps E.yl w0){mode:Nat}(gZ:mode=1∨mode=2):∀(fuel:Nat){R:Type}{A:List (Nat×Bool)}{l:List (Nat×Oper)}{f:Fr}{m:Mem}{lg:Log}{k:Fr→Mem→Option R}{r:R},cp E ops mode fuel R A l f m lg k=some r→(∀x∈l,ops[x.1]?=some x.2)→(mode=1→∀x∈l,eV x.2=true)→V1 ops A l→∀F:Fr,su f F→og E.fn.ntmps ops A F→(∀x∈l,∀t∈x.2.looksAt ops,f t=F t)→∃(recs:List Rec)(f':Fr),k f' (ng m recs)=some r∧su f' (kx F recs)∧recs.map (fun r=>(r.i,r.o))=l∧fj E ops w0 F m recs∧D7 (E:=E) ops mode F m lg recs
 |0,_,_,_,_,_,_,_,_,h,_,_,_,_,_,_,_=>by simp[cp]at h
 |fuel+1,R,A,[],f,m,lg,k,r,h,_,_,_,F,hF,_,_=>by simp only[cp]at h;exact⟨[],f,h,hF,rfl,trivial,by simp,fun _=>.nil,by simp,.nil,trivial,by simp⟩
 |fuel+1,R,A,(i,o)::rest,f,m,lg,k,r,h,hl,OZ,A9,F,hF,hA,yT=>by
  have V7:(Nat.beq mode 1||Nat.beq mode 2)=true:=by rcases gZ with rfl|rfl<;>rfl
  simp only[cp,V7]at h;split at h
  ·rename_i hg;split at h
   ·rename_i hd;have Zl:∀x∈o.op.operands,bA E f x=bA E F x:=uo (yT (i,o) (by simp));split at h
    ·rename_i kl ft iS;have Wb:mode=2:=by
      rcases gZ with rfl|rfl
      ·cases iS
      ·rfl
     subst Wb;have iS:DM E f m o=some (kl,ft):=iS;split at h
     ·rename_i AA;simp only[Bool.and_eq_true,List.all_eq_true]at AA;obtain⟨⟨adt,adu⟩,adv⟩:=AA;obtain⟨Qp,v,wr,XQ,hk,V9,ky,hn⟩:=NF iS h;obtain⟨recs,f',c1,c2,c3,c4,c5⟩:=kO hE hY (.inr rfl) fuel hk (fun x hx=>hl x (by simp[hx])) (fun hm=>by cases hm) (fun x hx=>A9 x (by simp[hx])) (gF (kf kl F) o.dst v) ((su.kf (kl:=kl) hF).put _ _) (og.put (og.kf (kl:=kl) hA) fun g ny t ht=>A9 (i,o) (by simp) g ny t ht) (fun x hx t ht=>by
       by_cases e:o.dst=some t
       ·rw[e,iE,iE]
       ·rw[dN e,dN e];exact wy (yT x (by simp[hx]) t ht))
      have px:∀q∈recs,reach ops 4 q.o i=true:=fun q hq=>adv (q.i,q.o) (by rw[←c3];exact List.mem_map.2 ⟨q,hq,rfl⟩);have Wc:ops.toList.any (isApp E)=true:=List.any_eq_true.2 ⟨o,List.mem_of_getElem? (by rw[Array.getElem?_toList];exact hl (i,o) (by simp)),Qp⟩;refine⟨⟨i,o,v,wr,ft,kl⟩::recs,f',c1,c2,by simp[c3],⟨NG hE hY hg hA hd Zl hn,fun j b hb=>V9 _ hb,c4⟩,?_⟩;refine⟨fun hm=>(by cases hm),fun hm=>List.pairwise_cons.2 ⟨fun q hq=>.inl (px q hq),c5.ord hm⟩,fun hm q hq=>?_,List.pairwise_cons.2 ⟨fun q hq _=>px q hq,c5.kl⟩,⟨fun q hq nb _=>.inl (px q hq),c5.cln⟩,fun q hq nb hid=>?_⟩
      ·rcases List.mem_cons.1 hq with rfl|hq
       ·exact xK adt
       ·exact fun y hy x hx=>c5.log hm q hq y hy x (List.mem_append.2 (.inr hx))
      ·rcases List.mem_cons.1 hq with rfl|hq
       ·obtain⟨bb,hid⟩:=hid;exact⟨rfl,Wc,ky _ hid,Bj (adu _ hid)⟩
       ·obtain⟨g1,g2,g3,g4⟩:=c5.nam q hq nb hid;exact⟨g1,g2,g3,fun x hx=>g4 x (List.mem_append.2 (.inr hx))⟩
     ·cases h
    ·rcases D4 hE h with⟨v,f1,m1,ft,hk,Ny⟩|⟨vl,_⟩
     rotate_left
     ·cases vl
     obtain⟨V4,wr,Zm,V9,hn⟩:=Ny.drawn rfl;subst V4;have M3:∀(f2:Fr)(m2:Mem),(∀x∈o.op.operands,bA E f2 x=bA E F x)→(∀x∈ft,m2 x.2=m x.2)→∀(R':Type)(k':V→Fr→Mem→bl→Option R'),Fy E true (cE E o.dst) o f2 m2 k'=k' v f2 (qm wr m2) ft:=fun f2 m2 hf=>hn f2 m2 fun x hx=>by rw[hf x hx,Zl x hx]
     have step:∀(XR:List (Nat×bI))(Zn:Log),qm XR m=m1→(mode=1→XR=[])→(∀id b,(id,b)∈XR→(true,id)∈ft)→C1 E ops w0 ⟨i,o,v,XR,ft,[]⟩ F m→cp E ops mode fuel R A rest (gF f1 o.dst v) m1 Zn k=some r→(mode=2→Zn=(bif ops.toList.any (isApp E)then(zH ops o f1 m m1 v ft).map (fun n=>(i,false,tV n))else[])++(ft.map (fun x=>(i,x))++lg)∧xr ops o lg ft=true)→∃(recs:List Rec)(f':Fr),k f' (ng m recs)=some r∧su f' (kx F recs)∧recs.map (fun r=>(r.i,r.o))=(i,o)::rest∧fj E ops w0 F m recs∧D7 (E:=E) ops mode F m lg recs:=by
      intro XR Zn hwm LJ hw2 V6 Te hlg;obtain⟨recs,f',c1,c2,c3,c4,c5⟩:=kO hE hY gZ fuel Te (fun x hx=>hl x (by simp[hx])) (fun hm x hx=>OZ hm x (by simp[hx])) (fun x hx=>A9 x (by simp[hx])) (gF F o.dst v) (hF.put _ _) (og.put hA fun g ny t ht=>A9 (i,o) (by simp) g ny t ht) (fun x hx t ht=>by
       by_cases e:o.dst=some t
       ·rw[e,iE,iE]
       ·rw[dN e,dN e];exact yT x (by simp[hx]) t ht)
      subst hwm;refine⟨⟨i,o,v,XR,ft,[]⟩::recs,f',c1,c2,by simp[c3],⟨V6,hw2,c4⟩,?_⟩;have UF:mode=2→∀x∈lg,x∈Zn:=fun hm x hx=>by rw[(hlg hm).1];exact List.mem_append.2 (.inr (List.mem_append.2 (.inr hx)))
      have Qr:mode=2→∀x∈ft,(i,x)∈Zn:=fun hm x hx=>by rw[(hlg hm).1];exact List.mem_append.2 (.inr (List.mem_append.2 (.inl (List.mem_map.2 ⟨x,hx,rfl⟩))))
      refine⟨fun hm q hq=>?_,fun hm=>List.pairwise_cons.2 ⟨fun q hq=>?_,c5.ord hm⟩,fun hm q hq=>?_,List.pairwise_cons.2 ⟨fun q hq h=>absurd rfl h,c5.kl⟩,⟨fun q hq id hid=>?_,c5.cln⟩,fun q hq id hid=>?_⟩
      ·rcases List.mem_cons.1 hq with rfl|hq
       ·exact⟨LJ hm,rfl⟩
       ·exact c5.one hm q hq
      ·have d2:=c5.log hm;by_cases he:reach ops 4 q.o i=true
       ·exact .inl he
       ·refine .inr ⟨fun id b hb x hx Zo=>?_,fun id b hb x hx Zo=>?_⟩
        ·rcases d2 q hq x hx (i,true,id) (Qr hm (true,id) (hw2 id b hb))with h|h|h
         ·exact h Zo
         ·cases h.2
         ·exact he h
        ·rcases d2 q hq (true,id) (fj.wr c4 q hq id b hb) (i,x) (Qr hm x hx)with h|h|h
         ·exact h Zo.symm
         ·cases h.1
         ·exact he h
      ·rcases List.mem_cons.1 hq with rfl|hq
       ·exact xK (hlg hm).2
       ·exact fun y hy x hx=>c5.log hm q hq y hy x (UF hm x hx)
      ·obtain⟨g1,g2,g3,g4⟩:=c5.nam q hq id hid;by_cases he:reach ops 4 q.o i=true
       ·exact .inl he
       ·refine .inr (Qn (yT (i,o) (by simp)) hw2 (fun bN=>he (g4 (i,false,tV id) ?_ rfl)) fun x hx Zo=>?_)
        ·rw[(hlg g1).1,g2];exact List.mem_append.2 (.inl (List.mem_map.2 ⟨id,bN,rfl⟩))
        ·rcases c5.log g1 q hq (true,id) g3 (i,x) (Qr g1 x hx)with h|h|h
         ·exact h Zo.symm
         ·cases h.1
         ·exact he h
      ·rcases List.mem_cons.1 hq with rfl|hq
       ·obtain⟨_,hid⟩:=hid;cases hid
       ·obtain⟨g1,g2,g3,g4⟩:=c5.nam q hq id hid;exact⟨g1,g2,g3,fun x hx=>g4 x (UF g1 x hx)⟩
     rcases gZ with rfl|rfl
     ·simp only[Nat.beq,Bool.false_eq_true,if_false]at hk;split at hk
      ·rename_i hqf;have Zp:wr=[]:=by
        cases wr with
        |nil=>rfl
        |cons x l=>have:=vq hqf _ (V9 x (by simp));cases this
       subst Zp;exact step [] lg Zm.symm (fun _=>rfl) (by simp) (Bi hE hg hA hd M3) hk (by simp)
      ·cases hk
     ·simp only[Nat.beq,if_true]at hk;split at hk
      ·rename_i Zq;exact step wr _ Zm.symm (by simp) (fun id b hb=>V9 _ hb) (Bi hE hg hA hd M3) hk fun _=>⟨rfl,Zq⟩
      ·cases hk
   ·cases h
  ·rename_i j xt hg;split at h
   ·rename_i tj O0;split at h
    ·rename_i b hb;generalize iS:yw A ((i,o)::rest)=sp at h;obtain⟨body,FA⟩:=sp;have kN:=A7 iS;have Za:Nat.beq mode 0=false:=by rcases gZ with rfl|rfl<;>rfl
     simp only[Za,Bool.false_and,Bool.false_eq_true,if_false]at h;split at h
     ·rename_i ip p kB;split at h
      ·rename_i c x y IB;split at h
       ·rename_i hc;simp only[Bool.and_eq_true,List.all_eq_true,Bool.not_eq_true',beq_eq_false_iff_ne,ne_eq]at hc;obtain⟨⟨⟨⟨⟨⟨IC,V3⟩,u7⟩,Qb⟩,Wd⟩,hpd⟩,cN⟩:=hc;have We:mode=1:=by
         rcases gZ with h|h
         ·exact h
         ·subst h;simp[Nat.beq]at cN
        subst We;have IC:=Nat.eq_of_beq_eq_true IC;subst IC;have V3:guardOf p A=none:=by simpa using V3
        obtain⟨rb,HS,h⟩:=Option.bind_eq_some_iff.1 h;have bN:∀z∈body,z∈(i,o)::rest:=fun z hz=>by rw[kN];simp[hz]
        have sf:∀z∈kB,z∈(i,o)::rest:=fun z hz=>by rw[kN];simp[hz]
        have F4:(ip,p)∈(i,o)::rest:=by rw[kN];simp
        obtain⟨Qa,hb⟩:=A5 hb;have hFc:F c=.pv (.bool b):=by
         rcases hF c with e|e
         ·rw[←e];exact hb
         ·rw[e]at hb;cases hb
        have after:∀(py:List Rec)(q:Operand),py.map (fun r=>(r.i,r.o))=body→fj E ops w0 F m py→(∀q∈py,q.wr=[]∧q.kl=[])→bA E (kx F py) q=.pv (.bool rb)→(q=if b then x else y)→∃(recs:List Rec)(f':Fr),k f' (ng m recs)=some r∧su f' (kx F recs)∧recs.map (fun r=>(r.i,r.o))=body++(ip,p)::kB∧fj E ops w0 F m recs∧(∀q∈recs,q.wr=[]∧q.kl=[]):=by
         intro py q Zr Zs Zp hq hqe;have Ti:∀t,(∀z∈body,z.2.dst≠some t)→kx F py t=F t:=fun t ht=>C0 fun q hq=>⟨ht (q.i,q.o) (by rw[←Zr];exact List.mem_map.2 ⟨q,hq,rfl⟩),(Zp q hq).2⟩;have Zb:og E.fn.ntmps ops A (kx F py):=fun g ny=>by obtain⟨t,h1,h0,h2⟩:=hA g ny;exact⟨t,h1,h0,by rw[Ti t fun z hz=>A9 z (bN z hz) g ny t h1];exact h2⟩
         have Sq:kx F py c=.pv (.bool b):=by rw[Ti c fun z hz=>(u7 z hz).2];exact hFc
         have hrp:C1 E ops w0 ⟨ip,p,.pv (.bool rb),[],[],[]⟩ (kx F py) m:=Bi hE V3 Zb hpd fun f2 m2 hf hm R' k'=>by
          have oY:bA E f2 (.tmp c)=.pv (.bool b):=by have:=hf (.tmp c) (by rw[IB];simp[Op.operands]);rw[this,Td Qa];exact Sq
          have Ui:bA E f2 q=.pv (.bool rb):=by rw[hf q (by rw[IB,hqe];cases b<;>simp[Op.operands])];exact hq
          rw[F3 IB oY,←hqe,Ui];rfl
         obtain⟨recs,f',c1,c2,c3,c4,c5⟩:=kO hE hY (.inl rfl) fuel h (fun z hz=>hl z (sf z hz)) (fun hm z hz=>OZ hm z (sf z hz)) (fun z hz=>A9 z (sf z hz)) (gF (kx F py) p.dst (.pv (.bool rb))) (su.put (uk fun t ht=>by rw[Ti t ht];exact hF t) _ _) (og.put Zb fun g ny t ht=>A9 (ip,p) F4 g ny t ht) (fun z hz t ht=>by
          by_cases e:p.dst=some t
          ·rw[e,iE,iE]
          ·have YC:∀u∈body,u.2.dst≠some t:=fun u hu hud=>by
            have h1:=Wd z hz;simp only[blind,List.all_eq_true]at h1;have h2:=h1 u hu;rw[hud]at h2;simp only[Bool.not_eq_true']at h2;have:(z.2.looksAt ops).elem t=true:=by simpa using ht
            rw[this]at h2;cases h2
           rw[dN e,dN e,uj YC,Ti t YC];exact yT z (sf z hz) t ht)
         have hmB:ng m py=m:=C3 Zp;refine⟨py++⟨ip,p,.pv (.bool rb),[],[],[]⟩::recs,f',?_,?_,by simp[Zr,c3],?_,fun q hq=>?_⟩
         ·rw[F9,hmB];exact c1
         ·rw[F8];exact c2
         ·refine fj.append.2 ⟨Zs,?_⟩;rw[hmB];exact⟨hrp,by simp,c4⟩
         ·rcases List.mem_append.1 hq with h|h
          ·exact Zp q h
          ·rcases List.mem_cons.1 h with rfl|h
           ·exact⟨rfl,rfl⟩
           ·exact c5.one rfl q h
        have fin:(∃(recs:List Rec)(f':Fr),k f' (ng m recs)=some r∧su f' (kx F recs)∧recs.map (fun r=>(r.i,r.o))=body++(ip,p)::kB∧fj E ops w0 F m recs∧(∀q∈recs,q.wr=[]∧q.kl=[]))→∃(recs:List Rec)(f':Fr),k f' (ng m recs)=some r∧su f' (kx F recs)∧recs.map (fun r=>(r.i,r.o))=(i,o)::rest∧fj E ops w0 F m recs∧D7 (E:=E) ops 1 F m lg recs:=by rintro⟨recs,f',c1,c2,c3,c4,c5⟩;exact⟨recs,f',c1,c2,by rw[kN];exact c3,c4,fun _=>c5,fun h=>(by cases h),fun h=>(by cases h),List.Pairwise.imp_of_mem (R:=fun _ _=>True) (fun{q r}hq hr _ h=>absurd (c5 q hq).2 h) (List.pairwise_of_forall fun _ _=>trivial),l8.none fun q hq=>(c5 q hq).2,fun q hq id⟨_,hid⟩=>(by rw[(c5 q hq).2]at hid;cases hid)⟩
        have go:∀q,b=xt→(q=if b then x else y)→cp E ops 1 fuel Bool ((j,xt)::A) body f m lg (fun f _=>uJ (bA E f q))=some rb→∃(recs:List Rec)(f':Fr),k f' (ng m recs)=some r∧su f' (kx F recs)∧recs.map (fun r=>(r.i,r.o))=body++(ip,p)::kB∧fj E ops w0 F m recs∧(∀q∈recs,q.wr=[]∧q.kl=[]):=by
         intro q Nz hq Te;obtain⟨py,f1,c1,c2,c3,c4,c5⟩:=kO hE hY (.inl rfl) fuel Te (fun z hz=>hl z (bN z hz)) (fun hm z hz=>OZ hm z (bN z hz)) (fun z hz g ny t ht=>by
          rcases List.mem_cons.1 ny with rfl|ny
          ·simp only[O0]at ht;cases ht;exact(u7 z hz).2
          ·exact A9 z (bN z hz) g ny t ht) F hF (fun g ny=>by
          rcases List.mem_cons.1 ny with rfl|ny
          ·exact⟨c,O0,Qa,by rw[hFc,Nz]⟩
          ·exact hA g ny) (fun z hz=>yT z (bN z hz))
         refine after py q c3 c4 (c5.one rfl) ?_ hq;have hv:=wu c1;rcases P7 (E:=E) c2 q with e|e
         ·rw[←e];exact hv
         ·rw[e]at hv;cases hv
        have no:∀q,b= !xt→(q=if b then x else y)→uJ (bA E (kA f body) q)=some rb→∃(recs:List Rec)(f':Fr),k f' (ng m recs)=some r∧su f' (kx F recs)∧recs.map (fun r=>(r.i,r.o))=body++(ip,p)::kB∧fj E ops w0 F m recs∧(∀q∈recs,q.wr=[]∧q.kl=[]):=by
         intro q Nz hq Te;obtain⟨s1,s2⟩:=C2 (E:=E) (w0:=w0) (m:=m) body F (fun z hz=>(u7 z hz).1.2) (wq O0 Qb (fun z hz=>hl z (bN z hz)) (fun z hz=>(u7 z hz).2) (by rw[hFc,Nz]) (by simp));refine after (body.map wz) q (by simp[wz,Function.comp_def]) s1 (fun u hu=>by obtain⟨z,_,rfl⟩:=List.mem_map.1 hu;exact⟨rfl,rfl⟩) ?_ hq;rw[s2];have hv:=wu Te;have hle:su (kA f body) (gp F body):=uk fun t ht=>by rw[ry ht];exact hF t
         rcases P7 (E:=E) hle q with e|e
         ·rw[←e];exact hv
         ·rw[e]at hv;cases hv
        refine fin ?_;cases xt<;>cases b<;>simp only[cond]at HS
        ·exact go y rfl rfl HS
        ·exact no x rfl rfl HS
        ·exact no y rfl rfl HS
        ·exact go x rfl rfl HS
       ·cases h
      ·cases h
     ·cases h
    ·cases h
   ·cases h
theorem pT{l:List Oper}:(i,o)∈(List.range l.length).zip l↔l[i]?=some o:=by
 rw[List.mem_iff_getElem?];constructor
 ·rintro⟨n,hn⟩;rw[List.getElem?_zip_eq_some]at hn;obtain⟨h1,h2⟩:=hn;rw[List.getElem?_range (by have:=(List.getElem?_eq_some_iff.1 h2).1;omega)]at h1;simp only[Option.some.injEq]at h1;subst h1;exact h2
 ·intro h;refine⟨i,List.getElem?_zip_eq_some.2 ⟨?_,h⟩⟩;exact List.getElem?_range (by have:=(List.getElem?_eq_some_iff.1 h).1;omega)
theorem ta:∀{l done:List (Nat×Oper)},lY ops done l=true→(∀x∈l,∀d∈done,reach ops 4 x.2 d.1=true∨d.2.apart ops x.2=true)∧l.Pairwise (fun q r=>reach ops 4 r.2 q.1=true∨q.2.apart ops r.2=true)∧∀x∈l,∀e∈x.2.after,Region.binds .any e=true→e.on<x.1
 |[],_,_=>⟨by simp,.nil,by simp⟩
 |(i,o)::r,done,h=>by
  simp only[lY,Bool.and_eq_true]at h;obtain⟨⟨h1,h2⟩,h3⟩:=h;obtain⟨i1,i2,i3⟩:=ta h3;have AG:∀{done:List (Nat×Oper)},tW ops done o=true→∀d∈done,reach ops 4 o d.1=true∨d.2.apart ops o=true:=by
   intro done;induction done with
   |nil=>intro _ d hd;cases hd
   |cons x l ih=>
    intro h d hd;simp only[tW,Bool.and_eq_true,Bool.or_eq_true]at h;rcases List.mem_cons.1 hd with rfl|hd
    ·exact h.1.symm
    ·exact ih h.2 d hd
  refine⟨fun x hx d hd=>?_,List.pairwise_cons.2 ⟨fun x hx=>i1 x hx (i,o) (by simp),i2⟩,fun x hx e he hb=>?_⟩
  ·rcases List.mem_cons.1 hx with rfl|hx
   ·exact AG h2 d hd
   ·exact i1 x hx d (by simp[hd])
  ·rcases List.mem_cons.1 hx with rfl|hx
   ·have:=List.all_eq_true.1 h1 e (Array.mem_toList_iff.2 he);simp only[hb,Bool.not_true,Bool.false_or]at this;rwa[Nat.blt_eq]at this
   ·exact i3 x hx e he hb
variable{rd:Option Nat}{fuel:Nat}{Q:Exit→Act→World→Prop}
theorem tb(hE:iv E)(hY:qv E.P E.aD E.fn.ntmps E.yl w0){mode:Nat}(gZ:mode=1∨mode=2){l:List (Nat×Oper)}{base:Nat→Bool}(OZ:mode=1→∀x∈l,eV x.2=true){k:Fr→Mem→Option R}{r:R}(hmz:∀x∈l,ops[x.1]?=some x.2)(UG:(l.map Prod.fst).Pairwise (·<·))(Qf:∀x∈l,base x.1=false)(Qg:∀i o,ops[i]?=some o→base i=false→(∀x∈l,x.1≠i)→(∀x∈l,reach ops 8 o x.1=true)∨∃j,reach ops 8 o j=true∧base j=false∧∀x∈l,x.1≠j)(adw:∀x∈l,∀e∈x.2.after,Region.binds .any e=true→base e.on=true∨∃y∈l,y.1=e.on)(hi:lY ops [] l=true)(h:cp E ops mode fuel R [] l f m [] k=some r)(hQ:∀(fuel:Nat)(ag:Array Bool),ag.size=ops.size→ag.toList.countP (fun b=> !b)≤fuel→vv ops ag→(∀i,aw ag i=true↔base i=true∨∃x∈l,x.1=i)→∀f' m' μ φ a w,k f' m'=some r→Rel E.P E.aD E.fn.ntmps w0 μ φ f' m' a w→wpAnyIn (FR rd) 0 E.P .any ops Q fuel ag a w):∀(fuel:Nat)(ag:Array Bool),ag.size=ops.size→ag.toList.countP (fun b=> !b)≤fuel→vv ops ag→(∀i,aw ag i=true↔base i=true)→∀(μ:Ro)(φ:Nat→aC)(a:Act)(w:World),Rel E.P E.aD E.fn.ntmps w0 μ φ f m a w→wpAnyIn (FR rd) 0 E.P .any ops Q fuel ag a w:=by
 intro Zt ag hs hc se hb μ φ a w hR;obtain⟨recs,f',c1,c2,c3,c4,c5⟩:=kO (w0:=w0) hE hY gZ fuel h hmz OZ (by intro x hx g hg;cases hg) f (su.refl f) (by intro g hg;cases hg) (fun _ _ _ _=>rfl);obtain⟨_,i2,i3⟩:=ta hi;have bN:∀q∈recs,(q.i,q.o)∈l:=fun q hq=>by rw[←c3];exact List.mem_map.2 ⟨q,hq,rfl⟩
 have Zq:∀x∈l,∃q∈recs,q.i=x.1:=fun x hx=>by rw[←c3]at hx;obtain⟨q,hq,rfl⟩:=List.mem_map.1 hx;exact⟨q,hq,rfl⟩
 have AG:recs.Pairwise fun q r=>reach ops 4 r.o q.i=true∨q.o.apart ops r.o=true:=by rw[←c3,List.pairwise_map]at i2;exact i2
 have UH:recs.Pairwise (Qm (ops:=ops)):=by
  rcases gZ with hm|hm
  ·exact List.Pairwise.imp_of_mem (fun{q r}hq hr _=>.inr ⟨fun id b hb=>(by rw[(c5.one hm q hq).1]at hb;cases hb),fun id b hb=>(by rw[(c5.one hm r hr).1]at hb;cases hb)⟩) AG
  ·exact c5.ord hm
 refine Qe (E:=E) (w0:=w0) (recs:=recs) (f0:=f) (m0:=m) (base:=base) ?_ (fun q hq=>hmz _ (bN q hq)) (fun q hq=>Qf _ (bN q hq)) (fun i o ho hbi cR=>?_) ?_ c5.kl c5.cln (fun q hq e he DS=>⟨i3 _ (bN q hq) e he DS,?_⟩) c4 ?_ Zt ag hs hc se (fun i hi=>(hb i).2 hi) (fun i hi=>Or.inl ((hb i).1 hi)) μ φ a w ?_
 ·rw[←c3,List.map_map]at UG;have h2:(recs.map (Prod.fst∘fun r=>(r.i,r.o))).Pairwise (·<·):=UG;rw[List.pairwise_map]at h2;exact h2
 ·have adx:∀x∈l,x.1≠i:=fun x hx e=>by obtain⟨q,hq,Qh⟩:=Zq x hx;exact cR q hq (by rw[Qh];exact e)
  rcases Qg i o ho hbi adx with h1|⟨j,h1,h2,h3⟩
  ·exact Or.inl fun q hq=>h1 _ (bN q hq)
  ·exact Or.inr ⟨j,h1,h2,fun q hq=>h3 _ (bN q hq)⟩
 ·refine List.Pairwise.imp (fun{q r}h=>?_) (List.Pairwise.and AG UH);obtain⟨h1,h2⟩:=h;rcases h1 with h1|h1
  ·exact .inl h1
  ·rcases h2 with h2|h2
   ·exact .inl h2
   ·exact .inr ⟨h1,h2⟩
 ·rcases adw _ (bN q hq) e he DS with h1|⟨y,hy,h1⟩
  ·exact Or.inl h1
  ·obtain⟨q',M5,Qh⟩:=Zq y hy;exact Or.inr ⟨q',M5,by rw[Qh];exact h1⟩
 ·intro UI LU VQ Cg ady oY μ2 φ2 a2 w2 CT;refine hQ UI LU VQ Cg ady (fun i=>?_) _ _ μ2 φ2 a2 w2 c1 (CT.weaken c2);rw[oY i];constructor
  ·rintro(h1|⟨q,hq,h1⟩)
   ·exact Or.inl h1
   ·exact Or.inr ⟨_,bN q hq,h1⟩
  ·rintro(h1|⟨x,hx,h1⟩)
   ·exact Or.inl h1
   ·obtain⟨q,hq,Qh⟩:=Zq x hx;exact Or.inr ⟨q,hq,by rw[Qh];exact h1⟩
 ·have hS:∀q∈recs,aw ag q.i=false:=fun q hq=>by
   cases hx:aw ag q.i with
   |false=>rfl
   |true=>have:=(hb q.i).1 hx;rw[Qf _ (bN q hq)]at this;cases this
  rw[show mj (aw ag) f recs=f from funext fun t=>nA fun q hq hs=>(by rw[hS q hq]at hs;cases hs),show ml (aw ag) m recs=m from funext fun t=>nB fun q hq hs=>(by rw[hS q hq]at hs;cases hs)];exact hR
variable{x:Nat×Oper}
theorem vz(hx:x∈(List.range ops.size).zip ops.toList):ops[x.1]?=some x.2:=by have:=(pT (l:=ops.toList) (i:=x.1) (o:=x.2)).1 (by simpa using hx);rwa[Array.getElem?_toList]at this
theorem oi(ho:ops[i]?=some o):(i,o)∈(List.range ops.size).zip ops.toList:=by have:=(pT (l:=ops.toList) (i:=i) (o:=o)).2 (by rw[Array.getElem?_toList];exact ho);simpa using this
theorem zO:((List.range ops.size).zip ops.toList).map Prod.fst=List.range ops.size:=by rw[List.map_fst_zip (by simp)]
variable{P:Program}
theorem Bk{F:Fence}{n:Nat}{ag:Array Bool}(hs:ag.size=ops.size)(zu:∀i o,ops[i]?=some o→aw ag i=true)(hq:Q .normal a w):wpAnyIn F n P .any ops Q fuel ag a w:=by
 have hr:Region.ready .any ops ag=[]:=by
  apply List.eq_nil_iff_forall_not_mem.2;intro j hj;obtain⟨h0,o,ho,_⟩:=mem_ready.1 hj;have h1:=zu j o ho;have bp:j<ag.size:=by rw[hs];exact(Array.getElem?_eq_some_iff.1 ho).1
  simp only[aw,Array.getD_eq_getD_getElem?,Array.getElem?_eq_getElem bp,Option.getD_some]at h0 h1;rw[h0]at h1;cases h1
 cases fuel with
 |zero=>exact⟨hr,hq⟩
 |succ fuel=>exact⟨fun _=>hq,fun i hi=>by rw[hr]at hi;cases hi⟩
theorem tc(n j:Nat):aw (Array.replicate n false) j=false:=by simp only[aw,Array.getD_eq_getD_getElem?,Array.getElem?_replicate];split<;>rfl
theorem count_le(n:Nat):(Array.replicate n false).toList.countP (fun b=> !b)≤n:=by have:=List.countP_le_length (p:=fun b=> !b) (l:=(Array.replicate n false).toList);simpa using this
theorem yU:vv ops (Array.replicate ops.size false):=fun i o _ h=>by rw[tc]at h;cases h
theorem Bl(hE:iv E)(hY:qv E.P E.aD E.fn.ntmps E.yl w0){mode:Nat}(gZ:mode=1∨mode=2)(OZ:mode=1→∀o∈ops,eV o=true){k:Fr→Mem→Option R}{r:R}(hi:lY ops [] ((List.range ops.size).zip ops.toList)=true)(h:cp E ops mode fuel R [] ((List.range ops.size).zip ops.toList) f m [] k=some r){μ:Ro}(hR:Rel E.P E.aD E.fn.ntmps w0 μ φ f m a w)(hQ:∀f' m' μ' φ' a' w',k f' m'=some r→Rel E.P E.aD E.fn.ntmps w0 μ' φ' f' m' a' w'→Q .normal a' w'):wpAnyIn (FR rd) 0 E.P .any ops Q ops.size (Array.replicate ops.size false) a w:=by
 refine tb (w0:=w0) (base:=fun _=>false) hE hY gZ (fun hm x hx=>OZ hm x.2 (Array.mem_of_getElem? (vz hx))) (fun x hx=>vz hx) (by rw[zO];exact List.pairwise_lt_range) (fun _ _=>rfl) (fun i o ho _ cR=>absurd rfl (cR _ (oi ho))) (fun x hx e he hb=>Or.inr ?_) hi h ?_ ops.size _ (by simp) (count_le _) yU (fun i=>by rw[tc]) μ φ a w hR
 ·obtain⟨_,_,i3⟩:=ta hi;have h1:=i3 x hx e he hb;have h2:x.1<ops.size:=(Array.getElem?_eq_some_iff.1 (vz hx)).1;exact⟨_,oi (Array.getElem?_eq_getElem (show e.on<ops.size by omega)),rfl⟩
 ·intro UI LU VQ _ _ oY f' m' μ2 φ2 a2 w2 hk CT;exact Bk VQ (fun i o ho=>(oY i).2 (Or.inr ⟨_,oi ho,rfl⟩)) (hQ _ _ _ _ _ _ hk CT)
theorem wB{j:Nat}(h:((List.range ops.size).zip ops.toList)[j]?=some x):x.1=j:=by
 have h1:(((List.range ops.size).zip ops.toList).map Prod.fst)[j]?=some x.1:=by rw[List.getElem?_map,h];rfl
 rw[zO]at h1;obtain⟨h2,h3⟩:=List.getElem?_eq_some_iff.1 h1;rw[List.getElem_range]at h3;exact h3.symm
theorem mn{p:Nat}:x∈((List.range ops.size).zip ops.toList).take p↔x∈(List.range ops.size).zip ops.toList∧x.1<p:=by
 constructor
 ·intro h;obtain⟨j,hj⟩:=List.getElem?_of_mem h;have hjp:j<p:=by have:=(List.getElem?_eq_some_iff.1 hj).1;simp at this;omega
  rw[List.getElem?_take_of_lt hjp]at hj;exact⟨List.mem_of_getElem? hj,by rw[wB hj];exact hjp⟩
 ·rintro⟨h,hx⟩;obtain⟨j,hj⟩:=List.getElem?_of_mem h;have:=wB hj;exact List.mem_of_getElem? (i:=j) (by rw[List.getElem?_take_of_lt (by omega)];exact hj)
theorem qH{p:Nat}:x∈((List.range ops.size).zip ops.toList).drop p↔x∈(List.range ops.size).zip ops.toList∧p≤x.1:=by
 constructor
 ·intro h;obtain⟨j,hj⟩:=List.getElem?_of_mem h;rw[List.getElem?_drop]at hj;exact⟨List.mem_of_getElem? hj,by rw[wB hj];omega⟩
 ·rintro⟨h,hx⟩;obtain⟨j,hj⟩:=List.getElem?_of_mem h;have:=wB hj;exact List.mem_of_getElem? (i:=j-p) (by rw[List.getElem?_drop,show p+(j-p)=j by omega];exact hj)
variable{K:Act→World→Prop}{Q':Exit→Act→World→Prop}
theorem Oper.IH{F:Fence}{n:Nat}(h:∀e a w,e≠.normal→Q' e a w→Q e a w)(hh:o.wpIn F n P a w K Q'):o.wpIn F n P a w K Q:=by
 unfold Oper.wpIn at*;refine⟨hh.1,?_⟩;have hh:=hh.2;have Zu:LetsOut Q'→LetsOut Q:=fun⟨a,w,hq⟩=>⟨a,w,h _ _ _ (by simp) hq⟩;generalize (o.semAt F.round a.eval).run P w=r at*;cases r with
 |ok x w'=>
  cases x<;>simp only[Oper.uponIn]at hh⊢<;>first
   |exact hh
   |exact⟨hh.1,CallsIn.mono hh.2 (fun e w'' he=>by cases e<;>first|exact Zu he|exact h _ _ _ (by simp) he|exact he)⟩
   |exact⟨hh.1,RoundIn.mono hh.2 (fun e w'' he=>by cases e<;>first|exact Zu he|exact h _ _ _ (by simp) he|exact he)⟩
 |halt x w'=>cases x<;>simp only[Oper.uponIn]at hh⊢<;>first|exact h _ _ _ (by simp) hh|exact hh
theorem D8{F:Fence}{n:Nat}(h:∀e a w,e≠.normal→Q' e a w→Q e a w)(hh:wpOpIn F n P ops Q' i K a w):wpOpIn F n P ops Q i K a w:=by
 unfold wpOpIn at*;split
 ·simpa[*]using hh
 ·rename_i o ho;simp only[ho]at hh;split
  ·rename_i hw;simp only[hw,if_true]at hh;exact Oper.IH h hh
  ·rename_i hw;simp only[hw]at hh;exact hh
theorem II(hE:iv E)(hY:qv E.P E.aD E.fn.ntmps E.yl w0){p:Nat}(NH:Po ops p=true){k:Fr→Mem→Option R}{r:R}(Wf:lY ops [] (((List.range ops.size).zip ops.toList).take p)=true)(hi3:lY ops [] (((List.range ops.size).zip ops.toList).drop (p+1))=true){n1 n2 n3:Nat}(h:(cp E ops 2 n1 R [] (((List.range ops.size).zip ops.toList).take p) f m [] fun f m=>cp E ops 0 n2 R [] ((((List.range ops.size).zip ops.toList).drop p).take 1) f m [] fun f m=>cp E ops 2 n3 R [] (((List.range ops.size).zip ops.toList).drop (p+1)) f m [] k)=some r){μ:Ro}(hR:Rel E.P E.aD E.fn.ntmps w0 μ φ f m a w)(hQ:∀f' m' μ' φ' a' w',k f' m'=some r→Rel E.P E.aD E.fn.ntmps w0 μ' φ' f' m' a' w'→Q .normal a' w'):wpAnyIn (FR rd) 0 E.P .any ops Q ops.size (Array.replicate ops.size false) a w:=by
 unfold Po at NH;cases ho:ops[p]? with
 |none=>rw[ho]at NH;cases NH
 |some o=>
  rw[ho]at NH;simp only[Bool.and_eq_true]at NH;obtain⟨⟨_,Cj⟩,XS⟩:=NH;have hpn:p<ops.size:=(Array.getElem?_eq_some_iff.1 ho).1;have LQ:∀e∈o.after,Region.binds .any e=true→e.on<p:=fun e he hb=>by have:=List.all_eq_true.1 Cj e (Array.mem_toList_iff.2 he);rw[hb,Bool.not_true,Bool.false_or]at this;exact Nat.le_of_ble_eq_true this
  have adz:∀i,i<p→reach ops 8 o i=true:=fun i hi=>by
   have:=List.all_eq_true.1 XS _ (oi (Array.getElem?_eq_getElem (show i<ops.size by omega)));simp only at this;have hb:Nat.blt i p=true:=by simp[Nat.blt];omega
   rw[hb]at this;exact this
  have Zv:∀i o',ops[i]?=some o'→p<i→reach ops 8 o' p=true:=fun i o' NC hi=>by
   have:=List.all_eq_true.1 XS _ (oi NC);simp only at this;have hb:Nat.blt i p=false:=by
    cases hx:Nat.blt i p with
    |false=>rfl
    |true=>have:i<p:=Nat.le_of_ble_eq_true hx;omega
   have oY:Nat.beq i p=false:=by
    cases hx:Nat.beq i p with
    |false=>rfl
    |true=>have:=Nat.eq_of_beq_eq_true hx;omega
   rw[hb,oY]at this;simpa using this
  refine tb (w0:=w0) (base:=fun _=>false) hE hY (.inr rfl) (fun h=>by cases h) (fun x hx=>vz (mn.1 hx).1) (by rw[List.map_take,zO];exact(List.pairwise_lt_range).sublist (List.take_sublist _ _)) (fun _ _=>rfl) (fun i o' NC _ cR=>?_) (fun x hx e he hb=>Or.inr ?_) Wf h ?_ ops.size _ (by simp) (count_le _) yU (fun i=>by rw[tc]) μ φ a w hR
  ·have hip:¬i<p:=fun hc=>cR _ (mn.2 ⟨oi NC,hc⟩) rfl;by_cases hi:i=p
   ·subst hi;rw[ho]at NC;cases NC;exact Or.inl fun x hx=>adz _ (mn.1 hx).2
   ·exact Or.inr ⟨p,Zv i o' NC (by omega),rfl,fun x hx=>by have:=(mn.1 hx).2;omega⟩
  ·obtain⟨_,_,i3⟩:=ta Wf;have h1:=i3 x hx e he hb;have h2:=(mn.1 hx).2;exact⟨_,mn.2 ⟨oi (Array.getElem?_eq_getElem (show e.on<ops.size by omega)),by show e.on<p;omega⟩,rfl⟩
  ·intro fuel ag hs hc se hb f1 m1 μ1 φ1 a1 w1 Nk ID;have bp:∀i,aw ag i=true↔i<p:=fun i=>by
    rw[hb i];constructor
    ·rintro(h|⟨x,hx,rfl⟩)
     ·cases h
     ·exact(mn.1 hx).2
    ·intro hi;exact Or.inr ⟨_,mn.2 ⟨oi (Array.getElem?_eq_getElem (show i<ops.size by omega)),hi⟩,rfl⟩
   have lN:p<ag.size:=by rw[hs];exact hpn
   have hpu:aw ag p=false:=by
    cases hx:aw ag p with
    |false=>rfl
    |true=>have:=(bp p).1 hx;omega
   have Wg:ag[p]=false:=by simpa only[aw,Array.getD_eq_getD_getElem?,Array.getElem?_eq_getElem lN,Option.getD_some]using hpu
   cases fuel with
   |zero=>have:=List.countP_eq_zero.1 (Nat.le_zero.1 hc) ag[p] (by simp);rw[Wg]at this;simp at this
   |succ fuel=>
    have Qs:p∈Region.ready .any ops ag:=mem_ready.2 ⟨by simp only[Array.getD_eq_getD_getElem?,Array.getElem?_eq_getElem lN,Option.getD_some];exact Wg,o,ho,fun e he DS=>(bp e.on).2 (LQ e he DS)⟩;refine⟨(fun h0=>by rw[h0]at Qs;cases Qs),fun i hi=>?_⟩;obtain⟨NB,o',NC,xJ⟩:=mem_ready.1 hi;have px:i<ag.size:=by rw[hs];exact(Array.getElem?_eq_some_iff.1 NC).1
    have hiu:aw ag i=false:=by simp only[aw,Array.getD_eq_getD_getElem?,Array.getElem?_eq_getElem px,Option.getD_some]at NB⊢;exact NB
    have hip:i=p:=by
     refine Classical.byContradiction fun cR=>?_;have h1:¬i<p:=fun hc=>by rw[(bp i).2 hc]at hiu;cases hiu
     have:=oh ag se 8 o' p xJ (Zv i o' NC (by omega));rw[hpu]at this;cases this
    subst hip;have hL:(((List.range ops.size).zip ops.toList).drop i).take 1=[(i,o)]:=by
     have hlen:i<((List.range ops.size).zip ops.toList).length:=by simp;exact hpn
     rw[List.drop_eq_getElem_cons hlen];have hg:((List.range ops.size).zip ops.toList)[i]=(i,o):=by have h1:((List.range ops.size).zip ops.toList)[i]?=some ((List.range ops.size).zip ops.toList)[i]:=List.getElem?_eq_getElem hlen;have h2:=wB h1;have h3:=vz (List.mem_of_getElem? h1);rw[h2,ho]at h3;exact Prod.ext h2 (Option.some.inj h3).symm
     rw[hg];rfl
    rw[hL]at Nk;have UD:∀j,aw (ag.setIfInBounds i true) j=if j=i then true else aw ag j:=fun j=>by
     simp only[aw,Array.getD_eq_getD_getElem?,Array.getElem?_setIfInBounds];by_cases e:i=j
     ·subst e;simp[lN]
     ·have e':¬j=i:=fun h=>e h.symm;simp[e,e']
    have hle:∀j,aw (ag.setIfInBounds i true) j=true↔j≤i:=fun j=>by
     rw[UD];by_cases e:j=i
     ·simp[e]
     ·rw[if_neg e,bp];omega
    have Zw:=gk (rd:=rd) (w0:=w0) hE hY _ (.inl rfl) Nk (by intro x hx;rw[List.mem_singleton]at hx;subst hx;exact ho) (by intro x hx g hg;cases hg) (fun h=>by cases h) μ1 φ1 a1 w1 (fun e a w=>(e=.normal∧wpAnyIn (FR rd) 0 E.P .any ops Q fuel (ag.setIfInBounds i true) a w)∨(e≠.normal∧Q e a w)) [] ID (by intro g hg;cases hg) fun f2 m2 μ2 φ2 a2 w2 S3 CT _ _=>Or.inl ⟨rfl,?_⟩
    ·rw[List.append_nil,List.map_cons,List.map_nil,wpOpsIn_cons]at Zw;refine wpOpIn_mono (fun a w hq=>?_) (D8 (fun e a w cR hq=>?_) Zw)
     ·rcases hq with⟨_,h⟩|⟨h,_⟩
      ·exact h
      ·exact absurd rfl h
     ·rcases hq with⟨h,_⟩|⟨_,h⟩
      ·exact absurd h cR
      ·exact h
    ·refine tb (w0:=w0) (base:=fun j=>decide (j≤i)) hE hY (.inr rfl) (fun h=>by cases h) (fun x hx=>vz (qH.1 hx).1) (by rw[List.map_drop,zO];exact(List.pairwise_lt_range).sublist (List.drop_sublist _ _)) (fun x hx=>by have:=(qH.1 hx).2;simp;omega) (fun j oj hj hbj cR=>?_) (fun x hx e he DS=>?_) hi3 S3 ?_ fuel _ (by simp[hs]) ?_ ?_ (fun j=>by rw[hle j];simp) μ2 φ2 a2 w2 CT
     ·simp only[decide_eq_false_iff_not]at hbj;exact absurd rfl (cR _ (qH.2 ⟨oi hj,by show i+1≤j;omega⟩))
     ·obtain⟨_,_,i3⟩:=ta hi3;have h1:=i3 x hx e he DS;have h2:x.1<ops.size:=(Array.getElem?_eq_some_iff.1 (vz (qH.1 hx).1)).1;by_cases hei:e.on≤i
      ·exact Or.inl (by simpa using hei)
      ·exact Or.inr ⟨_,qH.2 ⟨oi (Array.getElem?_eq_getElem (show e.on<ops.size by omega)),by show i+1≤e.on;omega⟩,rfl⟩
     ·intro afB ac2 hs3 _ _ hb3 f3 m3 μ3 φ3 a3 w3 XT Zx;refine Bk hs3 (fun j oj hj=>(hb3 j).2 ?_) (hQ _ _ _ _ _ _ XT Zx);by_cases Iv:j≤i
      ·exact Or.inl (by simpa using Iv)
      ·exact Or.inr ⟨_,qH.2 ⟨oi hj,by show i+1≤j;omega⟩,rfl⟩
     ·rw[Array.toList_setIfInBounds,List.countP_set (by simpa using lN)];have:ag.toList[i]'(by simpa using lN)=false:=by simpa using Wg
      rw[this];simp only[Bool.not_false,if_true,Bool.not_true,Bool.false_eq_true,if_false];omega
     ·intro j oj hj hlj e he DS;rw[hle]at hlj⊢;by_cases Iv:j=i
      ·subst Iv;rw[ho]at hj;cases hj;have:=LQ e he DS;omega
      ·have h1:=se j oj hj ((bp j).2 (by omega)) e he DS;have:=(bp e.on).1 h1;omega
end
end Go.Ab
