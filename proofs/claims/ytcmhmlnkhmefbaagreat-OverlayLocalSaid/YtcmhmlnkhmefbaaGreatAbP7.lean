import Derived.Test.YtcmhmlnkhmefbaaGreatAbP6
import Derived.OrdersIn
set_option linter.unusedVariables false
namespace Go.Ab
open Go.RowKit (Below)
def sV(f F:Fr):Prop:=∀t,f t=F t∨f t=.top
theorem sV.refl(f:Fr):sV f f:=fun _=>.inl rfl
theorem sV.put{f F:Fr}(h:sV f F)(d:Option Nat)(v:V):sV (gT f d v) (gT F d v):=by
 intro t;cases d with
 |none=>exact h t
 |some d=>
  simp only[gT,fk];cases Nat.beq t d
  ·exact h t
  ·exact .inl rfl
theorem dU{f:Fr}{d:Option Nat}{v:V}{t:Nat}(h:d≠some t):gT f d v t=f t:=by
 cases d with
 |none=>rfl
 |some d=>exact oz (fun e=>h (by rw[e]))
theorem iV{f:Fr}{v:V}{t:Nat}:gT f (some t) v t=v:=by simp[gT,fk,Nat.beq_refl]
section
variable {E:Env} {ops:Array Oper} {w0:bA}
variable{nt:Nat}{μ:Ro}{φ:Nat→aG}{f:Fr}{m:Mem}{a:Act}
theorem Rel.weaken{f':Fr}{w:World}(h:Rel E.P E.aI nt w0 μ φ f m a w)(hf:sV f' f):Rel E.P E.aI nt w0 μ φ f' m a w:=
 {h with
  fr:=fun t=>by
   rcases hf t with e|e
   ·rw[e];exact h.fr t
   ·rw[e];exact .top,
  live:=fun t id hid=>by
   rcases hf t with e|e
   ·rw[e]at hid;exact h.live t id hid
   ·rw[e]at hid;cases hid}
variable{t:Nat}
theorem BH{d:Nat}{y:Value}(hd:d<a.tmps.size):(a.put (some d) y).tmps.getD t undef=if t=d then y else a.tmps.getD t undef:=by
 simp only[Act.put,Array.getD_eq_getD_getElem?,Array.getElem?_setIfInBounds];by_cases e:d=t
 ·subst e;simp[hd]
 ·have e':¬t=d:=fun h=>e h.symm;simp[e,e']
theorem Rel.put{nt:Nat}{μ μ':Ro}{φ φ':Nat→aG}{f f':Fr}{m m':Mem}{a:Act}{w w':World}(h:Rel E.P E.aI nt w0 μ φ f m a w)(hle:GH μ μ'){dst:Option Nat}{v:V}{y:Value}(hd:∀d,dst=some d→d<nt)(hM:ay E.P E.aI w0 μ' φ' m' w')(hF:cm E.P μ' φ' m' f' (aA nt w0 a))(hv:ai E.P μ' φ' v y)(hl:∀id,v.has id=true→(m' id).isSome=true):Rel E.P E.aI nt w0 μ' φ' (gT f' dst v) m' (a.put dst y) w':=by
 refine{toay:=hM,size:=?_,defers:=?_,kL:=h.kL,fr:=fun t=>?_,live:=fun t id hid=>?_}
 ·cases dst<;>simp[Act.put,h.size]
 ·cases dst<;>exact h.defers.mono hle
 ·cases dst with
  |none=>exact hF.fr t
  |some d=>
   have bt:d<a.tmps.size:=by rw[h.size];exact hd d rfl
   have hf:=hF.fr t;by_cases e:t=d
   ·subst e;rw[oq (hd t rfl),BH bt,if_pos rfl,iV];exact hv
   ·rw[dU (by simpa using fun h=>e h.symm)];unfold aA at hf⊢;split
    ·rename_i ht;rw[if_pos ht]at hf;rw[BH bt,if_neg e];exact hf
    ·rename_i ht;rw[if_neg ht]at hf;exact hf
 ·by_cases e:dst=some t
  ·subst e;rw[iV]at hid;exact hl id hid
  ·rw[dU e]at hid;exact hF.live t id hid
theorem Uj(h:t<E.fn.ntmps):bD E f (.tmp t)=f t:=by simp only[bD];rw[show Nat.blt t E.fn.ntmps=true by rw[Nat.blt_eq];exact h];rfl
theorem BI{p:PV}(h:bD E f (.tmp t)=.pv p):t<E.fn.ntmps∧f t=.pv p:=by
 simp only[bD]at h;cases e:Nat.blt t E.fn.ntmps with
 |true=>rw[e]at h;exact⟨by rwa[Nat.blt_eq]at e,h⟩
 |false=>rw[e]at h;cases h
theorem Q7{F:Fr}(h:sV f F)(q:Operand):bD E f q=bD E F q∨bD E f q=.top:=by
 cases q with
 |tmp t=>
  simp only[bD];cases Nat.blt t E.fn.ntmps with
  |true=>exact h t
  |false=>exact .inr rfl
 |_=>exact .inl rfl
def oJ(nt:Nat)(ops:Array Oper)(A:List (Nat×Bool))(f:Fr):Prop:=∀g∈A,∃t,(ops[g.1]?).bind (·.dst)=some t∧t<nt∧f t=.pv (.bool g.2)
def w8(ops:Array Oper)(A:List (Nat×Bool))(a:Act):Prop:=∀g∈A,∃t,(ops[g.1]?).bind (·.dst)=some t∧a.tmps.getD t undef=.bool g.2
def Xe(ops:Array Oper)(A:List (Nat×Bool))(l:List (Nat×Oper)):Prop:=∀x∈l,∀g∈A,∀t,(ops[g.1]?).bind (·.dst)=some t→x.2.dst≠some t
variable{d:Option Nat}{A:List (Nat×Bool)}
theorem oJ.put(h:oJ nt ops A f){v:V}(hd:∀g∈A,∀t,(ops[g.1]?).bind (·.dst)=some t→d≠some t):oJ nt ops A (gT f d v):=by intro g hg;obtain⟨t,h1,h0,h2⟩:=h g hg;exact⟨t,h1,h0,by rw[dU (hd g hg t h1)];exact h2⟩
variable{o:Oper}
theorem gW(h:tg E o=true):∀d,o.dst=some d→d<E.fn.ntmps:=by intro d hd;simp only[tg,hd]at h;rw[Nat.blt_eq]at h;exact h
variable{b:Bool}
theorem sk{j:Nat}(h:(ops[j]?).bind (·.dst)=some t)(hb:a.tmps.getD t undef=.bool b):yielded ops a.tmps j=some b:=by
 simp only[yielded,h,Option.bind_some];have:a.tmps[t]?=some (.bool b):=by
  rw[Array.getD_eq_getD_getElem?]at hb;cases e:a.tmps[t]? with
  |none=>rw[e]at hb;simp[undef]at hb
  |some x=>rw[e]at hb;simpa using hb
 rw[this]
theorem yB(ho:guardOf o A=none)(hA:w8 ops A a):Region.wanted o (yielded ops a.tmps)=true:=by
 unfold guardOf at ho;unfold Region.wanted;split at ho
 ·rename_i hg;simp[hg]
 ·rename_i g hg;split at ho
  ·rename_i bP;obtain⟨t,h1,h2⟩:=hA g (by simpa using bP);simp only[hg];rw[sk h1 h2];simp
  ·cases ho
theorem w8.put(h:w8 ops A a){y:Value}(hs:∀t,d=some t→t<a.tmps.size)(hd:∀g∈A,∀t,(ops[g.1]?).bind (·.dst)=some t→d≠some t):w8 ops A (a.put d y):=by
 intro g hg;obtain⟨t,h1,h2⟩:=h g hg;refine⟨t,h1,?_⟩;cases d with
 |none=>exact h2
 |some d=>rw[BH (hs d rfl),if_neg fun e=>hd g hg t h1 (by rw[e])];exact h2
def Ot(ops:Array Oper)(f:Fr)(o:Oper):Prop:=∃g,o.guard=some g∧∀t,(ops[g.1]?).bind (·.dst)=some t→f t=.bl []∨f t=.pv (.bool (!g.2))
theorem Ou{P:Program}{x:Value}(h:ai P μ φ (.bl []) x):x=undef:=by
 cases h with
 | @bl _ xs h1 _=>have:xs= #[]:=Array.eq_empty_of_size_eq_zero (by simpa using h1.symm);subst this;rfl
theorem BJ{P:Program}:ai P μ φ (.bl []) undef:=.bl rfl (by simp)
theorem vH{w:World}(h:Rel E.P E.aI nt w0 μ φ f m a w)(hd:Ot ops f o):Region.wanted o (yielded ops a.tmps)=false:=by
 obtain⟨g,hg,ht⟩:=hd;simp only[Region.wanted,hg];cases hs:(ops[g.1]?).bind (·.dst)with
 |none=>simp[yielded,hs]
 |some t=>
  have hy:nt≤t→yielded ops a.tmps g.1=none:=fun hle=>by simp only[yielded,hs,Option.bind_some];rw[Array.getElem?_eq_none (by rw[h.size];exact hle)]
  by_cases CR:nt≤t
  ·rw[hy CR];rfl
  have bt:t<nt:=Nat.lt_of_not_le CR;have h3:=h.fr t;rw[oq bt]at h3;rcases ht t hs with e|e
  ·rw[e]at h3;have h4:=Ou h3;have:yielded ops a.tmps g.1=none:=by
    simp only[yielded,hs,Option.bind_some];rw[Array.getD_eq_getD_getElem?]at h4;cases e:a.tmps[t]? with
    |none=>rfl
    |some x=>rw[e]at h4;simp only[Option.getD_some]at h4;subst h4;rfl
   rw[this];rfl
  ·rw[e]at h3;rw[sk hs (oH h3)];cases g.2<;>rfl
theorem sl{t:Nat}:∀{l:List (Nat×Oper)}{f:Fr},(∀x∈l,x.2.dst≠some t)→gF f l t=f t
 |[],_,_=>rfl
 |x::r,f,h=>by rw[gF,sl (fun y hy=>h y (by simp[hy])),dU (h x (by simp))]
theorem uW{t:Nat}:∀{l:List (Nat×Oper)}{f:Fr},(∀x∈l,x.2.dst≠some t)→kO f l t=f t
 |[],_,_=>rfl
 |x::r,f,h=>by rw[kO,uW (fun y hy=>h y (by simp[hy])),dU (h x (by simp))]
theorem yC{t:Nat}:∀{l:List (Nat×Oper)}{f:Fr},(f t=.top∨∃x∈l,x.2.dst=some t)→kO f l t=.top
 |[],_,h=>by
  rcases h with h|⟨x,hx,_⟩
  ·exact h
  ·cases hx
 |x::r,f,h=>by
  rw[kO];by_cases e:x.2.dst=some t
  ·exact yC (.inl (by rw[e,iV]))
  ·refine yC ?_;rcases h with h|⟨y,hy,hd⟩
   ·exact .inl (by rw[dU e];exact h)
   ·rcases List.mem_cons.1 hy with rfl|hy
    ·exact absurd hd e
    ·exact .inr ⟨y,hy,hd⟩
theorem uX{l:List (Nat×Oper)}{F:Fr}(h:∀t,(∀x∈l,x.2.dst≠some t)→f t=F t∨f t=.top):sV (kO f l) F:=by
 intro t;by_cases e:∃x∈l,x.2.dst=some t
 ·exact .inr (yC (.inr e))
 ·have e':∀x∈l,x.2.dst≠some t:=fun x hx hd=>e ⟨x,hx,hd⟩;rw[uW e'];exact h t e'
theorem w9{g:Nat×Bool}{tj:Nat}(hj:(ops[g.1]?).bind (·.dst)=some tj):∀{l:List (Nat×Oper)}{done:List Nat}{f:Fr},tf g done l=true→(∀x∈l,ops[x.1]?=some x.2)→(∀x∈l,x.2.dst≠some tj)→f tj=.pv (.bool (!g.2))→(∀j∈done,∀t,(ops[j]?).bind (·.dst)=some t→f t=.bl [])→∀(pre post:List (Nat×Oper))(x:Nat×Oper),l=pre++x::post→Ot ops (gF f pre) x.2
 |[],_,_,_,_,_,_,_,pre,post,x,h=>by simp at h
 |y::r,done,f,hg,hl,hd,hb,Jg,pre,post,x,h=>by
  simp only[tf,Bool.and_eq_true]at hg;cases pre with
  |nil=>
   simp only[List.nil_append,List.cons.injEq]at h;obtain⟨rfl,rfl⟩:=h;rw[gF];have h1:=hg.1;split at h1
   ·rename_i hh Q8;refine⟨hh,Q8,fun t ht=>?_⟩;rcases Bool.or_eq_true_iff.1 h1 with h2|h2
    ·simp only[Bool.and_eq_true]at h2;have e1:=Nat.eq_of_beq_eq_true h2.1;have e2:hh.2=g.2:=by simpa using h2.2
     rw[e1]at ht;rw[hj]at ht;cases ht;exact .inr (by rw[e2];exact hb)
    ·exact .inl (Jg _ (by simpa using h2) t ht)
   ·cases h1
  |cons z pre=>
   simp only[List.cons_append,List.cons.injEq]at h;obtain⟨rfl,h⟩:=h;rw[gF];refine w9 hj hg.2 (fun x hx=>hl x (by simp[hx])) (fun x hx=>hd x (by simp[hx])) (by rw[dU (hd y (by simp))];exact hb) (fun j hjm t ht=>?_) pre post x h;by_cases e:y.2.dst=some t
   ·rw[e,iV]
   ·rw[dU e];rcases List.mem_cons.1 hjm with rfl|hjm
    ·rw[hl y (by simp)]at ht;exact absurd ht e
    ·exact Jg j hjm t ht
theorem BK{A:List (Nat×Bool)}:∀{l a b:List (Nat×Oper)},za A l=(a,b)→l=a++b
 |[],a,b,h=>by simp[za]at h;obtain⟨rfl,rfl⟩:=h;rfl
 |x::r,a,b,h=>by
  simp only[za]at h;split at h
  ·cases hs:za A r with
   |mk a' b'=>rw[hs]at h;simp only[Prod.mk.injEq]at h;obtain⟨rfl,rfl⟩:=h;rw[BK hs];rfl
  ·simp only[Prod.mk.injEq]at h;obtain⟨rfl,rfl⟩:=h;rfl
theorem xb{v:V}(h:vt v=some b):v=.pv (.bool b):=by
 unfold vt at h;split at h
 ·cases h;rfl
 ·cases h
theorem VI(hE:iO E){site:Nat}{draw:Bool}{v:V}{f':Fr}{m':Mem}{ft:bp}(hn:draw=true∨∃c x y,o.op=.pick c x y)(h:∀(R':Type)(k':V→Fr→Mem→bp→Option R'),Gd E draw site o f m k'=k' v f' m' ft):si E draw site o f m v f' m' ft:=by
 have hx:=EI hE (h (V×Fr×Mem×bp) fun v f m ft=>some (v,f,m,ft));rcases hx with⟨v1,f1,m1,Za,h1,h2⟩|⟨h1,h2,_⟩
 rotate_left
 ·rcases hn with hn|⟨c,x,y,hn⟩
  ·rw[hn]at h1;cases h1
  ·exact absurd hn (h2 c x y)
 simp only[Option.some.injEq,Prod.mk.injEq]at h1;obtain⟨rfl,rfl,rfl,rfl⟩:=h1;exact h2
theorem GI{R:Type}{site:Nat}{draw:Bool}{p:Oper}{c:Nat}{x y:Operand}{k:V→Fr→Mem→bp→Option R}(hp:p.op=.pick (.tmp c) x y)(hb:bD E f (.tmp c)=.pv (.bool b)):Gd E draw site p f m k=k (bD E f (if b then x else y)) f m []:=by
 have jg:vQ E site p f m=none:=by simp only[vQ,hp]
 unfold Gd;rw[jg];have e:(bif draw then none else bif E.y6 site then(none:Option Sp)else none)=none:=by cases draw<;>cases E.y6 site<;>rfl
 rw[e];simp only[cZ,hp,hb];cases b<;>rfl
end
end Go.Ab
set_option linter.unusedVariables false
namespace Go.Ab
open Go.RowKit (Below)
section
variable {E:Env} {ops:Array Oper} {w0:bA}
theorem tC{rd:Option Nat}{Q:Exit→Act→World→Prop}{tail:List Nat}:∀(l:List (Nat×Oper))(f:Fr),(∀x∈l,ops[x.1]?=some x.2)→(∀x∈l,tg E x.2=true)→(∀(pre post:List (Nat×Oper))(x:Nat×Oper),l=pre++x::post→Ot ops (gF f pre) x.2)→∀{μ:Ro}{φ:Nat→aG}{m:Mem}{a:Act}{w:World},Rel E.P E.aI E.fn.ntmps w0 μ φ f m a w→∀(A:List (Nat×Bool)),w8 ops A a→Xe ops A l→(∀a',Rel E.P E.aI E.fn.ntmps w0 μ φ (gF f l) m a' w→w8 ops A a'→wpOpsIn (FR rd) 0 E.P ops Q tail a' w)→wpOpsIn (FR rd) 0 E.P ops Q (l.map (·.1)++tail) a w
 |[],f,_,_,_,_,_,_,a,_,hR,_,hA,_,hK=>hK a hR hA
 |x::r,f,hl,hd,BL,μ,φ,m,a,w,hR,A,hA,BM,hK=>by simp only[List.map_cons,List.cons_append,wpOpsIn];rw[hl x (by simp)];simp only;rw[vH hR (BL [] r x rfl)];simp only[Bool.false_eq_true,if_false];refine And.intro (fun _ _=>trivial) (tC r (gT f x.2.dst (.bl [])) (fun y hy=>hl y (by simp[hy])) (fun y hy=>hd y (by simp[hy])) (fun pre post y h=>?_) (hR.put (fun _ _ h=>h) (gW (hd x (by simp))) hR.toay hR.ju BJ (fun id hid=>by simp[V.has,cr]at hid)) A (hA.put (fun t ht=>by rw[hR.size];exact gW (hd x (by simp)) t ht) fun g nS t ht=>BM x (by simp) g nS t ht) (fun y hy=>BM y (by simp[hy])) hK);have:=BL (x::pre) post y (by rw[h];rfl);rwa[gF]at this
theorem v7:∀{ft:bp},wR ft=true→∀x∈ft,x.1=false
 |[],_,x,hx=>by cases hx
 |(w,id)::r,h,x,hx=>by
  simp only[wR,Bool.and_eq_true,Bool.not_eq_true']at h;rcases List.mem_cons.1 hx with rfl|hx
  ·exact h.1
  ·exact v7 h.2 x hx
theorem gA(hE:iO E){rd:Option Nat}(hY:qV E.P E.aI E.fn.ntmps E.yl w0):∀(fuel:Nat){mode:Nat}(iC:mode=0∨mode=3){R:Type}{A:List (Nat×Bool)}{l:List (Nat×Oper)}{f:Fr}{m:Mem}{lg:Log}{k:Fr→Mem→Option R}{r:R},cq E ops mode fuel R A l f m lg k=some r→(∀x∈l,ops[x.1]?=some x.2)→Xe ops A l→(mode=3→∀x∈l,eY x.2=true)→∀(μ:Ro)(φ:Nat→aG)(a:Act)(w:World)(Q:Exit→Act→World→Prop)(tail:List Nat),Rel E.P E.aI E.fn.ntmps w0 μ φ f m a w→w8 ops A a→(∀(f':Fr)(m':Mem)(μ':Ro)(φ':Nat→aG)(a':Act)(w':World),k f' m'=some r→Rel E.P E.aI E.fn.ntmps w0 μ' φ' f' m' a' w'→w8 ops A a'→(mode=3→m'=m∧∀t,(∀x∈l,x.2.dst≠some t)→f' t=f t)→wpOpsIn (FR rd) 0 E.P ops Q tail a' w')→wpOpsIn (FR rd) 0 E.P ops Q (l.map (·.1)++tail) a w
 |0,_,_,_,_,_,_,_,_,_,_,h,_,_,_,_,_,_,_,_,_,_,_,_=>by simp[cq]at h
 |fuel+1,mode,iC,R,A,[],f,m,lg,k,r,h,_,_,_,μ,φ,a,w,Q,tail,hR,hA,hK=>by simp only[cq]at h;exact hK f m μ φ a w h hR hA fun _=>⟨rfl,fun _ _=>rfl⟩
 |fuel+1,mode,iC,R,A,(i,o)::rest,f,m,lg,k,r,h,hl,BM,P2,μ,φ,a,w,Q,tail,hR,hA,hK=>by
  simp only[cq]at h;split at h
  ·rename_i hg;split at h
   ·rename_i hd;have ME:Nat.beq mode 2=false:=by rcases iC with rfl|rfl<;>rfl
    simp only[ME,cond_false]at h;rw[←ME]at h;have hdf:=yA h;rcases EI hE h with⟨v,f1,m1,ft,hk,Ov⟩|⟨_,pT⟩
    rotate_left
    ·simp only[List.map_cons,List.cons_append,wpOpsIn];rw[hl (i,o) (by simp)];simp only;rw[yB hg hA,if_pos rfl];refine BG.vZ pT rd w0 μ φ a w _ Q hY hR fun v f1 m1 y w' μ' φ' hk hle hM hF hv Et=>?_;have cP:Nat.beq mode 2=false:=by rcases iC with rfl|rfl<;>rfl
     rw[cP]at hk;simp only[Bool.false_eq_true,if_false]at hk;rcases iC with rfl|rfl
     ·simp only[Nat.beq,if_true]at hk;exact gA hE hY fuel (.inl rfl) hk (fun x hx=>hl x (by simp[hx])) (fun x hx=>BM x (by simp[hx])) (fun hm x hx=>P2 hm x (by simp[hx])) _ _ _ _ Q tail (hR.put hle (gW hd) hM hF hv Et) (hA.put (fun t ht=>by rw[hR.size];exact gW hd t ht) fun g nS t ht=>BM (i,o) (by simp) g nS t ht) fun f' m' μ2 φ2 a' w2 jE iy sY mn=>hK f' m' μ2 φ2 a' w2 jE iy sY fun h=>by cases h
     ·simp[Nat.beq,wR]at hk
    have cP:Nat.beq mode 2=false:=by rcases iC with rfl|rfl<;>rfl
    rw[cP]at hk;simp only[Bool.false_eq_true,if_false]at hk;have hq:(mode=3→f1=f∧m1=m)∧cq E ops mode fuel R A rest (gT f1 o.dst v) m1 lg k=some r:=by
     rcases iC with rfl|rfl
     ·simp only[Nat.beq,if_true]at hk;exact⟨fun h=>(by cases h),hk⟩
     ·simp only[Nat.beq,Bool.false_eq_true,if_false]at hk;split at hk
      ·rename_i hqf;exact⟨fun h=>Ov.same (P2 rfl (i,o) (by simp)) (v7 hqf),hk⟩
      ·cases hk
    obtain⟨Q9,hk⟩:=hq;simp only[List.map_cons,List.cons_append,wpOpsIn];rw[hl (i,o) (by simp)];simp only;rw[yB hg hA,if_pos rfl];refine Ov.vZ hdf rd w0 μ φ a w _ Q hR fun y w' μ' φ' hle hM hF hv Et=>?_;refine gA hE hY fuel iC hk (fun x hx=>hl x (by simp[hx])) (fun x hx=>BM x (by simp[hx])) (fun hm x hx=>P2 hm x (by simp[hx])) _ _ _ _ Q tail (hR.put hle (gW hd) hM hF hv Et) (hA.put (fun t ht=>by rw[hR.size];exact gW hd t ht) fun g nS t ht=>BM (i,o) (by simp) g nS t ht) fun f' m' μ2 φ2 a' w2 jE iy sY mn=>?_;refine hK f' m' μ2 φ2 a' w2 jE iy sY fun VJ=>?_;obtain⟨e1,e2⟩:=Q9 VJ;obtain⟨e3,e4⟩:=mn VJ;refine⟨by rw[e3,e2],fun t ht=>?_⟩;rw[e4 t fun x hx=>ht x (by simp[hx]),dU (ht (i,o) (by simp)),e1]
   ·cases h
  ·rename_i j yg hg;split at h
   ·rename_i tj P3;split at h
    ·rename_i b hb;have Ra:tj<E.fn.ntmps:=by
      simp only[bD]at hb;cases e:Nat.blt tj E.fn.ntmps with
      |true=>rwa[Nat.blt_eq]at e
      |false=>rw[e]at hb;cases hb
     have hbf:f tj=.pv (.bool b):=by simp only[bD]at hb;rw[show Nat.blt tj E.fn.ntmps=true by rw[Nat.blt_eq];exact Ra]at hb;exact hb
     have hba:a.tmps.getD tj undef=.bool b:=by have:=(al hR (.tmp tj)).1;rw[hb]at this;exact oH this
     generalize jg:za A ((i,o)::rest)=sp at h;obtain⟨body,Gf⟩:=sp;have k8:=BK jg;simp only at h;split at h
     ·rename_i VK;split at h
      ·rename_i hc;simp only[Bool.and_eq_true,List.all_eq_true,Bool.not_eq_true',beq_eq_false_iff_ne,ne_eq]at hc VK;obtain⟨⟨Ey,Ow⟩,VL⟩:=hc;have P4:mode=0:=Nat.eq_of_beq_eq_true VK.1;subst P4;have bP:∀z∈body,z∈(i,o)::rest:=fun z hz=>by rw[k8];simp[hz]
       have sK:∀z∈Gf,z∈(i,o)::rest:=fun z hz=>by rw[k8];simp[hz]
       by_cases Ox:b=yg
       ·have:Qo yg b=true:=by subst Ox;cases b<;>rfl
        rw[this]at h;simp only[cond]at h;have Xf:fk f tj (.pv (.bool yg))=f:=funext fun t=>by
         unfold fk;cases e:Nat.beq t tj with
         |false=>rfl
         |true=>rw[Nat.eq_of_beq_eq_true e];simp only[cond];rw[←Ox];exact hbf.symm
        rw[Xf]at h;refine gA hE hY fuel iC h hl (fun z hz g nS t ht=>?_) (fun h=>by cases h) _ _ _ _ Q tail hR (fun g nS=>?_) fun f' m' μ2 φ2 a' w2 jE iy sY mn=>hK f' m' μ2 φ2 a' w2 jE iy (fun g nS=>sY g (by simp[nS])) fun h=>by cases h
        ·rcases List.mem_cons.1 nS with rfl|nS
         ·simp only[P3]at ht;cases ht;exact VL z hz
         ·exact BM z hz g nS t ht
        ·rcases List.mem_cons.1 nS with rfl|nS
         ·exact⟨tj,P3,by rw[hba,Ox]⟩
         ·exact hA g nS
       ·have:Qo yg b=false:=by cases b<;>cases yg<;>first|rfl|exact absurd rfl Ox
        rw[this]at h;simp only[cond]at h;have hbn:b= !yg:=by cases b<;>cases yg<;>first|rfl|exact absurd rfl Ox
        have Xf:fk f tj (.pv (.bool !yg))=f:=funext fun t=>by
         unfold fk;cases e:Nat.beq t tj with
         |false=>rfl
         |true=>rw[Nat.eq_of_beq_eq_true e];simp only[cond];rw[←hbn];exact hbf.symm
        rw[Xf]at h;rw[k8,List.map_append,List.append_assoc];refine tC body f (fun z hz=>hl z (bP z hz)) Ey (w9 P3 Ow (fun z hz=>hl z (bP z hz)) (fun z hz=>VL z (bP z hz)) (by rw[hbf,hbn]) (by simp)) hR A hA (fun z hz g nS t ht=>BM z (bP z hz) g nS t ht) fun a' iy sY=>?_
        ·refine gA hE hY fuel iC h (fun z hz=>hl z (sK z hz)) (fun z hz=>BM z (sK z hz)) (fun h=>by cases h) _ _ _ _ Q tail iy sY fun f' m' μ2 φ2 a' w2 jE iy sY mn=>hK f' m' μ2 φ2 a' w2 jE iy sY fun h=>by cases h
      ·cases h
     ·split at h
      ·rename_i ip p kP;split at h
       ·rename_i c x y Jj;split at h
        ·rename_i hc;simp only[Bool.and_eq_true,List.all_eq_true,Bool.not_eq_true',beq_eq_false_iff_ne,ne_eq]at hc;obtain⟨⟨⟨⟨⟨⟨Jk,Xg⟩,vI⟩,Ow⟩,_⟩,hpd⟩,_⟩:=hc;have Jk:=Nat.eq_of_beq_eq_true Jk;subst Jk;have Xg:guardOf p A=none:=by simpa using Xg
         obtain⟨rb,IE,h⟩:=Option.bind_eq_some_iff.1 h;have bP:∀z∈body,z∈(i,o)::rest:=fun z hz=>by rw[k8];simp[hz]
         have sK:∀z∈kP,z∈(i,o)::rest:=fun z hz=>by rw[k8];simp[hz]
         have GJ:(ip,p)∈(i,o)::rest:=by rw[k8];simp
         rw[k8,List.map_append,List.append_assoc];have after:∀(f1:Fr)(μ1:Ro)(φ1:Nat→aG)(a1:Act)(w1:World)(q:Operand),Rel E.P E.aI E.fn.ntmps w0 μ1 φ1 f1 m a1 w1→w8 ops A a1→(∀t,(∀z∈body,z.2.dst≠some t)→f1 t=f t)→bD E f1 q=.pv (.bool rb)→(q=if b then x else y)→wpOpsIn (FR rd) 0 E.P ops Q (((ip,p)::kP).map (·.1)++tail) a1 w1:=by
          intro f1 μ1 φ1 a1 w1 q Jl hA1 Xh hq hqe;have To:bD E f1 (.tmp c)=.pv (.bool b):=by simp only[bD];rw[show Nat.blt c E.fn.ntmps=true by rw[Nat.blt_eq];exact Ra];show f1 c=_;rw[Xh c fun z hz=>(vI z hz).2];exact hbf
          simp only[List.map_cons,List.cons_append,wpOpsIn];rw[hl (ip,p) GJ];simp only;rw[yB Xg hA1,if_pos rfl];have Ov:si E (Nat.beq mode 1||Nat.beq mode 2) (cH E p.dst) p f1 m (.pv (.bool rb)) f1 m []:=VI hE (.inr ⟨_,_,_,Jj⟩) fun R' k'=>by rw[GI Jj To,←hqe,hq]
          refine Ov.vZ (fun c h=>by rw[Jj]at h;cases h) rd w0 μ1 φ1 a1 w1 _ Q Jl fun z w' μ' φ' mn hM hF hv Et=>?_;have hle:sV (gT (kO f body) p.dst (.pv (.bool rb))) (gT f1 p.dst (.pv (.bool rb))):=sV.put (uX fun t ht=>.inl (Xh t ht).symm) _ _;refine gA hE hY fuel iC h (fun z hz=>hl z (sK z hz)) (fun z hz=>BM z (sK z hz)) (fun hm z hz=>P2 hm z (sK z hz)) _ _ _ _ Q tail ((Jl.put mn (gW hpd) hM hF hv Et).weaken hle) (hA1.put (fun t ht=>by rw[Jl.size];exact gW hpd t ht) fun g nS t ht=>BM (ip,p) GJ g nS t ht) fun f' m' μ2 φ2 a' w2 jE iy sY mn=>?_;refine hK f' m' μ2 φ2 a' w2 jE iy sY fun VJ=>?_;obtain⟨e3,e4⟩:=mn VJ;refine⟨e3,fun t ht=>?_⟩;rw[e4 t fun z hz=>ht z (sK z hz),dU (ht (ip,p) GJ),uW fun z hz=>ht z (bP z hz)]
         have go:∀q,b=yg→(q=if b then x else y)→cq E ops 3 fuel Bool ((j,yg)::A) body f m lg (fun f _=>vt (bD E f q))=some rb→wpOpsIn (FR rd) 0 E.P ops Q (body.map (·.1)++(((ip,p)::kP).map (·.1)++tail)) a w:=by
          intro q Ox hq Uk;refine gA hE hY fuel (.inr rfl) Uk (fun z hz=>hl z (bP z hz)) ?_ (fun _ z hz=>(vI z hz).1.1) _ _ _ _ Q _ hR ?_ fun f' m' μ2 φ2 a' w2 jE iy sY mn=>?_
          ·intro z hz g nS t ht;rcases List.mem_cons.1 nS with rfl|nS
           ·simp only[P3]at ht;cases ht;exact(vI z hz).2
           ·exact BM z (bP z hz) g nS t ht
          ·intro g nS;rcases List.mem_cons.1 nS with rfl|nS
           ·exact⟨c,P3,by rw[hba,Ox]⟩
           ·exact hA g nS
          ·obtain⟨e1,e2⟩:=mn rfl;subst e1;exact after f' μ2 φ2 a' w2 q iy (fun g nS=>sY g (by simp[nS])) e2 (xb jE) hq
         have no:∀q,b= !yg→(q=if b then x else y)→vt (bD E (kO f body) q)=some rb→wpOpsIn (FR rd) 0 E.P ops Q (body.map (·.1)++(((ip,p)::kP).map (·.1)++tail)) a w:=by
          intro q Ox hq Uk;refine tC body f (fun z hz=>hl z (bP z hz)) (fun z hz=>(vI z hz).1.2) (w9 P3 Ow (fun z hz=>hl z (bP z hz)) (fun z hz=>(vI z hz).2) (by rw[hbf,Ox]) (by simp)) hR A hA (fun z hz g nS t ht=>BM z (bP z hz) g nS t ht) fun a' iy sY=>?_;refine after _ μ φ a' w q iy sY (fun t ht=>sl ht) ?_ hq;have hv:=xb Uk;cases q with
          |tmp t=>
           simp only[bD]at hv⊢;have hle:sV (kO f body) (gF f body):=uX fun t ht=>.inl (sl ht).symm;cases e:Nat.blt t E.fn.ntmps with
           |false=>rw[e]at hv;cases hv
           |true=>
            rw[e]at hv;simp only[cond]at hv⊢;rcases hle t with e|e
            ·rw[←e];exact hv
            ·rw[e]at hv;cases hv
          |_=>exact hv
         have hbm:(bif Nat.beq mode 0 then 3 else mode)=3:=by rcases iC with rfl|rfl<;>rfl
         rw[hbm]at IE;cases yg<;>cases b<;>simp only[cond]at IE
         ·exact go y rfl rfl IE
         ·exact no x rfl rfl IE
         ·exact no y rfl rfl IE
         ·exact go x rfl rfl IE
        ·cases h
       ·cases h
      ·cases h
    ·cases h
   ·cases h
end
end Go.Ab
set_option linter.unusedVariables false
namespace Go.Ab
open Go.RowKit (Below)
structure Rec where
 i:Nat
 o:Oper
 v:V
 wr:List (Nat×bL)
 ft:bp
 kl:Kl
def Rec.fs(r:Rec)(f:Fr):Fr:=gT (kf r.kl f) r.o.dst r.v
def Rec.ms(r:Rec)(m:Mem):Mem:=qO r.wr (km r.kl m)
def Rec.DE(r:Rec)(id:Nat):Prop:=∃b,(b,id)∈r.kl
def kM(f:Fr):List Rec→Fr
 |[]=>f
 |r::l=>kM (r.fs f) l
def nI(m:Mem):List Rec→Mem
 |[]=>m
 |r::l=>nI (r.ms m) l
def mJ(S:Nat→Bool)(f:Fr):List Rec→Fr
 |[]=>f
 |r::l=>mJ S (bif S r.i then r.fs f else f) l
def mK(S:Nat→Bool)(m:Mem):List Rec→Mem
 |[]=>m
 |r::l=>mK S (bif S r.i then r.ms m else m) l
theorem BN:∀{wr:List (Nat×bL)}{m:Mem}{j:Nat},(∀b,(j,b)∉wr)→qO wr m j=m j
 |[],_,_,_=>rfl
 |(id,b)::r,m,j,h=>by rw[qO,BN fun b' hb=>h b' (by simp[hb])];exact aq fun e=>h b (by simp[e])
theorem Rb:∀{wr:List (Nat×bL)}{j:Nat},(∃b,(j,b)∈wr)→∃b',(j,b')∈wr∧∀m:Mem,qO wr m j=some b'
 |[],_,h=>by obtain⟨b,hb⟩:=h;cases hb
 |(id,b)::r,j,h=>by
  by_cases hr:∃b,(j,b)∈r
  ·obtain⟨b',h1,h2⟩:=Rb hr;exact⟨b',by simp[h1],fun m=>h2 _⟩
  ·obtain⟨b0,hb⟩:=h;rcases List.mem_cons.1 hb with hb|hb
   ·simp only[Prod.mk.injEq]at hb;obtain⟨rfl,rfl⟩:=hb;refine⟨b0,by simp,fun m=>?_⟩;rw[qO,BN fun b' fR=>hr ⟨b',fR⟩];simp
   ·exact absurd ⟨b0,hb⟩ hr
mutual
theorem GK{id:Nat}:∀{v:V},v.sT id=true→v.has id=true
 |.agg cs,h=>sn (cs:=cs) (by simpa[V.sT]using h)
 |.bl cs,h=>sn (cs:=cs) (by simpa[V.sT]using h)
 |.fn _ cs,h=>sn (cs:=cs) (by simpa[V.sT]using h)
 |.tc _ _ _,h=>h
 |.wL _ _ _ _ _ _,h=>h
 |.pv _,h=>by cases h
 |.bk,h=>by cases h
 |.op _ _,h=>by cases h
 |.oe _ _ _,h=>by cases h
 |.os _,h=>by cases h
 |.fj _ _ _,h=>by cases h
 |.om _,h=>by cases h
 |.yl _,h=>by cases h
 |.it _,h=>by cases h
 |.top,h=>by cases h
theorem sn{id:Nat}:∀{cs:List V},wM id cs=true→cr id cs=true
 |[],h=>by cases h
 |c::r,h=>by
  simp only[wM,Bool.or_eq_true]at h;simp only[cr,Bool.or_eq_true];rcases h with h|h
  ·exact .inl (GK h)
  ·exact .inr (sn h)
end
variable{id:Nat}
theorem zw{v:V}(h:v.has id=false):pN id v=v:=by unfold pN;rw[h];rfl
theorem zx{id:Nat}:∀{cs:List V},cr id cs=false→cs.map (pN id)=cs
 |[],_=>rfl
 |c::r,h=>by simp only[cr,Bool.or_eq_false_iff]at h;simp only[List.map_cons,zw h.1,zx h.2]
theorem GL{b:bL}(h:b.names id=false):fJ id b=b:=by
 cases b with
 |box cs=>simp only[fJ,zx (show cr id cs=false from h)]
 |_=>rfl
theorem xc{v:V}(h:v.has id=false):l0 id v=v:=by
 unfold l0;cases h2:v.sT id with
 |false=>rfl
 |true=>rw[GK h2]at h;cases h
theorem xd{id:Nat}:∀{cs:List V},cr id cs=false→cs.map (l0 id)=cs
 |[],_=>rfl
 |c::r,h=>by simp only[cr,Bool.or_eq_false_iff]at h;simp only[List.map_cons,xc h.1,xd h.2]
theorem EJ{b:bL}(h:b.names id=false):dR id b=b:=by
 cases b with
 |box cs=>simp only[dR,xd (show cr id cs=false from h)]
 |_=>rfl
theorem BO:∀{kl:Kl}{f:Fr}{t:Nat},(∀id,(∃b,(b,id)∈kl)→(f t).has id=false)→kf kl f t=f t
 |[],_,_,_=>rfl
 |(true,id)::r,f,t,h=>by have h0:eS id f t=f t:=zw (h id ⟨true,by simp⟩);rw[kf,BO (kl:=r) (f:=eS id f) fun j hj=>by rw[h0];exact h j (let⟨b,hb⟩:=hj;⟨b,by simp[hb]⟩),h0]
 |(false,id)::r,f,t,h=>by have h0:gm id f t=f t:=xc (h id ⟨false,by simp⟩);rw[kf,BO (kl:=r) (f:=gm id f) fun j hj=>by rw[h0];exact h j (let⟨b,hb⟩:=hj;⟨b,by simp[hb]⟩),h0]
theorem xe:∀{kl:Kl}{f g:Fr}{t:Nat},f t=g t→kf kl f t=kf kl g t
 |[],_,_,_,h=>h
 |(true,id)::r,f,g,t,h=>xe (kl:=r) (f:=eS id f) (g:=eS id g) (by simp only[eS,h])
 |(false,id)::r,f,g,t,h=>xe (kl:=r) (f:=gm id f) (g:=gm id g) (by simp only[gm,h])
theorem BP:∀{kl:Kl}{m:Mem}{j:Nat},(∀id,(∃b,(b,id)∈kl)→j≠id∧∀b,m j=some b→b.names id=false)→km kl m j=m j
 |[],_,_,_=>rfl
 |(true,id)::r,m,j,h=>by
  obtain⟨h1,h2⟩:=h id ⟨true,by simp⟩;have h0:bh (bE id m) id j=m j:=by
   rw[eT h1];unfold bE;cases hm:m j with
   |none=>rfl
   |some b=>simp only[GL (h2 b hm)]
  rw[km,BP (kl:=r) (m:=bh (bE id m) id) fun i hi=>by rw[h0];exact h i (let⟨b,hb⟩:=hi;⟨b,by simp[hb]⟩),h0]
 |(false,id)::r,m,j,h=>by
  obtain⟨h1,h2⟩:=h id ⟨false,by simp⟩;have h0:eV id m j=m j:=by
   unfold eV;cases hm:m j with
   |none=>rfl
   |some b=>simp only[EJ (h2 b hm)]
  rw[km,BP (kl:=r) (m:=eV id m) fun i hi=>by rw[h0];exact h i (let⟨b,hb⟩:=hi;⟨b,by simp[hb]⟩),h0]
theorem BQ:∀{kl:Kl}{m n:Mem}{j:Nat},m j=n j→km kl m j=km kl n j
 |[],_,_,_,h=>h
 |(true,id)::r,m,n,j,h=>BQ (kl:=r) (m:=bh (bE id m) id) (n:=bh (bE id n) id) (by
  by_cases e:j=id
  ·subst e;simp
  ·rw[eT e,eT e];simp only[bE,h])
 |(false,id)::r,m,n,j,h=>BQ (kl:=r) (m:=eV id m) (n:=eV id n) (by simp only[eV,h])
variable{r:Rec}
theorem Rec.GM{f:Fr}{t:Nat}(h:r.o.dst=some t):r.fs f t=r.v:=by unfold Rec.fs;rw[h,iV]
theorem Rec.MG{f:Fr}{t:Nat}(h:r.o.dst≠some t)(hc:∀id,r.DE id→(f t).has id=false):r.fs f t=f t:=by unfold Rec.fs;rw[dU h];exact BO hc
theorem Rec.BR{f g:Fr}{t:Nat}(h:f t=g t):r.fs f t=r.fs g t:=by
 by_cases e:r.o.dst=some t
 ·rw[GM e,GM e]
 ·unfold Rec.fs;rw[dU e,dU e];exact xe h
theorem Rec.VM{j:Nat}(h:∃b,(j,b)∈r.wr):∃b',(j,b')∈r.wr∧∀m,r.ms m j=some b':=let⟨b',h1,h2⟩:=Rb h;⟨b',h1,fun m=>h2 _⟩
theorem Rec.Rc{m:Mem}{j:Nat}(h:∀b,(j,b)∉r.wr)(hc:∀id,r.DE id→j≠id∧∀b,m j=some b→b.names id=false):r.ms m j=m j:=by unfold Rec.ms;rw[BN h];exact BP hc
theorem Rec.BS{m n:Mem}{j:Nat}(h:m j=n j):r.ms m j=r.ms n j:=by
 by_cases e:∃b,(j,b)∈r.wr
 ·obtain⟨b,_,e⟩:=Rec.VM e;rw[e,e]
 ·have e':∀b,(j,b)∉r.wr:=fun b hb=>e ⟨b,hb⟩;unfold Rec.ms;rw[BN e',BN e'];exact BQ h
section
variable {S S':Nat→Bool}
theorem GN{f:Fr}:∀{l l':List Rec},kM f (l++l')=kM (kM f l) l':=by
 intro l;induction l generalizing f with
 |nil=>intro l';rfl
 |cons r l ih=>intro l';exact ih
theorem GO{m:Mem}:∀{l l':List Rec},nI m (l++l')=nI (nI m l) l':=by
 intro l;induction l generalizing m with
 |nil=>intro l';rfl
 |cons r l ih=>intro l';exact ih
theorem tD{f:Fr}:∀{l l':List Rec},mJ S f (l++l')=mJ S (mJ S f l) l':=by
 intro l;induction l generalizing f with
 |nil=>intro l';rfl
 |cons r l ih=>intro l';exact ih
theorem tE{m:Mem}:∀{l l':List Rec},mK S m (l++l')=mK S (mK S m l) l':=by
 intro l;induction l generalizing m with
 |nil=>intro l';rfl
 |cons r l ih=>intro l';exact ih
theorem DF{t:Nat}:∀{l:List Rec}{f:Fr},(∀q∈l,q.o.dst≠some t∧q.kl=[])→kM f l t=f t
 |[],_,_=>rfl
 |r::l,f,h=>by rw[kM,DF fun q hq=>h q (by simp[hq])];obtain⟨h1,h2⟩:=h r (by simp);exact Rec.MG h1 fun id⟨b,hid⟩=>by rw[h2]at hid;cases hid
theorem nT{t:Nat}:∀{l:List Rec}{f:Fr},(∀q∈l,S q.i=true→q.o.dst≠some t∧∀id,q.DE id→(f t).has id=false)→mJ S f l t=f t
 |[],_,_=>rfl
 |r::l,f,h=>by
  have h0:(bif S r.i then r.fs f else f) t=f t:=by
   cases e:S r.i with
   |false=>rfl
   |true=>obtain⟨h1,h2⟩:=h r (by simp) e;exact Rec.MG h1 h2
  rw[mJ,nT fun q hq hs=>by rw[h0];exact h q (by simp[hq]) hs,h0]
theorem BT{t:Nat}:∀{l:List Rec}{f g:Fr},f t=g t→(∀q∈l,S q.i=false→q.o.dst≠some t∧q.kl=[])→mJ S f l t=kM g l t
 |[],_,_,h,_=>h
 |r::l,f,g,h,hs=>by
  rw[mJ,kM];refine BT ?_ fun q hq=>hs q (by simp[hq]);cases e:S r.i with
  |true=>exact Rec.BR h
  |false=>obtain⟨h1,h2⟩:=hs r (by simp) e;rw[Rec.MG h1 fun id⟨b,hid⟩=>by rw[h2]at hid;cases hid];exact h
theorem v8{t:Nat}:∀{l:List Rec}{f g:Fr},f t=g t→(∀q∈l,S q.i=S' q.i)→mJ S f l t=mJ S' g l t
 |[],_,_,h,_=>h
 |r::l,f,g,h,hs=>by
  rw[mJ,mJ];refine v8 ?_ fun q hq=>hs q (by simp[hq]);rw[hs r (by simp)];cases S' r.i
  ·exact h
  ·exact Rec.BR h
theorem nU{j:Nat}:∀{l:List Rec}{m:Mem},(∀q∈l,S q.i=true→(∀b,(j,b)∉q.wr)∧∀id,q.DE id→j≠id∧∀b,m j=some b→b.names id=false)→mK S m l j=m j
 |[],_,_=>rfl
 |r::l,m,h=>by
  have h0:(bif S r.i then r.ms m else m) j=m j:=by
   cases e:S r.i with
   |false=>rfl
   |true=>obtain⟨h1,h2⟩:=h r (by simp) e;exact Rec.Rc h1 h2
  rw[mK,nU fun q hq hs=>by rw[h0];exact h q (by simp[hq]) hs,h0]
theorem BU{j:Nat}:∀{l:List Rec}{m n:Mem},m j=n j→(∀q∈l,S q.i=false→(∀b,(j,b)∉q.wr)∧q.kl=[])→mK S m l j=nI n l j
 |[],_,_,h,_=>h
 |r::l,m,n,h,hs=>by
  rw[mK,nI];refine BU ?_ fun q hq=>hs q (by simp[hq]);cases e:S r.i with
  |true=>exact Rec.BS h
  |false=>obtain⟨h1,h2⟩:=hs r (by simp) e;rw[Rec.Rc h1 fun id⟨b,hid⟩=>by rw[h2]at hid;cases hid];exact h
theorem wa{j:Nat}:∀{l:List Rec}{m n:Mem},m j=n j→(∀q∈l,S q.i=S' q.i)→mK S m l j=mK S' n l j
 |[],_,_,h,_=>h
 |r::l,m,n,h,hs=>by
  rw[mK,mK];refine wa ?_ fun q hq=>hs q (by simp[hq]);rw[hs r (by simp)];cases S' r.i
  ·exact h
  ·exact Rec.BS h
end
section
variable {E:Env} {ops:Array Oper} {w0:bA}
def DG(E:Env)(ops:Array Oper)(w0:bA)(r:Rec)(f:Fr)(m:Mem):Prop:=∀(f2:Fr)(m2:Mem),(∀t∈r.o.looksAt ops,f2 t=f t)→(∀x∈r.ft,m2 x.2=m x.2)→∀(μ:Ro)(φ:Nat→aG)(a:Act)(w:World)(K:Act→World→Prop)(Q:Exit→Act→World→Prop),Rel E.P E.aI E.fn.ntmps w0 μ φ f2 m2 a w→(∀μ' φ' a' w',Rel E.P E.aI E.fn.ntmps w0 μ' φ' (r.fs f2) (r.ms m2) a' w'→K a' w')→if Region.wanted r.o (yielded ops a.tmps)then∀rd:Option Nat,r.o.wpIn (FR rd) 0 E.P a w K Q else K (a.put r.o.dst undef) w
def fo(E:Env)(ops:Array Oper)(w0:bA):Fr→Mem→List Rec→Prop
 |_,_,[]=>True
 |f,m,r::l=>DG E ops w0 r f m∧(∀id b,(id,b)∈r.wr→(true,id)∈r.ft)∧fo E ops w0 (r.fs f) (r.ms m) l
theorem fo.append{f:Fr}{m:Mem}{l l':List Rec}:fo E ops w0 f m (l++l')↔fo E ops w0 f m l∧fo E ops w0 (kM f l) (nI m l) l':=by
 induction l generalizing f m with
 |nil=>simp[fo,kM,nI]
 |cons r l ih=>simp only[List.cons_append,fo,kM,nI,ih,and_assoc]
def Clean(ops:Array Oper)(id:Nat)(r:Rec)(f:Fr)(m:Mem):Prop:=(∀t∈r.o.looksAt ops,(f t).has id=false)∧r.v.has id=false∧(∀x∈r.ft,x.2≠id∧∀b,m x.2=some b→b.names id=false)∧∀j b,(j,b)∈r.wr→(∀m,r.ms m j=some b)→j≠id∧b.names id=false
def mw(ops:Array Oper):Fr→Mem→List Rec→Prop
 |_,_,[]=>True
 |f,m,r::l=>(∀q∈l,∀id,q.DE id→reach ops 4 q.o r.i=true∨Clean ops id r f m)∧mw ops (r.fs f) (r.ms m) l
theorem mw.append{f:Fr}{m:Mem}{l l':List Rec}(h:mw ops f m (l++l')):mw ops (kM f l) (nI m l) l':=by
 induction l generalizing f m with
 |nil=>exact h
 |cons r l ih=>exact ih h.2
def Ord(ops:Array Oper)(q r:Rec):Prop:=reach ops 4 r.o q.i=true∨(q.o.apart ops r.o=true∧(∀id b,(id,b)∈q.wr→∀x∈r.ft,x.2≠id)∧∀id b,(id,b)∈r.wr→∀x∈q.ft,x.2≠id)
theorem Oy{o:Oper}{j:Nat}(h:AZ o j=true):∃e∈o.after,Region.binds .any e=true∧e.on=j:=by unfold AZ at h;obtain⟨e,he,h⟩:=List.any_eq_true.1 h;have he:e∈o.after:=Array.mem_toList_iff.1 he;simp only[Bool.and_eq_true]at h;exact⟨e,he,h.1,Nat.eq_of_beq_eq_true h.2⟩
abbrev aB(l:Array Bool):Nat→Bool:=fun i=>l.getD i false
def wb(ops:Array Oper)(aj:Array Bool):Prop:=∀i o,ops[i]?=some o→aB aj i=true→∀e∈o.after,Region.binds .any e=true→aB aj e.on=true
theorem oK(aj:Array Bool)(se:wb ops aj):∀(n:Nat)(o:Oper)(j:Nat),(∀e∈o.after,Region.binds .any e=true→aB aj e.on=true)→reach ops n o j=true→aB aj j=true:=by
 have aae:∀(o:Oper)(j:Nat),(∀e∈o.after,Region.binds .any e=true→aB aj e.on=true)→AZ o j=true→aB aj j=true:=fun o j ho h=>by obtain⟨e,he,hb,hon⟩:=Oy h;have:=ho e he hb;rw[hon]at this;exact this
 intro n;induction n with
 |zero=>exact fun o j ho h=>aae o j ho h
 |succ n ihn=>
  intro o j ho h;simp only[reach,Bool.or_eq_true]at h;rcases h with h|h
  ·exact aae o j ho h
  ·obtain⟨e,he,h⟩:=List.any_eq_true.1 h;simp only[Bool.and_eq_true]at h;obtain⟨hb,h⟩:=h;have he:e∈o.after:=Array.mem_toList_iff.1 he;split at h
   ·rename_i p hp;exact ihn p j (se e.on p hp (ho e he hb)) h
   ·cases h
theorem Re{rd:Option Nat}{recs:List Rec}{f0:Fr}{m0:Mem}{Q:Exit→Act→World→Prop}{base:Nat→Bool}(bt:recs.Pairwise fun q r=>q.i<r.i)(pT:∀r∈recs,ops[r.i]?=some r.o)(Rf:∀r∈recs,base r.i=false)(Rg:∀i o,ops[i]?=some o→base i=false→(∀r∈recs,r.i≠i)→(∀r∈recs,reach ops 8 o r.i=true)∨∃j,reach ops 8 o j=true∧base j=false∧∀r∈recs,r.i≠j)(aaf:recs.Pairwise (Ord ops))(kN:recs.Pairwise fun q r=>q.kl≠[]→reach ops 4 r.o q.i=true)(aee:mw ops f0 m0 recs)(MH:∀r∈recs,∀e∈r.o.after,Region.binds .any e=true→e.on<r.i∧(base e.on=true∨∃q∈recs,q.i=e.on))(vi:fo E ops w0 f0 m0 recs)(hQ:∀(fuel:Nat)(aj:Array Bool),aj.size=ops.size→aj.toList.countP (fun b=> !b)≤fuel→wb ops aj→(∀i,aB aj i=true↔base i=true∨∃r∈recs,r.i=i)→∀μ φ a w,Rel E.P E.aI E.fn.ntmps w0 μ φ (kM f0 recs) (nI m0 recs) a w→wpAnyIn (FR rd) 0 E.P .any ops Q fuel aj a w):∀(fuel:Nat)(aj:Array Bool),aj.size=ops.size→aj.toList.countP (fun b=> !b)≤fuel→wb ops aj→(∀i,base i=true→aB aj i=true)→(∀i,aB aj i=true→base i=true∨∃r∈recs,r.i=i)→∀(μ:Ro)(φ:Nat→aG)(a:Act)(w:World),Rel E.P E.aI E.fn.ntmps w0 μ φ (mJ (aB aj) f0 recs) (mK (aB aj) m0 recs) a w→wpAnyIn (FR rd) 0 E.P .any ops Q fuel aj a w:=by
 have done:∀(fuel:Nat)(aj:Array Bool),aj.size=ops.size→aj.toList.countP (fun b=> !b)≤fuel→wb ops aj→(∀i,base i=true→aB aj i=true)→(∀i,aB aj i=true→base i=true∨∃r∈recs,r.i=i)→(∀r∈recs,aB aj r.i=true)→∀(μ:Ro)(φ:Nat→aG)(a:Act)(w:World),Rel E.P E.aI E.fn.ntmps w0 μ φ (mJ (aB aj) f0 recs) (mK (aB aj) m0 recs) a w→wpAnyIn (FR rd) 0 E.P .any ops Q fuel aj a w:=by
  intro fuel aj hs hc se hb pC hl μ φ a w hR;have e1:mJ (aB aj) f0 recs=kM f0 recs:=funext fun t=>BT rfl fun q hq hf=>by rw[hl q hq]at hf;cases hf
  have e2:mK (aB aj) m0 recs=nI m0 recs:=funext fun t=>BU rfl fun q hq hf=>by rw[hl q hq]at hf;cases hf
  rw[e1,e2]at hR;exact hQ fuel aj hs hc se (fun i=>⟨pC i,fun h=>h.elim (hb i) fun⟨r,hr,e⟩=>e▸hl r hr⟩) μ φ a w hR
 have Ul:∀(aj:Array Bool),aj.size=ops.size→(∀i,base i=true→aB aj i=true)→(∀r∈recs,r.i∉Region.ready .any ops aj)→∀(n:Nat)(r:Rec),r∈recs→r.i<n→aB aj r.i=true:=by
  intro aj hs hb hr n;induction n with
  |zero=>intro r _ h;omega
  |succ n ih=>
   intro r qP hi;cases hc:aB aj r.i with
   |true=>rfl
   |false=>
    exfalso;have bt:r.i<aj.size:=by rw[hs];exact(Array.getElem?_eq_some_iff.1 (pT r qP)).1
    refine hr r qP (mem_ready.2 ⟨by simp only[aB,Array.getD_eq_getD_getElem?,Array.getElem?_eq_getElem bt,Option.getD_some]at hc⊢;exact hc,r.o,pT r qP,fun e he fR=>?_⟩);obtain⟨h1,h2⟩:=MH r qP e he fR;rcases h2 with h2|⟨q,hq,Rh⟩
    ·exact hb _ h2
    ·have:=ih q hq (by omega);rwa[Rh]at this
 intro fuel;induction fuel with
 |zero=>
  intro aj hs hc se hb pC μ φ a w hR;refine done 0 aj hs hc se hb pC (fun r hr=>?_) μ φ a w hR;have bt:r.i<aj.size:=by rw[hs];exact(Array.getElem?_eq_some_iff.1 (pT r hr)).1
  have:=List.countP_eq_zero.1 (Nat.le_zero.1 hc) aj[r.i] (by simp);simp only[aB,Array.getD_eq_getD_getElem?,Array.getElem?_eq_getElem bt,Option.getD_some];simpa using this
 |succ fuel ih=>
  intro aj hs hc se hb pC μ φ a w hR;by_cases Ri:∀r∈recs,aB aj r.i=true
  ·exact done (fuel+1) aj hs hc se hb pC Ri μ φ a w hR
  have aag:∃r∈recs,aB aj r.i=false:=by
   refine Classical.byContradiction fun cR=>Ri fun r hr=>?_;cases hx:aB aj r.i with
   |true=>rfl
   |false=>exact absurd ⟨r,hr,hx⟩ cR
  refine⟨fun h0=>absurd (fun r hr=>Ul aj hs hb (fun r hr h=>by rw[h0]at h;cases h) (r.i+1) r hr (by omega)) Ri,fun i hi=>?_⟩;obtain⟨Oz,o,ho,yD⟩:=mem_ready.1 hi;have aah:aB aj i=false:=by
   have bt:i<aj.size:=by rw[hs];exact(Array.getElem?_eq_some_iff.1 ho).1
   simp only[aB,Array.getD_eq_getD_getElem?,Array.getElem?_eq_getElem bt,Option.getD_some]at Oz⊢;exact Oz
  have hex:∃r∈recs,r.i=i∧r.o=o:=by
   refine Classical.byContradiction fun cR=>?_;have Gq:∀r∈recs,r.i≠i:=fun r hr e=>cR ⟨r,hr,e,by have:=pT r hr;rw[e,ho]at this;exact(Option.some.inj this).symm⟩;have hbi:base i=false:=by
    cases hx:base i with
    |false=>rfl
    |true=>rw[hb i hx]at aah;cases aah
   rcases Rg i o ho hbi Gq with h|⟨j,h1,h2,h3⟩
   ·obtain⟨r,hr,Um⟩:=aag;rw[oK aj se 8 o r.i yD (h r hr)]at Um;cases Um
   ·have:=oK aj se 8 o j yD h1;rcases pC j this with h|⟨r,hr,e⟩
    ·rw[h]at h2;cases h2
    ·exact h3 r hr e
  obtain⟨r,hr,rfl,rfl⟩:=hex;have Rj:r.i<aj.size:=by rw[hs];exact(Array.getElem?_eq_some_iff.1 ho).1
  have hSi:aB aj r.i=false:=by simp only[aB,Array.getD_eq_getD_getElem?,Array.getElem?_eq_getElem Rj,Option.getD_some]at Oz⊢;exact Oz
  obtain⟨pre,post,k8⟩:=List.append_of_mem hr;subst k8;have Ak:∀q∈pre,Ord ops q r:=fun q hq=>(List.pairwise_append.1 aaf).2.2 q hq r (by simp);have MI:∀q∈post,Ord ops r q:=fun q hq=>(List.pairwise_cons.1 (List.pairwise_append.1 aaf).2.1).1 q hq;have Xi:∀q∈post,q.i≠r.i:=fun q hq=>by have:=(List.pairwise_cons.1 (List.pairwise_append.1 bt).2.1).1 q hq;omega
  have aai:∀q∈pre,q.i≠r.i:=fun q hq=>by have:=(List.pairwise_append.1 bt).2.2 q hq r (by simp);omega
  have aaj:∀q:Rec,reach ops 4 r.o q.i=true→aB aj q.i=true:=fun q h=>oK aj se 4 r.o q.i yD h;have Jm:∀q∈post,reach ops 4 q.o r.i=true→aB aj q.i=false:=fun q hq h=>by
   cases PU:aB aj q.i with
   |false=>rfl
   |true=>have:=oK aj se 4 q.o r.i (se q.i q.o (pT q (by simp[hq])) PU) h;rw[hSi]at this;cases this
  have VN:∀(f:Fr),mJ (aB aj) f (r::post)=mJ (aB aj) f post:=fun f=>by rw[mJ,hSi];rfl
  have Rk:∀(m:Mem),mK (aB aj) m (r::post)=mK (aB aj) m post:=fun m=>by rw[mK,hSi];rfl
  obtain⟨_,Xj,ZR,_⟩:=fo.append.1 vi;have hc:=aee.append.1;have VO:∀q∈pre,q.kl≠[]→reach ops 4 r.o q.i=true:=fun q hq=>(List.pairwise_append.1 kN).2.2 q hq r (by simp);have Rl:r.kl≠[]→∀q∈post,reach ops 4 q.o r.i=true:=fun h q hq=>(List.pairwise_cons.1 (List.pairwise_append.1 kN).2.1).1 q hq h;unfold wpOpIn;rw[pT r hr];simp only;have Xh:∀t∈r.o.looksAt ops,mJ (aB aj) f0 pre t=kM f0 pre t:=fun t ht=>BT rfl fun q hq hs=>by
   have Gq:¬reach ops 4 r.o q.i=true:=fun h=>by rw[aaj q h]at hs;cases hs
   refine⟨fun hd=>?_,?_⟩
   ·rcases Ak q hq with h|⟨h,_⟩
    ·exact Gq h
    ·exact absurd ht ((Oper.apart_spec h).1 t hd)
   ·exact Classical.byContradiction fun cR=>Gq (VO q hq cR)
  have Xk:∀x∈r.ft,mK (aB aj) m0 pre x.2=nI m0 pre x.2:=fun x hx=>BU rfl fun q hq hs=>by
   have Gq:¬reach ops 4 r.o q.i=true:=fun h=>by rw[aaj q h]at hs;cases hs
   refine⟨fun b hb=>?_,?_⟩
   ·rcases Ak q hq with h|⟨_,h,_⟩
    ·exact Gq h
    ·exact absurd rfl (h _ b hb x hx)
   ·exact Classical.byContradiction fun cR=>Gq (VO q hq cR)
  have Tn:∀q∈post,aB aj q.i=true→¬reach ops 4 q.o r.i=true:=fun q hq hs h=>by rw[Jm q hq h]at hs;cases hs
  have hf2:∀t∈r.o.looksAt ops,mJ (aB aj) f0 (pre++r::post) t=kM f0 pre t:=fun t ht=>by
   rw[tD,VN,nT fun q hq hs=>⟨fun hd=>?_,fun id hid=>?_⟩]
   ·exact Xh t ht
   ·rcases MI q hq with h|⟨h,_⟩
    ·exact Tn q hq hs h
    ·exact absurd ht ((Oper.apart_spec h).2.2 t hd)
   ·rw[Xh t ht];rcases hc q hq id hid with h|h
    ·exact absurd h (Tn q hq hs)
    ·exact h.1 t ht
  have cP:∀x∈r.ft,mK (aB aj) m0 (pre++r::post) x.2=nI m0 pre x.2:=fun x hx=>by
   rw[tE,Rk,nU fun q hq hs=>⟨fun b hb=>?_,fun id hid=>?_⟩]
   ·exact Xk x hx
   ·rcases MI q hq with h|⟨_,_,h⟩
    ·exact Tn q hq hs h
    ·exact absurd rfl (h _ b hb x hx)
   ·rw[Xk x hx];rcases hc q hq id hid with h|h
    ·exact absurd h (Tn q hq hs)
    ·exact h.2.2.1 x hx
  have hwp:=Xj _ _ hf2 cP μ φ a w (wpAnyIn (FR rd) 0 E.P .any ops Q fuel (aj.setIfInBounds r.i true)) Q hR fun μ' φ' a' w' iy=>by
   have VP:∀j,aB (aj.setIfInBounds r.i true) j=if j=r.i then true else aB aj j:=fun j=>by
    simp only[aB,Array.getD_eq_getD_getElem?,Array.getElem?_setIfInBounds];by_cases e:r.i=j
    ·subst e;simp[Rj]
    ·have e':¬j=r.i:=fun h=>e h.symm;simp[e,e']
   refine ih (aj.setIfInBounds r.i true) (by simp[hs]) ?_ ?_ ?_ ?_ μ' φ' a' w' ?_
   ·rw[Array.toList_setIfInBounds,List.countP_set (by simpa using Rj)];have:aj.toList[r.i]'(by simpa using Rj)=false:=by simp only[aB,Array.getD_eq_getD_getElem?,Array.getElem?_eq_getElem Rj,Option.getD_some]at hSi;simpa using hSi
    rw[this];simp only[Bool.not_false,if_true,Bool.not_true,Bool.false_eq_true,if_false];omega
   ·intro i' o' OA nd e he Ey;rw[VP]at nd⊢;split
    ·rfl
    ·split at nd
     ·rename_i Rh;subst Rh;have:o'=r.o:=by rw[pT r hr]at OA;exact(Option.some.inj OA).symm
      subst this;exact yD e he Ey
     ·exact se i' o' OA nd e he Ey
   ·intro i' nd;rw[VP];split
    ·rfl
    ·exact hb i' nd
   ·intro i' nd;rw[VP]at nd;split at nd
    ·rename_i Rh;exact Or.inr ⟨r,hr,Rh.symm⟩
    ·exact pC i' nd
   ·have VQ:∀q∈pre,aB (aj.setIfInBounds r.i true) q.i=aB aj q.i:=fun q hq=>by rw[VP,if_neg (aai q hq)]
    have tF:∀q∈post,aB (aj.setIfInBounds r.i true) q.i=aB aj q.i:=fun q hq=>by rw[VP,if_neg (Xi q hq)]
    have hSr:aB (aj.setIfInBounds r.i true) r.i=true:=by rw[VP,if_pos rfl]
    have e1:mJ (aB (aj.setIfInBounds r.i true)) f0 (pre++r::post)=r.fs (mJ (aB aj) f0 (pre++r::post)):=funext fun t=>by
     have hg:mJ (aB (aj.setIfInBounds r.i true)) f0 pre=mJ (aB aj) f0 pre:=funext fun s=>v8 rfl VQ;rw[tD,tD,VN,mJ,hSr,hg];simp only[cond];by_cases hk:r.kl=[]
     ·by_cases hd:r.o.dst=some t
      ·rw[Rec.GM hd,nT fun q hq hs=>⟨fun hqd=>?_,fun id hid=>?_⟩,Rec.GM hd]
       ·rw[tF q hq]at hs;rcases MI q hq with h|⟨h,_⟩
        ·exact Tn q hq hs h
        ·exact absurd hqd ((Oper.apart_spec h).2.1 t hd)
       ·rw[tF q hq]at hs;rw[Rec.GM hd];rcases hc q hq id hid with h|h
        ·exact absurd h (Tn q hq hs)
        ·exact h.2.1
      ·have yw:∀(g:Fr),r.fs g t=g t:=fun g=>Rec.MG hd fun id⟨b,hid⟩=>by rw[hk]at hid;cases hid
       rw[yw];exact v8 (yw _) tF
     ·have Oz:∀q∈post,aB aj q.i=false:=fun q hq=>Jm q hq (Rl hk q hq);rw[nT fun q hq hs=>by rw[tF q hq,Oz q hq]at hs;cases hs];exact Rec.BR (nT fun q hq hs=>by rw[Oz q hq]at hs;cases hs).symm
    have e2:mK (aB (aj.setIfInBounds r.i true)) m0 (pre++r::post)=r.ms (mK (aB aj) m0 (pre++r::post)):=funext fun j=>by
     have hg:mK (aB (aj.setIfInBounds r.i true)) m0 pre=mK (aB aj) m0 pre:=funext fun s=>wa rfl VQ;rw[tE,tE,Rk,mK,hSr,hg];simp only[cond];by_cases hk:r.kl=[]
     ·by_cases hd:∃b,(j,b)∈r.wr
      ·obtain⟨b,hd,uQ⟩:=Rec.VM hd;rw[uQ,nU fun q hq hs=>⟨fun b' hqd=>?_,fun id hid=>?_⟩,uQ]
       ·rw[tF q hq]at hs;rcases MI q hq with h|⟨_,_,h⟩
        ·exact Tn q hq hs h
        ·exact absurd rfl (h j b' hqd (true,j) (ZR j b hd))
       ·rw[tF q hq]at hs;rcases hc q hq id hid with h|h
        ·exact absurd h (Tn q hq hs)
        ·obtain⟨h1,h2⟩:=h.2.2.2 j b hd uQ;refine⟨h1,fun b' fR=>?_⟩;rw[uQ]at fR;cases fR;exact h2
      ·have Mu:∀b,(j,b)∉r.wr:=fun b hb=>hd ⟨b,hb⟩;have yw:∀(g:Mem),r.ms g j=g j:=fun g=>Rec.Rc Mu fun id⟨b,hid⟩=>by rw[hk]at hid;cases hid
       rw[yw];exact wa (yw _) tF
     ·have Oz:∀q∈post,aB aj q.i=false:=fun q hq=>Jm q hq (Rl hk q hq);rw[nU fun q hq hs=>by rw[tF q hq,Oz q hq]at hs;cases hs];exact Rec.BS (nU fun q hq hs=>by rw[Oz q hq]at hs;cases hs).symm
    rw[e1,e2];exact iy
  split
  ·rename_i hw;rw[if_pos hw]at hwp;exact hwp rd
  ·rename_i hw;rw[if_neg hw]at hwp;exact⟨fun _ _=>trivial,hwp⟩
end
end Go.Ab
set_option linter.unusedVariables false
namespace Go.Ab
open Go.RowKit (Below)
section
variable {E:Env} {ops:Array Oper} {w0:bA}
variable{o:Oper}
theorem OB{t:Nat}(h:.tmp t∈o.op.operands):t∈o.looksAt ops:=by unfold Oper.looksAt;refine List.mem_append.2 (.inl (List.mem_filterMap.2 ⟨.tmp t,by simpa using h,rfl⟩))
theorem tG{g:Nat×Bool}{t:Nat}(hg:o.guard=some g)(h:(ops[g.1]?).bind (·.dst)=some t):t∈o.looksAt ops:=by unfold Oper.looksAt;rw[hg];refine List.mem_append.2 (.inr ?_);show t∈((ops[g.1]?).bind (·.dst)).toList;rw[h];simp
variable{f F:Fr}
theorem uY(h:∀t∈o.looksAt ops,f t=F t):∀x∈o.op.operands,bD E f x=bD E F x:=by
 intro x hx;cases x with
 |tmp t=>simp only[bD];rw[h t (OB hx)]
 |_=>rfl
variable{A:List (Nat×Bool)}{φ:Nat→aG}{a:Act}{w:World}
theorem GP{f2:Fr}{m2:Mem}{μ:Ro}(hg:guardOf o A=none)(hA:oJ E.fn.ntmps ops A f)(hR:Rel E.P E.aI E.fn.ntmps w0 μ φ f2 m2 a w)(hf:∀t∈o.looksAt ops,f2 t=f t):Region.wanted o (yielded ops a.tmps)=true:=by
 unfold guardOf at hg;unfold Region.wanted;split at hg
 ·rename_i Q8;simp[Q8]
 ·rename_i g Q8;split at hg
  ·rename_i bP;obtain⟨t,h1,h0,h2⟩:=hA g (by simpa using bP);have h3:=hR.fr t;rw[oq h0,hf t (tG Q8 h1),h2]at h3;simp only[Q8];rw[sk h1 (oH h3)];simp
  ·cases hg
variable{i:Nat}{ft:bp}{m:Mem}
theorem BV(hE:iO E){v:V}{wr:List (Nat×bL)}(hg:guardOf o A=none)(hA:oJ E.fn.ntmps ops A f)(hd:tg E o=true)(hn:∀(f2:Fr)(m2:Mem),(∀x∈o.op.operands,bD E f2 x=bD E f x)→(∀x∈ft,m2 x.2=m x.2)→∀(R':Type)(k':V→Fr→Mem→bp→Option R'),Gd E true (cH E o.dst) o f2 m2 k'=k' v f2 (qO wr m2) ft):DG E ops w0 ⟨i,o,v,wr,ft,[]⟩ f m:=by
 intro f2 m2 hf hm μ φ a w K Q hR hK;have hw:Region.wanted o (yielded ops a.tmps)=true:=by
  unfold guardOf at hg;unfold Region.wanted;split at hg
  ·rename_i Q8;simp[Q8]
  ·rename_i g Q8;split at hg
   ·rename_i bP;obtain⟨t,h1,h0,h2⟩:=hA g (by simpa using bP);have h3:=hR.fr t;rw[oq h0,hf t (tG Q8 h1),h2]at h3;simp only[Q8];rw[sk h1 (oH h3)];simp
   ·cases hg
 simp only at hf hm hK⊢;rw[if_pos hw];exact fun rd=>(VI hE (.inl rfl) (hn f2 m2 (uY hf) hm)).vZ (yA (hn f2 m2 (uY hf) hm Unit fun _ _ _ _=>some ())) rd w0 μ φ a w K Q hR fun y w' μ' φ' hle hM hF hv hl=>hK _ _ _ _ (hR.put hle (gW hd) hM hF hv hl)
theorem Jn(hd:tg E o=true)(BL:Ot ops f o):DG E ops w0 ⟨i,o,.bl [],[],[],[]⟩ f m:=by
 intro f2 m2 hf hm μ φ a w K Q hR hK;simp only at hf hm hK⊢;have Xl:Ot ops f2 o:=by obtain⟨g,hg,ht⟩:=BL;exact⟨g,hg,fun t h=>by rw[hf t (tG hg h)];exact ht t h⟩
 rw[vH hR Xl];simp only[Bool.false_eq_true,if_false];exact hK _ _ _ _ (hR.put (fun _ _ h=>h) (gW hd) hR.toay hR.ju BJ (fun id hid=>by simp[V.has,cr]at hid))
def xf(x:Nat×Oper):Rec:=⟨x.1,x.2,.bl [],[],[],[]⟩
theorem DH{m:Mem}:∀(l:List (Nat×Oper))(F:Fr),(∀x∈l,tg E x.2=true)→(∀(pre post:List (Nat×Oper))(x:Nat×Oper),l=pre++x::post→Ot ops (gF F pre) x.2)→fo E ops w0 F m (l.map xf)∧kM F (l.map xf)=gF F l
 |[],F,_,_=>⟨trivial,rfl⟩
 |x::r,F,hd,BL=>by obtain⟨h1,h2⟩:=DH (m:=m) r (gT F x.2.dst (.bl [])) (fun y hy=>hd y (by simp[hy])) (fun pre post y h=>by have:=BL (x::pre) post y (by rw[h];rfl);rwa[gF]at this);exact⟨⟨Jn (hd x (by simp)) (BL [] r x rfl),by simp[xf],h1⟩,h2⟩
theorem DJ{m:Mem}:∀{l:List Rec},(∀q∈l,q.wr=[]∧q.kl=[])→nI m l=m
 |[],_=>rfl
 |r::l,h=>by
  obtain⟨h1,h2⟩:=h r (by simp);have:r.ms m=m:=by unfold Rec.ms;rw[h1,h2];rfl
  rw[nI,this];exact DJ fun q hq=>h q (by simp[hq])
theorem fo.wr:∀{l:List Rec}{f:Fr}{m:Mem},fo E ops w0 f m l→∀q∈l,∀id b,(id,b)∈q.wr→(true,id)∈q.ft
 |[],_,_,_,q,hq=>by cases hq
 |r::l,f,m,h,q,hq=>by
  rcases List.mem_cons.1 hq with rfl|hq
  ·exact h.2.1
  ·exact fo.wr h.2.2 q hq
def Rm(q r:Rec):Prop:=reach ops 4 r.o q.i=true∨((∀id b,(id,b)∈q.wr→∀x∈r.ft,x.2≠id)∧∀id b,(id,b)∈r.wr→∀x∈q.ft,x.2≠id)
theorem GQ{o:Oper}{w:Bool}{id:Nat}:∀{lg:Log},Mf ops o w id lg=true→∀x∈lg,id≠x.2.2∨(w=false∧x.2.1=false)∨reach ops 4 o x.1=true
 |[],_,x,hx=>by cases hx
 |(j,w',nE)::lg,h,x,hx=>by
  simp only[Mf,Bool.and_eq_true]at h;rcases List.mem_cons.1 hx with rfl|hx
  ·have h1:=h.1;simp only[Bool.or_eq_true,Bool.not_eq_true',Bool.and_eq_true]at h1;rcases h1 with(h1|h1)|h1
   ·exact .inl fun e=>by subst e;simp[Nat.beq_refl]at h1
   ·exact .inr (.inl h1)
   ·exact .inr (.inr h1)
  ·exact GQ h.2 x hx
theorem yE{o:Oper}{lg:Log}:∀{ft:bp},yf ops o lg ft=true→∀y∈ft,∀x∈lg,y.2≠x.2.2∨(y.1=false∧x.2.1=false)∨reach ops 4 o x.1=true
 |[],_,y,hy=>by cases hy
 |(w,id)::ft,h,y,hy=>by
  simp only[yf,Bool.and_eq_true]at h;rcases List.mem_cons.1 hy with rfl|hy
  ·exact GQ h.1
  ·exact yE h.2 y hy
theorem BW{o:Oper}{id:Nat}:∀{lg:Log},Av ops o id lg=true→∀x∈lg,x.2.2=uF id→reach ops 4 o x.1=true
 |[],_,x,hx=>by cases hx
 |(j,w,n)::lg,h,x,hx=>by
  simp only[Av,Bool.and_eq_true,Bool.or_eq_true,Bool.not_eq_true']at h;intro he;rcases List.mem_cons.1 hx with rfl|hx
  ·rcases h.1 with h1|h1
   ·simp only at he;rw[he,Nat.beq_refl]at h1;cases h1
   ·exact h1
  ·exact BW h.2 x hx he
mutual
theorem MJ{id:Nat}:∀(v:V),v.has id=true→id∈v.ids
 |.agg cs,h=>ri cs (by simpa only[V.has]using h)
 |.bl cs,h=>ri cs (by simpa only[V.has]using h)
 |.fn _ cs,h=>ri cs (by simpa only[V.has]using h)
 |.os j,h=>by have:=Nat.eq_of_beq_eq_true h;subst this;simp[V.ids]
 |.fj j _ _,h=>by have:=Nat.eq_of_beq_eq_true h;subst this;simp[V.ids]
 |.oe j _ _,h=>by have:=Nat.eq_of_beq_eq_true h;subst this;simp[V.ids]
 |.om j,h=>by have:=Nat.eq_of_beq_eq_true h;subst this;simp[V.ids]
 |.tc j _ _,h=>by have:=Nat.eq_of_beq_eq_true h;subst this;simp[V.ids]
 |.wL j _ _ _ _ _,h=>by have:=Nat.eq_of_beq_eq_true h;subst this;simp[V.ids]
 |.op j _,h=>by have:=Nat.eq_of_beq_eq_true h;subst this;simp[V.ids]
 |.it j,h=>by have:=Nat.eq_of_beq_eq_true h;subst this;simp[V.ids]
 |.yl j,h=>by have:=Nat.eq_of_beq_eq_true h;subst this;simp[V.ids]
 |.pv _,h=>by cases h
 |.bk,h=>by cases h
 |.top,h=>by cases h
theorem ri{id:Nat}:∀(cs:List V),cr id cs=true→id∈Ge cs
 |[],h=>by cases h
 |v::r,h=>by
  simp only[cr,Bool.or_eq_true]at h;simp only[Ge,List.mem_append];rcases h with h|h
  ·exact .inl (MJ v h)
  ·exact .inr (ri r h)
end
variable{id:Nat}
theorem xg{b:bL}(h:b.names id=true):id∈A0 (some b):=by
 cases b with
 |box cs=>exact ri cs h
 |_=>cases h
theorem we{m m':Mem}{id:Nat}:∀{ft:bp}{x:Bool×Nat},x∈ft→(id∈A0 (m x.2)∨id∈A0 (m' x.2))→id∈Ep m m' ft
 |y::ft,x,hx,h=>by
  simp only[Ep,List.mem_append];rcases List.mem_cons.1 hx with rfl|hx
  ·exact .inl h
  ·exact .inr (we hx h)
theorem Rn{v:V}{wr:List (Nat×bL)}(zy:∀t∈o.looksAt ops,f t=F t)(Xm:∀j b,(j,b)∈wr→(true,j)∈ft)(hn:id∉Au ops o f m (qO wr m) v ft)(hft:∀x∈ft,x.2≠id):Clean ops id ⟨i,o,v,wr,ft,[]⟩ F m:=by
 simp only[Au,List.mem_append,not_or]at hn;obtain⟨⟨h1,h2⟩,h3⟩:=hn;refine⟨fun t ht=>?_,?_,fun x hx=>⟨hft x hx,fun b hb=>?_⟩,fun j b hb uQ=>⟨hft _ (Xm j b hb),?_⟩⟩
 ·cases e:(F t).has id with
  |false=>rfl
  |true=>exact absurd (ri _ (cV.2 ⟨f t,List.mem_map.2 ⟨t,ht,rfl⟩,by rw[zy t ht];exact e⟩)) h1
 ·cases e:v.has id with
  |false=>rfl
  |true=>exact absurd (MJ _ e) h2
 ·cases e:b.names id with
  |false=>rfl
  |true=>exact absurd (we hx (.inl (by rw[hb];exact xg e))) h3
 ·cases e:b.names id with
  |false=>rfl
  |true=>exact absurd (we (Xm j b hb) (.inr (by have fR:qO wr m j=some b:=uQ m;simp only;rw[fR];exact xg e))) h3
variable{R:Type}
theorem Jo{site:Nat}{rd:bp}(h:rU E f m o=some (id,rd)){k:V→Fr→Mem→bp→Option R}{r:R}(hx:cZ E false site o f m k=some r):(∀x∈rd,x.1=false)∧∃dL,k (.os id) (eS id f) (ao (bh (bE id m) id) id dL) [(true,0)]=some r∧∀(f2:Fr)(m2:Mem),(∀x∈o.op.operands,bD E f2 x=bD E f x)→(∀x∈(true,id)::rd,m2 x.2=m x.2)→∀(R':Type)(k':V→Fr→Mem→bp→Option R'),cZ E false site o f2 m2 k'=k' (.os id) (eS id f2) (ao (bh (bE id m2) id) id dL) [(true,0)]:=by
 obtain⟨dst,op,type,pos,after,guard⟩:=o;unfold rU at h;simp only at h;split at h
 ·rename_i c;obtain⟨callee,args,argTypes⟩:=c;simp only at h;split at h
  ·rename_i nE x t t' jF W8;split at h
   ·rename_i e hu;split at h
    ·rename_i new rd' yq;split at h
     ·cases h
     ·rename_i W9;simp only[Option.some.injEq,Prod.mk.injEq]at h;obtain⟨rfl,rfl⟩:=h;obtain⟨he1,he2,_⟩:=l8 yq;have aef:∀m2:Mem,bh (bE nE m2) nE nE=none:=fun m2=>by simp[bh,Nat.beq_refl]
      have main:∀(f2:Fr)(m2:Mem),args.toList.map (bD E f2)=[.os nE,x]→m2 nE=m nE→eI m2 (aT E.P e) x=some (new,rd')→∀(R':Type)(k':V→Fr→Mem→bp→Option R'),cZ E false site ⟨dst,.call ⟨.builtin .append,args,argTypes⟩,type,pos,after,guard⟩ f2 m2 k'=if !(decide (t'=t))then none else if(dn E e).isNone then none else match m nE with
       |some (.arr sz et es)=>if et=e∧sz=aT E.P e∧x.has nE=false then(if(es++new).length*CM E.P e≤aa∧0<CM E.P e then k' (.os nE) (eS nE f2) (ao (bh (bE nE m2) nE) nE (.arr sz e (es++new))) [(true,0)]else none)else none
       |_=>none:=by
       intro f2 m2 h1 h2 h3 R' k'
       simp only[cZ,h1,W8,wQ,Bool.false_or,hu,h3,h2]
       split
       ·rfl
       ·split
        ·rfl
        ·split
         ·rename_i sz et es ME;simp only[fresh,aef,ME]
         ·rename_i cR;split
          ·rename_i sz et es cP;exact absurd cP (cR sz et es)
          ·rfl
      rw[main f m jF rfl yq]at hx;refine⟨he2,?_⟩;split at hx
      ·cases hx
      ·rename_i Vu;split at hx
       ·cases hx
       ·rename_i CQ;split at hx
        ·rename_i sz et es hm;split at hx
         ·rename_i hc3;split at hx
          ·rename_i hc4;refine⟨_,hx,fun f2 m2 hf cP R' k'=>?_⟩;have ha:args.toList.map (bD E f2)=[.os nE,x]:=by rw[←jF];exact qx fun y hy=>hf y (by simp only[Op.operands,Call.operands];simp[Array.mem_toList_iff.1 hy])
           rw[main f2 m2 ha (cP (true,nE) (by simp)) (he1 m2 fun y hy=>cP y (by simp[hy])) R' k'];rw[if_neg Vu,if_neg CQ,hm];simp only;rw[if_pos hc3,if_pos hc4]
          ·cases hx
         ·cases hx
        ·cases hx
    ·cases h
   ·cases h
  ·cases h
 ·cases h
theorem sV.kill(h:sV f F)(id:Nat):sV (eS id f) (eS id F):=fun t=>by
 rcases h t with e|e
 ·exact .inl (by simp only[eS,e])
 ·exact .inr (by simp only[eS,e];rfl)
theorem oJ.kill{nt:Nat}(h:oJ nt ops A f)(id:Nat):oJ nt ops A (eS id f):=by intro g hg;obtain⟨t,h1,h0,h2⟩:=h g hg;exact⟨t,h1,h0,by simp only[eS,h2];rfl⟩
theorem Rp{x:Nat×bp}(h:rU E f m o=some x):isApp E o=true:=by
 obtain⟨dst,op,type,pos,after,guard⟩:=o;unfold rU at h;simp only at h;unfold isApp;split at h
 ·rename_i c;obtain⟨callee,args,argTypes⟩:=c;simp only at h;split at h
  ·simp
  ·cases h
 ·cases h
theorem EK{rd:bp}(h:rU E f m o=some (id,rd)):∃c x t t',o.op=.call c∧c.callee=.builtin .append∧c.args.toList.map (bD E f)=[.os id,x]∧c.argTypes.toList=[t,t']:=by
 unfold rU at h;split at h
 ·rename_i c hc;split at h
  ·rename_i nE x t t' h1 h2 h3;split at h
   ·split at h
    ·split at h
     ·cases h
     ·simp only[Option.some.injEq,Prod.mk.injEq]at h;obtain⟨rfl,_⟩:=h;exact⟨c,x,t,t',hc,h1,h2,h3⟩
    ·cases h
   ·cases h
  ·cases h
 ·cases h
theorem OC{kl:Kl}(h:Er E f m o=some (kl,ft)){k:V→Fr→Mem→bp→Option R}{r:R}(hx:Gd E false (cH E o.dst) o f m k=some r):isApp E o=true∧∃v wr Za,k v (kf kl f) (qO wr (km kl m)) Za=some r∧(∀x∈wr,(true,x.1)∈ft)∧(∀x∈kl,(true,x.2)∈ft)∧∀(f2:Fr)(m2:Mem),(∀x∈o.op.operands,bD E f2 x=bD E f x)→(∀x∈ft,m2 x.2=m x.2)→∀(R':Type)(k':V→Fr→Mem→bp→Option R'),Gd E false (cH E o.dst) o f2 m2 k'=k' v (kf kl f2) (qO wr (km kl m2)) Za:=by
 unfold Er at h;unfold Gd at hx;split at h
 ·rename_i sp jg;simp only[Option.some.injEq]at h;have hn:E.y6 (cH E o.dst)=true:=by
   cases hn:E.y6 (cH E o.dst)with
   |true=>rfl
   |false=>rw[hn]at jg;cases jg
  rw[hn]at jg hx;simp only[cond]at jg hx;rw[jg]at hx;obtain⟨v,wr,h1,h2,h3,h4,_,_⟩:=Ji jg hx;rw[h]at h1 h2 h3 h4;refine⟨by unfold isApp;rw[hn];rfl,v,wr,ft,h1,h2,h3,fun f2 m2 hf hm R' k'=>?_⟩;have:=Jf jg hf (by rw[h];exact hm);unfold Gd;rw[hn];simp only[cond];rw[this];exact h4 f2 m2 R' k'
 ·rename_i jg;split at h
  ·rename_i id rd Rq;simp only[Option.some.injEq,Prod.mk.injEq]at h;obtain⟨rfl,rfl⟩:=h;have e0:(bif false then none else bif E.y6 (cH E o.dst)then vQ E (cH E o.dst) o f m else none)=(bif E.y6 (cH E o.dst)then vQ E (cH E o.dst) o f m else none):=rfl;rw[e0,jg]at hx;simp only at hx;obtain⟨wY,dL,hk,hn⟩:=Jo Rq hx;refine⟨Rp Rq,.os id,[(id,dL)],[(true,0)],hk,by simp,by simp,fun f2 m2 hf hm R' k'=>?_⟩;have Rr:(bif E.y6 (cH E o.dst)then vQ E (cH E o.dst) o f2 m2 else none)=none:=by
    cases IW:E.y6 (cH E o.dst)with
    |false=>rfl
    |true=>
     simp only[cond];obtain⟨c,x,t,t',hc,Un,jF,Q6⟩:=EK Rq;have Xn:c.args.toList.map (bD E f2)=[.os id,x]:=by rw[←jF];exact List.map_congr_left fun y hy=>hf y (by rw[hc];simp only[Op.operands,Call.operands];rw[Un];simp[Array.mem_toList_iff.1 hy])
     have cP:m2 id=m id:=hm (true,id) (by simp);have VJ:∃sz et es,m id=some (.arr sz et es):=by
      obtain⟨dst,op,type,pos,after,guard⟩:=o;simp only at hc;subst hc;obtain⟨callee,args,argTypes⟩:=c;simp only at Un jF Q6;subst Un;simp only[cZ,jF,Q6,wQ,Bool.false_or]at hx;split at hx
      ·cases hx
      ·split at hx
       ·split at hx
        ·cases hx
        ·split at hx
         ·split at hx
          ·rename_i sz et es hm;exact⟨sz,et,es,hm⟩
          ·cases hx
         ·cases hx
       ·cases hx
     obtain⟨sz,et,es,VJ⟩:=VJ;unfold vQ;rw[hc];simp only[Un,Xn,Q6,cP,VJ];split<;>first|rfl|(rename_i heq;cases heq)
   unfold Gd;have e1:(bif false then none else bif E.y6 (cH E o.dst)then vQ E (cH E o.dst) o f2 m2 else none)=(bif E.y6 (cH E o.dst)then vQ E (cH E o.dst) o f2 m2 else none):=rfl;rw[e1,Rr];exact hn f2 m2 hf hm R' k'
  ·cases h
theorem sV.vw(h:sV f F)(id:Nat):sV (gm id f) (gm id F):=fun t=>by
 rcases h t with e|e
 ·exact .inl (by simp only[gm,e])
 ·exact .inr (by simp only[gm,e];rfl)
theorem sV.kf:∀{kl:Kl}{f F:Fr},sV f F→sV (Go.Ab.kf kl f) (Go.Ab.kf kl F)
 |[],_,_,h=>h
 |(true,id)::r,f,F,h=>sV.kf (kl:=r) (f:=eS id f) (F:=eS id F) (h.kill id)
 |(false,id)::r,f,F,h=>sV.kf (kl:=r) (f:=gm id f) (F:=gm id F) (h.vw id)
theorem oJ.vw{nt:Nat}(h:oJ nt ops A f)(id:Nat):oJ nt ops A (gm id f):=by intro g hg;obtain⟨t,h1,h0,h2⟩:=h g hg;exact⟨t,h1,h0,by simp only[gm,h2];rfl⟩
theorem oJ.kf{nt:Nat}{A:List (Nat×Bool)}:∀{kl:Kl}{f:Fr},oJ nt ops A f→oJ nt ops A (Go.Ab.kf kl f)
 |[],_,h=>h
 |(true,id)::r,f,h=>oJ.kf (kl:=r) (f:=eS id f) (h.kill id)
 |(false,id)::r,f,h=>oJ.kf (kl:=r) (f:=gm id f) (h.vw id)
theorem OD(hE:iO E)(hY:qV E.P E.aI E.fn.ntmps E.yl w0){v:V}{wr:List (Nat×bL)}{kl:Kl}{Za:bp}(hg:guardOf o A=none)(hA:oJ E.fn.ntmps ops A F)(hd:tg E o=true)(Ov:∀x∈o.op.operands,bD E f x=bD E F x)(hn:∀(f2:Fr)(m2:Mem),(∀x∈o.op.operands,bD E f2 x=bD E f x)→(∀x∈ft,m2 x.2=m x.2)→∀(R':Type)(k':V→Fr→Mem→bp→Option R'),Gd E false (cH E o.dst) o f2 m2 k'=k' v (kf kl f2) (qO wr (km kl m2)) Za):DG E ops w0 ⟨i,o,v,wr,ft,kl⟩ F m:=by
 intro f2 m2 hf hm μ φ a w K Q hR hK;have hw:Region.wanted o (yielded ops a.tmps)=true:=GP hg hA hR hf;simp only at hf hm hK⊢;rw[if_pos hw];have hx:=hn f2 m2 (fun x hx=>by rw[uY hf x hx,Ov x hx]) hm (V×Fr×Mem) fun v f m _=>some (v,f,m);rcases EI hE hx with⟨v,f',m',ft,h1,h2⟩|⟨_,h2⟩
 ·simp only[Option.some.injEq,Prod.mk.injEq]at h1;obtain⟨rfl,rfl,rfl⟩:=h1;exact fun rd=>h2.vZ (yA hx) rd w0 μ φ a w K Q hR fun y w' μ' φ' hle hM hF hv hl=>hK _ _ _ _ (hR.put hle (gW hd) hM hF hv hl)
 ·refine fun rd=>BG.vZ h2 rd w0 μ φ a w K Q hY hR fun v f' m' y w' μ' φ' h1 hle hM hF hv hl=>?_;simp only[Option.some.injEq,Prod.mk.injEq]at h1;obtain⟨rfl,rfl,rfl⟩:=h1;exact hK _ _ _ _ (hR.put hle (gW hd) hM hF hv hl)
structure EL(ops:Array Oper)(mode:Nat)(F:Fr)(m:Mem)(lg:Log)(recs:List Rec):Prop where
 one:mode=1→∀q∈recs,q.wr=[]∧q.kl=[]
 ord:mode=2→recs.Pairwise (Rm (ops:=ops))
 log:mode=2→∀q∈recs,∀y∈q.ft,∀x∈lg,y.2≠x.2.2∨(y.1=false∧x.2.1=false)∨reach ops 4 q.o x.1=true
 kl:recs.Pairwise fun q r=>q.kl≠[]→reach ops 4 r.o q.i=true
 cln:mw ops F m recs
 nam:∀q∈recs,∀id,q.DE id→mode=2∧ops.toList.any (isApp E)=true∧(true,id)∈q.ft∧∀x∈lg,x.2.2=uF id→reach ops 4 q.o x.1=true
theorem mw.none:∀{l:List Rec}{f:Fr}{m:Mem},(∀q∈l,q.kl=[])→mw ops f m l
 |[],_,_,_=>trivial
 |r::l,f,m,h=>⟨fun q hq id⟨b,hid⟩=>(by rw[h q (by simp[hq])]at hid;cases hid),mw.none fun q hq=>h q (by simp[hq])⟩
theorem k9(hE:iO E)(hY:qV E.P E.aI E.fn.ntmps E.yl w0){mode:Nat}(iC:mode=1∨mode=2):∀(fuel:Nat){R:Type}{A:List (Nat×Bool)}{l:List (Nat×Oper)}{f:Fr}{m:Mem}{lg:Log}{k:Fr→Mem→Option R}{r:R},cq E ops mode fuel R A l f m lg k=some r→(∀x∈l,ops[x.1]?=some x.2)→(mode=1→∀x∈l,eY x.2=true)→Xe ops A l→∀F:Fr,sV f F→oJ E.fn.ntmps ops A F→(∀x∈l,∀t∈x.2.looksAt ops,f t=F t)→∃(recs:List Rec)(f':Fr),k f' (nI m recs)=some r∧sV f' (kM F recs)∧recs.map (fun r=>(r.i,r.o))=l∧fo E ops w0 F m recs∧EL (E:=E) ops mode F m lg recs
 |0,_,_,_,_,_,_,_,_,h,_,_,_,_,_,_,_=>by simp[cq]at h
 |fuel+1,R,A,[],f,m,lg,k,r,h,_,_,_,F,hF,_,_=>by simp only[cq]at h;exact⟨[],f,h,hF,rfl,trivial,by simp,fun _=>.nil,by simp,.nil,trivial,by simp⟩
 |fuel+1,R,A,(i,o)::rest,f,m,lg,k,r,h,hl,P2,BM,F,hF,hA,zy=>by
  have Xk:(Nat.beq mode 1||Nat.beq mode 2)=true:=by rcases iC with rfl|rfl<;>rfl
  simp only[cq,Xk]at h;split at h
  ·rename_i hg;split at h
   ·rename_i hd;have aak:∀x∈o.op.operands,bD E f x=bD E F x:=uY (zy (i,o) (by simp));split at h
    ·rename_i kl ft jg;have Xo:mode=2:=by
      rcases iC with rfl|rfl
      ·cases jg
      ·rfl
     subst Xo;have jg:Er E f m o=some (kl,ft):=jg;split at h
     ·rename_i Bf;simp only[Bool.and_eq_true,List.all_eq_true]at Bf;obtain⟨⟨aeg,aeh⟩,aei⟩:=Bf;obtain⟨Rq,v,wr,Za,hk,Xm,kN,hn⟩:=OC jg h;obtain⟨recs,f',c1,c2,c3,c4,c5⟩:=k9 hE hY (.inr rfl) fuel hk (fun x hx=>hl x (by simp[hx])) (fun hm=>by cases hm) (fun x hx=>BM x (by simp[hx])) (gT (kf kl F) o.dst v) ((sV.kf (kl:=kl) hF).put _ _) (oJ.put (oJ.kf (kl:=kl) hA) fun g nS t ht=>BM (i,o) (by simp) g nS t ht) (fun x hx t ht=>by
       by_cases e:o.dst=some t
       ·rw[e,iV,iV]
       ·rw[dU e,dU e];exact xe (zy x (by simp[hx]) t ht))
      have pT:∀q∈recs,reach ops 4 q.o i=true:=fun q hq=>aei (q.i,q.o) (by rw[←c3];exact List.mem_map.2 ⟨q,hq,rfl⟩);have Xp:ops.toList.any (isApp E)=true:=List.any_eq_true.2 ⟨o,List.mem_of_getElem? (by rw[Array.getElem?_toList];exact hl (i,o) (by simp)),Rq⟩;refine⟨⟨i,o,v,wr,ft,kl⟩::recs,f',c1,c2,by simp[c3],⟨OD hE hY hg hA hd aak hn,fun j b hb=>Xm _ hb,c4⟩,?_⟩;refine⟨fun hm=>(by cases hm),fun hm=>List.pairwise_cons.2 ⟨fun q hq=>.inl (pT q hq),c5.ord hm⟩,fun hm q hq=>?_,List.pairwise_cons.2 ⟨fun q hq _=>pT q hq,c5.kl⟩,⟨fun q hq nE _=>.inl (pT q hq),c5.cln⟩,fun q hq nE hid=>?_⟩
      ·rcases List.mem_cons.1 hq with rfl|hq
       ·exact yE aeg
       ·exact fun y hy x hx=>c5.log hm q hq y hy x (List.mem_append.2 (.inr hx))
      ·rcases List.mem_cons.1 hq with rfl|hq
       ·obtain⟨bb,hid⟩:=hid;exact⟨rfl,Xp,kN _ hid,BW (aeh _ hid)⟩
       ·obtain⟨g1,g2,g3,g4⟩:=c5.nam q hq nE hid;exact⟨g1,g2,g3,fun x hx=>g4 x (List.mem_append.2 (.inr hx))⟩
     ·cases h
    ·rcases EI hE h with⟨v,f1,m1,ft,hk,Ov⟩|⟨vW,_⟩
     rotate_left
     ·cases vW
     obtain⟨Xh,wr,aal,Xm,hn⟩:=Ov.drawn rfl;subst Xh;have N1:∀(f2:Fr)(m2:Mem),(∀x∈o.op.operands,bD E f2 x=bD E F x)→(∀x∈ft,m2 x.2=m x.2)→∀(R':Type)(k':V→Fr→Mem→bp→Option R'),Gd E true (cH E o.dst) o f2 m2 k'=k' v f2 (qO wr m2) ft:=fun f2 m2 hf=>hn f2 m2 fun x hx=>by rw[hf x hx,aak x hx]
     have step:∀(Zb:List (Nat×bL))(lg':Log),qO Zb m=m1→(mode=1→Zb=[])→(∀id b,(id,b)∈Zb→(true,id)∈ft)→DG E ops w0 ⟨i,o,v,Zb,ft,[]⟩ F m→cq E ops mode fuel R A rest (gT f1 o.dst v) m1 lg' k=some r→(mode=2→lg'=(bif ops.toList.any (isApp E)then(Au ops o f1 m m1 v ft).map (fun n=>(i,false,uF n))else[])++(ft.map (fun x=>(i,x))++lg)∧yf ops o lg ft=true)→∃(recs:List Rec)(f':Fr),k f' (nI m recs)=some r∧sV f' (kM F recs)∧recs.map (fun r=>(r.i,r.o))=(i,o)::rest∧fo E ops w0 F m recs∧EL (E:=E) ops mode F m lg recs:=by
      intro Zb lg' hwm Mz hw2 Xj Uk hlg;obtain⟨recs,f',c1,c2,c3,c4,c5⟩:=k9 hE hY iC fuel Uk (fun x hx=>hl x (by simp[hx])) (fun hm x hx=>P2 hm x (by simp[hx])) (fun x hx=>BM x (by simp[hx])) (gT F o.dst v) (hF.put _ _) (oJ.put hA fun g nS t ht=>BM (i,o) (by simp) g nS t ht) (fun x hx t ht=>by
       by_cases e:o.dst=some t
       ·rw[e,iV,iV]
       ·rw[dU e,dU e];exact zy x (by simp[hx]) t ht)
      subst hwm;refine⟨⟨i,o,v,Zb,ft,[]⟩::recs,f',c1,c2,by simp[c3],⟨Xj,hw2,c4⟩,?_⟩;have VR:mode=2→∀x∈lg,x∈lg':=fun hm x hx=>by rw[(hlg hm).1];exact List.mem_append.2 (.inr (List.mem_append.2 (.inr hx)))
      have Rs:mode=2→∀x∈ft,(i,x)∈lg':=fun hm x hx=>by rw[(hlg hm).1];exact List.mem_append.2 (.inr (List.mem_append.2 (.inl (List.mem_map.2 ⟨x,hx,rfl⟩))))
      refine⟨fun hm q hq=>?_,fun hm=>List.pairwise_cons.2 ⟨fun q hq=>?_,c5.ord hm⟩,fun hm q hq=>?_,List.pairwise_cons.2 ⟨fun q hq h=>absurd rfl h,c5.kl⟩,⟨fun q hq id hid=>?_,c5.cln⟩,fun q hq id hid=>?_⟩
      ·rcases List.mem_cons.1 hq with rfl|hq
       ·exact⟨Mz hm,rfl⟩
       ·exact c5.one hm q hq
      ·have d2:=c5.log hm;by_cases he:reach ops 4 q.o i=true
       ·exact .inl he
       ·refine .inr ⟨fun id b hb x hx hxi=>?_,fun id b hb x hx hxi=>?_⟩
        ·rcases d2 q hq x hx (i,true,id) (Rs hm (true,id) (hw2 id b hb))with h|h|h
         ·exact h hxi
         ·cases h.2
         ·exact he h
        ·rcases d2 q hq (true,id) (fo.wr c4 q hq id b hb) (i,x) (Rs hm x hx)with h|h|h
         ·exact h hxi.symm
         ·cases h.1
         ·exact he h
      ·rcases List.mem_cons.1 hq with rfl|hq
       ·exact yE (hlg hm).2
       ·exact fun y hy x hx=>c5.log hm q hq y hy x (VR hm x hx)
      ·obtain⟨g1,g2,g3,g4⟩:=c5.nam q hq id hid;by_cases he:reach ops 4 q.o i=true
       ·exact .inl he
       ·refine .inr (Rn (zy (i,o) (by simp)) hw2 (fun bP=>he (g4 (i,false,uF id) ?_ rfl)) fun x hx hxi=>?_)
        ·rw[(hlg g1).1,g2];exact List.mem_append.2 (.inl (List.mem_map.2 ⟨id,bP,rfl⟩))
        ·rcases c5.log g1 q hq (true,id) g3 (i,x) (Rs g1 x hx)with h|h|h
         ·exact h hxi.symm
         ·cases h.1
         ·exact he h
      ·rcases List.mem_cons.1 hq with rfl|hq
       ·obtain⟨_,hid⟩:=hid;cases hid
       ·obtain⟨g1,g2,g3,g4⟩:=c5.nam q hq id hid;exact⟨g1,g2,g3,fun x hx=>g4 x (VR g1 x hx)⟩
     rcases iC with rfl|rfl
     ·simp only[Nat.beq,Bool.false_eq_true,if_false]at hk;split at hk
      ·rename_i hqf;have hwn:wr=[]:=by
        cases wr with
        |nil=>rfl
        |cons x l=>have:=v7 hqf _ (Xm x (by simp));cases this
       subst hwn;exact step [] lg aal.symm (fun _=>rfl) (by simp) (BV hE hg hA hd N1) hk (by simp)
      ·cases hk
     ·simp only[Nat.beq,if_true]at hk;split at hk
      ·rename_i hof;exact step wr _ aal.symm (by simp) (fun id b hb=>Xm _ hb) (BV hE hg hA hd N1) hk fun _=>⟨rfl,hof⟩
      ·cases hk
   ·cases h
  ·rename_i j yg hg;split at h
   ·rename_i tj P3;split at h
    ·rename_i b hb;generalize jg:za A ((i,o)::rest)=sp at h;obtain⟨body,Gf⟩:=sp;have k8:=BK jg;have P4:Nat.beq mode 0=false:=by rcases iC with rfl|rfl<;>rfl
     simp only[P4,Bool.false_and,Bool.false_eq_true,if_false]at h;split at h
     ·rename_i ip p kP;split at h
      ·rename_i c x y Jj;split at h
       ·rename_i hc;simp only[Bool.and_eq_true,List.all_eq_true,Bool.not_eq_true',beq_eq_false_iff_ne,ne_eq]at hc;obtain⟨⟨⟨⟨⟨⟨Jk,Xg⟩,vI⟩,Ow⟩,Xq⟩,hpd⟩,cP⟩:=hc;have Xr:mode=1:=by
         rcases iC with h|h
         ·exact h
         ·subst h;simp[Nat.beq]at cP
        subst Xr;have Jk:=Nat.eq_of_beq_eq_true Jk;subst Jk;have Xg:guardOf p A=none:=by simpa using Xg
        obtain⟨rb,IE,h⟩:=Option.bind_eq_some_iff.1 h;have bP:∀z∈body,z∈(i,o)::rest:=fun z hz=>by rw[k8];simp[hz]
        have sK:∀z∈kP,z∈(i,o)::rest:=fun z hz=>by rw[k8];simp[hz]
        have GJ:(ip,p)∈(i,o)::rest:=by rw[k8];simp
        obtain⟨Ra,hb⟩:=BI hb;have hFc:F c=.pv (.bool b):=by
         rcases hF c with e|e
         ·rw[←e];exact hb
         ·rw[e]at hb;cases hb
        have after:∀(pU:List Rec)(q:Operand),pU.map (fun r=>(r.i,r.o))=body→fo E ops w0 F m pU→(∀q∈pU,q.wr=[]∧q.kl=[])→bD E (kM F pU) q=.pv (.bool rb)→(q=if b then x else y)→∃(recs:List Rec)(f':Fr),k f' (nI m recs)=some r∧sV f' (kM F recs)∧recs.map (fun r=>(r.i,r.o))=body++(ip,p)::kP∧fo E ops w0 F m recs∧(∀q∈recs,q.wr=[]∧q.kl=[]):=by
         intro pU q aam aan hwn hq hqe;have Uo:∀t,(∀z∈body,z.2.dst≠some t)→kM F pU t=F t:=fun t ht=>DF fun q hq=>⟨ht (q.i,q.o) (by rw[←aam];exact List.mem_map.2 ⟨q,hq,rfl⟩),(hwn q hq).2⟩;have hA1:oJ E.fn.ntmps ops A (kM F pU):=fun g nS=>by obtain⟨t,h1,h0,h2⟩:=hA g nS;exact⟨t,h1,h0,by rw[Uo t fun z hz=>BM z (bP z hz) g nS t h1];exact h2⟩
         have To:kM F pU c=.pv (.bool b):=by rw[Uo c fun z hz=>(vI z hz).2];exact hFc
         have hrp:DG E ops w0 ⟨ip,p,.pv (.bool rb),[],[],[]⟩ (kM F pU) m:=BV hE Xg hA1 hpd fun f2 m2 hf hm R' k'=>by
          have pC:bD E f2 (.tmp c)=.pv (.bool b):=by have:=hf (.tmp c) (by rw[Jj];simp[Op.operands]);rw[this,Uj Ra];exact To
          have Vt:bD E f2 q=.pv (.bool rb):=by rw[hf q (by rw[Jj,hqe];cases b<;>simp[Op.operands])];exact hq
          rw[GI Jj pC,←hqe,Vt];rfl
         obtain⟨recs,f',c1,c2,c3,c4,c5⟩:=k9 hE hY (.inl rfl) fuel h (fun z hz=>hl z (sK z hz)) (fun hm z hz=>P2 hm z (sK z hz)) (fun z hz=>BM z (sK z hz)) (gT (kM F pU) p.dst (.pv (.bool rb))) (sV.put (uX fun t ht=>by rw[Uo t ht];exact hF t) _ _) (oJ.put hA1 fun g nS t ht=>BM (ip,p) GJ g nS t ht) (fun z hz t ht=>by
          by_cases e:p.dst=some t
          ·rw[e,iV,iV]
          ·have ZQ:∀u∈body,u.2.dst≠some t:=fun u hu hud=>by
            have h1:=Xq z hz;simp only[blind,List.all_eq_true]at h1;have h2:=h1 u hu;rw[hud]at h2;simp only[Bool.not_eq_true']at h2;have:(z.2.looksAt ops).elem t=true:=by simpa using ht
            rw[this]at h2;cases h2
           rw[dU e,dU e,uW ZQ,Uo t ZQ];exact zy z (sK z hz) t ht)
         have hmB:nI m pU=m:=DJ hwn;refine⟨pU++⟨ip,p,.pv (.bool rb),[],[],[]⟩::recs,f',?_,?_,by simp[aam,c3],?_,fun q hq=>?_⟩
         ·rw[GO,hmB];exact c1
         ·rw[GN];exact c2
         ·refine fo.append.2 ⟨aan,?_⟩;rw[hmB];exact⟨hrp,by simp,c4⟩
         ·rcases List.mem_append.1 hq with h|h
          ·exact hwn q h
          ·rcases List.mem_cons.1 h with rfl|h
           ·exact⟨rfl,rfl⟩
           ·exact c5.one rfl q h
        have fin:(∃(recs:List Rec)(f':Fr),k f' (nI m recs)=some r∧sV f' (kM F recs)∧recs.map (fun r=>(r.i,r.o))=body++(ip,p)::kP∧fo E ops w0 F m recs∧(∀q∈recs,q.wr=[]∧q.kl=[]))→∃(recs:List Rec)(f':Fr),k f' (nI m recs)=some r∧sV f' (kM F recs)∧recs.map (fun r=>(r.i,r.o))=(i,o)::rest∧fo E ops w0 F m recs∧EL (E:=E) ops 1 F m lg recs:=by rintro⟨recs,f',c1,c2,c3,c4,c5⟩;exact⟨recs,f',c1,c2,by rw[k8];exact c3,c4,fun _=>c5,fun h=>(by cases h),fun h=>(by cases h),List.Pairwise.imp_of_mem (R:=fun _ _=>True) (fun{q r}hq hr _ h=>absurd (c5 q hq).2 h) (List.pairwise_of_forall fun _ _=>trivial),mw.none fun q hq=>(c5 q hq).2,fun q hq id⟨_,hid⟩=>(by rw[(c5 q hq).2]at hid;cases hid)⟩
        have go:∀q,b=yg→(q=if b then x else y)→cq E ops 1 fuel Bool ((j,yg)::A) body f m lg (fun f _=>vt (bD E f q))=some rb→∃(recs:List Rec)(f':Fr),k f' (nI m recs)=some r∧sV f' (kM F recs)∧recs.map (fun r=>(r.i,r.o))=body++(ip,p)::kP∧fo E ops w0 F m recs∧(∀q∈recs,q.wr=[]∧q.kl=[]):=by
         intro q Ox hq Uk;obtain⟨pU,f1,c1,c2,c3,c4,c5⟩:=k9 hE hY (.inl rfl) fuel Uk (fun z hz=>hl z (bP z hz)) (fun hm z hz=>P2 hm z (bP z hz)) (fun z hz g nS t ht=>by
          rcases List.mem_cons.1 nS with rfl|nS
          ·simp only[P3]at ht;cases ht;exact(vI z hz).2
          ·exact BM z (bP z hz) g nS t ht) F hF (fun g nS=>by
          rcases List.mem_cons.1 nS with rfl|nS
          ·exact⟨c,P3,Ra,by rw[hFc,Ox]⟩
          ·exact hA g nS) (fun z hz=>zy z (bP z hz))
         refine after pU q c3 c4 (c5.one rfl) ?_ hq;have hv:=xb c1;rcases Q7 (E:=E) c2 q with e|e
         ·rw[←e];exact hv
         ·rw[e]at hv;cases hv
        have no:∀q,b= !yg→(q=if b then x else y)→vt (bD E (kO f body) q)=some rb→∃(recs:List Rec)(f':Fr),k f' (nI m recs)=some r∧sV f' (kM F recs)∧recs.map (fun r=>(r.i,r.o))=body++(ip,p)::kP∧fo E ops w0 F m recs∧(∀q∈recs,q.wr=[]∧q.kl=[]):=by
         intro q Ox hq Uk;obtain⟨s1,s2⟩:=DH (E:=E) (w0:=w0) (m:=m) body F (fun z hz=>(vI z hz).1.2) (w9 P3 Ow (fun z hz=>hl z (bP z hz)) (fun z hz=>(vI z hz).2) (by rw[hFc,Ox]) (by simp));refine after (body.map xf) q (by simp[xf,Function.comp_def]) s1 (fun u hu=>by obtain⟨z,_,rfl⟩:=List.mem_map.1 hu;exact⟨rfl,rfl⟩) ?_ hq;rw[s2];have hv:=xb Uk;have hle:sV (kO f body) (gF F body):=uX fun t ht=>by rw[sl ht];exact hF t
         rcases Q7 (E:=E) hle q with e|e
         ·rw[←e];exact hv
         ·rw[e]at hv;cases hv
        refine fin ?_;cases yg<;>cases b<;>simp only[cond]at IE
        ·exact go y rfl rfl IE
        ·exact no x rfl rfl IE
        ·exact no y rfl rfl IE
        ·exact go x rfl rfl IE
       ·cases h
      ·cases h
     ·cases h
    ·cases h
   ·cases h
theorem qy{l:List Oper}:(i,o)∈(List.range l.length).zip l↔l[i]?=some o:=by
 rw[List.mem_iff_getElem?];constructor
 ·rintro⟨n,hn⟩;rw[List.getElem?_zip_eq_some]at hn;obtain⟨h1,h2⟩:=hn;rw[List.getElem?_range (by have:=(List.getElem?_eq_some_iff.1 h2).1;omega)]at h1;simp only[Option.some.injEq]at h1;subst h1;exact h2
 ·intro h;refine⟨i,List.getElem?_zip_eq_some.2 ⟨?_,h⟩⟩;exact List.getElem?_range (by have:=(List.getElem?_eq_some_iff.1 h).1;omega)
theorem tH:∀{l done:List (Nat×Oper)},mj ops done l=true→(∀x∈l,∀d∈done,reach ops 4 x.2 d.1=true∨d.2.apart ops x.2=true)∧l.Pairwise (fun q r=>reach ops 4 r.2 q.1=true∨q.2.apart ops r.2=true)∧∀x∈l,∀e∈x.2.after,Region.binds .any e=true→e.on<x.1
 |[],_,_=>⟨by simp,.nil,by simp⟩
 |(i,o)::r,done,h=>by
  simp only[mj,Bool.and_eq_true]at h;obtain⟨⟨h1,h2⟩,h3⟩:=h;obtain⟨i1,i2,i3⟩:=tH h3;have Bk:∀{done:List (Nat×Oper)},uG ops done o=true→∀d∈done,reach ops 4 o d.1=true∨d.2.apart ops o=true:=by
   intro done;induction done with
   |nil=>intro _ d hd;cases hd
   |cons x l ih=>
    intro h d hd;simp only[uG,Bool.and_eq_true,Bool.or_eq_true]at h;rcases List.mem_cons.1 hd with rfl|hd
    ·exact h.1.symm
    ·exact ih h.2 d hd
  refine⟨fun x hx d hd=>?_,List.pairwise_cons.2 ⟨fun x hx=>i1 x hx (i,o) (by simp),i2⟩,fun x hx e he hb=>?_⟩
  ·rcases List.mem_cons.1 hx with rfl|hx
   ·exact Bk h2 d hd
   ·exact i1 x hx d (by simp[hd])
  ·rcases List.mem_cons.1 hx with rfl|hx
   ·have:=List.all_eq_true.1 h1 e (Array.mem_toList_iff.2 he);simp only[hb,Bool.not_true,Bool.false_or]at this;rwa[Nat.blt_eq]at this
   ·exact i3 x hx e he hb
variable{rd:Option Nat}{fuel:Nat}{Q:Exit→Act→World→Prop}
theorem tI(hE:iO E)(hY:qV E.P E.aI E.fn.ntmps E.yl w0){mode:Nat}(iC:mode=1∨mode=2){l:List (Nat×Oper)}{base:Nat→Bool}(P2:mode=1→∀x∈l,eY x.2=true){k:Fr→Mem→Option R}{r:R}(hmz:∀x∈l,ops[x.1]?=some x.2)(VS:(l.map Prod.fst).Pairwise (·<·))(Rf:∀x∈l,base x.1=false)(Rg:∀i o,ops[i]?=some o→base i=false→(∀x∈l,x.1≠i)→(∀x∈l,reach ops 8 o x.1=true)∨∃j,reach ops 8 o j=true∧base j=false∧∀x∈l,x.1≠j)(aej:∀x∈l,∀e∈x.2.after,Region.binds .any e=true→base e.on=true∨∃y∈l,y.1=e.on)(hi:mj ops [] l=true)(h:cq E ops mode fuel R [] l f m [] k=some r)(hQ:∀(fuel:Nat)(aj:Array Bool),aj.size=ops.size→aj.toList.countP (fun b=> !b)≤fuel→wb ops aj→(∀i,aB aj i=true↔base i=true∨∃x∈l,x.1=i)→∀f' m' μ φ a w,k f' m'=some r→Rel E.P E.aI E.fn.ntmps w0 μ φ f' m' a w→wpAnyIn (FR rd) 0 E.P .any ops Q fuel aj a w):∀(fuel:Nat)(aj:Array Bool),aj.size=ops.size→aj.toList.countP (fun b=> !b)≤fuel→wb ops aj→(∀i,aB aj i=true↔base i=true)→∀(μ:Ro)(φ:Nat→aG)(a:Act)(w:World),Rel E.P E.aI E.fn.ntmps w0 μ φ f m a w→wpAnyIn (FR rd) 0 E.P .any ops Q fuel aj a w:=by
 intro aao aj hs hc se hb μ φ a w hR;obtain⟨recs,f',c1,c2,c3,c4,c5⟩:=k9 (w0:=w0) hE hY iC fuel h hmz P2 (by intro x hx g hg;cases hg) f (sV.refl f) (by intro g hg;cases hg) (fun _ _ _ _=>rfl);obtain⟨_,i2,i3⟩:=tH hi;have bP:∀q∈recs,(q.i,q.o)∈l:=fun q hq=>by rw[←c3];exact List.mem_map.2 ⟨q,hq,rfl⟩
 have hof:∀x∈l,∃q∈recs,q.i=x.1:=fun x hx=>by rw[←c3]at hx;obtain⟨q,hq,rfl⟩:=List.mem_map.1 hx;exact⟨q,hq,rfl⟩
 have Bk:recs.Pairwise fun q r=>reach ops 4 r.o q.i=true∨q.o.apart ops r.o=true:=by rw[←c3,List.pairwise_map]at i2;exact i2
 have VT:recs.Pairwise (Rm (ops:=ops)):=by
  rcases iC with hm|hm
  ·exact List.Pairwise.imp_of_mem (fun{q r}hq hr _=>.inr ⟨fun id b hb=>(by rw[(c5.one hm q hq).1]at hb;cases hb),fun id b hb=>(by rw[(c5.one hm r hr).1]at hb;cases hb)⟩) Bk
  ·exact c5.ord hm
 refine Re (E:=E) (w0:=w0) (recs:=recs) (f0:=f) (m0:=m) (base:=base) ?_ (fun q hq=>hmz _ (bP q hq)) (fun q hq=>Rf _ (bP q hq)) (fun i o ho hbi cR=>?_) ?_ c5.kl c5.cln (fun q hq e he Ey=>⟨i3 _ (bP q hq) e he Ey,?_⟩) c4 ?_ aao aj hs hc se (fun i hi=>(hb i).2 hi) (fun i hi=>Or.inl ((hb i).1 hi)) μ φ a w ?_
 ·rw[←c3,List.map_map]at VS;have h2:(recs.map (Prod.fst∘fun r=>(r.i,r.o))).Pairwise (·<·):=VS;rw[List.pairwise_map]at h2;exact h2
 ·have aek:∀x∈l,x.1≠i:=fun x hx e=>by obtain⟨q,hq,Rh⟩:=hof x hx;exact cR q hq (by rw[Rh];exact e)
  rcases Rg i o ho hbi aek with h1|⟨j,h1,h2,h3⟩
  ·exact Or.inl fun q hq=>h1 _ (bP q hq)
  ·exact Or.inr ⟨j,h1,h2,fun q hq=>h3 _ (bP q hq)⟩
 ·refine List.Pairwise.imp (fun{q r}h=>?_) (List.Pairwise.and Bk VT);obtain⟨h1,h2⟩:=h;rcases h1 with h1|h1
  ·exact .inl h1
  ·rcases h2 with h2|h2
   ·exact .inl h2
   ·exact .inr ⟨h1,h2⟩
 ·rcases aej _ (bP q hq) e he Ey with h1|⟨y,hy,h1⟩
  ·exact Or.inl h1
  ·obtain⟨q',N3,Rh⟩:=hof y hy;exact Or.inr ⟨q',N3,by rw[Rh];exact h1⟩
 ·intro VU MK W3 CQ ael pC μ2 φ2 a2 w2 Dy;refine hQ VU MK W3 CQ ael (fun i=>?_) _ _ μ2 φ2 a2 w2 c1 (Dy.weaken c2);rw[pC i];constructor
  ·rintro(h1|⟨q,hq,h1⟩)
   ·exact Or.inl h1
   ·exact Or.inr ⟨_,bP q hq,h1⟩
  ·rintro(h1|⟨x,hx,h1⟩)
   ·exact Or.inl h1
   ·obtain⟨q,hq,Rh⟩:=hof x hx;exact Or.inr ⟨q,hq,by rw[Rh];exact h1⟩
 ·have hS:∀q∈recs,aB aj q.i=false:=fun q hq=>by
   cases hx:aB aj q.i with
   |false=>rfl
   |true=>have:=(hb q.i).1 hx;rw[Rf _ (bP q hq)]at this;cases this
  rw[show mJ (aB aj) f recs=f from funext fun t=>nT fun q hq hs=>(by rw[hS q hq]at hs;cases hs),show mK (aB aj) m recs=m from funext fun t=>nU fun q hq hs=>(by rw[hS q hq]at hs;cases hs)];exact hR
variable{x:Nat×Oper}
theorem wg(hx:x∈(List.range ops.size).zip ops.toList):ops[x.1]?=some x.2:=by have:=(qy (l:=ops.toList) (i:=x.1) (o:=x.2)).1 (by simpa using hx);rwa[Array.getElem?_toList]at this
theorem oL(ho:ops[i]?=some o):(i,o)∈(List.range ops.size).zip ops.toList:=by have:=(qy (l:=ops.toList) (i:=i) (o:=o)).2 (by rw[Array.getElem?_toList];exact ho);simpa using this
theorem AB:((List.range ops.size).zip ops.toList).map Prod.fst=List.range ops.size:=by rw[List.map_fst_zip (by simp)]
variable{P:Program}
theorem BX{F:Fence}{n:Nat}{aj:Array Bool}(hs:aj.size=ops.size)(Ai:∀i o,ops[i]?=some o→aB aj i=true)(hq:Q .normal a w):wpAnyIn F n P .any ops Q fuel aj a w:=by
 have hr:Region.ready .any ops aj=[]:=by
  apply List.eq_nil_iff_forall_not_mem.2;intro j hj;obtain⟨h0,o,ho,_⟩:=mem_ready.1 hj;have h1:=Ai j o ho;have bt:j<aj.size:=by rw[hs];exact(Array.getElem?_eq_some_iff.1 ho).1
  simp only[aB,Array.getD_eq_getD_getElem?,Array.getElem?_eq_getElem bt,Option.getD_some]at h0 h1;rw[h0]at h1;cases h1
 cases fuel with
 |zero=>exact⟨hr,hq⟩
 |succ fuel=>exact⟨fun _=>hq,fun i hi=>by rw[hr]at hi;cases hi⟩
theorem tJ(n j:Nat):aB (Array.replicate n false) j=false:=by simp only[aB,Array.getD_eq_getD_getElem?,Array.getElem?_replicate];split<;>rfl
theorem count_le(n:Nat):(Array.replicate n false).toList.countP (fun b=> !b)≤n:=by have:=List.countP_le_length (p:=fun b=> !b) (l:=(Array.replicate n false).toList);simpa using this
theorem zz:wb ops (Array.replicate ops.size false):=fun i o _ h=>by rw[tJ]at h;cases h
theorem BZ(hE:iO E)(hY:qV E.P E.aI E.fn.ntmps E.yl w0){mode:Nat}(iC:mode=1∨mode=2)(P2:mode=1→∀o∈ops,eY o=true){k:Fr→Mem→Option R}{r:R}(hi:mj ops [] ((List.range ops.size).zip ops.toList)=true)(h:cq E ops mode fuel R [] ((List.range ops.size).zip ops.toList) f m [] k=some r){μ:Ro}(hR:Rel E.P E.aI E.fn.ntmps w0 μ φ f m a w)(hQ:∀f' m' μ' φ' a' w',k f' m'=some r→Rel E.P E.aI E.fn.ntmps w0 μ' φ' f' m' a' w'→Q .normal a' w'):wpAnyIn (FR rd) 0 E.P .any ops Q ops.size (Array.replicate ops.size false) a w:=by
 refine tI (w0:=w0) (base:=fun _=>false) hE hY iC (fun hm x hx=>P2 hm x.2 (Array.mem_of_getElem? (wg hx))) (fun x hx=>wg hx) (by rw[AB];exact List.pairwise_lt_range) (fun _ _=>rfl) (fun i o ho _ cR=>absurd rfl (cR _ (oL ho))) (fun x hx e he hb=>Or.inr ?_) hi h ?_ ops.size _ (by simp) (count_le _) zz (fun i=>by rw[tJ]) μ φ a w hR
 ·obtain⟨_,_,i3⟩:=tH hi;have h1:=i3 x hx e he hb;have h2:x.1<ops.size:=(Array.getElem?_eq_some_iff.1 (wg hx)).1;exact⟨_,oL (Array.getElem?_eq_getElem (show e.on<ops.size by omega)),rfl⟩
 ·intro VU MK W3 _ _ pC f' m' μ2 φ2 a2 w2 hk Dy;exact BX W3 (fun i o ho=>(pC i).2 (Or.inr ⟨_,oL ho,rfl⟩)) (hQ _ _ _ _ _ _ hk Dy)
theorem xh{j:Nat}(h:((List.range ops.size).zip ops.toList)[j]?=some x):x.1=j:=by
 have h1:(((List.range ops.size).zip ops.toList).map Prod.fst)[j]?=some x.1:=by rw[List.getElem?_map,h];rfl
 rw[AB]at h1;obtain⟨h2,h3⟩:=List.getElem?_eq_some_iff.1 h1;rw[List.getElem_range]at h3;exact h3.symm
theorem mL{p:Nat}:x∈((List.range ops.size).zip ops.toList).take p↔x∈(List.range ops.size).zip ops.toList∧x.1<p:=by
 constructor
 ·intro h;obtain⟨j,hj⟩:=List.getElem?_of_mem h;have hjp:j<p:=by have:=(List.getElem?_eq_some_iff.1 hj).1;simp at this;omega
  rw[List.getElem?_take_of_lt hjp]at hj;exact⟨List.mem_of_getElem? hj,by rw[xh hj];exact hjp⟩
 ·rintro⟨h,hx⟩;obtain⟨j,hj⟩:=List.getElem?_of_mem h;have:=xh hj;exact List.mem_of_getElem? (i:=j) (by rw[List.getElem?_take_of_lt (by omega)];exact hj)
theorem rj{p:Nat}:x∈((List.range ops.size).zip ops.toList).drop p↔x∈(List.range ops.size).zip ops.toList∧p≤x.1:=by
 constructor
 ·intro h;obtain⟨j,hj⟩:=List.getElem?_of_mem h;rw[List.getElem?_drop]at hj;exact⟨List.mem_of_getElem? hj,by rw[xh hj];omega⟩
 ·rintro⟨h,hx⟩;obtain⟨j,hj⟩:=List.getElem?_of_mem h;have:=xh hj;exact List.mem_of_getElem? (i:=j-p) (by rw[List.getElem?_drop,show p+(j-p)=j by omega];exact hj)
variable{K:Act→World→Prop}{Q':Exit→Act→World→Prop}
theorem Oper.Jp{F:Fence}{n:Nat}(h:∀e a w,e≠.normal→Q' e a w→Q e a w)(hh:o.wpIn F n P a w K Q'):o.wpIn F n P a w K Q:=by
 unfold Oper.wpIn at*;refine⟨hh.1,?_⟩;have hh:=hh.2;have aap:LetsOut Q'→LetsOut Q:=fun⟨a,w,hq⟩=>⟨a,w,h _ _ _ (by simp) hq⟩;generalize (o.semAt F.round a.eval).run P w=r at*;cases r with
 |ok x w'=>
  cases x<;>simp only[Oper.uponIn]at hh⊢<;>first
   |exact hh
   |exact⟨hh.1,CallsIn.mono hh.2 (fun e w'' he=>by cases e<;>first|exact aap he|exact h _ _ _ (by simp) he|exact he)⟩
   |exact⟨hh.1,RoundIn.mono hh.2 (fun e w'' he=>by cases e<;>first|exact aap he|exact h _ _ _ (by simp) he|exact he)⟩
 |halt x w'=>cases x<;>simp only[Oper.uponIn]at hh⊢<;>first|exact h _ _ _ (by simp) hh|exact hh
theorem EM{F:Fence}{n:Nat}(h:∀e a w,e≠.normal→Q' e a w→Q e a w)(hh:wpOpIn F n P ops Q' i K a w):wpOpIn F n P ops Q i K a w:=by
 unfold wpOpIn at*;split
 ·simpa[*]using hh
 ·rename_i o ho;simp only[ho]at hh;split
  ·rename_i hw;simp only[hw,if_true]at hh;exact Oper.Jp h hh
  ·rename_i hw;simp only[hw]at hh;exact hh
theorem Jq(hE:iO E)(hY:qV E.P E.aI E.fn.ntmps E.yl w0){p:Nat}(OE:Qr ops p=true){k:Fr→Mem→Option R}{r:R}(Xs:mj ops [] (((List.range ops.size).zip ops.toList).take p)=true)(hi3:mj ops [] (((List.range ops.size).zip ops.toList).drop (p+1))=true){n1 n2 n3:Nat}(h:(cq E ops 2 n1 R [] (((List.range ops.size).zip ops.toList).take p) f m [] fun f m=>cq E ops 0 n2 R [] ((((List.range ops.size).zip ops.toList).drop p).take 1) f m [] fun f m=>cq E ops 2 n3 R [] (((List.range ops.size).zip ops.toList).drop (p+1)) f m [] k)=some r){μ:Ro}(hR:Rel E.P E.aI E.fn.ntmps w0 μ φ f m a w)(hQ:∀f' m' μ' φ' a' w',k f' m'=some r→Rel E.P E.aI E.fn.ntmps w0 μ' φ' f' m' a' w'→Q .normal a' w'):wpAnyIn (FR rd) 0 E.P .any ops Q ops.size (Array.replicate ops.size false) a w:=by
 unfold Qr at OE;cases ho:ops[p]? with
 |none=>rw[ho]at OE;cases OE
 |some o=>
  rw[ho]at OE;simp only[Bool.and_eq_true]at OE;obtain⟨⟨_,CT⟩,Xt⟩:=OE;have hpn:p<ops.size:=(Array.getElem?_eq_some_iff.1 ho).1;have MH:∀e∈o.after,Region.binds .any e=true→e.on<p:=fun e he hb=>by have:=List.all_eq_true.1 CT e (Array.mem_toList_iff.2 he);rw[hb,Bool.not_true,Bool.false_or]at this;exact Nat.le_of_ble_eq_true this
  have aem:∀i,i<p→reach ops 8 o i=true:=fun i hi=>by
   have:=List.all_eq_true.1 Xt _ (oL (Array.getElem?_eq_getElem (show i<ops.size by omega)));simp only at this;have hb:Nat.blt i p=true:=by simp[Nat.blt];omega
   rw[hb]at this;exact this
  have aaq:∀i o',ops[i]?=some o'→p<i→reach ops 8 o' p=true:=fun i o' OA hi=>by
   have:=List.all_eq_true.1 Xt _ (oL OA);simp only at this;have hb:Nat.blt i p=false:=by
    cases hx:Nat.blt i p with
    |false=>rfl
    |true=>have:i<p:=Nat.le_of_ble_eq_true hx;omega
   have pC:Nat.beq i p=false:=by
    cases hx:Nat.beq i p with
    |false=>rfl
    |true=>have:=Nat.eq_of_beq_eq_true hx;omega
   rw[hb,pC]at this;simpa using this
  refine tI (w0:=w0) (base:=fun _=>false) hE hY (.inr rfl) (fun h=>by cases h) (fun x hx=>wg (mL.1 hx).1) (by rw[List.map_take,AB];exact(List.pairwise_lt_range).sublist (List.take_sublist _ _)) (fun _ _=>rfl) (fun i o' OA _ cR=>?_) (fun x hx e he hb=>Or.inr ?_) Xs h ?_ ops.size _ (by simp) (count_le _) zz (fun i=>by rw[tJ]) μ φ a w hR
  ·have hip:¬i<p:=fun hc=>cR _ (mL.2 ⟨oL OA,hc⟩) rfl;by_cases hi:i=p
   ·subst hi;rw[ho]at OA;cases OA;exact Or.inl fun x hx=>aem _ (mL.1 hx).2
   ·exact Or.inr ⟨p,aaq i o' OA (by omega),rfl,fun x hx=>by have:=(mL.1 hx).2;omega⟩
  ·obtain⟨_,_,i3⟩:=tH Xs;have h1:=i3 x hx e he hb;have h2:=(mL.1 hx).2;exact⟨_,mL.2 ⟨oL (Array.getElem?_eq_getElem (show e.on<ops.size by omega)),by show e.on<p;omega⟩,rfl⟩
  ·intro fuel aj hs hc se hb f1 m1 μ1 φ1 a1 w1 Og Jl;have bt:∀i,aB aj i=true↔i<p:=fun i=>by
    rw[hb i];constructor
    ·rintro(h|⟨x,hx,rfl⟩)
     ·cases h
     ·exact(mL.1 hx).2
    ·intro hi;exact Or.inr ⟨_,mL.2 ⟨oL (Array.getElem?_eq_getElem (show i<ops.size by omega)),hi⟩,rfl⟩
   have l7:p<aj.size:=by rw[hs];exact hpn
   have hpu:aB aj p=false:=by
    cases hx:aB aj p with
    |false=>rfl
    |true=>have:=(bt p).1 hx;omega
   have Xu:aj[p]=false:=by simpa only[aB,Array.getD_eq_getD_getElem?,Array.getElem?_eq_getElem l7,Option.getD_some]using hpu
   cases fuel with
   |zero=>have:=List.countP_eq_zero.1 (Nat.le_zero.1 hc) aj[p] (by simp);rw[Xu]at this;simp at this
   |succ fuel=>
    have Rt:p∈Region.ready .any ops aj:=mem_ready.2 ⟨by simp only[Array.getD_eq_getD_getElem?,Array.getElem?_eq_getElem l7,Option.getD_some];exact Xu,o,ho,fun e he Ey=>(bt e.on).2 (MH e he Ey)⟩;refine⟨(fun h0=>by rw[h0]at Rt;cases Rt),fun i hi=>?_⟩;obtain⟨Oz,o',OA,yD⟩:=mem_ready.1 hi;have pT:i<aj.size:=by rw[hs];exact(Array.getElem?_eq_some_iff.1 OA).1
    have hiu:aB aj i=false:=by simp only[aB,Array.getD_eq_getD_getElem?,Array.getElem?_eq_getElem pT,Option.getD_some]at Oz⊢;exact Oz
    have hip:i=p:=by
     refine Classical.byContradiction fun cR=>?_;have h1:¬i<p:=fun hc=>by rw[(bt i).2 hc]at hiu;cases hiu
     have:=oK aj se 8 o' p yD (aaq i o' OA (by omega));rw[hpu]at this;cases this
    subst hip;have hL:(((List.range ops.size).zip ops.toList).drop i).take 1=[(i,o)]:=by
     have hlen:i<((List.range ops.size).zip ops.toList).length:=by simp;exact hpn
     rw[List.drop_eq_getElem_cons hlen];have hg:((List.range ops.size).zip ops.toList)[i]=(i,o):=by have h1:((List.range ops.size).zip ops.toList)[i]?=some ((List.range ops.size).zip ops.toList)[i]:=List.getElem?_eq_getElem hlen;have h2:=xh h1;have h3:=wg (List.mem_of_getElem? h1);rw[h2,ho]at h3;exact Prod.ext h2 (Option.some.inj h3).symm
     rw[hg];rfl
    rw[hL]at Og;have VP:∀j,aB (aj.setIfInBounds i true) j=if j=i then true else aB aj j:=fun j=>by
     simp only[aB,Array.getD_eq_getD_getElem?,Array.getElem?_setIfInBounds];by_cases e:i=j
     ·subst e;simp[l7]
     ·have e':¬j=i:=fun h=>e h.symm;simp[e,e']
    have hle:∀j,aB (aj.setIfInBounds i true) j=true↔j≤i:=fun j=>by
     rw[VP];by_cases e:j=i
     ·simp[e]
     ·rw[if_neg e,bt];omega
    have aar:=gA (rd:=rd) (w0:=w0) hE hY _ (.inl rfl) Og (by intro x hx;rw[List.mem_singleton]at hx;subst hx;exact ho) (by intro x hx g hg;cases hg) (fun h=>by cases h) μ1 φ1 a1 w1 (fun e a w=>(e=.normal∧wpAnyIn (FR rd) 0 E.P .any ops Q fuel (aj.setIfInBounds i true) a w)∨(e≠.normal∧Q e a w)) [] Jl (by intro g hg;cases hg) fun f2 m2 μ2 φ2 a2 w2 T9 Dy _ _=>Or.inl ⟨rfl,?_⟩
    ·rw[List.append_nil,List.map_cons,List.map_nil,wpOpsIn_cons]at aar;refine wpOpIn_mono (fun a w hq=>?_) (EM (fun e a w cR hq=>?_) aar)
     ·rcases hq with⟨_,h⟩|⟨h,_⟩
      ·exact h
      ·exact absurd rfl h
     ·rcases hq with⟨h,_⟩|⟨_,h⟩
      ·exact absurd h cR
      ·exact h
    ·refine tI (w0:=w0) (base:=fun j=>decide (j≤i)) hE hY (.inr rfl) (fun h=>by cases h) (fun x hx=>wg (rj.1 hx).1) (by rw[List.map_drop,AB];exact(List.pairwise_lt_range).sublist (List.drop_sublist _ _)) (fun x hx=>by have:=(rj.1 hx).2;simp;omega) (fun j oj hj hbj cR=>?_) (fun x hx e he Ey=>?_) hi3 T9 ?_ fuel _ (by simp[hs]) ?_ ?_ (fun j=>by rw[hle j];simp) μ2 φ2 a2 w2 Dy
     ·simp only[decide_eq_false_iff_not]at hbj;exact absurd rfl (cR _ (rj.2 ⟨oL hj,by show i+1≤j;omega⟩))
     ·obtain⟨_,_,i3⟩:=tH hi3;have h1:=i3 x hx e he Ey;have h2:x.1<ops.size:=(Array.getElem?_eq_some_iff.1 (wg (rj.1 hx).1)).1;by_cases hei:e.on≤i
      ·exact Or.inl (by simpa using hei)
      ·exact Or.inr ⟨_,rj.2 ⟨oL (Array.getElem?_eq_getElem (show e.on<ops.size by omega)),by show i+1≤e.on;omega⟩,rfl⟩
     ·intro agp adR hs3 _ _ hb3 f3 m3 μ3 φ3 a3 w3 Zc hR3;refine BX hs3 (fun j oj hj=>(hb3 j).2 ?_) (hQ _ _ _ _ _ _ Zc hR3);by_cases Jd:j≤i
      ·exact Or.inl (by simpa using Jd)
      ·exact Or.inr ⟨_,rj.2 ⟨oL hj,by show i+1≤j;omega⟩,rfl⟩
     ·rw[Array.toList_setIfInBounds,List.countP_set (by simpa using l7)];have:aj.toList[i]'(by simpa using l7)=false:=by simpa using Xu
      rw[this];simp only[Bool.not_false,if_true,Bool.not_true,Bool.false_eq_true,if_false];omega
     ·intro j oj hj hlj e he Ey;rw[hle]at hlj⊢;by_cases Jd:j=i
      ·subst Jd;rw[ho]at hj;cases hj;have:=MH e he Ey;omega
      ·have h1:=se j oj hj ((bt j).2 (by omega)) e he Ey;have:=(bt e.on).1 h1;omega
end
end Go.Ab
