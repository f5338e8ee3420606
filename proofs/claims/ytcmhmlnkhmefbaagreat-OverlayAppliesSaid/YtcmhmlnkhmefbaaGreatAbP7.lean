import Derived.Test.YtcmhmlnkhmefbaaGreatAbP6
import Derived.OrdersIn
set_option linter.unusedVariables false
namespace Go.Ab
open Go.RowKit (Below)
def tq(f F:Fr):Prop:=∀t,f t=F t∨f t=.top
theorem tq.refl(f:Fr):tq f f:=fun _=>.inl rfl
theorem tq.put{f F:Fr}(h:tq f F)(d:Option Nat)(v:V):tq (gW f d v) (gW F d v):=by
 intro t;cases d with
 |none=>exact h t
 |some d=>
  simp only[gW,fo];cases Nat.beq t d
  ·exact h t
  ·exact .inl rfl
theorem dP{f:Fr}{d:Option Nat}{v:V}{t:Nat}(h:d≠some t):gW f d v t=f t:=by
 cases d with
 |none=>rfl
 |some d=>exact oJ (fun e=>h (by rw[e]))
theorem iW{f:Fr}{v:V}{t:Nat}:gW f (some t) v t=v:=by simp[gW,fo,Nat.beq_refl]
section
variable {E:Env} {ops:Array Oper} {w0:bx}
variable{nt:Nat}{μ:Ro}{φ:Nat→aG}{f:Fr}{m:Mem}{a:Act}
theorem Rel.weaken{f':Fr}{w:World}(h:Rel E.P E.aH nt w0 μ φ f m a w)(hf:tq f' f):Rel E.P E.aH nt w0 μ φ f' m a w:=
 {h with
  fr:=fun t=>by
   rcases hf t with e|e
   ·rw[e];exact h.fr t
   ·rw[e];exact .top,
  live:=fun t id hid=>by
   rcases hf t with e|e
   ·rw[e]at hid;exact h.live t id hid
   ·rw[e]at hid;cases hid}
variable{t:Nat}
theorem B9{d:Nat}{y:Value}(hd:d<a.tmps.size):(a.put (some d) y).tmps.getD t undef=if t=d then y else a.tmps.getD t undef:=by
 simp only[Act.put,Array.getD_eq_getD_getElem?,Array.getElem?_setIfInBounds];by_cases e:d=t
 ·subst e;simp[hd]
 ·have e':¬t=d:=fun h=>e h.symm;simp[e,e']
theorem Rel.put{nt:Nat}{μ μ':Ro}{φ φ':Nat→aG}{f f':Fr}{m m':Mem}{a:Act}{w w':World}(h:Rel E.P E.aH nt w0 μ φ f m a w)(hle:Hh μ μ'){dst:Option Nat}{v:V}{y:Value}(hd:∀d,dst=some d→d<nt)(hM:az E.P E.aH w0 μ' φ' m' w')(hF:cm E.P μ' φ' m' f' (ay nt w0 a))(hv:ai E.P μ' φ' v y)(hl:∀id,v.has id=true→(m' id).isSome=true):Rel E.P E.aH nt w0 μ' φ' (gW f' dst v) m' (a.put dst y) w':=by
 refine{toaz:=hM,size:=?_,defers:=?_,kW:=h.kW,fr:=fun t=>?_,live:=fun t id hid=>?_}
 ·cases dst<;>simp[Act.put,h.size]
 ·cases dst<;>exact h.defers.mono hle
 ·cases dst with
  |none=>exact hF.fr t
  |some d=>
   have bu:d<a.tmps.size:=by rw[h.size];exact hd d rfl
   have hf:=hF.fr t;by_cases e:t=d
   ·subst e;rw[oE (hd t rfl),B9 bu,if_pos rfl,iW];exact hv
   ·rw[dP (by simpa using fun h=>e h.symm)];unfold ay at hf⊢;split
    ·rename_i ht;rw[if_pos ht]at hf;rw[B9 bu,if_neg e];exact hf
    ·rename_i ht;rw[if_neg ht]at hf;exact hf
 ·by_cases e:dst=some t
  ·subst e;rw[iW]at hid;exact hl id hid
  ·rw[dP e]at hid;exact hF.live t id hid
theorem Vv(h:t<E.fn.ntmps):bA E f (.tmp t)=f t:=by simp only[bA];rw[show Nat.blt t E.fn.ntmps=true by rw[Nat.blt_eq];exact h];rfl
theorem Ca{p:PV}(h:bA E f (.tmp t)=.pv p):t<E.fn.ntmps∧f t=.pv p:=by
 simp only[bA]at h;cases e:Nat.blt t E.fn.ntmps with
 |true=>rw[e]at h;exact⟨by rwa[Nat.blt_eq]at e,h⟩
 |false=>rw[e]at h;cases h
theorem R7{F:Fr}(h:tq f F)(q:Operand):bA E f q=bA E F q∨bA E f q=.top:=by
 cases q with
 |tmp t=>
  simp only[bA];cases Nat.blt t E.fn.ntmps with
  |true=>exact h t
  |false=>exact .inr rfl
 |_=>exact .inl rfl
def oU(nt:Nat)(ops:Array Oper)(A:List (Nat×Bool))(f:Fr):Prop:=∀g∈A,∃t,(ops[g.1]?).bind (·.dst)=some t∧t<nt∧f t=.pv (.bool g.2)
def xz(ops:Array Oper)(A:List (Nat×Bool))(a:Act):Prop:=∀g∈A,∃t,(ops[g.1]?).bind (·.dst)=some t∧a.tmps.getD t undef=.bool g.2
def YK(ops:Array Oper)(A:List (Nat×Bool))(l:List (Nat×Oper)):Prop:=∀x∈l,∀g∈A,∀t,(ops[g.1]?).bind (·.dst)=some t→x.2.dst≠some t
variable{d:Option Nat}{A:List (Nat×Bool)}
theorem oU.put(h:oU nt ops A f){v:V}(hd:∀g∈A,∀t,(ops[g.1]?).bind (·.dst)=some t→d≠some t):oU nt ops A (gW f d v):=by intro g hg;obtain⟨t,h1,h0,h2⟩:=h g hg;exact⟨t,h1,h0,by rw[dP (hd g hg t h1)];exact h2⟩
variable{o:Oper}
theorem gZ(h:tC E o=true):∀d,o.dst=some d→d<E.fn.ntmps:=by intro d hd;simp only[tC,hd]at h;rw[Nat.blt_eq]at h;exact h
variable{b:Bool}
theorem sH{j:Nat}(h:(ops[j]?).bind (·.dst)=some t)(hb:a.tmps.getD t undef=.bool b):yielded ops a.tmps j=some b:=by
 simp only[yielded,h,Option.bind_some];have:a.tmps[t]?=some (.bool b):=by
  rw[Array.getD_eq_getD_getElem?]at hb;cases e:a.tmps[t]? with
  |none=>rw[e]at hb;simp[undef]at hb
  |some x=>rw[e]at hb;simpa using hb
 rw[this]
theorem yY(ho:guardOf o A=none)(hA:xz ops A a):Region.wanted o (yielded ops a.tmps)=true:=by
 unfold guardOf at ho;unfold Region.wanted;split at ho
 ·rename_i hg;simp[hg]
 ·rename_i g hg;split at ho
  ·rename_i bO;obtain⟨t,h1,h2⟩:=hA g (by simpa using bO);simp only[hg];rw[sH h1 h2];simp
  ·cases ho
theorem xz.put(h:xz ops A a){y:Value}(hs:∀t,d=some t→t<a.tmps.size)(hd:∀g∈A,∀t,(ops[g.1]?).bind (·.dst)=some t→d≠some t):xz ops A (a.put d y):=by
 intro g hg;obtain⟨t,h1,h2⟩:=h g hg;refine⟨t,h1,?_⟩;cases d with
 |none=>exact h2
 |some d=>rw[B9 (hs d rfl),if_neg fun e=>hd g hg t h1 (by rw[e])];exact h2
def Pz(ops:Array Oper)(f:Fr)(o:Oper):Prop:=∃g,o.guard=some g∧∀t,(ops[g.1]?).bind (·.dst)=some t→f t=.aZ []∨f t=.pv (.bool (!g.2))
theorem PA{P:Program}{x:Value}(h:ai P μ φ (.aZ []) x):x=undef:=by
 cases h with
 | @aZ _ xs h1 _=>have:xs= #[]:=Array.eq_empty_of_size_eq_zero (by simpa using h1.symm);subst this;rfl
theorem Cb{P:Program}:ai P μ φ (.aZ []) undef:=.aZ rfl (by simp)
theorem wa{w:World}(h:Rel E.P E.aH nt w0 μ φ f m a w)(hd:Pz ops f o):Region.wanted o (yielded ops a.tmps)=false:=by
 obtain⟨g,hg,ht⟩:=hd;simp only[Region.wanted,hg];cases hs:(ops[g.1]?).bind (·.dst)with
 |none=>simp[yielded,hs]
 |some t=>
  have hy:nt≤t→yielded ops a.tmps g.1=none:=fun hle=>by simp only[yielded,hs,Option.bind_some];rw[Array.getElem?_eq_none (by rw[h.size];exact hle)]
  by_cases Dr:nt≤t
  ·rw[hy Dr];rfl
  have bu:t<nt:=Nat.lt_of_not_le Dr;have h3:=h.fr t;rw[oE bu]at h3;rcases ht t hs with e|e
  ·rw[e]at h3;have h4:=PA h3;have:yielded ops a.tmps g.1=none:=by
    simp only[yielded,hs,Option.bind_some];rw[Array.getD_eq_getD_getElem?]at h4;cases e:a.tmps[t]? with
    |none=>rfl
    |some x=>rw[e]at h4;simp only[Option.getD_some]at h4;subst h4;rfl
   rw[this];rfl
  ·rw[e]at h3;rw[sH hs (oS h3)];cases g.2<;>rfl
theorem sI{t:Nat}:∀{l:List (Nat×Oper)}{f:Fr},(∀x∈l,x.2.dst≠some t)→gF f l t=f t
 |[],_,_=>rfl
 |x::r,f,h=>by rw[gF,sI (fun y hy=>h y (by simp[hy])),dP (h x (by simp))]
theorem vv{t:Nat}:∀{l:List (Nat×Oper)}{f:Fr},(∀x∈l,x.2.dst≠some t)→kZ f l t=f t
 |[],_,_=>rfl
 |x::r,f,h=>by rw[kZ,vv (fun y hy=>h y (by simp[hy])),dP (h x (by simp))]
theorem yZ{t:Nat}:∀{l:List (Nat×Oper)}{f:Fr},(f t=.top∨∃x∈l,x.2.dst=some t)→kZ f l t=.top
 |[],_,h=>by
  rcases h with h|⟨x,hx,_⟩
  ·exact h
  ·cases hx
 |x::r,f,h=>by
  rw[kZ];by_cases e:x.2.dst=some t
  ·exact yZ (.inl (by rw[e,iW]))
  ·refine yZ ?_;rcases h with h|⟨y,hy,hd⟩
   ·exact .inl (by rw[dP e];exact h)
   ·rcases List.mem_cons.1 hy with rfl|hy
    ·exact absurd hd e
    ·exact .inr ⟨y,hy,hd⟩
theorem vw{l:List (Nat×Oper)}{F:Fr}(h:∀t,(∀x∈l,x.2.dst≠some t)→f t=F t∨f t=.top):tq (kZ f l) F:=by
 intro t;by_cases e:∃x∈l,x.2.dst=some t
 ·exact .inr (yZ (.inr e))
 ·have e':∀x∈l,x.2.dst≠some t:=fun x hx hd=>e ⟨x,hx,hd⟩;rw[vv e'];exact h t e'
theorem xA{g:Nat×Bool}{tj:Nat}(hj:(ops[g.1]?).bind (·.dst)=some tj):∀{l:List (Nat×Oper)}{done:List Nat}{f:Fr},tB g done l=true→(∀x∈l,ops[x.1]?=some x.2)→(∀x∈l,x.2.dst≠some tj)→f tj=.pv (.bool (!g.2))→(∀j∈done,∀t,(ops[j]?).bind (·.dst)=some t→f t=.aZ [])→∀(pre post:List (Nat×Oper))(x:Nat×Oper),l=pre++x::post→Pz ops (gF f pre) x.2
 |[],_,_,_,_,_,_,_,pre,post,x,h=>by simp at h
 |y::r,done,f,hg,hl,hd,hb,J1,pre,post,x,h=>by
  simp only[tB,Bool.and_eq_true]at hg;cases pre with
  |nil=>
   simp only[List.nil_append,List.cons.injEq]at h;obtain⟨rfl,rfl⟩:=h;rw[gF];have h1:=hg.1;split at h1
   ·rename_i hh R8;refine⟨hh,R8,fun t ht=>?_⟩;rcases Bool.or_eq_true_iff.1 h1 with h2|h2
    ·simp only[Bool.and_eq_true]at h2;have e1:=Nat.eq_of_beq_eq_true h2.1;have e2:hh.2=g.2:=by simpa using h2.2
     rw[e1]at ht;rw[hj]at ht;cases ht;exact .inr (by rw[e2];exact hb)
    ·exact .inl (J1 _ (by simpa using h2) t ht)
   ·cases h1
  |cons z pre=>
   simp only[List.cons_append,List.cons.injEq]at h;obtain⟨rfl,h⟩:=h;rw[gF];refine xA hj hg.2 (fun x hx=>hl x (by simp[hx])) (fun x hx=>hd x (by simp[hx])) (by rw[dP (hd y (by simp))];exact hb) (fun j hjm t ht=>?_) pre post x h;by_cases e:y.2.dst=some t
   ·rw[e,iW]
   ·rw[dP e];rcases List.mem_cons.1 hjm with rfl|hjm
    ·rw[hl y (by simp)]at ht;exact absurd ht e
    ·exact J1 j hjm t ht
theorem Cc{A:List (Nat×Bool)}:∀{l a b:List (Nat×Oper)},zJ A l=(a,b)→l=a++b
 |[],a,b,h=>by simp[zJ]at h;obtain⟨rfl,rfl⟩:=h;rfl
 |x::r,a,b,h=>by
  simp only[zJ]at h;split at h
  ·cases hs:zJ A r with
   |mk a' b'=>rw[hs]at h;simp only[Prod.mk.injEq]at h;obtain⟨rfl,rfl⟩:=h;rw[Cc hs];rfl
  ·simp only[Prod.mk.injEq]at h;obtain⟨rfl,rfl⟩:=h;rfl
theorem xB{v:V}(h:vQ v=some b):v=.pv (.bool b):=by
 unfold vQ at h;split at h
 ·cases h;rfl
 ·cases h
theorem W4(hE:iP E){site:Nat}{draw:Bool}{v:V}{f':Fr}{m':Mem}{ft:bq}(hn:draw=true∨∃c x y,o.op=.pick c x y)(h:∀(R':Type)(k':V→Fr→Mem→bq→Option R'),GO E draw site o f m k'=k' v f' m' ft):sF E draw site o f m v f' m' ft:=by
 have hx:=Fq hE (h (V×Fr×Mem×bq) fun v f m ft=>some (v,f,m,ft));rcases hx with⟨v1,f1,m1,ft1,h1,h2⟩|⟨h1,h2,_⟩
 rotate_left
 ·rcases hn with hn|⟨c,x,y,hn⟩
  ·rw[hn]at h1;cases h1
  ·exact absurd hn (h2 c x y)
 simp only[Option.some.injEq,Prod.mk.injEq]at h1;obtain⟨rfl,rfl,rfl,rfl⟩:=h1;exact h2
theorem Hi{R:Type}{site:Nat}{draw:Bool}{p:Oper}{c:Nat}{x y:Operand}{k:V→Fr→Mem→bq→Option R}(hp:p.op=.pick (.tmp c) x y)(hb:bA E f (.tmp c)=.pv (.bool b)):GO E draw site p f m k=k (bA E f (if b then x else y)) f m []:=by
 have il:wo E site p f m=none:=by simp only[wo,hp]
 unfold GO;rw[il];have e:(bif draw then none else bif E.zF site then(none:Option Sp)else none)=none:=by cases draw<;>cases E.zF site<;>rfl
 rw[e];simp only[cW,hp,hb];cases b<;>rfl
end
end Go.Ab
set_option linter.unusedVariables false
namespace Go.Ab
open Go.RowKit (Below)
section
variable {E:Env} {ops:Array Oper} {w0:bx}
theorem tR{rd:Option Nat}{Q:Exit→Act→World→Prop}{tail:List Nat}:∀(l:List (Nat×Oper))(f:Fr),(∀x∈l,ops[x.1]?=some x.2)→(∀x∈l,tC E x.2=true)→(∀(pre post:List (Nat×Oper))(x:Nat×Oper),l=pre++x::post→Pz ops (gF f pre) x.2)→∀{μ:Ro}{φ:Nat→aG}{m:Mem}{a:Act}{w:World},Rel E.P E.aH E.fn.ntmps w0 μ φ f m a w→∀(A:List (Nat×Bool)),xz ops A a→YK ops A l→(∀a',Rel E.P E.aH E.fn.ntmps w0 μ φ (gF f l) m a' w→xz ops A a'→wpOpsIn (FR rd) 0 E.P ops Q tail a' w)→wpOpsIn (FR rd) 0 E.P ops Q (l.map (·.1)++tail) a w
 |[],f,_,_,_,_,_,_,a,_,hR,_,hA,_,hK=>hK a hR hA
 |x::r,f,hl,hd,Cd,μ,φ,m,a,w,hR,A,hA,Ce,hK=>by simp only[List.map_cons,List.cons_append,wpOpsIn];rw[hl x (by simp)];simp only;rw[wa hR (Cd [] r x rfl)];simp only[Bool.false_eq_true,if_false];refine And.intro (fun _ _=>trivial) (tR r (gW f x.2.dst (.aZ [])) (fun y hy=>hl y (by simp[hy])) (fun y hy=>hd y (by simp[hy])) (fun pre post y h=>?_) (hR.put (fun _ _ h=>h) (gZ (hd x (by simp))) hR.toaz hR.jz Cb (fun id hid=>by simp[V.has,cr]at hid)) A (hA.put (fun t ht=>by rw[hR.size];exact gZ (hd x (by simp)) t ht) fun g oc t ht=>Ce x (by simp) g oc t ht) (fun y hy=>Ce y (by simp[hy])) hK);have:=Cd (x::pre) post y (by rw[h];rfl);rwa[gF]at this
theorem wE:∀{ft:bq},xn ft=true→∀x∈ft,x.1=false
 |[],_,x,hx=>by cases hx
 |(w,id)::r,h,x,hx=>by
  simp only[xn,Bool.and_eq_true,Bool.not_eq_true']at h;rcases List.mem_cons.1 hx with rfl|hx
  ·exact h.1
  ·exact wE h.2 x hx
theorem gB(hE:iP E){rd:Option Nat}(hY:rD E.P E.aH E.fn.ntmps E.yl w0):∀(fuel:Nat){mode:Nat}(iG:mode=0∨mode=3){R:Type}{A:List (Nat×Bool)}{l:List (Nat×Oper)}{f:Fr}{m:Mem}{lg:Log}{k:Fr→Mem→Option R}{r:R},cp E ops mode fuel R A l f m lg k=some r→(∀x∈l,ops[x.1]?=some x.2)→YK ops A l→(mode=3→∀x∈l,e9 x.2=true)→∀(μ:Ro)(φ:Nat→aG)(a:Act)(w:World)(Q:Exit→Act→World→Prop)(tail:List Nat),Rel E.P E.aH E.fn.ntmps w0 μ φ f m a w→xz ops A a→(∀(f':Fr)(m':Mem)(μ':Ro)(φ':Nat→aG)(a':Act)(w':World),k f' m'=some r→Rel E.P E.aH E.fn.ntmps w0 μ' φ' f' m' a' w'→xz ops A a'→(mode=3→m'=m∧∀t,(∀x∈l,x.2.dst≠some t)→f' t=f t)→wpOpsIn (FR rd) 0 E.P ops Q tail a' w')→wpOpsIn (FR rd) 0 E.P ops Q (l.map (·.1)++tail) a w
 |0,_,_,_,_,_,_,_,_,_,_,h,_,_,_,_,_,_,_,_,_,_,_,_=>by simp[cp]at h
 |fuel+1,mode,iG,R,A,[],f,m,lg,k,r,h,_,_,_,μ,φ,a,w,Q,tail,hR,hA,hK=>by simp only[cp]at h;exact hK f m μ φ a w h hR hA fun _=>⟨rfl,fun _ _=>rfl⟩
 |fuel+1,mode,iG,R,A,(i,o)::rest,f,m,lg,k,r,h,hl,Ce,Q0,μ,φ,a,w,Q,tail,hR,hA,hK=>by
  simp only[cp]at h;split at h
  ·rename_i hg;split at h
   ·rename_i hd;have NV:Nat.beq mode 2=false:=by rcases iG with rfl|rfl<;>rfl
    simp only[NV,cond_false]at h;rw[←NV]at h;have hdf:=yX h;rcases Fq hE h with⟨v,f1,m1,ft,hk,PB⟩|⟨_,oV⟩
    rotate_left
    ·simp only[List.map_cons,List.cons_append,wpOpsIn];rw[hl (i,o) (by simp)];simp only;rw[yY hg hA,if_pos rfl];refine B8.wC oV rd w0 μ φ a w _ Q hY hR fun v f1 m1 y w' μ' φ' hk hle hM hF hv E9=>?_;have cM:Nat.beq mode 2=false:=by rcases iG with rfl|rfl<;>rfl
     rw[cM]at hk;simp only[Bool.false_eq_true,if_false]at hk;rcases iG with rfl|rfl
     ·simp only[Nat.beq,if_true]at hk;exact gB hE hY fuel (.inl rfl) hk (fun x hx=>hl x (by simp[hx])) (fun x hx=>Ce x (by simp[hx])) (fun hm x hx=>Q0 hm x (by simp[hx])) _ _ _ _ Q tail (hR.put hle (gZ hd) hM hF hv E9) (hA.put (fun t ht=>by rw[hR.size];exact gZ hd t ht) fun g oc t ht=>Ce (i,o) (by simp) g oc t ht) fun f' m' μ2 φ2 a' w2 jJ iD tu la=>hK f' m' μ2 φ2 a' w2 jJ iD tu fun h=>by cases h
     ·simp[Nat.beq,xn]at hk
    have cM:Nat.beq mode 2=false:=by rcases iG with rfl|rfl<;>rfl
    rw[cM]at hk;simp only[Bool.false_eq_true,if_false]at hk;have hq:(mode=3→f1=f∧m1=m)∧cp E ops mode fuel R A rest (gW f1 o.dst v) m1 lg k=some r:=by
     rcases iG with rfl|rfl
     ·simp only[Nat.beq,if_true]at hk;exact⟨fun h=>(by cases h),hk⟩
     ·simp only[Nat.beq,Bool.false_eq_true,if_false]at hk;split at hk
      ·rename_i hqf;exact⟨fun h=>PB.same (Q0 rfl (i,o) (by simp)) (wE hqf),hk⟩
      ·cases hk
    obtain⟨R9,hk⟩:=hq;simp only[List.map_cons,List.cons_append,wpOpsIn];rw[hl (i,o) (by simp)];simp only;rw[yY hg hA,if_pos rfl];refine PB.wC hdf rd w0 μ φ a w _ Q hR fun y w' μ' φ' hle hM hF hv E9=>?_;refine gB hE hY fuel iG hk (fun x hx=>hl x (by simp[hx])) (fun x hx=>Ce x (by simp[hx])) (fun hm x hx=>Q0 hm x (by simp[hx])) _ _ _ _ Q tail (hR.put hle (gZ hd) hM hF hv E9) (hA.put (fun t ht=>by rw[hR.size];exact gZ hd t ht) fun g oc t ht=>Ce (i,o) (by simp) g oc t ht) fun f' m' μ2 φ2 a' w2 jJ iD tu la=>?_;refine hK f' m' μ2 φ2 a' w2 jJ iD tu fun W5=>?_;obtain⟨e1,e2⟩:=R9 W5;obtain⟨e3,e4⟩:=la W5;refine⟨by rw[e3,e2],fun t ht=>?_⟩;rw[e4 t fun x hx=>ht x (by simp[hx]),dP (ht (i,o) (by simp)),e1]
   ·cases h
  ·rename_i j yL hg;split at h
   ·rename_i tj Q1;split at h
    ·rename_i b hb;have Sa:tj<E.fn.ntmps:=by
      simp only[bA]at hb;cases e:Nat.blt tj E.fn.ntmps with
      |true=>rwa[Nat.blt_eq]at e
      |false=>rw[e]at hb;cases hb
     have hbf:f tj=.pv (.bool b):=by simp only[bA]at hb;rw[show Nat.blt tj E.fn.ntmps=true by rw[Nat.blt_eq];exact Sa]at hb;exact hb
     have hba:a.tmps.getD tj undef=.bool b:=by have:=(ar hR (.tmp tj)).1;rw[hb]at this;exact oS this
     generalize il:zJ A ((i,o)::rest)=sp at h;obtain⟨body,GQ⟩:=sp;have lu:=Cc il;simp only at h;split at h
     ·rename_i W6;split at h
      ·rename_i hc;simp only[Bool.and_eq_true,List.all_eq_true,Bool.not_eq_true',beq_eq_false_iff_ne,ne_eq]at hc W6;obtain⟨⟨Fe,Sb⟩,W7⟩:=hc;have hm0:mode=0:=Nat.eq_of_beq_eq_true W6.1;subst hm0;have bO:∀z∈body,z∈(i,o)::rest:=fun z hz=>by rw[lu];simp[hz]
       have tb:∀z∈GQ,z∈(i,o)::rest:=fun z hz=>by rw[lu];simp[hz]
       by_cases PC:b=yL
       ·have:Rm yL b=true:=by subst PC;cases b<;>rfl
        rw[this]at h;simp only[cond]at h;have YM:fo f tj (.pv (.bool yL))=f:=funext fun t=>by
         unfold fo;cases e:Nat.beq t tj with
         |false=>rfl
         |true=>rw[Nat.eq_of_beq_eq_true e];simp only[cond];rw[←PC];exact hbf.symm
        rw[YM]at h;refine gB hE hY fuel iG h hl (fun z hz g oc t ht=>?_) (fun h=>by cases h) _ _ _ _ Q tail hR (fun g oc=>?_) fun f' m' μ2 φ2 a' w2 jJ iD tu la=>hK f' m' μ2 φ2 a' w2 jJ iD (fun g oc=>tu g (by simp[oc])) fun h=>by cases h
        ·rcases List.mem_cons.1 oc with rfl|oc
         ·simp only[Q1]at ht;cases ht;exact W7 z hz
         ·exact Ce z hz g oc t ht
        ·rcases List.mem_cons.1 oc with rfl|oc
         ·exact⟨tj,Q1,by rw[hba,PC]⟩
         ·exact hA g oc
       ·have:Rm yL b=false:=by cases b<;>cases yL<;>first|rfl|exact absurd rfl PC
        rw[this]at h;simp only[cond]at h;have hbn:b= !yL:=by cases b<;>cases yL<;>first|rfl|exact absurd rfl PC
        have YM:fo f tj (.pv (.bool !yL))=f:=funext fun t=>by
         unfold fo;cases e:Nat.beq t tj with
         |false=>rfl
         |true=>rw[Nat.eq_of_beq_eq_true e];simp only[cond];rw[←hbn];exact hbf.symm
        rw[YM]at h;rw[lu,List.map_append,List.append_assoc];refine tR body f (fun z hz=>hl z (bO z hz)) Fe (xA Q1 Sb (fun z hz=>hl z (bO z hz)) (fun z hz=>W7 z (bO z hz)) (by rw[hbf,hbn]) (by simp)) hR A hA (fun z hz g oc t ht=>Ce z (bO z hz) g oc t ht) fun a' iD tu=>?_
        ·refine gB hE hY fuel iG h (fun z hz=>hl z (tb z hz)) (fun z hz=>Ce z (tb z hz)) (fun h=>by cases h) _ _ _ _ Q tail iD tu fun f' m' μ2 φ2 a' w2 jJ iD tu la=>hK f' m' μ2 φ2 a' w2 jJ iD tu fun h=>by cases h
      ·cases h
     ·split at h
      ·rename_i ip p k8;split at h
       ·rename_i c x y J4;split at h
        ·rename_i hc;simp only[Bool.and_eq_true,List.all_eq_true,Bool.not_eq_true',beq_eq_false_iff_ne,ne_eq]at hc;obtain⟨⟨⟨⟨⟨⟨J5,YN⟩,wb⟩,Sb⟩,_⟩,hpd⟩,_⟩:=hc;have J5:=Nat.eq_of_beq_eq_true J5;subst J5;have YN:guardOf p A=none:=by simpa using YN
         obtain⟨rb,Jp,h⟩:=Option.bind_eq_some_iff.1 h;have bO:∀z∈body,z∈(i,o)::rest:=fun z hz=>by rw[lu];simp[hz]
         have tb:∀z∈k8,z∈(i,o)::rest:=fun z hz=>by rw[lu];simp[hz]
         have Hj:(ip,p)∈(i,o)::rest:=by rw[lu];simp
         rw[lu,List.map_append,List.append_assoc];have after:∀(f1:Fr)(μ1:Ro)(φ1:Nat→aG)(a1:Act)(w1:World)(q:Operand),Rel E.P E.aH E.fn.ntmps w0 μ1 φ1 f1 m a1 w1→xz ops A a1→(∀t,(∀z∈body,z.2.dst≠some t)→f1 t=f t)→bA E f1 q=.pv (.bool rb)→(q=if b then x else y)→wpOpsIn (FR rd) 0 E.P ops Q (((ip,p)::k8).map (·.1)++tail) a1 w1:=by
          intro f1 μ1 φ1 a1 w1 q J6 hA1 YO hq hqe;have QV:bA E f1 (.tmp c)=.pv (.bool b):=by simp only[bA];rw[show Nat.blt c E.fn.ntmps=true by rw[Nat.blt_eq];exact Sa];show f1 c=_;rw[YO c fun z hz=>(wb z hz).2];exact hbf
          simp only[List.map_cons,List.cons_append,wpOpsIn];rw[hl (ip,p) Hj];simp only;rw[yY YN hA1,if_pos rfl];have PB:sF E (Nat.beq mode 1||Nat.beq mode 2) (cD E p.dst) p f1 m (.pv (.bool rb)) f1 m []:=W4 hE (.inr ⟨_,_,_,J4⟩) fun R' k'=>by rw[Hi J4 QV,←hqe,hq]
          refine PB.wC (fun c h=>by rw[J4]at h;cases h) rd w0 μ1 φ1 a1 w1 _ Q J6 fun z w' μ' φ' la hM hF hv E9=>?_;have hle:tq (gW (kZ f body) p.dst (.pv (.bool rb))) (gW f1 p.dst (.pv (.bool rb))):=tq.put (vw fun t ht=>.inl (YO t ht).symm) _ _;refine gB hE hY fuel iG h (fun z hz=>hl z (tb z hz)) (fun z hz=>Ce z (tb z hz)) (fun hm z hz=>Q0 hm z (tb z hz)) _ _ _ _ Q tail ((J6.put la (gZ hpd) hM hF hv E9).weaken hle) (hA1.put (fun t ht=>by rw[J6.size];exact gZ hpd t ht) fun g oc t ht=>Ce (ip,p) Hj g oc t ht) fun f' m' μ2 φ2 a' w2 jJ iD tu la=>?_;refine hK f' m' μ2 φ2 a' w2 jJ iD tu fun W5=>?_;obtain⟨e3,e4⟩:=la W5;refine⟨e3,fun t ht=>?_⟩;rw[e4 t fun z hz=>ht z (tb z hz),dP (ht (ip,p) Hj),vv fun z hz=>ht z (bO z hz)]
         have go:∀q,b=yL→(q=if b then x else y)→cp E ops 3 fuel Bool ((j,yL)::A) body f m lg (fun f _=>vQ (bA E f q))=some rb→wpOpsIn (FR rd) 0 E.P ops Q (body.map (·.1)++(((ip,p)::k8).map (·.1)++tail)) a w:=by
          intro q PC hq Vw;refine gB hE hY fuel (.inr rfl) Vw (fun z hz=>hl z (bO z hz)) ?_ (fun _ z hz=>(wb z hz).1.1) _ _ _ _ Q _ hR ?_ fun f' m' μ2 φ2 a' w2 jJ iD tu la=>?_
          ·intro z hz g oc t ht;rcases List.mem_cons.1 oc with rfl|oc
           ·simp only[Q1]at ht;cases ht;exact(wb z hz).2
           ·exact Ce z (bO z hz) g oc t ht
          ·intro g oc;rcases List.mem_cons.1 oc with rfl|oc
           ·exact⟨c,Q1,by rw[hba,PC]⟩
           ·exact hA g oc
          ·obtain⟨e1,e2⟩:=la rfl;subst e1;exact after f' μ2 φ2 a' w2 q iD (fun g oc=>tu g (by simp[oc])) e2 (xB jJ) hq
         have no:∀q,b= !yL→(q=if b then x else y)→vQ (bA E (kZ f body) q)=some rb→wpOpsIn (FR rd) 0 E.P ops Q (body.map (·.1)++(((ip,p)::k8).map (·.1)++tail)) a w:=by
          intro q PC hq Vw;refine tR body f (fun z hz=>hl z (bO z hz)) (fun z hz=>(wb z hz).1.2) (xA Q1 Sb (fun z hz=>hl z (bO z hz)) (fun z hz=>(wb z hz).2) (by rw[hbf,PC]) (by simp)) hR A hA (fun z hz g oc t ht=>Ce z (bO z hz) g oc t ht) fun a' iD tu=>?_;refine after _ μ φ a' w q iD tu (fun t ht=>sI ht) ?_ hq;have hv:=xB Vw;cases q with
          |tmp t=>
           simp only[bA]at hv⊢;have hle:tq (kZ f body) (gF f body):=vw fun t ht=>.inl (sI ht).symm;cases e:Nat.blt t E.fn.ntmps with
           |false=>rw[e]at hv;cases hv
           |true=>
            rw[e]at hv;simp only[cond]at hv⊢;rcases hle t with e|e
            ·rw[←e];exact hv
            ·rw[e]at hv;cases hv
          |_=>exact hv
         have hbm:(bif Nat.beq mode 0 then 3 else mode)=3:=by rcases iG with rfl|rfl<;>rfl
         rw[hbm]at Jp;cases yL<;>cases b<;>simp only[cond]at Jp
         ·exact go y rfl rfl Jp
         ·exact no x rfl rfl Jp
         ·exact no y rfl rfl Jp
         ·exact go x rfl rfl Jp
        ·cases h
       ·cases h
      ·cases h
    ·cases h
   ·cases h
end
end Go.Ab
set_option linter.unusedVariables false
namespace Go.Ab
open Go.RowKit (Below)
structure Rec where
 i:Nat
 o:Oper
 v:V
 wr:List (Nat×bL)
 ft:bq
 kl:Kl
def Rec.fs(r:Rec)(f:Fr):Fr:=gW (kf r.kl f) r.o.dst r.v
def Rec.ms(r:Rec)(m:Mem):Mem:=rr r.wr (km r.kl m)
def Rec.Ei(r:Rec)(id:Nat):Prop:=∃b,(b,id)∈r.kl
def kX(f:Fr):List Rec→Fr
 |[]=>f
 |r::l=>kX (r.fs f) l
def nR(m:Mem):List Rec→Mem
 |[]=>m
 |r::l=>nR (r.ms m) l
def mW(S:Nat→Bool)(f:Fr):List Rec→Fr
 |[]=>f
 |r::l=>mW S (bif S r.i then r.fs f else f) l
def mX(S:Nat→Bool)(m:Mem):List Rec→Mem
 |[]=>m
 |r::l=>mX S (bif S r.i then r.ms m else m) l
theorem Cf:∀{wr:List (Nat×bL)}{m:Mem}{j:Nat},(∀b,(j,b)∉wr)→rr wr m j=m j
 |[],_,_,_=>rfl
 |(id,b)::r,m,j,h=>by rw[rr,Cf fun b' hb=>h b' (by simp[hb])];exact av fun e=>h b (by simp[e])
theorem Sc:∀{wr:List (Nat×bL)}{j:Nat},(∃b,(j,b)∈wr)→∃b',(j,b')∈wr∧∀m:Mem,rr wr m j=some b'
 |[],_,h=>by obtain⟨b,hb⟩:=h;cases hb
 |(id,b)::r,j,h=>by
  by_cases hr:∃b,(j,b)∈r
  ·obtain⟨b',h1,h2⟩:=Sc hr;exact⟨b',by simp[h1],fun m=>h2 _⟩
  ·obtain⟨b0,hb⟩:=h;rcases List.mem_cons.1 hb with hb|hb
   ·simp only[Prod.mk.injEq]at hb;obtain⟨rfl,rfl⟩:=hb;refine⟨b0,by simp,fun m=>?_⟩;rw[rr,Cf fun b' fV=>hr ⟨b',fV⟩];simp
   ·exact absurd ⟨b0,hb⟩ hr
mutual
theorem Hk{id:Nat}:∀{v:V},v.tl id=true→v.has id=true
 |.agg cs,h=>sJ (cs:=cs) (by simpa[V.tl]using h)
 |.aZ cs,h=>sJ (cs:=cs) (by simpa[V.tl]using h)
 |.fn _ cs,h=>sJ (cs:=cs) (by simpa[V.tl]using h)
 |.tx _ _ _,h=>h
 |.xg _ _ _ _ _ _,h=>h
 |.pv _,h=>by cases h
 |.bl,h=>by cases h
 |.op _ _,h=>by cases h
 |.oe _ _ _,h=>by cases h
 |.os _,h=>by cases h
 |.fm _ _ _,h=>by cases h
 |.om _,h=>by cases h
 |.yl _,h=>by cases h
 |.it _,h=>by cases h
 |.top,h=>by cases h
theorem sJ{id:Nat}:∀{cs:List V},xh id cs=true→cr id cs=true
 |[],h=>by cases h
 |c::r,h=>by
  simp only[xh,Bool.or_eq_true]at h;simp only[cr,Bool.or_eq_true];rcases h with h|h
  ·exact .inl (Hk h)
  ·exact .inr (sJ h)
end
variable{id:Nat}
theorem Ae{v:V}(h:v.has id=false):qn id v=v:=by unfold qn;rw[h];rfl
theorem Af{id:Nat}:∀{cs:List V},cr id cs=false→cs.map (qn id)=cs
 |[],_=>rfl
 |c::r,h=>by simp only[cr,Bool.or_eq_false_iff]at h;simp only[List.map_cons,Ae h.1,Af h.2]
theorem Hl{b:bL}(h:b.names id=false):fM id b=b:=by
 cases b with
 |box cs=>simp only[fM,Af (show cr id cs=false from h)]
 |_=>rfl
theorem xC{v:V}(h:v.has id=false):ml id v=v:=by
 unfold ml;cases h2:v.tl id with
 |false=>rfl
 |true=>rw[Hk h2]at h;cases h
theorem xD{id:Nat}:∀{cs:List V},cr id cs=false→cs.map (ml id)=cs
 |[],_=>rfl
 |c::r,h=>by simp only[cr,Bool.or_eq_false_iff]at h;simp only[List.map_cons,xC h.1,xD h.2]
theorem Fs{b:bL}(h:b.names id=false):dN id b=b:=by
 cases b with
 |box cs=>simp only[dN,xD (show cr id cs=false from h)]
 |_=>rfl
theorem Cg:∀{kl:Kl}{f:Fr}{t:Nat},(∀id,(∃b,(b,id)∈kl)→(f t).has id=false)→kf kl f t=f t
 |[],_,_,_=>rfl
 |(true,id)::r,f,t,h=>by have h0:eP id f t=f t:=Ae (h id ⟨true,by simp⟩);rw[kf,Cg (kl:=r) (f:=eP id f) fun j hj=>by rw[h0];exact h j (let⟨b,hb⟩:=hj;⟨b,by simp[hb]⟩),h0]
 |(false,id)::r,f,t,h=>by have h0:gn id f t=f t:=xC (h id ⟨false,by simp⟩);rw[kf,Cg (kl:=r) (f:=gn id f) fun j hj=>by rw[h0];exact h j (let⟨b,hb⟩:=hj;⟨b,by simp[hb]⟩),h0]
theorem xE:∀{kl:Kl}{f g:Fr}{t:Nat},f t=g t→kf kl f t=kf kl g t
 |[],_,_,_,h=>h
 |(true,id)::r,f,g,t,h=>xE (kl:=r) (f:=eP id f) (g:=eP id g) (by simp only[eP,h])
 |(false,id)::r,f,g,t,h=>xE (kl:=r) (f:=gn id f) (g:=gn id g) (by simp only[gn,h])
theorem Ch:∀{kl:Kl}{m:Mem}{j:Nat},(∀id,(∃b,(b,id)∈kl)→j≠id∧∀b,m j=some b→b.names id=false)→km kl m j=m j
 |[],_,_,_=>rfl
 |(true,id)::r,m,j,h=>by
  obtain⟨h1,h2⟩:=h id ⟨true,by simp⟩;have h0:bh (bB id m) id j=m j:=by
   rw[eQ h1];unfold bB;cases hm:m j with
   |none=>rfl
   |some b=>simp only[Hl (h2 b hm)]
  rw[km,Ch (kl:=r) (m:=bh (bB id m) id) fun i hi=>by rw[h0];exact h i (let⟨b,hb⟩:=hi;⟨b,by simp[hb]⟩),h0]
 |(false,id)::r,m,j,h=>by
  obtain⟨h1,h2⟩:=h id ⟨false,by simp⟩;have h0:eU id m j=m j:=by
   unfold eU;cases hm:m j with
   |none=>rfl
   |some b=>simp only[Fs (h2 b hm)]
  rw[km,Ch (kl:=r) (m:=eU id m) fun i hi=>by rw[h0];exact h i (let⟨b,hb⟩:=hi;⟨b,by simp[hb]⟩),h0]
theorem Ci:∀{kl:Kl}{m n:Mem}{j:Nat},m j=n j→km kl m j=km kl n j
 |[],_,_,_,h=>h
 |(true,id)::r,m,n,j,h=>Ci (kl:=r) (m:=bh (bB id m) id) (n:=bh (bB id n) id) (by
  by_cases e:j=id
  ·subst e;simp
  ·rw[eQ e,eQ e];simp only[bB,h])
 |(false,id)::r,m,n,j,h=>Ci (kl:=r) (m:=eU id m) (n:=eU id n) (by simp only[eU,h])
variable{r:Rec}
theorem Rec.Hm{f:Fr}{t:Nat}(h:r.o.dst=some t):r.fs f t=r.v:=by unfold Rec.fs;rw[h,iW]
theorem Rec.NX{f:Fr}{t:Nat}(h:r.o.dst≠some t)(hc:∀id,r.Ei id→(f t).has id=false):r.fs f t=f t:=by unfold Rec.fs;rw[dP h];exact Cg hc
theorem Rec.Cj{f g:Fr}{t:Nat}(h:f t=g t):r.fs f t=r.fs g t:=by
 by_cases e:r.o.dst=some t
 ·rw[Hm e,Hm e]
 ·unfold Rec.fs;rw[dP e,dP e];exact xE h
theorem Rec.W8{j:Nat}(h:∃b,(j,b)∈r.wr):∃b',(j,b')∈r.wr∧∀m,r.ms m j=some b':=let⟨b',h1,h2⟩:=Sc h;⟨b',h1,fun m=>h2 _⟩
theorem Rec.Sd{m:Mem}{j:Nat}(h:∀b,(j,b)∉r.wr)(hc:∀id,r.Ei id→j≠id∧∀b,m j=some b→b.names id=false):r.ms m j=m j:=by unfold Rec.ms;rw[Cf h];exact Ch hc
theorem Rec.Ck{m n:Mem}{j:Nat}(h:m j=n j):r.ms m j=r.ms n j:=by
 by_cases e:∃b,(j,b)∈r.wr
 ·obtain⟨b,_,e⟩:=Rec.W8 e;rw[e,e]
 ·have e':∀b,(j,b)∉r.wr:=fun b hb=>e ⟨b,hb⟩;unfold Rec.ms;rw[Cf e',Cf e'];exact Ci h
section
variable {S S':Nat→Bool}
theorem Hn{f:Fr}:∀{l l':List Rec},kX f (l++l')=kX (kX f l) l':=by
 intro l;induction l generalizing f with
 |nil=>intro l';rfl
 |cons r l ih=>intro l';exact ih
theorem Ho{m:Mem}:∀{l l':List Rec},nR m (l++l')=nR (nR m l) l':=by
 intro l;induction l generalizing m with
 |nil=>intro l';rfl
 |cons r l ih=>intro l';exact ih
theorem tS{f:Fr}:∀{l l':List Rec},mW S f (l++l')=mW S (mW S f l) l':=by
 intro l;induction l generalizing f with
 |nil=>intro l';rfl
 |cons r l ih=>intro l';exact ih
theorem tT{m:Mem}:∀{l l':List Rec},mX S m (l++l')=mX S (mX S m l) l':=by
 intro l;induction l generalizing m with
 |nil=>intro l';rfl
 |cons r l ih=>intro l';exact ih
theorem Ej{t:Nat}:∀{l:List Rec}{f:Fr},(∀q∈l,q.o.dst≠some t∧q.kl=[])→kX f l t=f t
 |[],_,_=>rfl
 |r::l,f,h=>by rw[kX,Ej fun q hq=>h q (by simp[hq])];obtain⟨h1,h2⟩:=h r (by simp);exact Rec.NX h1 fun id⟨b,hid⟩=>by rw[h2]at hid;cases hid
theorem od{t:Nat}:∀{l:List Rec}{f:Fr},(∀q∈l,S q.i=true→q.o.dst≠some t∧∀id,q.Ei id→(f t).has id=false)→mW S f l t=f t
 |[],_,_=>rfl
 |r::l,f,h=>by
  have h0:(bif S r.i then r.fs f else f) t=f t:=by
   cases e:S r.i with
   |false=>rfl
   |true=>obtain⟨h1,h2⟩:=h r (by simp) e;exact Rec.NX h1 h2
  rw[mW,od fun q hq hs=>by rw[h0];exact h q (by simp[hq]) hs,h0]
theorem Cl{t:Nat}:∀{l:List Rec}{f g:Fr},f t=g t→(∀q∈l,S q.i=false→q.o.dst≠some t∧q.kl=[])→mW S f l t=kX g l t
 |[],_,_,h,_=>h
 |r::l,f,g,h,hs=>by
  rw[mW,kX];refine Cl ?_ fun q hq=>hs q (by simp[hq]);cases e:S r.i with
  |true=>exact Rec.Cj h
  |false=>obtain⟨h1,h2⟩:=hs r (by simp) e;rw[Rec.NX h1 fun id⟨b,hid⟩=>by rw[h2]at hid;cases hid];exact h
theorem wF{t:Nat}:∀{l:List Rec}{f g:Fr},f t=g t→(∀q∈l,S q.i=S' q.i)→mW S f l t=mW S' g l t
 |[],_,_,h,_=>h
 |r::l,f,g,h,hs=>by
  rw[mW,mW];refine wF ?_ fun q hq=>hs q (by simp[hq]);rw[hs r (by simp)];cases S' r.i
  ·exact h
  ·exact Rec.Cj h
theorem og{j:Nat}:∀{l:List Rec}{m:Mem},(∀q∈l,S q.i=true→(∀b,(j,b)∉q.wr)∧∀id,q.Ei id→j≠id∧∀b,m j=some b→b.names id=false)→mX S m l j=m j
 |[],_,_=>rfl
 |r::l,m,h=>by
  have h0:(bif S r.i then r.ms m else m) j=m j:=by
   cases e:S r.i with
   |false=>rfl
   |true=>obtain⟨h1,h2⟩:=h r (by simp) e;exact Rec.Sd h1 h2
  rw[mX,og fun q hq hs=>by rw[h0];exact h q (by simp[hq]) hs,h0]
theorem Cm{j:Nat}:∀{l:List Rec}{m n:Mem},m j=n j→(∀q∈l,S q.i=false→(∀b,(j,b)∉q.wr)∧q.kl=[])→mX S m l j=nR n l j
 |[],_,_,h,_=>h
 |r::l,m,n,h,hs=>by
  rw[mX,nR];refine Cm ?_ fun q hq=>hs q (by simp[hq]);cases e:S r.i with
  |true=>exact Rec.Ck h
  |false=>obtain⟨h1,h2⟩:=hs r (by simp) e;rw[Rec.Sd h1 fun id⟨b,hid⟩=>by rw[h2]at hid;cases hid];exact h
theorem wG{j:Nat}:∀{l:List Rec}{m n:Mem},m j=n j→(∀q∈l,S q.i=S' q.i)→mX S m l j=mX S' n l j
 |[],_,_,h,_=>h
 |r::l,m,n,h,hs=>by
  rw[mX,mX];refine wG ?_ fun q hq=>hs q (by simp[hq]);rw[hs r (by simp)];cases S' r.i
  ·exact h
  ·exact Rec.Ck h
end
section
variable {E:Env} {ops:Array Oper} {w0:bx}
def Ek(E:Env)(ops:Array Oper)(w0:bx)(r:Rec)(f:Fr)(m:Mem):Prop:=∀(f2:Fr)(m2:Mem),(∀t∈r.o.looksAt ops,f2 t=f t)→(∀x∈r.ft,m2 x.2=m x.2)→∀(μ:Ro)(φ:Nat→aG)(a:Act)(w:World)(K:Act→World→Prop)(Q:Exit→Act→World→Prop),Rel E.P E.aH E.fn.ntmps w0 μ φ f2 m2 a w→(∀μ' φ' a' w',Rel E.P E.aH E.fn.ntmps w0 μ' φ' (r.fs f2) (r.ms m2) a' w'→K a' w')→if Region.wanted r.o (yielded ops a.tmps)then∀rd:Option Nat,r.o.wpIn (FR rd) 0 E.P a w K Q else K (a.put r.o.dst undef) w
def fv(E:Env)(ops:Array Oper)(w0:bx):Fr→Mem→List Rec→Prop
 |_,_,[]=>True
 |f,m,r::l=>Ek E ops w0 r f m∧(∀id b,(id,b)∈r.wr→(true,id)∈r.ft)∧fv E ops w0 (r.fs f) (r.ms m) l
theorem fv.append{f:Fr}{m:Mem}{l l':List Rec}:fv E ops w0 f m (l++l')↔fv E ops w0 f m l∧fv E ops w0 (kX f l) (nR m l) l':=by
 induction l generalizing f m with
 |nil=>simp[fv,kX,nR]
 |cons r l ih=>simp only[List.cons_append,fv,kX,nR,ih,and_assoc]
def Clean(ops:Array Oper)(id:Nat)(r:Rec)(f:Fr)(m:Mem):Prop:=(∀t∈r.o.looksAt ops,(f t).has id=false)∧r.v.has id=false∧(∀x∈r.ft,x.2≠id∧∀b,m x.2=some b→b.names id=false)∧∀j b,(j,b)∈r.wr→(∀m,r.ms m j=some b)→j≠id∧b.names id=false
def mM(ops:Array Oper):Fr→Mem→List Rec→Prop
 |_,_,[]=>True
 |f,m,r::l=>(∀q∈l,∀id,q.Ei id→reach ops 4 q.o r.i=true∨Clean ops id r f m)∧mM ops (r.fs f) (r.ms m) l
theorem mM.append{f:Fr}{m:Mem}{l l':List Rec}(h:mM ops f m (l++l')):mM ops (kX f l) (nR m l) l':=by
 induction l generalizing f m with
 |nil=>exact h
 |cons r l ih=>exact ih h.2
def Ord(ops:Array Oper)(q r:Rec):Prop:=reach ops 4 r.o q.i=true∨(q.o.apart ops r.o=true∧(∀id b,(id,b)∈q.wr→∀x∈r.ft,x.2≠id)∧∀id b,(id,b)∈r.wr→∀x∈q.ft,x.2≠id)
theorem PD{o:Oper}{j:Nat}(h:Bq o j=true):∃e∈o.after,Region.binds .any e=true∧e.on=j:=by unfold Bq at h;obtain⟨e,he,h⟩:=List.any_eq_true.1 h;have he:e∈o.after:=Array.mem_toList_iff.1 he;simp only[Bool.and_eq_true]at h;exact⟨e,he,h.1,Nat.eq_of_beq_eq_true h.2⟩
abbrev aA(l:Array Bool):Nat→Bool:=fun i=>l.getD i false
def wH(ops:Array Oper)(listed:Array Bool):Prop:=∀i o,ops[i]?=some o→aA listed i=true→∀e∈o.after,Region.binds .any e=true→aA listed e.on=true
theorem oW(listed:Array Bool)(ta:wH ops listed):∀(n:Nat)(o:Oper)(j:Nat),(∀e∈o.after,Region.binds .any e=true→aA listed e.on=true)→reach ops n o j=true→aA listed j=true:=by
 have aaG:∀(o:Oper)(j:Nat),(∀e∈o.after,Region.binds .any e=true→aA listed e.on=true)→Bq o j=true→aA listed j=true:=fun o j ho h=>by obtain⟨e,he,hb,hon⟩:=PD h;have:=ho e he hb;rw[hon]at this;exact this
 intro n;induction n with
 |zero=>exact fun o j ho h=>aaG o j ho h
 |succ n ihn=>
  intro o j ho h;simp only[reach,Bool.or_eq_true]at h;rcases h with h|h
  ·exact aaG o j ho h
  ·obtain⟨e,he,h⟩:=List.any_eq_true.1 h;simp only[Bool.and_eq_true]at h;obtain⟨hb,h⟩:=h;have he:e∈o.after:=Array.mem_toList_iff.1 he;split at h
   ·rename_i p hp;exact ihn p j (ta e.on p hp (ho e he hb)) h
   ·cases h
theorem Se{rd:Option Nat}{recs:List Rec}{f0:Fr}{m0:Mem}{Q:Exit→Act→World→Prop}{base:Nat→Bool}(bu:recs.Pairwise fun q r=>q.i<r.i)(oV:∀r∈recs,ops[r.i]?=some r.o)(Sf:∀r∈recs,base r.i=false)(Sg:∀i o,ops[i]?=some o→base i=false→(∀r∈recs,r.i≠i)→(∀r∈recs,reach ops 8 o r.i=true)∨∃j,reach ops 8 o j=true∧base j=false∧∀r∈recs,r.i≠j)(aaH:recs.Pairwise (Ord ops))(jA:recs.Pairwise fun q r=>q.kl≠[]→reach ops 4 r.o q.i=true)(aeY:mM ops f0 m0 recs)(NY:∀r∈recs,∀e∈r.o.after,Region.binds .any e=true→e.on<r.i∧(base e.on=true∨∃q∈recs,q.i=e.on))(xf:fv E ops w0 f0 m0 recs)(hQ:∀(fuel:Nat)(listed:Array Bool),listed.size=ops.size→listed.toList.countP (fun b=> !b)≤fuel→wH ops listed→(∀i,aA listed i=true↔base i=true∨∃r∈recs,r.i=i)→∀μ φ a w,Rel E.P E.aH E.fn.ntmps w0 μ φ (kX f0 recs) (nR m0 recs) a w→wpAnyIn (FR rd) 0 E.P .any ops Q fuel listed a w):∀(fuel:Nat)(listed:Array Bool),listed.size=ops.size→listed.toList.countP (fun b=> !b)≤fuel→wH ops listed→(∀i,base i=true→aA listed i=true)→(∀i,aA listed i=true→base i=true∨∃r∈recs,r.i=i)→∀(μ:Ro)(φ:Nat→aG)(a:Act)(w:World),Rel E.P E.aH E.fn.ntmps w0 μ φ (mW (aA listed) f0 recs) (mX (aA listed) m0 recs) a w→wpAnyIn (FR rd) 0 E.P .any ops Q fuel listed a w:=by
 have done:∀(fuel:Nat)(listed:Array Bool),listed.size=ops.size→listed.toList.countP (fun b=> !b)≤fuel→wH ops listed→(∀i,base i=true→aA listed i=true)→(∀i,aA listed i=true→base i=true∨∃r∈recs,r.i=i)→(∀r∈recs,aA listed r.i=true)→∀(μ:Ro)(φ:Nat→aG)(a:Act)(w:World),Rel E.P E.aH E.fn.ntmps w0 μ φ (mW (aA listed) f0 recs) (mX (aA listed) m0 recs) a w→wpAnyIn (FR rd) 0 E.P .any ops Q fuel listed a w:=by
  intro fuel listed hs hc ta hb oL hl μ φ a w hR;have e1:mW (aA listed) f0 recs=kX f0 recs:=funext fun t=>Cl rfl fun q hq hf=>by rw[hl q hq]at hf;cases hf
  have e2:mX (aA listed) m0 recs=nR m0 recs:=funext fun t=>Cm rfl fun q hq hf=>by rw[hl q hq]at hf;cases hf
  rw[e1,e2]at hR;exact hQ fuel listed hs hc ta (fun i=>⟨oL i,fun h=>h.elim (hb i) fun⟨r,hr,e⟩=>e▸hl r hr⟩) μ φ a w hR
 have Vx:∀(listed:Array Bool),listed.size=ops.size→(∀i,base i=true→aA listed i=true)→(∀r∈recs,r.i∉Region.ready .any ops listed)→∀(n:Nat)(r:Rec),r∈recs→r.i<n→aA listed r.i=true:=by
  intro listed hs hb hr n;induction n with
  |zero=>intro r _ h;omega
  |succ n ih=>
   intro r ru hi;cases hc:aA listed r.i with
   |true=>rfl
   |false=>
    exfalso;have bu:r.i<listed.size:=by rw[hs];exact(Array.getElem?_eq_some_iff.1 (oV r ru)).1
    refine hr r ru (mem_ready.2 ⟨by simp only[aA,Array.getD_eq_getD_getElem?,Array.getElem?_eq_getElem bu,Option.getD_some]at hc⊢;exact hc,r.o,oV r ru,fun e he fV=>?_⟩);obtain⟨h1,h2⟩:=NY r ru e he fV;rcases h2 with h2|⟨q,hq,Si⟩
    ·exact hb _ h2
    ·have:=ih q hq (by omega);rwa[Si]at this
 intro fuel;induction fuel with
 |zero=>
  intro listed hs hc ta hb oL μ φ a w hR;refine done 0 listed hs hc ta hb oL (fun r hr=>?_) μ φ a w hR;have bu:r.i<listed.size:=by rw[hs];exact(Array.getElem?_eq_some_iff.1 (oV r hr)).1
  have:=List.countP_eq_zero.1 (Nat.le_zero.1 hc) listed[r.i] (by simp);simp only[aA,Array.getD_eq_getD_getElem?,Array.getElem?_eq_getElem bu,Option.getD_some];simpa using this
 |succ fuel ih=>
  intro listed hs hc ta hb oL μ φ a w hR;by_cases Sj:∀r∈recs,aA listed r.i=true
  ·exact done (fuel+1) listed hs hc ta hb oL Sj μ φ a w hR
  have aaI:∃r∈recs,aA listed r.i=false:=by
   refine Classical.byContradiction fun cQ=>Sj fun r hr=>?_;cases hx:aA listed r.i with
   |true=>rfl
   |false=>exact absurd ⟨r,hr,hx⟩ cQ
  refine⟨fun h0=>absurd (fun r hr=>Vx listed hs hb (fun r hr h=>by rw[h0]at h;cases h) (r.i+1) r hr (by omega)) Sj,fun i hi=>?_⟩;obtain⟨PE,o,ho,y0⟩:=mem_ready.1 hi;have aaJ:aA listed i=false:=by
   have bu:i<listed.size:=by rw[hs];exact(Array.getElem?_eq_some_iff.1 ho).1
   simp only[aA,Array.getD_eq_getD_getElem?,Array.getElem?_eq_getElem bu,Option.getD_some]at PE⊢;exact PE
  have hex:∃r∈recs,r.i=i∧r.o=o:=by
   refine Classical.byContradiction fun cQ=>?_;have G2:∀r∈recs,r.i≠i:=fun r hr e=>cQ ⟨r,hr,e,by have:=oV r hr;rw[e,ho]at this;exact(Option.some.inj this).symm⟩;have hbi:base i=false:=by
    cases hx:base i with
    |false=>rfl
    |true=>rw[hb i hx]at aaJ;cases aaJ
   rcases Sg i o ho hbi G2 with h|⟨j,h1,h2,h3⟩
   ·obtain⟨r,hr,Vy⟩:=aaI;rw[oW listed ta 8 o r.i y0 (h r hr)]at Vy;cases Vy
   ·have:=oW listed ta 8 o j y0 h1;rcases oL j this with h|⟨r,hr,e⟩
    ·rw[h]at h2;cases h2
    ·exact h3 r hr e
  obtain⟨r,hr,rfl,rfl⟩:=hex;have Sk:r.i<listed.size:=by rw[hs];exact(Array.getElem?_eq_some_iff.1 ho).1
  have hSi:aA listed r.i=false:=by simp only[aA,Array.getD_eq_getD_getElem?,Array.getElem?_eq_getElem Sk,Option.getD_some]at PE⊢;exact PE
  obtain⟨pre,post,lu⟩:=List.append_of_mem hr;subst lu;have vL:∀q∈pre,Ord ops q r:=fun q hq=>(List.pairwise_append.1 aaH).2.2 q hq r (by simp);have NZ:∀q∈post,Ord ops r q:=fun q hq=>(List.pairwise_cons.1 (List.pairwise_append.1 aaH).2.1).1 q hq;have YP:∀q∈post,q.i≠r.i:=fun q hq=>by have:=(List.pairwise_cons.1 (List.pairwise_append.1 bu).2.1).1 q hq;omega
  have aaK:∀q∈pre,q.i≠r.i:=fun q hq=>by have:=(List.pairwise_append.1 bu).2.2 q hq r (by simp);omega
  have aaL:∀q:Rec,reach ops 4 r.o q.i=true→aA listed q.i=true:=fun q h=>oW listed ta 4 r.o q.i y0 h;have J7:∀q∈post,reach ops 4 q.o r.i=true→aA listed q.i=false:=fun q hq h=>by
   cases QR:aA listed q.i with
   |false=>rfl
   |true=>have:=oW listed ta 4 q.o r.i (ta q.i q.o (oV q (by simp[hq])) QR) h;rw[hSi]at this;cases this
  have W9:∀(f:Fr),mW (aA listed) f (r::post)=mW (aA listed) f post:=fun f=>by rw[mW,hSi];rfl
  have Sl:∀(m:Mem),mX (aA listed) m (r::post)=mX (aA listed) m post:=fun m=>by rw[mX,hSi];rfl
  obtain⟨_,YQ,hrw,_⟩:=fv.append.1 xf;have hc:=aeY.append.1;have Xa:∀q∈pre,q.kl≠[]→reach ops 4 r.o q.i=true:=fun q hq=>(List.pairwise_append.1 jA).2.2 q hq r (by simp);have Sn:r.kl≠[]→∀q∈post,reach ops 4 q.o r.i=true:=fun h q hq=>(List.pairwise_cons.1 (List.pairwise_append.1 jA).2.1).1 q hq h;unfold wpOpIn;rw[oV r hr];simp only;have YO:∀t∈r.o.looksAt ops,mW (aA listed) f0 pre t=kX f0 pre t:=fun t ht=>Cl rfl fun q hq hs=>by
   have G2:¬reach ops 4 r.o q.i=true:=fun h=>by rw[aaL q h]at hs;cases hs
   refine⟨fun hd=>?_,?_⟩
   ·rcases vL q hq with h|⟨h,_⟩
    ·exact G2 h
    ·exact absurd ht ((Oper.apart_spec h).1 t hd)
   ·exact Classical.byContradiction fun cQ=>G2 (Xa q hq cQ)
  have YR:∀x∈r.ft,mX (aA listed) m0 pre x.2=nR m0 pre x.2:=fun x hx=>Cm rfl fun q hq hs=>by
   have G2:¬reach ops 4 r.o q.i=true:=fun h=>by rw[aaL q h]at hs;cases hs
   refine⟨fun b hb=>?_,?_⟩
   ·rcases vL q hq with h|⟨_,h,_⟩
    ·exact G2 h
    ·exact absurd rfl (h _ b hb x hx)
   ·exact Classical.byContradiction fun cQ=>G2 (Xa q hq cQ)
  have UF:∀q∈post,aA listed q.i=true→¬reach ops 4 q.o r.i=true:=fun q hq hs h=>by rw[J7 q hq h]at hs;cases hs
  have hf2:∀t∈r.o.looksAt ops,mW (aA listed) f0 (pre++r::post) t=kX f0 pre t:=fun t ht=>by
   rw[tS,W9,od fun q hq hs=>⟨fun hd=>?_,fun id hid=>?_⟩]
   ·exact YO t ht
   ·rcases NZ q hq with h|⟨h,_⟩
    ·exact UF q hq hs h
    ·exact absurd ht ((Oper.apart_spec h).2.2 t hd)
   ·rw[YO t ht];rcases hc q hq id hid with h|h
    ·exact absurd h (UF q hq hs)
    ·exact h.1 t ht
  have cM:∀x∈r.ft,mX (aA listed) m0 (pre++r::post) x.2=nR m0 pre x.2:=fun x hx=>by
   rw[tT,Sl,og fun q hq hs=>⟨fun b hb=>?_,fun id hid=>?_⟩]
   ·exact YR x hx
   ·rcases NZ q hq with h|⟨_,_,h⟩
    ·exact UF q hq hs h
    ·exact absurd rfl (h _ b hb x hx)
   ·rw[YR x hx];rcases hc q hq id hid with h|h
    ·exact absurd h (UF q hq hs)
    ·exact h.2.2.1 x hx
  have hwp:=YQ _ _ hf2 cM μ φ a w (wpAnyIn (FR rd) 0 E.P .any ops Q fuel (listed.setIfInBounds r.i true)) Q hR fun μ' φ' a' w' iD=>by
   have Xb:∀j,aA (listed.setIfInBounds r.i true) j=if j=r.i then true else aA listed j:=fun j=>by
    simp only[aA,Array.getD_eq_getD_getElem?,Array.getElem?_setIfInBounds];by_cases e:r.i=j
    ·subst e;simp[Sk]
    ·have e':¬j=r.i:=fun h=>e h.symm;simp[e,e']
   refine ih (listed.setIfInBounds r.i true) (by simp[hs]) ?_ ?_ ?_ ?_ μ' φ' a' w' ?_
   ·rw[Array.toList_setIfInBounds,List.countP_set (by simpa using Sk)];have:listed.toList[r.i]'(by simpa using Sk)=false:=by simp only[aA,Array.getD_eq_getD_getElem?,Array.getElem?_eq_getElem Sk,Option.getD_some]at hSi;simpa using hSi
    rw[this];simp only[Bool.not_false,if_true,Bool.not_true,Bool.false_eq_true,if_false];omega
   ·intro i' o' PF np e he Fe;rw[Xb]at np⊢;split
    ·rfl
    ·split at np
     ·rename_i Si;subst Si;have:o'=r.o:=by rw[oV r hr]at PF;exact(Option.some.inj PF).symm
      subst this;exact y0 e he Fe
     ·exact ta i' o' PF np e he Fe
   ·intro i' np;rw[Xb];split
    ·rfl
    ·exact hb i' np
   ·intro i' np;rw[Xb]at np;split at np
    ·rename_i Si;exact Or.inr ⟨r,hr,Si.symm⟩
    ·exact oL i' np
   ·have Xc:∀q∈pre,aA (listed.setIfInBounds r.i true) q.i=aA listed q.i:=fun q hq=>by rw[Xb,if_neg (aaK q hq)]
    have tU:∀q∈post,aA (listed.setIfInBounds r.i true) q.i=aA listed q.i:=fun q hq=>by rw[Xb,if_neg (YP q hq)]
    have hSr:aA (listed.setIfInBounds r.i true) r.i=true:=by rw[Xb,if_pos rfl]
    have e1:mW (aA (listed.setIfInBounds r.i true)) f0 (pre++r::post)=r.fs (mW (aA listed) f0 (pre++r::post)):=funext fun t=>by
     have hg:mW (aA (listed.setIfInBounds r.i true)) f0 pre=mW (aA listed) f0 pre:=funext fun s=>wF rfl Xc;rw[tS,tS,W9,mW,hSr,hg];simp only[cond];by_cases hk:r.kl=[]
     ·by_cases hd:r.o.dst=some t
      ·rw[Rec.Hm hd,od fun q hq hs=>⟨fun hqd=>?_,fun id hid=>?_⟩,Rec.Hm hd]
       ·rw[tU q hq]at hs;rcases NZ q hq with h|⟨h,_⟩
        ·exact UF q hq hs h
        ·exact absurd hqd ((Oper.apart_spec h).2.1 t hd)
       ·rw[tU q hq]at hs;rw[Rec.Hm hd];rcases hc q hq id hid with h|h
        ·exact absurd h (UF q hq hs)
        ·exact h.2.1
      ·have yU:∀(g:Fr),r.fs g t=g t:=fun g=>Rec.NX hd fun id⟨b,hid⟩=>by rw[hk]at hid;cases hid
       rw[yU];exact wF (yU _) tU
     ·have PE:∀q∈post,aA listed q.i=false:=fun q hq=>J7 q hq (Sn hk q hq);rw[od fun q hq hs=>by rw[tU q hq,PE q hq]at hs;cases hs];exact Rec.Cj (od fun q hq hs=>by rw[PE q hq]at hs;cases hs).symm
    have e2:mX (aA (listed.setIfInBounds r.i true)) m0 (pre++r::post)=r.ms (mX (aA listed) m0 (pre++r::post)):=funext fun j=>by
     have hg:mX (aA (listed.setIfInBounds r.i true)) m0 pre=mX (aA listed) m0 pre:=funext fun s=>wG rfl Xc;rw[tT,tT,Sl,mX,hSr,hg];simp only[cond];by_cases hk:r.kl=[]
     ·by_cases hd:∃b,(j,b)∈r.wr
      ·obtain⟨b,hd,vp⟩:=Rec.W8 hd;rw[vp,og fun q hq hs=>⟨fun b' hqd=>?_,fun id hid=>?_⟩,vp]
       ·rw[tU q hq]at hs;rcases NZ q hq with h|⟨_,_,h⟩
        ·exact UF q hq hs h
        ·exact absurd rfl (h j b' hqd (true,j) (hrw j b hd))
       ·rw[tU q hq]at hs;rcases hc q hq id hid with h|h
        ·exact absurd h (UF q hq hs)
        ·obtain⟨h1,h2⟩:=h.2.2.2 j b hd vp;refine⟨h1,fun b' fV=>?_⟩;rw[vp]at fV;cases fV;exact h2
      ·have NM:∀b,(j,b)∉r.wr:=fun b hb=>hd ⟨b,hb⟩;have yU:∀(g:Mem),r.ms g j=g j:=fun g=>Rec.Sd NM fun id⟨b,hid⟩=>by rw[hk]at hid;cases hid
       rw[yU];exact wG (yU _) tU
     ·have PE:∀q∈post,aA listed q.i=false:=fun q hq=>J7 q hq (Sn hk q hq);rw[og fun q hq hs=>by rw[tU q hq,PE q hq]at hs;cases hs];exact Rec.Ck (og fun q hq hs=>by rw[PE q hq]at hs;cases hs).symm
    rw[e1,e2];exact iD
  split
  ·rename_i hw;rw[if_pos hw]at hwp;exact hwp rd
  ·rename_i hw;rw[if_neg hw]at hwp;exact⟨fun _ _=>trivial,hwp⟩
end
end Go.Ab
set_option linter.unusedVariables false
namespace Go.Ab
open Go.RowKit (Below)
section
variable {E:Env} {ops:Array Oper} {w0:bx}
variable{o:Oper}
theorem PG{t:Nat}(h:.tmp t∈o.op.operands):t∈o.looksAt ops:=by unfold Oper.looksAt;refine List.mem_append.2 (.inl (List.mem_filterMap.2 ⟨.tmp t,by simpa using h,rfl⟩))
theorem tV{g:Nat×Bool}{t:Nat}(hg:o.guard=some g)(h:(ops[g.1]?).bind (·.dst)=some t):t∈o.looksAt ops:=by unfold Oper.looksAt;rw[hg];refine List.mem_append.2 (.inr ?_);show t∈((ops[g.1]?).bind (·.dst)).toList;rw[h];simp
variable{f F:Fr}
theorem vz(h:∀t∈o.looksAt ops,f t=F t):∀x∈o.op.operands,bA E f x=bA E F x:=by
 intro x hx;cases x with
 |tmp t=>simp only[bA];rw[h t (PG hx)]
 |_=>rfl
variable{A:List (Nat×Bool)}{φ:Nat→aG}{a:Act}{w:World}
theorem Hq{f2:Fr}{m2:Mem}{μ:Ro}(hg:guardOf o A=none)(hA:oU E.fn.ntmps ops A f)(hR:Rel E.P E.aH E.fn.ntmps w0 μ φ f2 m2 a w)(hf:∀t∈o.looksAt ops,f2 t=f t):Region.wanted o (yielded ops a.tmps)=true:=by
 unfold guardOf at hg;unfold Region.wanted;split at hg
 ·rename_i R8;simp[R8]
 ·rename_i g R8;split at hg
  ·rename_i bO;obtain⟨t,h1,h0,h2⟩:=hA g (by simpa using bO);have h3:=hR.fr t;rw[oE h0,hf t (tV R8 h1),h2]at h3;simp only[R8];rw[sH h1 (oS h3)];simp
  ·cases hg
variable{i:Nat}{ft:bq}{m:Mem}
theorem Cn(hE:iP E){v:V}{wr:List (Nat×bL)}(hg:guardOf o A=none)(hA:oU E.fn.ntmps ops A f)(hd:tC E o=true)(hn:∀(f2:Fr)(m2:Mem),(∀x∈o.op.operands,bA E f2 x=bA E f x)→(∀x∈ft,m2 x.2=m x.2)→∀(R':Type)(k':V→Fr→Mem→bq→Option R'),GO E true (cD E o.dst) o f2 m2 k'=k' v f2 (rr wr m2) ft):Ek E ops w0 ⟨i,o,v,wr,ft,[]⟩ f m:=by
 intro f2 m2 hf hm μ φ a w K Q hR hK;have hw:Region.wanted o (yielded ops a.tmps)=true:=by
  unfold guardOf at hg;unfold Region.wanted;split at hg
  ·rename_i R8;simp[R8]
  ·rename_i g R8;split at hg
   ·rename_i bO;obtain⟨t,h1,h0,h2⟩:=hA g (by simpa using bO);have h3:=hR.fr t;rw[oE h0,hf t (tV R8 h1),h2]at h3;simp only[R8];rw[sH h1 (oS h3)];simp
   ·cases hg
 simp only at hf hm hK⊢;rw[if_pos hw];exact fun rd=>(W4 hE (.inl rfl) (hn f2 m2 (vz hf) hm)).wC (yX (hn f2 m2 (vz hf) hm Unit fun _ _ _ _=>some ())) rd w0 μ φ a w K Q hR fun y w' μ' φ' hle hM hF hv hl=>hK _ _ _ _ (hR.put hle (gZ hd) hM hF hv hl)
theorem J8(hd:tC E o=true)(Cd:Pz ops f o):Ek E ops w0 ⟨i,o,.aZ [],[],[],[]⟩ f m:=by
 intro f2 m2 hf hm μ φ a w K Q hR hK;simp only at hf hm hK⊢;have YS:Pz ops f2 o:=by obtain⟨g,hg,ht⟩:=Cd;exact⟨g,hg,fun t h=>by rw[hf t (tV hg h)];exact ht t h⟩
 rw[wa hR YS];simp only[Bool.false_eq_true,if_false];exact hK _ _ _ _ (hR.put (fun _ _ h=>h) (gZ hd) hR.toaz hR.jz Cb (fun id hid=>by simp[V.has,cr]at hid))
def xF(x:Nat×Oper):Rec:=⟨x.1,x.2,.aZ [],[],[],[]⟩
theorem El{m:Mem}:∀(l:List (Nat×Oper))(F:Fr),(∀x∈l,tC E x.2=true)→(∀(pre post:List (Nat×Oper))(x:Nat×Oper),l=pre++x::post→Pz ops (gF F pre) x.2)→fv E ops w0 F m (l.map xF)∧kX F (l.map xF)=gF F l
 |[],F,_,_=>⟨trivial,rfl⟩
 |x::r,F,hd,Cd=>by obtain⟨h1,h2⟩:=El (m:=m) r (gW F x.2.dst (.aZ [])) (fun y hy=>hd y (by simp[hy])) (fun pre post y h=>by have:=Cd (x::pre) post y (by rw[h];rfl);rwa[gF]at this);exact⟨⟨J8 (hd x (by simp)) (Cd [] r x rfl),by simp[xF],h1⟩,h2⟩
theorem Em{m:Mem}:∀{l:List Rec},(∀q∈l,q.wr=[]∧q.kl=[])→nR m l=m
 |[],_=>rfl
 |r::l,h=>by
  obtain⟨h1,h2⟩:=h r (by simp);have:r.ms m=m:=by unfold Rec.ms;rw[h1,h2];rfl
  rw[nR,this];exact Em fun q hq=>h q (by simp[hq])
theorem fv.wr:∀{l:List Rec}{f:Fr}{m:Mem},fv E ops w0 f m l→∀q∈l,∀id b,(id,b)∈q.wr→(true,id)∈q.ft
 |[],_,_,_,q,hq=>by cases hq
 |r::l,f,m,h,q,hq=>by
  rcases List.mem_cons.1 hq with rfl|hq
  ·exact h.2.1
  ·exact fv.wr h.2.2 q hq
def Sq(q r:Rec):Prop:=reach ops 4 r.o q.i=true∨((∀id b,(id,b)∈q.wr→∀x∈r.ft,x.2≠id)∧∀id b,(id,b)∈r.wr→∀x∈q.ft,x.2≠id)
theorem Hr{o:Oper}{w:Bool}{id:Nat}:∀{lg:Log},Nv ops o w id lg=true→∀x∈lg,id≠x.2.2∨(w=false∧x.2.1=false)∨reach ops 4 o x.1=true
 |[],_,x,hx=>by cases hx
 |(j,w',nN)::lg,h,x,hx=>by
  simp only[Nv,Bool.and_eq_true]at h;rcases List.mem_cons.1 hx with rfl|hx
  ·have h1:=h.1;simp only[Bool.or_eq_true,Bool.not_eq_true',Bool.and_eq_true]at h1;rcases h1 with(h1|h1)|h1
   ·exact .inl fun e=>by subst e;simp[Nat.beq_refl]at h1
   ·exact .inr (.inl h1)
   ·exact .inr (.inr h1)
  ·exact Hr h.2 x hx
theorem y4{o:Oper}{lg:Log}:∀{ft:bq},yK ops o lg ft=true→∀y∈ft,∀x∈lg,y.2≠x.2.2∨(y.1=false∧x.2.1=false)∨reach ops 4 o x.1=true
 |[],_,y,hy=>by cases hy
 |(w,id)::ft,h,y,hy=>by
  simp only[yK,Bool.and_eq_true]at h;rcases List.mem_cons.1 hy with rfl|hy
  ·exact Hr h.1
  ·exact y4 h.2 y hy
theorem Co{o:Oper}{id:Nat}:∀{lg:Log},A1 ops o id lg=true→∀x∈lg,x.2.2=ve id→reach ops 4 o x.1=true
 |[],_,x,hx=>by cases hx
 |(j,w,n)::lg,h,x,hx=>by
  simp only[A1,Bool.and_eq_true,Bool.or_eq_true,Bool.not_eq_true']at h;intro he;rcases List.mem_cons.1 hx with rfl|hx
  ·rcases h.1 with h1|h1
   ·simp only at he;rw[he,Nat.beq_refl]at h1;cases h1
   ·exact h1
  ·exact Co h.2 x hx he
mutual
theorem N0{id:Nat}:∀(v:V),v.has id=true→id∈v.ids
 |.agg cs,h=>rO cs (by simpa only[V.has]using h)
 |.aZ cs,h=>rO cs (by simpa only[V.has]using h)
 |.fn _ cs,h=>rO cs (by simpa only[V.has]using h)
 |.os j,h=>by have:=Nat.eq_of_beq_eq_true h;subst this;simp[V.ids]
 |.fm j _ _,h=>by have:=Nat.eq_of_beq_eq_true h;subst this;simp[V.ids]
 |.oe j _ _,h=>by have:=Nat.eq_of_beq_eq_true h;subst this;simp[V.ids]
 |.om j,h=>by have:=Nat.eq_of_beq_eq_true h;subst this;simp[V.ids]
 |.tx j _ _,h=>by have:=Nat.eq_of_beq_eq_true h;subst this;simp[V.ids]
 |.xg j _ _ _ _ _,h=>by have:=Nat.eq_of_beq_eq_true h;subst this;simp[V.ids]
 |.op j _,h=>by have:=Nat.eq_of_beq_eq_true h;subst this;simp[V.ids]
 |.it j,h=>by have:=Nat.eq_of_beq_eq_true h;subst this;simp[V.ids]
 |.yl j,h=>by have:=Nat.eq_of_beq_eq_true h;subst this;simp[V.ids]
 |.pv _,h=>by cases h
 |.bl,h=>by cases h
 |.top,h=>by cases h
theorem rO{id:Nat}:∀(cs:List V),cr id cs=true→id∈GP cs
 |[],h=>by cases h
 |v::r,h=>by
  simp only[cr,Bool.or_eq_true]at h;simp only[GP,List.mem_append];rcases h with h|h
  ·exact .inl (N0 v h)
  ·exact .inr (rO r h)
end
variable{id:Nat}
theorem xG{b:bL}(h:b.names id=true):id∈Br (some b):=by
 cases b with
 |box cs=>exact rO cs h
 |_=>cases h
theorem wI{m m':Mem}{id:Nat}:∀{ft:bq}{x:Bool×Nat},x∈ft→(id∈Br (m x.2)∨id∈Br (m' x.2))→id∈E6 m m' ft
 |y::ft,x,hx,h=>by
  simp only[E6,List.mem_append];rcases List.mem_cons.1 hx with rfl|hx
  ·exact .inl h
  ·exact .inr (wI hx h)
theorem Sr{v:V}{wr:List (Nat×bL)}(Ag:∀t∈o.looksAt ops,f t=F t)(YT:∀j b,(j,b)∈wr→(true,j)∈ft)(hn:id∉A0 ops o f m (rr wr m) v ft)(hft:∀x∈ft,x.2≠id):Clean ops id ⟨i,o,v,wr,ft,[]⟩ F m:=by
 simp only[A0,List.mem_append,not_or]at hn;obtain⟨⟨h1,h2⟩,h3⟩:=hn;refine⟨fun t ht=>?_,?_,fun x hx=>⟨hft x hx,fun b hb=>?_⟩,fun j b hb vp=>⟨hft _ (YT j b hb),?_⟩⟩
 ·cases e:(F t).has id with
  |false=>rfl
  |true=>exact absurd (rO _ (cR.2 ⟨f t,List.mem_map.2 ⟨t,ht,rfl⟩,by rw[Ag t ht];exact e⟩)) h1
 ·cases e:v.has id with
  |false=>rfl
  |true=>exact absurd (N0 _ e) h2
 ·cases e:b.names id with
  |false=>rfl
  |true=>exact absurd (wI hx (.inl (by rw[hb];exact xG e))) h3
 ·cases e:b.names id with
  |false=>rfl
  |true=>exact absurd (wI (YT j b hb) (.inr (by have fV:rr wr m j=some b:=vp m;simp only;rw[fV];exact xG e))) h3
variable{R:Type}
theorem J9{site:Nat}{rd:bq}(h:sr E f m o=some (id,rd)){k:V→Fr→Mem→bq→Option R}{r:R}(hx:cW E false site o f m k=some r):(∀x∈rd,x.1=false)∧∃dG,k (.os id) (eP id f) (au (bh (bB id m) id) id dG) [(true,0)]=some r∧∀(f2:Fr)(m2:Mem),(∀x∈o.op.operands,bA E f2 x=bA E f x)→(∀x∈(true,id)::rd,m2 x.2=m x.2)→∀(R':Type)(k':V→Fr→Mem→bq→Option R'),cW E false site o f2 m2 k'=k' (.os id) (eP id f2) (au (bh (bB id m2) id) id dG) [(true,0)]:=by
 obtain⟨dst,op,type,pos,after,guard⟩:=o;unfold sr at h;simp only at h;split at h
 ·rename_i c;obtain⟨callee,args,argTypes⟩:=c;simp only at h;split at h
  ·rename_i nN x t t' jK YE;split at h
   ·rename_i e hu;split at h
    ·rename_i new rd' yQ;split at h
     ·cases h
     ·rename_i YF;simp only[Option.some.injEq,Prod.mk.injEq]at h;obtain⟨rfl,rfl⟩:=h;obtain⟨he1,he2,_⟩:=mr yQ;have aeZ:∀m2:Mem,bh (bB nN m2) nN nN=none:=fun m2=>by simp[bh,Nat.beq_refl]
      have main:∀(f2:Fr)(m2:Mem),args.toList.map (bA E f2)=[.os nN,x]→m2 nN=m nN→eG m2 (aU E.P e) x=some (new,rd')→∀(R':Type)(k':V→Fr→Mem→bq→Option R'),cW E false site ⟨dst,.call ⟨.builtin .append,args,argTypes⟩,type,pos,after,guard⟩ f2 m2 k'=if !(decide (t'=t))then none else if(dg E e).isNone then none else match m nN with
       |some (.arr sz et es)=>if et=e∧sz=aU E.P e∧x.has nN=false then(if(es++new).length*Dm E.P e≤aa∧0<Dm E.P e then k' (.os nN) (eP nN f2) (au (bh (bB nN m2) nN) nN (.arr sz e (es++new))) [(true,0)]else none)else none
       |_=>none:=by
       intro f2 m2 h1 h2 h3 R' k'
       simp only[cW,h1,YE,xm,Bool.false_or,hu,h3,h2]
       split
       ·rfl
       ·split
        ·rfl
        ·split
         ·rename_i sz et es NV;simp only[fresh,aeZ,NV]
         ·rename_i cQ;split
          ·rename_i sz et es cM;exact absurd cM (cQ sz et es)
          ·rfl
      rw[main f m jK rfl yQ]at hx;refine⟨he2,?_⟩;split at hx
      ·cases hx
      ·rename_i WQ;split at hx
       ·cases hx
       ·rename_i BB;split at hx
        ·rename_i sz et es hm;split at hx
         ·rename_i hc3;split at hx
          ·rename_i hc4;refine⟨_,hx,fun f2 m2 hf cM R' k'=>?_⟩;have ha:args.toList.map (bA E f2)=[.os nN,x]:=by rw[←jK];exact qO fun y hy=>hf y (by simp only[Op.operands,Call.operands];simp[Array.mem_toList_iff.1 hy])
           rw[main f2 m2 ha (cM (true,nN) (by simp)) (he1 m2 fun y hy=>cM y (by simp[hy])) R' k'];rw[if_neg WQ,if_neg BB,hm];simp only;rw[if_pos hc3,if_pos hc4]
          ·cases hx
         ·cases hx
        ·cases hx
    ·cases h
   ·cases h
  ·cases h
 ·cases h
theorem tq.kill(h:tq f F)(id:Nat):tq (eP id f) (eP id F):=fun t=>by
 rcases h t with e|e
 ·exact .inl (by simp only[eP,e])
 ·exact .inr (by simp only[eP,e];rfl)
theorem oU.kill{nt:Nat}(h:oU nt ops A f)(id:Nat):oU nt ops A (eP id f):=by intro g hg;obtain⟨t,h1,h0,h2⟩:=h g hg;exact⟨t,h1,h0,by simp only[eP,h2];rfl⟩
theorem Ss{x:Nat×bq}(h:sr E f m o=some x):isApp E o=true:=by
 obtain⟨dst,op,type,pos,after,guard⟩:=o;unfold sr at h;simp only at h;unfold isApp;split at h
 ·rename_i c;obtain⟨callee,args,argTypes⟩:=c;simp only at h;split at h
  ·simp
  ·cases h
 ·cases h
theorem Ft{rd:bq}(h:sr E f m o=some (id,rd)):∃c x t t',o.op=.call c∧c.callee=.builtin .append∧c.args.toList.map (bA E f)=[.os id,x]∧c.argTypes.toList=[t,t']:=by
 unfold sr at h;split at h
 ·rename_i c hc;split at h
  ·rename_i nN x t t' h1 h2 h3;split at h
   ·split at h
    ·split at h
     ·cases h
     ·simp only[Option.some.injEq,Prod.mk.injEq]at h;obtain⟨rfl,_⟩:=h;exact⟨c,x,t,t',hc,h1,h2,h3⟩
    ·cases h
   ·cases h
  ·cases h
 ·cases h
theorem PH{kl:Kl}(h:E7 E f m o=some (kl,ft)){k:V→Fr→Mem→bq→Option R}{r:R}(hx:GO E false (cD E o.dst) o f m k=some r):isApp E o=true∧∃v wr ft1,k v (kf kl f) (rr wr (km kl m)) ft1=some r∧(∀x∈wr,(true,x.1)∈ft)∧(∀x∈kl,(true,x.2)∈ft)∧∀(f2:Fr)(m2:Mem),(∀x∈o.op.operands,bA E f2 x=bA E f x)→(∀x∈ft,m2 x.2=m x.2)→∀(R':Type)(k':V→Fr→Mem→bq→Option R'),GO E false (cD E o.dst) o f2 m2 k'=k' v (kf kl f2) (rr wr (km kl m2)) ft1:=by
 unfold E7 at h;unfold GO at hx;split at h
 ·rename_i sp il;simp only[Option.some.injEq]at h;have hn:E.zF (cD E o.dst)=true:=by
   cases hn:E.zF (cD E o.dst)with
   |true=>rfl
   |false=>rw[hn]at il;cases il
  rw[hn]at il hx;simp only[cond]at il hx;rw[il]at hx;obtain⟨v,wr,h1,h2,h3,h4,_,_⟩:=J3 il hx;rw[h]at h1 h2 h3 h4;refine⟨by unfold isApp;rw[hn];rfl,v,wr,ft,h1,h2,h3,fun f2 m2 hf hm R' k'=>?_⟩;have:=J0 il hf (by rw[h];exact hm);unfold GO;rw[hn];simp only[cond];rw[this];exact h4 f2 m2 R' k'
 ·rename_i il;split at h
  ·rename_i id rd St;simp only[Option.some.injEq,Prod.mk.injEq]at h;obtain⟨rfl,rfl⟩:=h;have e0:(bif false then none else bif E.zF (cD E o.dst)then wo E (cD E o.dst) o f m else none)=(bif E.zF (cD E o.dst)then wo E (cD E o.dst) o f m else none):=rfl;rw[e0,il]at hx;simp only at hx;obtain⟨xw,dG,hk,hn⟩:=J9 St hx;refine⟨Ss St,.os id,[(id,dG)],[(true,0)],hk,by simp,by simp,fun f2 m2 hf hm R' k'=>?_⟩;have Su:(bif E.zF (cD E o.dst)then wo E (cD E o.dst) o f2 m2 else none)=none:=by
    cases JG:E.zF (cD E o.dst)with
    |false=>rfl
    |true=>
     simp only[cond];obtain⟨c,x,t,t',hc,Vz,jK,R6⟩:=Ft St;have YU:c.args.toList.map (bA E f2)=[.os id,x]:=by rw[←jK];exact List.map_congr_left fun y hy=>hf y (by rw[hc];simp only[Op.operands,Call.operands];rw[Vz];simp[Array.mem_toList_iff.1 hy])
     have cM:m2 id=m id:=hm (true,id) (by simp);have W5:∃sz et es,m id=some (.arr sz et es):=by
      obtain⟨dst,op,type,pos,after,guard⟩:=o;simp only at hc;subst hc;obtain⟨callee,args,argTypes⟩:=c;simp only at Vz jK R6;subst Vz;simp only[cW,jK,R6,xm,Bool.false_or]at hx;split at hx
      ·cases hx
      ·split at hx
       ·split at hx
        ·cases hx
        ·split at hx
         ·split at hx
          ·rename_i sz et es hm;exact⟨sz,et,es,hm⟩
          ·cases hx
         ·cases hx
       ·cases hx
     obtain⟨sz,et,es,W5⟩:=W5;unfold wo;rw[hc];simp only[Vz,YU,R6,cM,W5];split<;>first|rfl|(rename_i heq;cases heq)
   unfold GO;have e1:(bif false then none else bif E.zF (cD E o.dst)then wo E (cD E o.dst) o f2 m2 else none)=(bif E.zF (cD E o.dst)then wo E (cD E o.dst) o f2 m2 else none):=rfl;rw[e1,Su];exact hn f2 m2 hf hm R' k'
  ·cases h
theorem tq.vT(h:tq f F)(id:Nat):tq (gn id f) (gn id F):=fun t=>by
 rcases h t with e|e
 ·exact .inl (by simp only[gn,e])
 ·exact .inr (by simp only[gn,e];rfl)
theorem tq.kf:∀{kl:Kl}{f F:Fr},tq f F→tq (Go.Ab.kf kl f) (Go.Ab.kf kl F)
 |[],_,_,h=>h
 |(true,id)::r,f,F,h=>tq.kf (kl:=r) (f:=eP id f) (F:=eP id F) (h.kill id)
 |(false,id)::r,f,F,h=>tq.kf (kl:=r) (f:=gn id f) (F:=gn id F) (h.vT id)
theorem oU.vT{nt:Nat}(h:oU nt ops A f)(id:Nat):oU nt ops A (gn id f):=by intro g hg;obtain⟨t,h1,h0,h2⟩:=h g hg;exact⟨t,h1,h0,by simp only[gn,h2];rfl⟩
theorem oU.kf{nt:Nat}{A:List (Nat×Bool)}:∀{kl:Kl}{f:Fr},oU nt ops A f→oU nt ops A (Go.Ab.kf kl f)
 |[],_,h=>h
 |(true,id)::r,f,h=>oU.kf (kl:=r) (f:=eP id f) (h.kill id)
 |(false,id)::r,f,h=>oU.kf (kl:=r) (f:=gn id f) (h.vT id)
theorem PI(hE:iP E)(hY:rD E.P E.aH E.fn.ntmps E.yl w0){v:V}{wr:List (Nat×bL)}{kl:Kl}{ft1:bq}(hg:guardOf o A=none)(hA:oU E.fn.ntmps ops A F)(hd:tC E o=true)(PB:∀x∈o.op.operands,bA E f x=bA E F x)(hn:∀(f2:Fr)(m2:Mem),(∀x∈o.op.operands,bA E f2 x=bA E f x)→(∀x∈ft,m2 x.2=m x.2)→∀(R':Type)(k':V→Fr→Mem→bq→Option R'),GO E false (cD E o.dst) o f2 m2 k'=k' v (kf kl f2) (rr wr (km kl m2)) ft1):Ek E ops w0 ⟨i,o,v,wr,ft,kl⟩ F m:=by
 intro f2 m2 hf hm μ φ a w K Q hR hK;have hw:Region.wanted o (yielded ops a.tmps)=true:=Hq hg hA hR hf;simp only at hf hm hK⊢;rw[if_pos hw];have hx:=hn f2 m2 (fun x hx=>by rw[vz hf x hx,PB x hx]) hm (V×Fr×Mem) fun v f m _=>some (v,f,m);rcases Fq hE hx with⟨v,f',m',ft,h1,h2⟩|⟨_,h2⟩
 ·simp only[Option.some.injEq,Prod.mk.injEq]at h1;obtain⟨rfl,rfl,rfl⟩:=h1;exact fun rd=>h2.wC (yX hx) rd w0 μ φ a w K Q hR fun y w' μ' φ' hle hM hF hv hl=>hK _ _ _ _ (hR.put hle (gZ hd) hM hF hv hl)
 ·refine fun rd=>B8.wC h2 rd w0 μ φ a w K Q hY hR fun v f' m' y w' μ' φ' h1 hle hM hF hv hl=>?_;simp only[Option.some.injEq,Prod.mk.injEq]at h1;obtain⟨rfl,rfl,rfl⟩:=h1;exact hK _ _ _ _ (hR.put hle (gZ hd) hM hF hv hl)
structure Fu(ops:Array Oper)(mode:Nat)(F:Fr)(m:Mem)(lg:Log)(recs:List Rec):Prop where
 one:mode=1→∀q∈recs,q.wr=[]∧q.kl=[]
 ord:mode=2→recs.Pairwise (Sq (ops:=ops))
 log:mode=2→∀q∈recs,∀y∈q.ft,∀x∈lg,y.2≠x.2.2∨(y.1=false∧x.2.1=false)∨reach ops 4 q.o x.1=true
 kl:recs.Pairwise fun q r=>q.kl≠[]→reach ops 4 r.o q.i=true
 cln:mM ops F m recs
 nam:∀q∈recs,∀id,q.Ei id→mode=2∧ops.toList.any (isApp E)=true∧(true,id)∈q.ft∧∀x∈lg,x.2.2=ve id→reach ops 4 q.o x.1=true
theorem mM.none:∀{l:List Rec}{f:Fr}{m:Mem},(∀q∈l,q.kl=[])→mM ops f m l
 |[],_,_,_=>trivial
 |r::l,f,m,h=>⟨fun q hq id⟨b,hid⟩=>(by rw[h q (by simp[hq])]at hid;cases hid),mM.none fun q hq=>h q (by simp[hq])⟩
theorem lv(hE:iP E)(hY:rD E.P E.aH E.fn.ntmps E.yl w0){mode:Nat}(iG:mode=1∨mode=2):∀(fuel:Nat){R:Type}{A:List (Nat×Bool)}{l:List (Nat×Oper)}{f:Fr}{m:Mem}{lg:Log}{k:Fr→Mem→Option R}{r:R},cp E ops mode fuel R A l f m lg k=some r→(∀x∈l,ops[x.1]?=some x.2)→(mode=1→∀x∈l,e9 x.2=true)→YK ops A l→∀F:Fr,tq f F→oU E.fn.ntmps ops A F→(∀x∈l,∀t∈x.2.looksAt ops,f t=F t)→∃(recs:List Rec)(f':Fr),k f' (nR m recs)=some r∧tq f' (kX F recs)∧recs.map (fun r=>(r.i,r.o))=l∧fv E ops w0 F m recs∧Fu (E:=E) ops mode F m lg recs
 |0,_,_,_,_,_,_,_,_,h,_,_,_,_,_,_,_=>by simp[cp]at h
 |fuel+1,R,A,[],f,m,lg,k,r,h,_,_,_,F,hF,_,_=>by simp only[cp]at h;exact⟨[],f,h,hF,rfl,trivial,by simp,fun _=>.nil,by simp,.nil,trivial,by simp⟩
 |fuel+1,R,A,(i,o)::rest,f,m,lg,k,r,h,hl,Q0,Ce,F,hF,hA,Ag=>by
  have YR:(Nat.beq mode 1||Nat.beq mode 2)=true:=by rcases iG with rfl|rfl<;>rfl
  simp only[cp,YR]at h;split at h
  ·rename_i hg;split at h
   ·rename_i hd;have aaM:∀x∈o.op.operands,bA E f x=bA E F x:=vz (Ag (i,o) (by simp));split at h
    ·rename_i kl ft il;have YV:mode=2:=by
      rcases iG with rfl|rfl
      ·cases il
      ·rfl
     subst YV;have il:E7 E f m o=some (kl,ft):=il;split at h
     ·rename_i AN;simp only[Bool.and_eq_true,List.all_eq_true]at AN;obtain⟨⟨ae0,ae1⟩,ae2⟩:=AN;obtain⟨St,v,wr,ft1,hk,YT,jA,hn⟩:=PH il h;obtain⟨recs,f',c1,c2,c3,c4,c5⟩:=lv hE hY (.inr rfl) fuel hk (fun x hx=>hl x (by simp[hx])) (fun hm=>by cases hm) (fun x hx=>Ce x (by simp[hx])) (gW (kf kl F) o.dst v) ((tq.kf (kl:=kl) hF).put _ _) (oU.put (oU.kf (kl:=kl) hA) fun g oc t ht=>Ce (i,o) (by simp) g oc t ht) (fun x hx t ht=>by
       by_cases e:o.dst=some t
       ·rw[e,iW,iW]
       ·rw[dP e,dP e];exact xE (Ag x (by simp[hx]) t ht))
      have oV:∀q∈recs,reach ops 4 q.o i=true:=fun q hq=>ae2 (q.i,q.o) (by rw[←c3];exact List.mem_map.2 ⟨q,hq,rfl⟩);have YW:ops.toList.any (isApp E)=true:=List.any_eq_true.2 ⟨o,List.mem_of_getElem? (by rw[Array.getElem?_toList];exact hl (i,o) (by simp)),St⟩;refine⟨⟨i,o,v,wr,ft,kl⟩::recs,f',c1,c2,by simp[c3],⟨PI hE hY hg hA hd aaM hn,fun j b hb=>YT _ hb,c4⟩,?_⟩;refine⟨fun hm=>(by cases hm),fun hm=>List.pairwise_cons.2 ⟨fun q hq=>.inl (oV q hq),c5.ord hm⟩,fun hm q hq=>?_,List.pairwise_cons.2 ⟨fun q hq _=>oV q hq,c5.kl⟩,⟨fun q hq nN _=>.inl (oV q hq),c5.cln⟩,fun q hq nN hid=>?_⟩
      ·rcases List.mem_cons.1 hq with rfl|hq
       ·exact y4 ae0
       ·exact fun y hy x hx=>c5.log hm q hq y hy x (List.mem_append.2 (.inr hx))
      ·rcases List.mem_cons.1 hq with rfl|hq
       ·obtain⟨bb,hid⟩:=hid;exact⟨rfl,YW,jA _ hid,Co (ae1 _ hid)⟩
       ·obtain⟨g1,g2,g3,g4⟩:=c5.nam q hq nN hid;exact⟨g1,g2,g3,fun x hx=>g4 x (List.mem_append.2 (.inr hx))⟩
     ·cases h
    ·rcases Fq hE h with⟨v,f1,m1,ft,hk,PB⟩|⟨wz,_⟩
     rotate_left
     ·cases wz
     obtain⟨YO,wr,aaN,YT,hn⟩:=PB.drawn rfl;subst YO;have Pa:∀(f2:Fr)(m2:Mem),(∀x∈o.op.operands,bA E f2 x=bA E F x)→(∀x∈ft,m2 x.2=m x.2)→∀(R':Type)(k':V→Fr→Mem→bq→Option R'),GO E true (cD E o.dst) o f2 m2 k'=k' v f2 (rr wr m2) ft:=fun f2 m2 hf=>hn f2 m2 fun x hx=>by rw[hf x hx,aaM x hx]
     have step:∀(wr':List (Nat×bL))(lg':Log),rr wr' m=m1→(mode=1→wr'=[])→(∀id b,(id,b)∈wr'→(true,id)∈ft)→Ek E ops w0 ⟨i,o,v,wr',ft,[]⟩ F m→cp E ops mode fuel R A rest (gW f1 o.dst v) m1 lg' k=some r→(mode=2→lg'=(bif ops.toList.any (isApp E)then(A0 ops o f1 m m1 v ft).map (fun n=>(i,false,ve n))else[])++(ft.map (fun x=>(i,x))++lg)∧yK ops o lg ft=true)→∃(recs:List Rec)(f':Fr),k f' (nR m recs)=some r∧tq f' (kX F recs)∧recs.map (fun r=>(r.i,r.o))=(i,o)::rest∧fv E ops w0 F m recs∧Fu (E:=E) ops mode F m lg recs:=by
      intro wr' lg' hwm NQ hw2 YQ Vw hlg;obtain⟨recs,f',c1,c2,c3,c4,c5⟩:=lv hE hY iG fuel Vw (fun x hx=>hl x (by simp[hx])) (fun hm x hx=>Q0 hm x (by simp[hx])) (fun x hx=>Ce x (by simp[hx])) (gW F o.dst v) (hF.put _ _) (oU.put hA fun g oc t ht=>Ce (i,o) (by simp) g oc t ht) (fun x hx t ht=>by
       by_cases e:o.dst=some t
       ·rw[e,iW,iW]
       ·rw[dP e,dP e];exact Ag x (by simp[hx]) t ht)
      subst hwm;refine⟨⟨i,o,v,wr',ft,[]⟩::recs,f',c1,c2,by simp[c3],⟨YQ,hw2,c4⟩,?_⟩;have Xd:mode=2→∀x∈lg,x∈lg':=fun hm x hx=>by rw[(hlg hm).1];exact List.mem_append.2 (.inr (List.mem_append.2 (.inr hx)))
      have Sv:mode=2→∀x∈ft,(i,x)∈lg':=fun hm x hx=>by rw[(hlg hm).1];exact List.mem_append.2 (.inr (List.mem_append.2 (.inl (List.mem_map.2 ⟨x,hx,rfl⟩))))
      refine⟨fun hm q hq=>?_,fun hm=>List.pairwise_cons.2 ⟨fun q hq=>?_,c5.ord hm⟩,fun hm q hq=>?_,List.pairwise_cons.2 ⟨fun q hq h=>absurd rfl h,c5.kl⟩,⟨fun q hq id hid=>?_,c5.cln⟩,fun q hq id hid=>?_⟩
      ·rcases List.mem_cons.1 hq with rfl|hq
       ·exact⟨NQ hm,rfl⟩
       ·exact c5.one hm q hq
      ·have d2:=c5.log hm;by_cases he:reach ops 4 q.o i=true
       ·exact .inl he
       ·refine .inr ⟨fun id b hb x hx hxi=>?_,fun id b hb x hx hxi=>?_⟩
        ·rcases d2 q hq x hx (i,true,id) (Sv hm (true,id) (hw2 id b hb))with h|h|h
         ·exact h hxi
         ·cases h.2
         ·exact he h
        ·rcases d2 q hq (true,id) (fv.wr c4 q hq id b hb) (i,x) (Sv hm x hx)with h|h|h
         ·exact h hxi.symm
         ·cases h.1
         ·exact he h
      ·rcases List.mem_cons.1 hq with rfl|hq
       ·exact y4 (hlg hm).2
       ·exact fun y hy x hx=>c5.log hm q hq y hy x (Xd hm x hx)
      ·obtain⟨g1,g2,g3,g4⟩:=c5.nam q hq id hid;by_cases he:reach ops 4 q.o i=true
       ·exact .inl he
       ·refine .inr (Sr (Ag (i,o) (by simp)) hw2 (fun bO=>he (g4 (i,false,ve id) ?_ rfl)) fun x hx hxi=>?_)
        ·rw[(hlg g1).1,g2];exact List.mem_append.2 (.inl (List.mem_map.2 ⟨id,bO,rfl⟩))
        ·rcases c5.log g1 q hq (true,id) g3 (i,x) (Sv g1 x hx)with h|h|h
         ·exact h hxi.symm
         ·cases h.1
         ·exact he h
      ·rcases List.mem_cons.1 hq with rfl|hq
       ·obtain⟨_,hid⟩:=hid;cases hid
       ·obtain⟨g1,g2,g3,g4⟩:=c5.nam q hq id hid;exact⟨g1,g2,g3,fun x hx=>g4 x (Xd g1 x hx)⟩
     rcases iG with rfl|rfl
     ·simp only[Nat.beq,Bool.false_eq_true,if_false]at hk;split at hk
      ·rename_i hqf;have YX:wr=[]:=by
        cases wr with
        |nil=>rfl
        |cons x l=>have:=wE hqf _ (YT x (by simp));cases this
       subst YX;exact step [] lg aaN.symm (fun _=>rfl) (by simp) (Cn hE hg hA hd Pa) hk (by simp)
      ·cases hk
     ·simp only[Nat.beq,if_true]at hk;split at hk
      ·rename_i hof;exact step wr _ aaN.symm (by simp) (fun id b hb=>YT _ hb) (Cn hE hg hA hd Pa) hk fun _=>⟨rfl,hof⟩
      ·cases hk
   ·cases h
  ·rename_i j yL hg;split at h
   ·rename_i tj Q1;split at h
    ·rename_i b hb;generalize il:zJ A ((i,o)::rest)=sp at h;obtain⟨body,GQ⟩:=sp;have lu:=Cc il;have hm0:Nat.beq mode 0=false:=by rcases iG with rfl|rfl<;>rfl
     simp only[hm0,Bool.false_and,Bool.false_eq_true,if_false]at h;split at h
     ·rename_i ip p k8;split at h
      ·rename_i c x y J4;split at h
       ·rename_i hc;simp only[Bool.and_eq_true,List.all_eq_true,Bool.not_eq_true',beq_eq_false_iff_ne,ne_eq]at hc;obtain⟨⟨⟨⟨⟨⟨J5,YN⟩,wb⟩,Sb⟩,YY⟩,hpd⟩,cM⟩:=hc;have YZ:mode=1:=by
         rcases iG with h|h
         ·exact h
         ·subst h;simp[Nat.beq]at cM
        subst YZ;have J5:=Nat.eq_of_beq_eq_true J5;subst J5;have YN:guardOf p A=none:=by simpa using YN
        obtain⟨rb,Jp,h⟩:=Option.bind_eq_some_iff.1 h;have bO:∀z∈body,z∈(i,o)::rest:=fun z hz=>by rw[lu];simp[hz]
        have tb:∀z∈k8,z∈(i,o)::rest:=fun z hz=>by rw[lu];simp[hz]
        have Hj:(ip,p)∈(i,o)::rest:=by rw[lu];simp
        obtain⟨Sa,hb⟩:=Ca hb;have hFc:F c=.pv (.bool b):=by
         rcases hF c with e|e
         ·rw[←e];exact hb
         ·rw[e]at hb;cases hb
        have after:∀(qu:List Rec)(q:Operand),qu.map (fun r=>(r.i,r.o))=body→fv E ops w0 F m qu→(∀q∈qu,q.wr=[]∧q.kl=[])→bA E (kX F qu) q=.pv (.bool rb)→(q=if b then x else y)→∃(recs:List Rec)(f':Fr),k f' (nR m recs)=some r∧tq f' (kX F recs)∧recs.map (fun r=>(r.i,r.o))=body++(ip,p)::k8∧fv E ops w0 F m recs∧(∀q∈recs,q.wr=[]∧q.kl=[]):=by
         intro qu q aaO aaP YX hq hqe;have VA:∀t,(∀z∈body,z.2.dst≠some t)→kX F qu t=F t:=fun t ht=>Ej fun q hq=>⟨ht (q.i,q.o) (by rw[←aaO];exact List.mem_map.2 ⟨q,hq,rfl⟩),(YX q hq).2⟩;have hA1:oU E.fn.ntmps ops A (kX F qu):=fun g oc=>by obtain⟨t,h1,h0,h2⟩:=hA g oc;exact⟨t,h1,h0,by rw[VA t fun z hz=>Ce z (bO z hz) g oc t h1];exact h2⟩
         have QV:kX F qu c=.pv (.bool b):=by rw[VA c fun z hz=>(wb z hz).2];exact hFc
         have hrp:Ek E ops w0 ⟨ip,p,.pv (.bool rb),[],[],[]⟩ (kX F qu) m:=Cn hE YN hA1 hpd fun f2 m2 hf hm R' k'=>by
          have oL:bA E f2 (.tmp c)=.pv (.bool b):=by have:=hf (.tmp c) (by rw[J4];simp[Op.operands]);rw[this,Vv Sa];exact QV
          have WO:bA E f2 q=.pv (.bool rb):=by rw[hf q (by rw[J4,hqe];cases b<;>simp[Op.operands])];exact hq
          rw[Hi J4 oL,←hqe,WO];rfl
         obtain⟨recs,f',c1,c2,c3,c4,c5⟩:=lv hE hY (.inl rfl) fuel h (fun z hz=>hl z (tb z hz)) (fun hm z hz=>Q0 hm z (tb z hz)) (fun z hz=>Ce z (tb z hz)) (gW (kX F qu) p.dst (.pv (.bool rb))) (tq.put (vw fun t ht=>by rw[VA t ht];exact hF t) _ _) (oU.put hA1 fun g oc t ht=>Ce (ip,p) Hj g oc t ht) (fun z hz t ht=>by
          by_cases e:p.dst=some t
          ·rw[e,iW,iW]
          ·have hnb:∀u∈body,u.2.dst≠some t:=fun u hu hud=>by
            have h1:=YY z hz;simp only[blind,List.all_eq_true]at h1;have h2:=h1 u hu;rw[hud]at h2;simp only[Bool.not_eq_true']at h2;have:(z.2.looksAt ops).elem t=true:=by simpa using ht
            rw[this]at h2;cases h2
           rw[dP e,dP e,vv hnb,VA t hnb];exact Ag z (tb z hz) t ht)
         have hmB:nR m qu=m:=Em YX;refine⟨qu++⟨ip,p,.pv (.bool rb),[],[],[]⟩::recs,f',?_,?_,by simp[aaO,c3],?_,fun q hq=>?_⟩
         ·rw[Ho,hmB];exact c1
         ·rw[Hn];exact c2
         ·refine fv.append.2 ⟨aaP,?_⟩;rw[hmB];exact⟨hrp,by simp,c4⟩
         ·rcases List.mem_append.1 hq with h|h
          ·exact YX q h
          ·rcases List.mem_cons.1 h with rfl|h
           ·exact⟨rfl,rfl⟩
           ·exact c5.one rfl q h
        have fin:(∃(recs:List Rec)(f':Fr),k f' (nR m recs)=some r∧tq f' (kX F recs)∧recs.map (fun r=>(r.i,r.o))=body++(ip,p)::k8∧fv E ops w0 F m recs∧(∀q∈recs,q.wr=[]∧q.kl=[]))→∃(recs:List Rec)(f':Fr),k f' (nR m recs)=some r∧tq f' (kX F recs)∧recs.map (fun r=>(r.i,r.o))=(i,o)::rest∧fv E ops w0 F m recs∧Fu (E:=E) ops 1 F m lg recs:=by rintro⟨recs,f',c1,c2,c3,c4,c5⟩;exact⟨recs,f',c1,c2,by rw[lu];exact c3,c4,fun _=>c5,fun h=>(by cases h),fun h=>(by cases h),List.Pairwise.imp_of_mem (R:=fun _ _=>True) (fun{q r}hq hr _ h=>absurd (c5 q hq).2 h) (List.pairwise_of_forall fun _ _=>trivial),mM.none fun q hq=>(c5 q hq).2,fun q hq id⟨_,hid⟩=>(by rw[(c5 q hq).2]at hid;cases hid)⟩
        have go:∀q,b=yL→(q=if b then x else y)→cp E ops 1 fuel Bool ((j,yL)::A) body f m lg (fun f _=>vQ (bA E f q))=some rb→∃(recs:List Rec)(f':Fr),k f' (nR m recs)=some r∧tq f' (kX F recs)∧recs.map (fun r=>(r.i,r.o))=body++(ip,p)::k8∧fv E ops w0 F m recs∧(∀q∈recs,q.wr=[]∧q.kl=[]):=by
         intro q PC hq Vw;obtain⟨qu,f1,c1,c2,c3,c4,c5⟩:=lv hE hY (.inl rfl) fuel Vw (fun z hz=>hl z (bO z hz)) (fun hm z hz=>Q0 hm z (bO z hz)) (fun z hz g oc t ht=>by
          rcases List.mem_cons.1 oc with rfl|oc
          ·simp only[Q1]at ht;cases ht;exact(wb z hz).2
          ·exact Ce z (bO z hz) g oc t ht) F hF (fun g oc=>by
          rcases List.mem_cons.1 oc with rfl|oc
          ·exact⟨c,Q1,Sa,by rw[hFc,PC]⟩
          ·exact hA g oc) (fun z hz=>Ag z (bO z hz))
         refine after qu q c3 c4 (c5.one rfl) ?_ hq;have hv:=xB c1;rcases R7 (E:=E) c2 q with e|e
         ·rw[←e];exact hv
         ·rw[e]at hv;cases hv
        have no:∀q,b= !yL→(q=if b then x else y)→vQ (bA E (kZ f body) q)=some rb→∃(recs:List Rec)(f':Fr),k f' (nR m recs)=some r∧tq f' (kX F recs)∧recs.map (fun r=>(r.i,r.o))=body++(ip,p)::k8∧fv E ops w0 F m recs∧(∀q∈recs,q.wr=[]∧q.kl=[]):=by
         intro q PC hq Vw;obtain⟨s1,s2⟩:=El (E:=E) (w0:=w0) (m:=m) body F (fun z hz=>(wb z hz).1.2) (xA Q1 Sb (fun z hz=>hl z (bO z hz)) (fun z hz=>(wb z hz).2) (by rw[hFc,PC]) (by simp));refine after (body.map xF) q (by simp[xF,Function.comp_def]) s1 (fun u hu=>by obtain⟨z,_,rfl⟩:=List.mem_map.1 hu;exact⟨rfl,rfl⟩) ?_ hq;rw[s2];have hv:=xB Vw;have hle:tq (kZ f body) (gF F body):=vw fun t ht=>by rw[sI ht];exact hF t
         rcases R7 (E:=E) hle q with e|e
         ·rw[←e];exact hv
         ·rw[e]at hv;cases hv
        refine fin ?_;cases yL<;>cases b<;>simp only[cond]at Jp
        ·exact go y rfl rfl Jp
        ·exact no x rfl rfl Jp
        ·exact no y rfl rfl Jp
        ·exact go x rfl rfl Jp
       ·cases h
      ·cases h
     ·cases h
    ·cases h
   ·cases h
theorem qP{l:List Oper}:(i,o)∈(List.range l.length).zip l↔l[i]?=some o:=by
 rw[List.mem_iff_getElem?];constructor
 ·rintro⟨n,hn⟩;rw[List.getElem?_zip_eq_some]at hn;obtain⟨h1,h2⟩:=hn;rw[List.getElem?_range (by have:=(List.getElem?_eq_some_iff.1 h2).1;omega)]at h1;simp only[Option.some.injEq]at h1;subst h1;exact h2
 ·intro h;refine⟨i,List.getElem?_zip_eq_some.2 ⟨?_,h⟩⟩;exact List.getElem?_range (by have:=(List.getElem?_eq_some_iff.1 h).1;omega)
theorem tW:∀{l done:List (Nat×Oper)},mH ops done l=true→(∀x∈l,∀d∈done,reach ops 4 x.2 d.1=true∨d.2.apart ops x.2=true)∧l.Pairwise (fun q r=>reach ops 4 r.2 q.1=true∨q.2.apart ops r.2=true)∧∀x∈l,∀e∈x.2.after,Region.binds .any e=true→e.on<x.1
 |[],_,_=>⟨by simp,.nil,by simp⟩
 |(i,o)::r,done,h=>by
  simp only[mH,Bool.and_eq_true]at h;obtain⟨⟨h1,h2⟩,h3⟩:=h;obtain⟨i1,i2,i3⟩:=tW h3;have BM:∀{done:List (Nat×Oper)},vf ops done o=true→∀d∈done,reach ops 4 o d.1=true∨d.2.apart ops o=true:=by
   intro done;induction done with
   |nil=>intro _ d hd;cases hd
   |cons x l ih=>
    intro h d hd;simp only[vf,Bool.and_eq_true,Bool.or_eq_true]at h;rcases List.mem_cons.1 hd with rfl|hd
    ·exact h.1.symm
    ·exact ih h.2 d hd
  refine⟨fun x hx d hd=>?_,List.pairwise_cons.2 ⟨fun x hx=>i1 x hx (i,o) (by simp),i2⟩,fun x hx e he hb=>?_⟩
  ·rcases List.mem_cons.1 hx with rfl|hx
   ·exact BM h2 d hd
   ·exact i1 x hx d (by simp[hd])
  ·rcases List.mem_cons.1 hx with rfl|hx
   ·have:=List.all_eq_true.1 h1 e (Array.mem_toList_iff.2 he);simp only[hb,Bool.not_true,Bool.false_or]at this;rwa[Nat.blt_eq]at this
   ·exact i3 x hx e he hb
variable{rd:Option Nat}{fuel:Nat}{Q:Exit→Act→World→Prop}
theorem tX(hE:iP E)(hY:rD E.P E.aH E.fn.ntmps E.yl w0){mode:Nat}(iG:mode=1∨mode=2){l:List (Nat×Oper)}{base:Nat→Bool}(Q0:mode=1→∀x∈l,e9 x.2=true){k:Fr→Mem→Option R}{r:R}(hmz:∀x∈l,ops[x.1]?=some x.2)(Xe:(l.map Prod.fst).Pairwise (·<·))(Sf:∀x∈l,base x.1=false)(Sg:∀i o,ops[i]?=some o→base i=false→(∀x∈l,x.1≠i)→(∀x∈l,reach ops 8 o x.1=true)∨∃j,reach ops 8 o j=true∧base j=false∧∀x∈l,x.1≠j)(ae3:∀x∈l,∀e∈x.2.after,Region.binds .any e=true→base e.on=true∨∃y∈l,y.1=e.on)(hi:mH ops [] l=true)(h:cp E ops mode fuel R [] l f m [] k=some r)(hQ:∀(fuel:Nat)(listed:Array Bool),listed.size=ops.size→listed.toList.countP (fun b=> !b)≤fuel→wH ops listed→(∀i,aA listed i=true↔base i=true∨∃x∈l,x.1=i)→∀f' m' μ φ a w,k f' m'=some r→Rel E.P E.aH E.fn.ntmps w0 μ φ f' m' a w→wpAnyIn (FR rd) 0 E.P .any ops Q fuel listed a w):∀(fuel:Nat)(listed:Array Bool),listed.size=ops.size→listed.toList.countP (fun b=> !b)≤fuel→wH ops listed→(∀i,aA listed i=true↔base i=true)→∀(μ:Ro)(φ:Nat→aG)(a:Act)(w:World),Rel E.P E.aH E.fn.ntmps w0 μ φ f m a w→wpAnyIn (FR rd) 0 E.P .any ops Q fuel listed a w:=by
 intro aaQ listed hs hc ta hb μ φ a w hR;obtain⟨recs,f',c1,c2,c3,c4,c5⟩:=lv (w0:=w0) hE hY iG fuel h hmz Q0 (by intro x hx g hg;cases hg) f (tq.refl f) (by intro g hg;cases hg) (fun _ _ _ _=>rfl);obtain⟨_,i2,i3⟩:=tW hi;have bO:∀q∈recs,(q.i,q.o)∈l:=fun q hq=>by rw[←c3];exact List.mem_map.2 ⟨q,hq,rfl⟩
 have hof:∀x∈l,∃q∈recs,q.i=x.1:=fun x hx=>by rw[←c3]at hx;obtain⟨q,hq,rfl⟩:=List.mem_map.1 hx;exact⟨q,hq,rfl⟩
 have BM:recs.Pairwise fun q r=>reach ops 4 r.o q.i=true∨q.o.apart ops r.o=true:=by rw[←c3,List.pairwise_map]at i2;exact i2
 have Xf:recs.Pairwise (Sq (ops:=ops)):=by
  rcases iG with hm|hm
  ·exact List.Pairwise.imp_of_mem (fun{q r}hq hr _=>.inr ⟨fun id b hb=>(by rw[(c5.one hm q hq).1]at hb;cases hb),fun id b hb=>(by rw[(c5.one hm r hr).1]at hb;cases hb)⟩) BM
  ·exact c5.ord hm
 refine Se (E:=E) (w0:=w0) (recs:=recs) (f0:=f) (m0:=m) (base:=base) ?_ (fun q hq=>hmz _ (bO q hq)) (fun q hq=>Sf _ (bO q hq)) (fun i o ho hbi cQ=>?_) ?_ c5.kl c5.cln (fun q hq e he Fe=>⟨i3 _ (bO q hq) e he Fe,?_⟩) c4 ?_ aaQ listed hs hc ta (fun i hi=>(hb i).2 hi) (fun i hi=>Or.inl ((hb i).1 hi)) μ φ a w ?_
 ·rw[←c3,List.map_map]at Xe;have h2:(recs.map (Prod.fst∘fun r=>(r.i,r.o))).Pairwise (·<·):=Xe;rw[List.pairwise_map]at h2;exact h2
 ·have ae4:∀x∈l,x.1≠i:=fun x hx e=>by obtain⟨q,hq,Si⟩:=hof x hx;exact cQ q hq (by rw[Si];exact e)
  rcases Sg i o ho hbi ae4 with h1|⟨j,h1,h2,h3⟩
  ·exact Or.inl fun q hq=>h1 _ (bO q hq)
  ·exact Or.inr ⟨j,h1,h2,fun q hq=>h3 _ (bO q hq)⟩
 ·refine List.Pairwise.imp (fun{q r}h=>?_) (List.Pairwise.and BM Xf);obtain⟨h1,h2⟩:=h;rcases h1 with h1|h1
  ·exact .inl h1
  ·rcases h2 with h2|h2
   ·exact .inl h2
   ·exact .inr ⟨h1,h2⟩
 ·rcases ae3 _ (bO q hq) e he Fe with h1|⟨y,hy,h1⟩
  ·exact Or.inl h1
  ·obtain⟨q',Pc,Si⟩:=hof y hy;exact Or.inr ⟨q',Pc,by rw[Si];exact h1⟩
 ·intro Xg N1 Yz BB ae5 oL μ2 φ2 a2 w2 Eb;refine hQ Xg N1 Yz BB ae5 (fun i=>?_) _ _ μ2 φ2 a2 w2 c1 (Eb.weaken c2);rw[oL i];constructor
  ·rintro(h1|⟨q,hq,h1⟩)
   ·exact Or.inl h1
   ·exact Or.inr ⟨_,bO q hq,h1⟩
  ·rintro(h1|⟨x,hx,h1⟩)
   ·exact Or.inl h1
   ·obtain⟨q,hq,Si⟩:=hof x hx;exact Or.inr ⟨q,hq,by rw[Si];exact h1⟩
 ·have hS:∀q∈recs,aA listed q.i=false:=fun q hq=>by
   cases hx:aA listed q.i with
   |false=>rfl
   |true=>have:=(hb q.i).1 hx;rw[Sf _ (bO q hq)]at this;cases this
  rw[show mW (aA listed) f recs=f from funext fun t=>od fun q hq hs=>(by rw[hS q hq]at hs;cases hs),show mX (aA listed) m recs=m from funext fun t=>og fun q hq hs=>(by rw[hS q hq]at hs;cases hs)];exact hR
variable{x:Nat×Oper}
theorem wJ(hx:x∈(List.range ops.size).zip ops.toList):ops[x.1]?=some x.2:=by have:=(qP (l:=ops.toList) (i:=x.1) (o:=x.2)).1 (by simpa using hx);rwa[Array.getElem?_toList]at this
theorem oX(ho:ops[i]?=some o):(i,o)∈(List.range ops.size).zip ops.toList:=by have:=(qP (l:=ops.toList) (i:=i) (o:=o)).2 (by rw[Array.getElem?_toList];exact ho);simpa using this
theorem zip_fst:((List.range ops.size).zip ops.toList).map Prod.fst=List.range ops.size:=by rw[List.map_fst_zip (by simp)]
variable{P:Program}
theorem Cp{F:Fence}{n:Nat}{listed:Array Bool}(hs:listed.size=ops.size)(AQ:∀i o,ops[i]?=some o→aA listed i=true)(hq:Q .normal a w):wpAnyIn F n P .any ops Q fuel listed a w:=by
 have hr:Region.ready .any ops listed=[]:=by
  apply List.eq_nil_iff_forall_not_mem.2;intro j hj;obtain⟨h0,o,ho,_⟩:=mem_ready.1 hj;have h1:=AQ j o ho;have bu:j<listed.size:=by rw[hs];exact(Array.getElem?_eq_some_iff.1 ho).1
  simp only[aA,Array.getD_eq_getD_getElem?,Array.getElem?_eq_getElem bu,Option.getD_some]at h0 h1;rw[h0]at h1;cases h1
 cases fuel with
 |zero=>exact⟨hr,hq⟩
 |succ fuel=>exact⟨fun _=>hq,fun i hi=>by rw[hr]at hi;cases hi⟩
theorem tY(n j:Nat):aA (Array.replicate n false) j=false:=by simp only[aA,Array.getD_eq_getD_getElem?,Array.getElem?_replicate];split<;>rfl
theorem count_le(n:Nat):(Array.replicate n false).toList.countP (fun b=> !b)≤n:=by have:=List.countP_le_length (p:=fun b=> !b) (l:=(Array.replicate n false).toList);simpa using this
theorem Ah:wH ops (Array.replicate ops.size false):=fun i o _ h=>by rw[tY]at h;cases h
theorem Cq(hE:iP E)(hY:rD E.P E.aH E.fn.ntmps E.yl w0){mode:Nat}(iG:mode=1∨mode=2)(Q0:mode=1→∀o∈ops,e9 o=true){k:Fr→Mem→Option R}{r:R}(hi:mH ops [] ((List.range ops.size).zip ops.toList)=true)(h:cp E ops mode fuel R [] ((List.range ops.size).zip ops.toList) f m [] k=some r){μ:Ro}(hR:Rel E.P E.aH E.fn.ntmps w0 μ φ f m a w)(hQ:∀f' m' μ' φ' a' w',k f' m'=some r→Rel E.P E.aH E.fn.ntmps w0 μ' φ' f' m' a' w'→Q .normal a' w'):wpAnyIn (FR rd) 0 E.P .any ops Q ops.size (Array.replicate ops.size false) a w:=by
 refine tX (w0:=w0) (base:=fun _=>false) hE hY iG (fun hm x hx=>Q0 hm x.2 (Array.mem_of_getElem? (wJ hx))) (fun x hx=>wJ hx) (by rw[zip_fst];exact List.pairwise_lt_range) (fun _ _=>rfl) (fun i o ho _ cQ=>absurd rfl (cQ _ (oX ho))) (fun x hx e he hb=>Or.inr ?_) hi h ?_ ops.size _ (by simp) (count_le _) Ah (fun i=>by rw[tY]) μ φ a w hR
 ·obtain⟨_,_,i3⟩:=tW hi;have h1:=i3 x hx e he hb;have h2:x.1<ops.size:=(Array.getElem?_eq_some_iff.1 (wJ hx)).1;exact⟨_,oX (Array.getElem?_eq_getElem (show e.on<ops.size by omega)),rfl⟩
 ·intro Xg N1 Yz _ _ oL f' m' μ2 φ2 a2 w2 hk Eb;exact Cp Yz (fun i o ho=>(oL i).2 (Or.inr ⟨_,oX ho,rfl⟩)) (hQ _ _ _ _ _ _ hk Eb)
theorem xH{j:Nat}(h:((List.range ops.size).zip ops.toList)[j]?=some x):x.1=j:=by
 have h1:(((List.range ops.size).zip ops.toList).map Prod.fst)[j]?=some x.1:=by rw[List.getElem?_map,h];rfl
 rw[zip_fst]at h1;obtain⟨h2,h3⟩:=List.getElem?_eq_some_iff.1 h1;rw[List.getElem_range]at h3;exact h3.symm
theorem mY{p:Nat}:x∈((List.range ops.size).zip ops.toList).take p↔x∈(List.range ops.size).zip ops.toList∧x.1<p:=by
 constructor
 ·intro h;obtain⟨j,hj⟩:=List.getElem?_of_mem h;have hjp:j<p:=by have:=(List.getElem?_eq_some_iff.1 hj).1;simp at this;omega
  rw[List.getElem?_take_of_lt hjp]at hj;exact⟨List.mem_of_getElem? hj,by rw[xH hj];exact hjp⟩
 ·rintro⟨h,hx⟩;obtain⟨j,hj⟩:=List.getElem?_of_mem h;have:=xH hj;exact List.mem_of_getElem? (i:=j) (by rw[List.getElem?_take_of_lt (by omega)];exact hj)
theorem rP{p:Nat}:x∈((List.range ops.size).zip ops.toList).drop p↔x∈(List.range ops.size).zip ops.toList∧p≤x.1:=by
 constructor
 ·intro h;obtain⟨j,hj⟩:=List.getElem?_of_mem h;rw[List.getElem?_drop]at hj;exact⟨List.mem_of_getElem? hj,by rw[xH hj];omega⟩
 ·rintro⟨h,hx⟩;obtain⟨j,hj⟩:=List.getElem?_of_mem h;have:=xH hj;exact List.mem_of_getElem? (i:=j-p) (by rw[List.getElem?_drop,show p+(j-p)=j by omega];exact hj)
variable{K:Act→World→Prop}{Q':Exit→Act→World→Prop}
theorem Oper.Ka{F:Fence}{n:Nat}(h:∀e a w,e≠.normal→Q' e a w→Q e a w)(hh:o.wpIn F n P a w K Q'):o.wpIn F n P a w K Q:=by
 unfold Oper.wpIn at*;refine⟨hh.1,?_⟩;have hh:=hh.2;have aaR:LetsOut Q'→LetsOut Q:=fun⟨a,w,hq⟩=>⟨a,w,h _ _ _ (by simp) hq⟩;generalize (o.semAt F.round a.eval).run P w=r at*;cases r with
 |ok x w'=>
  cases x<;>simp only[Oper.uponIn]at hh⊢<;>first
   |exact hh
   |exact⟨hh.1,CallsIn.mono hh.2 (fun e w'' he=>by cases e<;>first|exact aaR he|exact h _ _ _ (by simp) he|exact he)⟩
   |exact⟨hh.1,RoundIn.mono hh.2 (fun e w'' he=>by cases e<;>first|exact aaR he|exact h _ _ _ (by simp) he|exact he)⟩
 |halt x w'=>cases x<;>simp only[Oper.uponIn]at hh⊢<;>first|exact h _ _ _ (by simp) hh|exact hh
theorem Fv{F:Fence}{n:Nat}(h:∀e a w,e≠.normal→Q' e a w→Q e a w)(hh:wpOpIn F n P ops Q' i K a w):wpOpIn F n P ops Q i K a w:=by
 unfold wpOpIn at*;split
 ·simpa[*]using hh
 ·rename_i o ho;simp only[ho]at hh;split
  ·rename_i hw;simp only[hw,if_true]at hh;exact Oper.Ka h hh
  ·rename_i hw;simp only[hw]at hh;exact hh
theorem Kb(hE:iP E)(hY:rD E.P E.aH E.fn.ntmps E.yl w0){p:Nat}(PJ:Rq ops p=true){k:Fr→Mem→Option R}{r:R}(Y0:mH ops [] (((List.range ops.size).zip ops.toList).take p)=true)(hi3:mH ops [] (((List.range ops.size).zip ops.toList).drop (p+1))=true){n1 n2 n3:Nat}(h:(cp E ops 2 n1 R [] (((List.range ops.size).zip ops.toList).take p) f m [] fun f m=>cp E ops 0 n2 R [] ((((List.range ops.size).zip ops.toList).drop p).take 1) f m [] fun f m=>cp E ops 2 n3 R [] (((List.range ops.size).zip ops.toList).drop (p+1)) f m [] k)=some r){μ:Ro}(hR:Rel E.P E.aH E.fn.ntmps w0 μ φ f m a w)(hQ:∀f' m' μ' φ' a' w',k f' m'=some r→Rel E.P E.aH E.fn.ntmps w0 μ' φ' f' m' a' w'→Q .normal a' w'):wpAnyIn (FR rd) 0 E.P .any ops Q ops.size (Array.replicate ops.size false) a w:=by
 unfold Rq at PJ;cases ho:ops[p]? with
 |none=>rw[ho]at PJ;cases PJ
 |some o=>
  rw[ho]at PJ;simp only[Bool.and_eq_true]at PJ;obtain⟨⟨_,Dv⟩,hpa⟩:=PJ;have hpn:p<ops.size:=(Array.getElem?_eq_some_iff.1 ho).1;have NY:∀e∈o.after,Region.binds .any e=true→e.on<p:=fun e he hb=>by have:=List.all_eq_true.1 Dv e (Array.mem_toList_iff.2 he);rw[hb,Bool.not_true,Bool.false_or]at this;exact Nat.le_of_ble_eq_true this
  have ae6:∀i,i<p→reach ops 8 o i=true:=fun i hi=>by
   have:=List.all_eq_true.1 hpa _ (oX (Array.getElem?_eq_getElem (show i<ops.size by omega)));simp only at this;have hb:Nat.blt i p=true:=by simp[Nat.blt];omega
   rw[hb]at this;exact this
  have aaS:∀i o',ops[i]?=some o'→p<i→reach ops 8 o' p=true:=fun i o' PF hi=>by
   have:=List.all_eq_true.1 hpa _ (oX PF);simp only at this;have hb:Nat.blt i p=false:=by
    cases hx:Nat.blt i p with
    |false=>rfl
    |true=>have:i<p:=Nat.le_of_ble_eq_true hx;omega
   have oL:Nat.beq i p=false:=by
    cases hx:Nat.beq i p with
    |false=>rfl
    |true=>have:=Nat.eq_of_beq_eq_true hx;omega
   rw[hb,oL]at this;simpa using this
  refine tX (w0:=w0) (base:=fun _=>false) hE hY (.inr rfl) (fun h=>by cases h) (fun x hx=>wJ (mY.1 hx).1) (by rw[List.map_take,zip_fst];exact(List.pairwise_lt_range).sublist (List.take_sublist _ _)) (fun _ _=>rfl) (fun i o' PF _ cQ=>?_) (fun x hx e he hb=>Or.inr ?_) Y0 h ?_ ops.size _ (by simp) (count_le _) Ah (fun i=>by rw[tY]) μ φ a w hR
  ·have hip:¬i<p:=fun hc=>cQ _ (mY.2 ⟨oX PF,hc⟩) rfl;by_cases hi:i=p
   ·subst hi;rw[ho]at PF;cases PF;exact Or.inl fun x hx=>ae6 _ (mY.1 hx).2
   ·exact Or.inr ⟨p,aaS i o' PF (by omega),rfl,fun x hx=>by have:=(mY.1 hx).2;omega⟩
  ·obtain⟨_,_,i3⟩:=tW Y0;have h1:=i3 x hx e he hb;have h2:=(mY.1 hx).2;exact⟨_,mY.2 ⟨oX (Array.getElem?_eq_getElem (show e.on<ops.size by omega)),by show e.on<p;omega⟩,rfl⟩
  ·intro fuel listed hs hc ta hb f1 m1 μ1 φ1 a1 w1 Pq J6;have bu:∀i,aA listed i=true↔i<p:=fun i=>by
    rw[hb i];constructor
    ·rintro(h|⟨x,hx,rfl⟩)
     ·cases h
     ·exact(mY.1 hx).2
    ·intro hi;exact Or.inr ⟨_,mY.2 ⟨oX (Array.getElem?_eq_getElem (show i<ops.size by omega)),hi⟩,rfl⟩
   have mq:p<listed.size:=by rw[hs];exact hpn
   have hpu:aA listed p=false:=by
    cases hx:aA listed p with
    |false=>rfl
    |true=>have:=(bu p).1 hx;omega
   have Y1:listed[p]=false:=by simpa only[aA,Array.getD_eq_getD_getElem?,Array.getElem?_eq_getElem mq,Option.getD_some]using hpu
   cases fuel with
   |zero=>have:=List.countP_eq_zero.1 (Nat.le_zero.1 hc) listed[p] (by simp);rw[Y1]at this;simp at this
   |succ fuel=>
    have Sw:p∈Region.ready .any ops listed:=mem_ready.2 ⟨by simp only[Array.getD_eq_getD_getElem?,Array.getElem?_eq_getElem mq,Option.getD_some];exact Y1,o,ho,fun e he Fe=>(bu e.on).2 (NY e he Fe)⟩;refine⟨(fun h0=>by rw[h0]at Sw;cases Sw),fun i hi=>?_⟩;obtain⟨PE,o',PF,y0⟩:=mem_ready.1 hi;have oV:i<listed.size:=by rw[hs];exact(Array.getElem?_eq_some_iff.1 PF).1
    have hiu:aA listed i=false:=by simp only[aA,Array.getD_eq_getD_getElem?,Array.getElem?_eq_getElem oV,Option.getD_some]at PE⊢;exact PE
    have hip:i=p:=by
     refine Classical.byContradiction fun cQ=>?_;have h1:¬i<p:=fun hc=>by rw[(bu i).2 hc]at hiu;cases hiu
     have:=oW listed ta 8 o' p y0 (aaS i o' PF (by omega));rw[hpu]at this;cases this
    subst hip;have hL:(((List.range ops.size).zip ops.toList).drop i).take 1=[(i,o)]:=by
     have hlen:i<((List.range ops.size).zip ops.toList).length:=by simp;exact hpn
     rw[List.drop_eq_getElem_cons hlen];have hg:((List.range ops.size).zip ops.toList)[i]=(i,o):=by have h1:((List.range ops.size).zip ops.toList)[i]?=some ((List.range ops.size).zip ops.toList)[i]:=List.getElem?_eq_getElem hlen;have h2:=xH h1;have h3:=wJ (List.mem_of_getElem? h1);rw[h2,ho]at h3;exact Prod.ext h2 (Option.some.inj h3).symm
     rw[hg];rfl
    rw[hL]at Pq;have Xb:∀j,aA (listed.setIfInBounds i true) j=if j=i then true else aA listed j:=fun j=>by
     simp only[aA,Array.getD_eq_getD_getElem?,Array.getElem?_setIfInBounds];by_cases e:i=j
     ·subst e;simp[mq]
     ·have e':¬j=i:=fun h=>e h.symm;simp[e,e']
    have hle:∀j,aA (listed.setIfInBounds i true) j=true↔j≤i:=fun j=>by
     rw[Xb];by_cases e:j=i
     ·simp[e]
     ·rw[if_neg e,bu];omega
    have aaT:=gB (rd:=rd) (w0:=w0) hE hY _ (.inl rfl) Pq (by intro x hx;rw[List.mem_singleton]at hx;subst hx;exact ho) (by intro x hx g hg;cases hg) (fun h=>by cases h) μ1 φ1 a1 w1 (fun e a w=>(e=.normal∧wpAnyIn (FR rd) 0 E.P .any ops Q fuel (listed.setIfInBounds i true) a w)∨(e≠.normal∧Q e a w)) [] J6 (by intro g hg;cases hg) fun f2 m2 μ2 φ2 a2 w2 Vl Eb _ _=>Or.inl ⟨rfl,?_⟩
    ·rw[List.append_nil,List.map_cons,List.map_nil,wpOpsIn_cons]at aaT;refine wpOpIn_mono (fun a w hq=>?_) (Fv (fun e a w cQ hq=>?_) aaT)
     ·rcases hq with⟨_,h⟩|⟨h,_⟩
      ·exact h
      ·exact absurd rfl h
     ·rcases hq with⟨h,_⟩|⟨_,h⟩
      ·exact absurd h cQ
      ·exact h
    ·refine tX (w0:=w0) (base:=fun j=>decide (j≤i)) hE hY (.inr rfl) (fun h=>by cases h) (fun x hx=>wJ (rP.1 hx).1) (by rw[List.map_drop,zip_fst];exact(List.pairwise_lt_range).sublist (List.drop_sublist _ _)) (fun x hx=>by have:=(rP.1 hx).2;simp;omega) (fun j oj hj hbj cQ=>?_) (fun x hx e he Fe=>?_) hi3 Vl ?_ fuel _ (by simp[hs]) ?_ ?_ (fun j=>by rw[hle j];simp) μ2 φ2 a2 w2 Eb
     ·simp only[decide_eq_false_iff_not]at hbj;exact absurd rfl (cQ _ (rP.2 ⟨oX hj,by show i+1≤j;omega⟩))
     ·obtain⟨_,_,i3⟩:=tW hi3;have h1:=i3 x hx e he Fe;have h2:x.1<ops.size:=(Array.getElem?_eq_some_iff.1 (wJ (rP.1 hx).1)).1;by_cases hei:e.on≤i
      ·exact Or.inl (by simpa using hei)
      ·exact Or.inr ⟨_,rP.2 ⟨oX (Array.getElem?_eq_getElem (show e.on<ops.size by omega)),by show i+1≤e.on;omega⟩,rfl⟩
     ·intro ahq aeB hs3 _ _ hb3 f3 m3 μ3 φ3 a3 w3 hk3 hR3;refine Cp hs3 (fun j oj hj=>(hb3 j).2 ?_) (hQ _ _ _ _ _ _ hk3 hR3);by_cases JY:j≤i
      ·exact Or.inl (by simpa using JY)
      ·exact Or.inr ⟨_,rP.2 ⟨oX hj,by show i+1≤j;omega⟩,rfl⟩
     ·rw[Array.toList_setIfInBounds,List.countP_set (by simpa using mq)];have:listed.toList[i]'(by simpa using mq)=false:=by simpa using Y1
      rw[this];simp only[Bool.not_false,if_true,Bool.not_true,Bool.false_eq_true,if_false];omega
     ·intro j oj hj hlj e he Fe;rw[hle]at hlj⊢;by_cases JY:j=i
      ·subst JY;rw[ho]at hj;cases hj;have:=NY e he Fe;omega
      ·have h1:=ta j oj hj ((bu j).2 (by omega)) e he Fe;have:=(bu e.on).1 h1;omega
end
end Go.Ab
