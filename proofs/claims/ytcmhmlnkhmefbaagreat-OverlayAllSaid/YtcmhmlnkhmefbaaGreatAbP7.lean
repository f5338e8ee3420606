import Derived.Test.YtcmhmlnkhmefbaaGreatAbP6
import Derived.OrdersIn
set_option linter.unusedVariables false
namespace Go.Ab
open Go.RowKit (Below)
def tr(f F:Fr):Prop:=∀t,f t=F t∨f t=.top
theorem tr.refl(f:Fr):tr f f:=fun _=>.inl rfl
theorem tr.put{f F:Fr}(h:tr f F)(d:Option Nat)(v:V):tr (gW f d v) (gW F d v):=by
 intro t;cases d with
 |none=>exact h t
 |some d=>
  simp only[gW,fm];cases Nat.beq t d
  ·exact h t
  ·exact .inl rfl
theorem dQ{f:Fr}{d:Option Nat}{v:V}{t:Nat}(h:d≠some t):gW f d v t=f t:=by
 cases d with
 |none=>rfl
 |some d=>exact oX (fun e=>h (by rw[e]))
theorem iX{f:Fr}{v:V}{t:Nat}:gW f (some t) v t=v:=by simp[gW,fm,Nat.beq_refl]
section
variable {E:Env} {ops:Array Oper} {w0:bx}
variable{nt:Nat}{μ:Ro}{φ:Nat→aG}{f:Fr}{m:Mem}{a:Act}
theorem Rel.weaken{f':Fr}{w:World}(h:Rel E.P E.aH nt w0 μ φ f m a w)(hf:tr f' f):Rel E.P E.aH nt w0 μ φ f' m a w:=
 {h with
  fr:=fun t=>by
   rcases hf t with e|e
   ·rw[e];exact h.fr t
   ·rw[e];exact .top,
  live:=fun t id hid=>by
   rcases hf t with e|e
   ·rw[e]at hid;exact h.live t id hid
   ·rw[e]at hid;cases hid}
variable{t:Nat}
theorem Cd{d:Nat}{y:Value}(hd:d<a.tmps.size):(a.put (some d) y).tmps.getD t undef=if t=d then y else a.tmps.getD t undef:=by
 simp only[Act.put,Array.getD_eq_getD_getElem?,Array.getElem?_setIfInBounds];by_cases e:d=t
 ·subst e;simp[hd]
 ·have e':¬t=d:=fun h=>e h.symm;simp[e,e']
theorem Rel.put{nt:Nat}{μ μ':Ro}{φ φ':Nat→aG}{f f':Fr}{m m':Mem}{a:Act}{w w':World}(h:Rel E.P E.aH nt w0 μ φ f m a w)(hle:Hx μ μ'){dst:Option Nat}{v:V}{y:Value}(hd:∀d,dst=some d→d<nt)(hM:az E.P E.aH w0 μ' φ' m' w')(hF:cm E.P μ' φ' m' f' (ay nt w0 a))(hv:ai E.P μ' φ' v y)(hl:∀id,v.has id=true→(m' id).isSome=true):Rel E.P E.aH nt w0 μ' φ' (gW f' dst v) m' (a.put dst y) w':=by
 refine{toaz:=hM,size:=?_,defers:=?_,kX:=h.kX,fr:=fun t=>?_,live:=fun t id hid=>?_}
 ·cases dst<;>simp[Act.put,h.size]
 ·cases dst<;>exact h.defers.mono hle
 ·cases dst with
  |none=>exact hF.fr t
  |some d=>
   have bu:d<a.tmps.size:=by rw[h.size];exact hd d rfl
   have hf:=hF.fr t;by_cases e:t=d
   ·subst e;rw[oS (hd t rfl),Cd bu,if_pos rfl,iX];exact hv
   ·rw[dQ (by simpa using fun h=>e h.symm)];unfold ay at hf⊢;split
    ·rename_i ht;rw[if_pos ht]at hf;rw[Cd bu,if_neg e];exact hf
    ·rename_i ht;rw[if_neg ht]at hf;exact hf
 ·by_cases e:dst=some t
  ·subst e;rw[iX]at hid;exact hl id hid
  ·rw[dQ e]at hid;exact hF.live t id hid
theorem VS(h:t<E.fn.ntmps):bC E f (.tmp t)=f t:=by simp only[bC];rw[show Nat.blt t E.fn.ntmps=true by rw[Nat.blt_eq];exact h];rfl
theorem Ce{p:PV}(h:bC E f (.tmp t)=.pv p):t<E.fn.ntmps∧f t=.pv p:=by
 simp only[bC]at h;cases e:Nat.blt t E.fn.ntmps with
 |true=>rw[e]at h;exact⟨by rwa[Nat.blt_eq]at e,h⟩
 |false=>rw[e]at h;cases h
theorem Sv{F:Fr}(h:tr f F)(q:Operand):bC E f q=bC E F q∨bC E f q=.top:=by
 cases q with
 |tmp t=>
  simp only[bC];cases Nat.blt t E.fn.ntmps with
  |true=>exact h t
  |false=>exact .inr rfl
 |_=>exact .inl rfl
def po(nt:Nat)(ops:Array Oper)(A:List (Nat×Bool))(f:Fr):Prop:=∀g∈A,∃t,(ops[g.1]?).bind (·.dst)=some t∧t<nt∧f t=.pv (.bool g.2)
def xz(ops:Array Oper)(A:List (Nat×Bool))(a:Act):Prop:=∀g∈A,∃t,(ops[g.1]?).bind (·.dst)=some t∧a.tmps.getD t undef=.bool g.2
def Y4(ops:Array Oper)(A:List (Nat×Bool))(l:List (Nat×Oper)):Prop:=∀x∈l,∀g∈A,∀t,(ops[g.1]?).bind (·.dst)=some t→x.2.dst≠some t
variable{d:Option Nat}{A:List (Nat×Bool)}
theorem po.put(h:po nt ops A f){v:V}(hd:∀g∈A,∀t,(ops[g.1]?).bind (·.dst)=some t→d≠some t):po nt ops A (gW f d v):=by intro g hg;obtain⟨t,h1,h0,h2⟩:=h g hg;exact⟨t,h1,h0,by rw[dQ (hd g hg t h1)];exact h2⟩
variable{o:Oper}
theorem gZ(h:tE E o=true):∀d,o.dst=some d→d<E.fn.ntmps:=by intro d hd;simp only[tE,hd]at h;rw[Nat.blt_eq]at h;exact h
variable{b:Bool}
theorem sG{j:Nat}(h:(ops[j]?).bind (·.dst)=some t)(hb:a.tmps.getD t undef=.bool b):yielded ops a.tmps j=some b:=by
 simp only[yielded,h,Option.bind_some];have:a.tmps[t]?=some (.bool b):=by
  rw[Array.getD_eq_getD_getElem?]at hb;cases e:a.tmps[t]? with
  |none=>rw[e]at hb;simp[undef]at hb
  |some x=>rw[e]at hb;simpa using hb
 rw[this]
theorem y0(ho:guardOf o A=none)(hA:xz ops A a):Region.wanted o (yielded ops a.tmps)=true:=by
 unfold guardOf at ho;unfold Region.wanted;split at ho
 ·rename_i hg;simp[hg]
 ·rename_i g hg;split at ho
  ·rename_i bO;obtain⟨t,h1,h2⟩:=hA g (by simpa using bO);simp only[hg];rw[sG h1 h2];simp
  ·cases ho
theorem xz.put(h:xz ops A a){y:Value}(hs:∀t,d=some t→t<a.tmps.size)(hd:∀g∈A,∀t,(ops[g.1]?).bind (·.dst)=some t→d≠some t):xz ops A (a.put d y):=by
 intro g hg;obtain⟨t,h1,h2⟩:=h g hg;refine⟨t,h1,?_⟩;cases d with
 |none=>exact h2
 |some d=>rw[Cd (hs d rfl),if_neg fun e=>hd g hg t h1 (by rw[e])];exact h2
def PU(ops:Array Oper)(f:Fr)(o:Oper):Prop:=∃g,o.guard=some g∧∀t,(ops[g.1]?).bind (·.dst)=some t→f t=.aZ []∨f t=.pv (.bool (!g.2))
theorem PW{P:Program}{x:Value}(h:ai P μ φ (.aZ []) x):x=undef:=by
 cases h with
 | @aZ _ xs h1 _=>have:xs= #[]:=Array.eq_empty_of_size_eq_zero (by simpa using h1.symm);subst this;rfl
theorem Cf{P:Program}:ai P μ φ (.aZ []) undef:=.aZ rfl (by simp)
theorem wb{w:World}(h:Rel E.P E.aH nt w0 μ φ f m a w)(hd:PU ops f o):Region.wanted o (yielded ops a.tmps)=false:=by
 obtain⟨g,hg,ht⟩:=hd;simp only[Region.wanted,hg];cases hs:(ops[g.1]?).bind (·.dst)with
 |none=>simp[yielded,hs]
 |some t=>
  have hy:nt≤t→yielded ops a.tmps g.1=none:=fun hle=>by simp only[yielded,hs,Option.bind_some];rw[Array.getElem?_eq_none (by rw[h.size];exact hle)]
  by_cases DD:nt≤t
  ·rw[hy DD];rfl
  have bu:t<nt:=Nat.lt_of_not_le DD;have h3:=h.fr t;rw[oS bu]at h3;rcases ht t hs with e|e
  ·rw[e]at h3;have h4:=PW h3;have:yielded ops a.tmps g.1=none:=by
    simp only[yielded,hs,Option.bind_some];rw[Array.getD_eq_getD_getElem?]at h4;cases e:a.tmps[t]? with
    |none=>rfl
    |some x=>rw[e]at h4;simp only[Option.getD_some]at h4;subst h4;rfl
   rw[this];rfl
  ·rw[e]at h3;rw[sG hs (pk h3)];cases g.2<;>rfl
theorem sH{t:Nat}:∀{l:List (Nat×Oper)}{f:Fr},(∀x∈l,x.2.dst≠some t)→gF f l t=f t
 |[],_,_=>rfl
 |x::r,f,h=>by rw[gF,sH (fun y hy=>h y (by simp[hy])),dQ (h x (by simp))]
theorem vB{t:Nat}:∀{l:List (Nat×Oper)}{f:Fr},(∀x∈l,x.2.dst≠some t)→kZ f l t=f t
 |[],_,_=>rfl
 |x::r,f,h=>by rw[kZ,vB (fun y hy=>h y (by simp[hy])),dQ (h x (by simp))]
theorem y4{t:Nat}:∀{l:List (Nat×Oper)}{f:Fr},(f t=.top∨∃x∈l,x.2.dst=some t)→kZ f l t=.top
 |[],_,h=>by
  rcases h with h|⟨x,hx,_⟩
  ·exact h
  ·cases hx
 |x::r,f,h=>by
  rw[kZ];by_cases e:x.2.dst=some t
  ·exact y4 (.inl (by rw[e,iX]))
  ·refine y4 ?_;rcases h with h|⟨y,hy,hd⟩
   ·exact .inl (by rw[dQ e];exact h)
   ·rcases List.mem_cons.1 hy with rfl|hy
    ·exact absurd hd e
    ·exact .inr ⟨y,hy,hd⟩
theorem vC{l:List (Nat×Oper)}{F:Fr}(h:∀t,(∀x∈l,x.2.dst≠some t)→f t=F t∨f t=.top):tr (kZ f l) F:=by
 intro t;by_cases e:∃x∈l,x.2.dst=some t
 ·exact .inr (y4 (.inr e))
 ·have e':∀x∈l,x.2.dst≠some t:=fun x hx hd=>e ⟨x,hx,hd⟩;rw[vB e'];exact h t e'
theorem xA{g:Nat×Bool}{tj:Nat}(hj:(ops[g.1]?).bind (·.dst)=some tj):∀{l:List (Nat×Oper)}{done:List Nat}{f:Fr},tD g done l=true→(∀x∈l,ops[x.1]?=some x.2)→(∀x∈l,x.2.dst≠some tj)→f tj=.pv (.bool (!g.2))→(∀j∈done,∀t,(ops[j]?).bind (·.dst)=some t→f t=.aZ [])→∀(pre post:List (Nat×Oper))(x:Nat×Oper),l=pre++x::post→PU ops (gF f pre) x.2
 |[],_,_,_,_,_,_,_,pre,post,x,h=>by simp at h
 |y::r,done,f,hg,hl,hd,hb,Kf,pre,post,x,h=>by
  simp only[tD,Bool.and_eq_true]at hg;cases pre with
  |nil=>
   simp only[List.nil_append,List.cons.injEq]at h;obtain⟨rfl,rfl⟩:=h;rw[gF];have h1:=hg.1;split at h1
   ·rename_i hh Sw;refine⟨hh,Sw,fun t ht=>?_⟩;rcases Bool.or_eq_true_iff.1 h1 with h2|h2
    ·simp only[Bool.and_eq_true]at h2;have e1:=Nat.eq_of_beq_eq_true h2.1;have e2:hh.2=g.2:=by simpa using h2.2
     rw[e1]at ht;rw[hj]at ht;cases ht;exact .inr (by rw[e2];exact hb)
    ·exact .inl (Kf _ (by simpa using h2) t ht)
   ·cases h1
  |cons z pre=>
   simp only[List.cons_append,List.cons.injEq]at h;obtain⟨rfl,h⟩:=h;rw[gF];refine xA hj hg.2 (fun x hx=>hl x (by simp[hx])) (fun x hx=>hd x (by simp[hx])) (by rw[dQ (hd y (by simp))];exact hb) (fun j hjm t ht=>?_) pre post x h;by_cases e:y.2.dst=some t
   ·rw[e,iX]
   ·rw[dQ e];rcases List.mem_cons.1 hjm with rfl|hjm
    ·rw[hl y (by simp)]at ht;exact absurd ht e
    ·exact Kf j hjm t ht
theorem Cg{A:List (Nat×Bool)}:∀{l a b:List (Nat×Oper)},zC A l=(a,b)→l=a++b
 |[],a,b,h=>by simp[zC]at h;obtain⟨rfl,rfl⟩:=h;rfl
 |x::r,a,b,h=>by
  simp only[zC]at h;split at h
  ·cases hs:zC A r with
   |mk a' b'=>rw[hs]at h;simp only[Prod.mk.injEq]at h;obtain⟨rfl,rfl⟩:=h;rw[Cg hs];rfl
  ·simp only[Prod.mk.injEq]at h;obtain⟨rfl,rfl⟩:=h;rfl
theorem xB{v:V}(h:vR v=some b):v=.pv (.bool b):=by
 unfold vR at h;split at h
 ·cases h;rfl
 ·cases h
theorem Xq(hE:iQ E){site:Nat}{draw:Bool}{v:V}{f':Fr}{m':Mem}{ft:br}(hn:draw=true∨∃c x y,o.op=.pick c x y)(h:∀(R':Type)(k':V→Fr→Mem→br→Option R'),G4 E draw site o f m k'=k' v f' m' ft):sE E draw site o f m v f' m' ft:=by
 have hx:=FE hE (h (V×Fr×Mem×br) fun v f m ft=>some (v,f,m,ft));rcases hx with⟨v1,f1,m1,ft1,h1,h2⟩|⟨h1,h2,_⟩
 rotate_left
 ·rcases hn with hn|⟨c,x,y,hn⟩
  ·rw[hn]at h1;cases h1
  ·exact absurd hn (h2 c x y)
 simp only[Option.some.injEq,Prod.mk.injEq]at h1;obtain⟨rfl,rfl,rfl,rfl⟩:=h1;exact h2
theorem Hy{R:Type}{site:Nat}{draw:Bool}{p:Oper}{c:Nat}{x y:Operand}{k:V→Fr→Mem→br→Option R}(hp:p.op=.pick (.tmp c) x y)(hb:bC E f (.tmp c)=.pv (.bool b)):G4 E draw site p f m k=k (bC E f (if b then x else y)) f m []:=by
 have im:wo E site p f m=none:=by simp only[wo,hp]
 unfold G4;rw[im];have e:(bif draw then none else bif E.zy site then(none:Option Sp)else none)=none:=by cases draw<;>cases E.zy site<;>rfl
 rw[e];simp only[cW,hp,hb];cases b<;>rfl
end
end Go.Ab
set_option linter.unusedVariables false
namespace Go.Ab
open Go.RowKit (Below)
section
variable {E:Env} {ops:Array Oper} {w0:bx}
theorem tT{rd:Option Nat}{Q:Exit→Act→World→Prop}{tail:List Nat}:∀(l:List (Nat×Oper))(f:Fr),(∀x∈l,ops[x.1]?=some x.2)→(∀x∈l,tE E x.2=true)→(∀(pre post:List (Nat×Oper))(x:Nat×Oper),l=pre++x::post→PU ops (gF f pre) x.2)→∀{μ:Ro}{φ:Nat→aG}{m:Mem}{a:Act}{w:World},Rel E.P E.aH E.fn.ntmps w0 μ φ f m a w→∀(A:List (Nat×Bool)),xz ops A a→Y4 ops A l→(∀a',Rel E.P E.aH E.fn.ntmps w0 μ φ (gF f l) m a' w→xz ops A a'→wpOpsIn (FR rd) 0 E.P ops Q tail a' w)→wpOpsIn (FR rd) 0 E.P ops Q (l.map (·.1)++tail) a w
 |[],f,_,_,_,_,_,_,a,_,hR,_,hA,_,hK=>hK a hR hA
 |x::r,f,hl,hd,Ch,μ,φ,m,a,w,hR,A,hA,Ci,hK=>by simp only[List.map_cons,List.cons_append,wpOpsIn];rw[hl x (by simp)];simp only;rw[wb hR (Ch [] r x rfl)];simp only[Bool.false_eq_true,if_false];refine And.intro (fun _ _=>trivial) (tT r (gW f x.2.dst (.aZ [])) (fun y hy=>hl y (by simp[hy])) (fun y hy=>hd y (by simp[hy])) (fun pre post y h=>?_) (hR.put (fun _ _ h=>h) (gZ (hd x (by simp))) hR.toaz hR.jB Cf (fun id hid=>by simp[V.has,cr]at hid)) A (hA.put (fun t ht=>by rw[hR.size];exact gZ (hd x (by simp)) t ht) fun g oD t ht=>Ci x (by simp) g oD t ht) (fun y hy=>Ci y (by simp[hy])) hK);have:=Ch (x::pre) post y (by rw[h];rfl);rwa[gF]at this
theorem wE:∀{ft:br},xn ft=true→∀x∈ft,x.1=false
 |[],_,x,hx=>by cases hx
 |(w,id)::r,h,x,hx=>by
  simp only[xn,Bool.and_eq_true,Bool.not_eq_true']at h;rcases List.mem_cons.1 hx with rfl|hx
  ·exact h.1
  ·exact wE h.2 x hx
theorem gB(hE:iQ E){rd:Option Nat}(hY:rF E.P E.aH E.fn.ntmps E.yl w0):∀(fuel:Nat){mode:Nat}(iG:mode=0∨mode=3){R:Type}{A:List (Nat×Bool)}{l:List (Nat×Oper)}{f:Fr}{m:Mem}{lg:Log}{k:Fr→Mem→Option R}{r:R},cp E ops mode fuel R A l f m lg k=some r→(∀x∈l,ops[x.1]?=some x.2)→Y4 ops A l→(mode=3→∀x∈l,e9 x.2=true)→∀(μ:Ro)(φ:Nat→aG)(a:Act)(w:World)(Q:Exit→Act→World→Prop)(tail:List Nat),Rel E.P E.aH E.fn.ntmps w0 μ φ f m a w→xz ops A a→(∀(f':Fr)(m':Mem)(μ':Ro)(φ':Nat→aG)(a':Act)(w':World),k f' m'=some r→Rel E.P E.aH E.fn.ntmps w0 μ' φ' f' m' a' w'→xz ops A a'→(mode=3→m'=m∧∀t,(∀x∈l,x.2.dst≠some t)→f' t=f t)→wpOpsIn (FR rd) 0 E.P ops Q tail a' w')→wpOpsIn (FR rd) 0 E.P ops Q (l.map (·.1)++tail) a w
 |0,_,_,_,_,_,_,_,_,_,_,h,_,_,_,_,_,_,_,_,_,_,_,_=>by simp[cp]at h
 |fuel+1,mode,iG,R,A,[],f,m,lg,k,r,h,_,_,_,μ,φ,a,w,Q,tail,hR,hA,hK=>by simp only[cp]at h;exact hK f m μ φ a w h hR hA fun _=>⟨rfl,fun _ _=>rfl⟩
 |fuel+1,mode,iG,R,A,(i,o)::rest,f,m,lg,k,r,h,hl,Ci,Rn,μ,φ,a,w,Q,tail,hR,hA,hK=>by
  simp only[cp]at h;split at h
  ·rename_i hg;split at h
   ·rename_i hd;have Od:Nat.beq mode 2=false:=by rcases iG with rfl|rfl<;>rfl
    simp only[Od,cond_false]at h;rw[←Od]at h;have hdf:=yZ h;rcases FE hE h with⟨v,f1,m1,ft,hk,PX⟩|⟨_,pq⟩
    rotate_left
    ·simp only[List.map_cons,List.cons_append,wpOpsIn];rw[hl (i,o) (by simp)];simp only;rw[y0 hg hA,if_pos rfl];refine Cc.wC pq rd w0 μ φ a w _ Q hY hR fun v f1 m1 y w' μ' φ' hk hle hM hF hv Fm=>?_;have cM:Nat.beq mode 2=false:=by rcases iG with rfl|rfl<;>rfl
     rw[cM]at hk;simp only[Bool.false_eq_true,if_false]at hk;rcases iG with rfl|rfl
     ·simp only[Nat.beq,if_true]at hk;exact gB hE hY fuel (.inl rfl) hk (fun x hx=>hl x (by simp[hx])) (fun x hx=>Ci x (by simp[hx])) (fun hm x hx=>Rn hm x (by simp[hx])) _ _ _ _ Q tail (hR.put hle (gZ hd) hM hF hv Fm) (hA.put (fun t ht=>by rw[hR.size];exact gZ hd t ht) fun g oD t ht=>Ci (i,o) (by simp) g oD t ht) fun f' m' μ2 φ2 a' w2 jK iD tw la=>hK f' m' μ2 φ2 a' w2 jK iD tw fun h=>by cases h
     ·simp[Nat.beq,xn]at hk
    have cM:Nat.beq mode 2=false:=by rcases iG with rfl|rfl<;>rfl
    rw[cM]at hk;simp only[Bool.false_eq_true,if_false]at hk;have hq:(mode=3→f1=f∧m1=m)∧cp E ops mode fuel R A rest (gW f1 o.dst v) m1 lg k=some r:=by
     rcases iG with rfl|rfl
     ·simp only[Nat.beq,if_true]at hk;exact⟨fun h=>(by cases h),hk⟩
     ·simp only[Nat.beq,Bool.false_eq_true,if_false]at hk;split at hk
      ·rename_i hqf;exact⟨fun h=>PX.same (Rn rfl (i,o) (by simp)) (wE hqf),hk⟩
      ·cases hk
    obtain⟨Sx,hk⟩:=hq;simp only[List.map_cons,List.cons_append,wpOpsIn];rw[hl (i,o) (by simp)];simp only;rw[y0 hg hA,if_pos rfl];refine PX.wC hdf rd w0 μ φ a w _ Q hR fun y w' μ' φ' hle hM hF hv Fm=>?_;refine gB hE hY fuel iG hk (fun x hx=>hl x (by simp[hx])) (fun x hx=>Ci x (by simp[hx])) (fun hm x hx=>Rn hm x (by simp[hx])) _ _ _ _ Q tail (hR.put hle (gZ hd) hM hF hv Fm) (hA.put (fun t ht=>by rw[hR.size];exact gZ hd t ht) fun g oD t ht=>Ci (i,o) (by simp) g oD t ht) fun f' m' μ2 φ2 a' w2 jK iD tw la=>?_;refine hK f' m' μ2 φ2 a' w2 jK iD tw fun Xr=>?_;obtain⟨e1,e2⟩:=Sx Xr;obtain⟨e3,e4⟩:=la Xr;refine⟨by rw[e3,e2],fun t ht=>?_⟩;rw[e4 t fun x hx=>ht x (by simp[hx]),dQ (ht (i,o) (by simp)),e1]
   ·cases h
  ·rename_i j yN hg;split at h
   ·rename_i tj Rp;split at h
    ·rename_i b hb;have Sy:tj<E.fn.ntmps:=by
      simp only[bC]at hb;cases e:Nat.blt tj E.fn.ntmps with
      |true=>rwa[Nat.blt_eq]at e
      |false=>rw[e]at hb;cases hb
     have hbf:f tj=.pv (.bool b):=by simp only[bC]at hb;rw[show Nat.blt tj E.fn.ntmps=true by rw[Nat.blt_eq];exact Sy]at hb;exact hb
     have hba:a.tmps.getD tj undef=.bool b:=by have:=(ar hR (.tmp tj)).1;rw[hb]at this;exact pk this
     generalize im:zC A ((i,o)::rest)=sp at h;obtain⟨body,G6⟩:=sp;have lu:=Cg im;simp only at h;split at h
     ·rename_i Xs;split at h
      ·rename_i hc;simp only[Bool.and_eq_true,List.all_eq_true,Bool.not_eq_true',beq_eq_false_iff_ne,ne_eq]at hc Xs;obtain⟨⟨Ft,Sz⟩,Xt⟩:=hc;have hm0:mode=0:=Nat.eq_of_beq_eq_true Xs.1;subst hm0;have bO:∀z∈body,z∈(i,o)::rest:=fun z hz=>by rw[lu];simp[hz]
       have ta:∀z∈G6,z∈(i,o)::rest:=fun z hz=>by rw[lu];simp[hz]
       by_cases PY:b=yN
       ·have:RH yN b=true:=by subst PY;cases b<;>rfl
        rw[this]at h;simp only[cond]at h;have Y5:fm f tj (.pv (.bool yN))=f:=funext fun t=>by
         unfold fm;cases e:Nat.beq t tj with
         |false=>rfl
         |true=>rw[Nat.eq_of_beq_eq_true e];simp only[cond];rw[←PY];exact hbf.symm
        rw[Y5]at h;refine gB hE hY fuel iG h hl (fun z hz g oD t ht=>?_) (fun h=>by cases h) _ _ _ _ Q tail hR (fun g oD=>?_) fun f' m' μ2 φ2 a' w2 jK iD tw la=>hK f' m' μ2 φ2 a' w2 jK iD (fun g oD=>tw g (by simp[oD])) fun h=>by cases h
        ·rcases List.mem_cons.1 oD with rfl|oD
         ·simp only[Rp]at ht;cases ht;exact Xt z hz
         ·exact Ci z hz g oD t ht
        ·rcases List.mem_cons.1 oD with rfl|oD
         ·exact⟨tj,Rp,by rw[hba,PY]⟩
         ·exact hA g oD
       ·have:RH yN b=false:=by cases b<;>cases yN<;>first|rfl|exact absurd rfl PY
        rw[this]at h;simp only[cond]at h;have hbn:b= !yN:=by cases b<;>cases yN<;>first|rfl|exact absurd rfl PY
        have Y5:fm f tj (.pv (.bool !yN))=f:=funext fun t=>by
         unfold fm;cases e:Nat.beq t tj with
         |false=>rfl
         |true=>rw[Nat.eq_of_beq_eq_true e];simp only[cond];rw[←hbn];exact hbf.symm
        rw[Y5]at h;rw[lu,List.map_append,List.append_assoc];refine tT body f (fun z hz=>hl z (bO z hz)) Ft (xA Rp Sz (fun z hz=>hl z (bO z hz)) (fun z hz=>Xt z (bO z hz)) (by rw[hbf,hbn]) (by simp)) hR A hA (fun z hz g oD t ht=>Ci z (bO z hz) g oD t ht) fun a' iD tw=>?_
        ·refine gB hE hY fuel iG h (fun z hz=>hl z (ta z hz)) (fun z hz=>Ci z (ta z hz)) (fun h=>by cases h) _ _ _ _ Q tail iD tw fun f' m' μ2 φ2 a' w2 jK iD tw la=>hK f' m' μ2 φ2 a' w2 jK iD tw fun h=>by cases h
      ·cases h
     ·split at h
      ·rename_i ip p k8;split at h
       ·rename_i c x y Ki;split at h
        ·rename_i hc;simp only[Bool.and_eq_true,List.all_eq_true,Bool.not_eq_true',beq_eq_false_iff_ne,ne_eq]at hc;obtain⟨⟨⟨⟨⟨⟨Kj,Y6⟩,we⟩,Sz⟩,_⟩,hpd⟩,_⟩:=hc;have Kj:=Nat.eq_of_beq_eq_true Kj;subst Kj;have Y6:guardOf p A=none:=by simpa using Y6
         obtain⟨rb,JD,h⟩:=Option.bind_eq_some_iff.1 h;have bO:∀z∈body,z∈(i,o)::rest:=fun z hz=>by rw[lu];simp[hz]
         have ta:∀z∈k8,z∈(i,o)::rest:=fun z hz=>by rw[lu];simp[hz]
         have Hz:(ip,p)∈(i,o)::rest:=by rw[lu];simp
         rw[lu,List.map_append,List.append_assoc];have after:∀(f1:Fr)(μ1:Ro)(φ1:Nat→aG)(a1:Act)(w1:World)(q:Operand),Rel E.P E.aH E.fn.ntmps w0 μ1 φ1 f1 m a1 w1→xz ops A a1→(∀t,(∀z∈body,z.2.dst≠some t)→f1 t=f t)→bC E f1 q=.pv (.bool rb)→(q=if b then x else y)→wpOpsIn (FR rd) 0 E.P ops Q (((ip,p)::k8).map (·.1)++tail) a1 w1:=by
          intro f1 μ1 φ1 a1 w1 q Kk hA1 Y7 hq hqe;have Ri:bC E f1 (.tmp c)=.pv (.bool b):=by simp only[bC];rw[show Nat.blt c E.fn.ntmps=true by rw[Nat.blt_eq];exact Sy];show f1 c=_;rw[Y7 c fun z hz=>(we z hz).2];exact hbf
          simp only[List.map_cons,List.cons_append,wpOpsIn];rw[hl (ip,p) Hz];simp only;rw[y0 Y6 hA1,if_pos rfl];have PX:sE E (Nat.beq mode 1||Nat.beq mode 2) (cD E p.dst) p f1 m (.pv (.bool rb)) f1 m []:=Xq hE (.inr ⟨_,_,_,Ki⟩) fun R' k'=>by rw[Hy Ki Ri,←hqe,hq]
          refine PX.wC (fun c h=>by rw[Ki]at h;cases h) rd w0 μ1 φ1 a1 w1 _ Q Kk fun z w' μ' φ' la hM hF hv Fm=>?_;have hle:tr (gW (kZ f body) p.dst (.pv (.bool rb))) (gW f1 p.dst (.pv (.bool rb))):=tr.put (vC fun t ht=>.inl (Y7 t ht).symm) _ _;refine gB hE hY fuel iG h (fun z hz=>hl z (ta z hz)) (fun z hz=>Ci z (ta z hz)) (fun hm z hz=>Rn hm z (ta z hz)) _ _ _ _ Q tail ((Kk.put la (gZ hpd) hM hF hv Fm).weaken hle) (hA1.put (fun t ht=>by rw[Kk.size];exact gZ hpd t ht) fun g oD t ht=>Ci (ip,p) Hz g oD t ht) fun f' m' μ2 φ2 a' w2 jK iD tw la=>?_;refine hK f' m' μ2 φ2 a' w2 jK iD tw fun Xr=>?_;obtain⟨e3,e4⟩:=la Xr;refine⟨e3,fun t ht=>?_⟩;rw[e4 t fun z hz=>ht z (ta z hz),dQ (ht (ip,p) Hz),vB fun z hz=>ht z (bO z hz)]
         have go:∀q,b=yN→(q=if b then x else y)→cp E ops 3 fuel Bool ((j,yN)::A) body f m lg (fun f _=>vR (bC E f q))=some rb→wpOpsIn (FR rd) 0 E.P ops Q (body.map (·.1)++(((ip,p)::k8).map (·.1)++tail)) a w:=by
          intro q PY hq VT;refine gB hE hY fuel (.inr rfl) VT (fun z hz=>hl z (bO z hz)) ?_ (fun _ z hz=>(we z hz).1.1) _ _ _ _ Q _ hR ?_ fun f' m' μ2 φ2 a' w2 jK iD tw la=>?_
          ·intro z hz g oD t ht;rcases List.mem_cons.1 oD with rfl|oD
           ·simp only[Rp]at ht;cases ht;exact(we z hz).2
           ·exact Ci z (bO z hz) g oD t ht
          ·intro g oD;rcases List.mem_cons.1 oD with rfl|oD
           ·exact⟨c,Rp,by rw[hba,PY]⟩
           ·exact hA g oD
          ·obtain⟨e1,e2⟩:=la rfl;subst e1;exact after f' μ2 φ2 a' w2 q iD (fun g oD=>tw g (by simp[oD])) e2 (xB jK) hq
         have no:∀q,b= !yN→(q=if b then x else y)→vR (bC E (kZ f body) q)=some rb→wpOpsIn (FR rd) 0 E.P ops Q (body.map (·.1)++(((ip,p)::k8).map (·.1)++tail)) a w:=by
          intro q PY hq VT;refine tT body f (fun z hz=>hl z (bO z hz)) (fun z hz=>(we z hz).1.2) (xA Rp Sz (fun z hz=>hl z (bO z hz)) (fun z hz=>(we z hz).2) (by rw[hbf,PY]) (by simp)) hR A hA (fun z hz g oD t ht=>Ci z (bO z hz) g oD t ht) fun a' iD tw=>?_;refine after _ μ φ a' w q iD tw (fun t ht=>sH ht) ?_ hq;have hv:=xB VT;cases q with
          |tmp t=>
           simp only[bC]at hv⊢;have hle:tr (kZ f body) (gF f body):=vC fun t ht=>.inl (sH ht).symm;cases e:Nat.blt t E.fn.ntmps with
           |false=>rw[e]at hv;cases hv
           |true=>
            rw[e]at hv;simp only[cond]at hv⊢;rcases hle t with e|e
            ·rw[←e];exact hv
            ·rw[e]at hv;cases hv
          |_=>exact hv
         have hbm:(bif Nat.beq mode 0 then 3 else mode)=3:=by rcases iG with rfl|rfl<;>rfl
         rw[hbm]at JD;cases yN<;>cases b<;>simp only[cond]at JD
         ·exact go y rfl rfl JD
         ·exact no x rfl rfl JD
         ·exact no y rfl rfl JD
         ·exact go x rfl rfl JD
        ·cases h
       ·cases h
      ·cases h
    ·cases h
   ·cases h
end
end Go.Ab
set_option linter.unusedVariables false
namespace Go.Ab
open Go.RowKit (Below)
structure Rec where
 i:Nat
 o:Oper
 v:V
 wr:List (Nat×bL)
 ft:br
 kl:Kl
def Rec.fs(r:Rec)(f:Fr):Fr:=gW (kf r.kl f) r.o.dst r.v
def Rec.ms(r:Rec)(m:Mem):Mem:=ry r.wr (km r.kl m)
def Rec.Eu(r:Rec)(id:Nat):Prop:=∃b,(b,id)∈r.kl
def kY(f:Fr):List Rec→Fr
 |[]=>f
 |r::l=>kY (r.fs f) l
def nV(m:Mem):List Rec→Mem
 |[]=>m
 |r::l=>nV (r.ms m) l
def na(S:Nat→Bool)(f:Fr):List Rec→Fr
 |[]=>f
 |r::l=>na S (bif S r.i then r.fs f else f) l
def nb(S:Nat→Bool)(m:Mem):List Rec→Mem
 |[]=>m
 |r::l=>nb S (bif S r.i then r.ms m else m) l
theorem Cj:∀{wr:List (Nat×bL)}{m:Mem}{j:Nat},(∀b,(j,b)∉wr)→ry wr m j=m j
 |[],_,_,_=>rfl
 |(id,b)::r,m,j,h=>by rw[ry,Cj fun b' hb=>h b' (by simp[hb])];exact aw fun e=>h b (by simp[e])
theorem SA:∀{wr:List (Nat×bL)}{j:Nat},(∃b,(j,b)∈wr)→∃b',(j,b')∈wr∧∀m:Mem,ry wr m j=some b'
 |[],_,h=>by obtain⟨b,hb⟩:=h;cases hb
 |(id,b)::r,j,h=>by
  by_cases hr:∃b,(j,b)∈r
  ·obtain⟨b',h1,h2⟩:=SA hr;exact⟨b',by simp[h1],fun m=>h2 _⟩
  ·obtain⟨b0,hb⟩:=h;rcases List.mem_cons.1 hb with hb|hb
   ·simp only[Prod.mk.injEq]at hb;obtain⟨rfl,rfl⟩:=hb;refine⟨b0,by simp,fun m=>?_⟩;rw[ry,Cj fun b' fU=>hr ⟨b',fU⟩];simp
   ·exact absurd ⟨b0,hb⟩ hr
mutual
theorem HA{id:Nat}:∀{v:V},v.tn id=true→v.has id=true
 |.agg cs,h=>sI (cs:=cs) (by simpa[V.tn]using h)
 |.aZ cs,h=>sI (cs:=cs) (by simpa[V.tn]using h)
 |.fn _ cs,h=>sI (cs:=cs) (by simpa[V.tn]using h)
 |.tA _ _ _,h=>h
 |.xg _ _ _ _ _ _,h=>h
 |.pv _,h=>by cases h
 |.bf,h=>by cases h
 |.op _ _,h=>by cases h
 |.oe _ _ _,h=>by cases h
 |.os _,h=>by cases h
 |.fl _ _ _,h=>by cases h
 |.om _,h=>by cases h
 |.yl _,h=>by cases h
 |.it _,h=>by cases h
 |.top,h=>by cases h
theorem sI{id:Nat}:∀{cs:List V},xh id cs=true→cr id cs=true
 |[],h=>by cases h
 |c::r,h=>by
  simp only[xh,Bool.or_eq_true]at h;simp only[cr,Bool.or_eq_true];rcases h with h|h
  ·exact .inl (HA h)
  ·exact .inr (sI h)
end
variable{id:Nat}
theorem zY{v:V}(h:v.has id=false):qu id v=v:=by unfold qu;rw[h];rfl
theorem zZ{id:Nat}:∀{cs:List V},cr id cs=false→cs.map (qu id)=cs
 |[],_=>rfl
 |c::r,h=>by simp only[cr,Bool.or_eq_false_iff]at h;simp only[List.map_cons,zY h.1,zZ h.2]
theorem HB{b:bL}(h:b.names id=false):fM id b=b:=by
 cases b with
 |box cs=>simp only[fM,zZ (show cr id cs=false from h)]
 |_=>rfl
theorem xC{v:V}(h:v.has id=false):mn id v=v:=by
 unfold mn;cases h2:v.tn id with
 |false=>rfl
 |true=>rw[HA h2]at h;cases h
theorem xD{id:Nat}:∀{cs:List V},cr id cs=false→cs.map (mn id)=cs
 |[],_=>rfl
 |c::r,h=>by simp only[cr,Bool.or_eq_false_iff]at h;simp only[List.map_cons,xC h.1,xD h.2]
theorem FF{b:bL}(h:b.names id=false):dO id b=b:=by
 cases b with
 |box cs=>simp only[dO,xD (show cr id cs=false from h)]
 |_=>rfl
theorem Ck:∀{kl:Kl}{f:Fr}{t:Nat},(∀id,(∃b,(b,id)∈kl)→(f t).has id=false)→kf kl f t=f t
 |[],_,_,_=>rfl
 |(true,id)::r,f,t,h=>by have h0:eQ id f t=f t:=zY (h id ⟨true,by simp⟩);rw[kf,Ck (kl:=r) (f:=eQ id f) fun j hj=>by rw[h0];exact h j (let⟨b,hb⟩:=hj;⟨b,by simp[hb]⟩),h0]
 |(false,id)::r,f,t,h=>by have h0:gn id f t=f t:=xC (h id ⟨false,by simp⟩);rw[kf,Ck (kl:=r) (f:=gn id f) fun j hj=>by rw[h0];exact h j (let⟨b,hb⟩:=hj;⟨b,by simp[hb]⟩),h0]
theorem xE:∀{kl:Kl}{f g:Fr}{t:Nat},f t=g t→kf kl f t=kf kl g t
 |[],_,_,_,h=>h
 |(true,id)::r,f,g,t,h=>xE (kl:=r) (f:=eQ id f) (g:=eQ id g) (by simp only[eQ,h])
 |(false,id)::r,f,g,t,h=>xE (kl:=r) (f:=gn id f) (g:=gn id g) (by simp only[gn,h])
theorem Cl:∀{kl:Kl}{m:Mem}{j:Nat},(∀id,(∃b,(b,id)∈kl)→j≠id∧∀b,m j=some b→b.names id=false)→km kl m j=m j
 |[],_,_,_=>rfl
 |(true,id)::r,m,j,h=>by
  obtain⟨h1,h2⟩:=h id ⟨true,by simp⟩;have h0:bg (bD id m) id j=m j:=by
   rw[eR h1];unfold bD;cases hm:m j with
   |none=>rfl
   |some b=>simp only[HB (h2 b hm)]
  rw[km,Cl (kl:=r) (m:=bg (bD id m) id) fun i hi=>by rw[h0];exact h i (let⟨b,hb⟩:=hi;⟨b,by simp[hb]⟩),h0]
 |(false,id)::r,m,j,h=>by
  obtain⟨h1,h2⟩:=h id ⟨false,by simp⟩;have h0:eV id m j=m j:=by
   unfold eV;cases hm:m j with
   |none=>rfl
   |some b=>simp only[FF (h2 b hm)]
  rw[km,Cl (kl:=r) (m:=eV id m) fun i hi=>by rw[h0];exact h i (let⟨b,hb⟩:=hi;⟨b,by simp[hb]⟩),h0]
theorem Cm:∀{kl:Kl}{m n:Mem}{j:Nat},m j=n j→km kl m j=km kl n j
 |[],_,_,_,h=>h
 |(true,id)::r,m,n,j,h=>Cm (kl:=r) (m:=bg (bD id m) id) (n:=bg (bD id n) id) (by
  by_cases e:j=id
  ·subst e;simp
  ·rw[eR e,eR e];simp only[bD,h])
 |(false,id)::r,m,n,j,h=>Cm (kl:=r) (m:=eV id m) (n:=eV id n) (by simp only[eV,h])
variable{r:Rec}
theorem Rec.HC{f:Fr}{t:Nat}(h:r.o.dst=some t):r.fs f t=r.v:=by unfold Rec.fs;rw[h,iX]
theorem Rec.Of{f:Fr}{t:Nat}(h:r.o.dst≠some t)(hc:∀id,r.Eu id→(f t).has id=false):r.fs f t=f t:=by unfold Rec.fs;rw[dQ h];exact Ck hc
theorem Rec.Cn{f g:Fr}{t:Nat}(h:f t=g t):r.fs f t=r.fs g t:=by
 by_cases e:r.o.dst=some t
 ·rw[HC e,HC e]
 ·unfold Rec.fs;rw[dQ e,dQ e];exact xE h
theorem Rec.Xu{j:Nat}(h:∃b,(j,b)∈r.wr):∃b',(j,b')∈r.wr∧∀m,r.ms m j=some b':=let⟨b',h1,h2⟩:=SA h;⟨b',h1,fun m=>h2 _⟩
theorem Rec.SB{m:Mem}{j:Nat}(h:∀b,(j,b)∉r.wr)(hc:∀id,r.Eu id→j≠id∧∀b,m j=some b→b.names id=false):r.ms m j=m j:=by unfold Rec.ms;rw[Cj h];exact Cl hc
theorem Rec.Co{m n:Mem}{j:Nat}(h:m j=n j):r.ms m j=r.ms n j:=by
 by_cases e:∃b,(j,b)∈r.wr
 ·obtain⟨b,_,e⟩:=Rec.Xu e;rw[e,e]
 ·have e':∀b,(j,b)∉r.wr:=fun b hb=>e ⟨b,hb⟩;unfold Rec.ms;rw[Cj e',Cj e'];exact Cm h
section
variable {S S':Nat→Bool}
theorem HD{f:Fr}:∀{l l':List Rec},kY f (l++l')=kY (kY f l) l':=by
 intro l;induction l generalizing f with
 |nil=>intro l';rfl
 |cons r l ih=>intro l';exact ih
theorem HE{m:Mem}:∀{l l':List Rec},nV m (l++l')=nV (nV m l) l':=by
 intro l;induction l generalizing m with
 |nil=>intro l';rfl
 |cons r l ih=>intro l';exact ih
theorem tU{f:Fr}:∀{l l':List Rec},na S f (l++l')=na S (na S f l) l':=by
 intro l;induction l generalizing f with
 |nil=>intro l';rfl
 |cons r l ih=>intro l';exact ih
theorem tV{m:Mem}:∀{l l':List Rec},nb S m (l++l')=nb S (nb S m l) l':=by
 intro l;induction l generalizing m with
 |nil=>intro l';rfl
 |cons r l ih=>intro l';exact ih
theorem Ev{t:Nat}:∀{l:List Rec}{f:Fr},(∀q∈l,q.o.dst≠some t∧q.kl=[])→kY f l t=f t
 |[],_,_=>rfl
 |r::l,f,h=>by rw[kY,Ev fun q hq=>h q (by simp[hq])];obtain⟨h1,h2⟩:=h r (by simp);exact Rec.Of h1 fun id⟨b,hid⟩=>by rw[h2]at hid;cases hid
theorem oE{t:Nat}:∀{l:List Rec}{f:Fr},(∀q∈l,S q.i=true→q.o.dst≠some t∧∀id,q.Eu id→(f t).has id=false)→na S f l t=f t
 |[],_,_=>rfl
 |r::l,f,h=>by
  have h0:(bif S r.i then r.fs f else f) t=f t:=by
   cases e:S r.i with
   |false=>rfl
   |true=>obtain⟨h1,h2⟩:=h r (by simp) e;exact Rec.Of h1 h2
  rw[na,oE fun q hq hs=>by rw[h0];exact h q (by simp[hq]) hs,h0]
theorem Cp{t:Nat}:∀{l:List Rec}{f g:Fr},f t=g t→(∀q∈l,S q.i=false→q.o.dst≠some t∧q.kl=[])→na S f l t=kY g l t
 |[],_,_,h,_=>h
 |r::l,f,g,h,hs=>by
  rw[na,kY];refine Cp ?_ fun q hq=>hs q (by simp[hq]);cases e:S r.i with
  |true=>exact Rec.Cn h
  |false=>obtain⟨h1,h2⟩:=hs r (by simp) e;rw[Rec.Of h1 fun id⟨b,hid⟩=>by rw[h2]at hid;cases hid];exact h
theorem wF{t:Nat}:∀{l:List Rec}{f g:Fr},f t=g t→(∀q∈l,S q.i=S' q.i)→na S f l t=na S' g l t
 |[],_,_,h,_=>h
 |r::l,f,g,h,hs=>by
  rw[na,na];refine wF ?_ fun q hq=>hs q (by simp[hq]);rw[hs r (by simp)];cases S' r.i
  ·exact h
  ·exact Rec.Cn h
theorem oF{j:Nat}:∀{l:List Rec}{m:Mem},(∀q∈l,S q.i=true→(∀b,(j,b)∉q.wr)∧∀id,q.Eu id→j≠id∧∀b,m j=some b→b.names id=false)→nb S m l j=m j
 |[],_,_=>rfl
 |r::l,m,h=>by
  have h0:(bif S r.i then r.ms m else m) j=m j:=by
   cases e:S r.i with
   |false=>rfl
   |true=>obtain⟨h1,h2⟩:=h r (by simp) e;exact Rec.SB h1 h2
  rw[nb,oF fun q hq hs=>by rw[h0];exact h q (by simp[hq]) hs,h0]
theorem Cq{j:Nat}:∀{l:List Rec}{m n:Mem},m j=n j→(∀q∈l,S q.i=false→(∀b,(j,b)∉q.wr)∧q.kl=[])→nb S m l j=nV n l j
 |[],_,_,h,_=>h
 |r::l,m,n,h,hs=>by
  rw[nb,nV];refine Cq ?_ fun q hq=>hs q (by simp[hq]);cases e:S r.i with
  |true=>exact Rec.Co h
  |false=>obtain⟨h1,h2⟩:=hs r (by simp) e;rw[Rec.SB h1 fun id⟨b,hid⟩=>by rw[h2]at hid;cases hid];exact h
theorem wG{j:Nat}:∀{l:List Rec}{m n:Mem},m j=n j→(∀q∈l,S q.i=S' q.i)→nb S m l j=nb S' n l j
 |[],_,_,h,_=>h
 |r::l,m,n,h,hs=>by
  rw[nb,nb];refine wG ?_ fun q hq=>hs q (by simp[hq]);rw[hs r (by simp)];cases S' r.i
  ·exact h
  ·exact Rec.Co h
end
section
variable {E:Env} {ops:Array Oper} {w0:bx}
def Ew(E:Env)(ops:Array Oper)(w0:bx)(r:Rec)(f:Fr)(m:Mem):Prop:=∀(f2:Fr)(m2:Mem),(∀t∈r.o.looksAt ops,f2 t=f t)→(∀x∈r.ft,m2 x.2=m x.2)→∀(μ:Ro)(φ:Nat→aG)(a:Act)(w:World)(K:Act→World→Prop)(Q:Exit→Act→World→Prop),Rel E.P E.aH E.fn.ntmps w0 μ φ f2 m2 a w→(∀μ' φ' a' w',Rel E.P E.aH E.fn.ntmps w0 μ' φ' (r.fs f2) (r.ms m2) a' w'→K a' w')→if Region.wanted r.o (yielded ops a.tmps)then∀rd:Option Nat,r.o.wpIn (FR rd) 0 E.P a w K Q else K (a.put r.o.dst undef) w
def fq(E:Env)(ops:Array Oper)(w0:bx):Fr→Mem→List Rec→Prop
 |_,_,[]=>True
 |f,m,r::l=>Ew E ops w0 r f m∧(∀id b,(id,b)∈r.wr→(true,id)∈r.ft)∧fq E ops w0 (r.fs f) (r.ms m) l
theorem fq.append{f:Fr}{m:Mem}{l l':List Rec}:fq E ops w0 f m (l++l')↔fq E ops w0 f m l∧fq E ops w0 (kY f l) (nV m l) l':=by
 induction l generalizing f m with
 |nil=>simp[fq,kY,nV]
 |cons r l ih=>simp only[List.cons_append,fq,kY,nV,ih,and_assoc]
def Clean(ops:Array Oper)(id:Nat)(r:Rec)(f:Fr)(m:Mem):Prop:=(∀t∈r.o.looksAt ops,(f t).has id=false)∧r.v.has id=false∧(∀x∈r.ft,x.2≠id∧∀b,m x.2=some b→b.names id=false)∧∀j b,(j,b)∈r.wr→(∀m,r.ms m j=some b)→j≠id∧b.names id=false
def mP(ops:Array Oper):Fr→Mem→List Rec→Prop
 |_,_,[]=>True
 |f,m,r::l=>(∀q∈l,∀id,q.Eu id→reach ops 4 q.o r.i=true∨Clean ops id r f m)∧mP ops (r.fs f) (r.ms m) l
theorem mP.append{f:Fr}{m:Mem}{l l':List Rec}(h:mP ops f m (l++l')):mP ops (kY f l) (nV m l) l':=by
 induction l generalizing f m with
 |nil=>exact h
 |cons r l ih=>exact ih h.2
def Ord(ops:Array Oper)(q r:Rec):Prop:=reach ops 4 r.o q.i=true∨(q.o.apart ops r.o=true∧(∀id b,(id,b)∈q.wr→∀x∈r.ft,x.2≠id)∧∀id b,(id,b)∈r.wr→∀x∈q.ft,x.2≠id)
theorem PZ{o:Oper}{j:Nat}(h:Bv o j=true):∃e∈o.after,Region.binds .any e=true∧e.on=j:=by unfold Bv at h;obtain⟨e,he,h⟩:=List.any_eq_true.1 h;have he:e∈o.after:=Array.mem_toList_iff.1 he;simp only[Bool.and_eq_true]at h;exact⟨e,he,h.1,Nat.eq_of_beq_eq_true h.2⟩
abbrev aA(l:Array Bool):Nat→Bool:=fun i=>l.getD i false
def wH(ops:Array Oper)(listed:Array Bool):Prop:=∀i o,ops[i]?=some o→aA listed i=true→∀e∈o.after,Region.binds .any e=true→aA listed e.on=true
theorem pt(listed:Array Bool)(s9:wH ops listed):∀(n:Nat)(o:Oper)(j:Nat),(∀e∈o.after,Region.binds .any e=true→aA listed e.on=true)→reach ops n o j=true→aA listed j=true:=by
 have aaP:∀(o:Oper)(j:Nat),(∀e∈o.after,Region.binds .any e=true→aA listed e.on=true)→Bv o j=true→aA listed j=true:=fun o j ho h=>by obtain⟨e,he,hb,hon⟩:=PZ h;have:=ho e he hb;rw[hon]at this;exact this
 intro n;induction n with
 |zero=>exact fun o j ho h=>aaP o j ho h
 |succ n ihn=>
  intro o j ho h;simp only[reach,Bool.or_eq_true]at h;rcases h with h|h
  ·exact aaP o j ho h
  ·obtain⟨e,he,h⟩:=List.any_eq_true.1 h;simp only[Bool.and_eq_true]at h;obtain⟨hb,h⟩:=h;have he:e∈o.after:=Array.mem_toList_iff.1 he;split at h
   ·rename_i p hp;exact ihn p j (s9 e.on p hp (ho e he hb)) h
   ·cases h
theorem SC{rd:Option Nat}{recs:List Rec}{f0:Fr}{m0:Mem}{Q:Exit→Act→World→Prop}{base:Nat→Bool}(bu:recs.Pairwise fun q r=>q.i<r.i)(pq:∀r∈recs,ops[r.i]?=some r.o)(SD:∀r∈recs,base r.i=false)(SE:∀i o,ops[i]?=some o→base i=false→(∀r∈recs,r.i≠i)→(∀r∈recs,reach ops 8 o r.i=true)∨∃j,reach ops 8 o j=true∧base j=false∧∀r∈recs,r.i≠j)(aaQ:recs.Pairwise (Ord ops))(iM:recs.Pairwise fun q r=>q.kl≠[]→reach ops 4 r.o q.i=true)(ae7:mP ops f0 m0 recs)(Og:∀r∈recs,∀e∈r.o.after,Region.binds .any e=true→e.on<r.i∧(base e.on=true∨∃q∈recs,q.i=e.on))(xf:fq E ops w0 f0 m0 recs)(hQ:∀(fuel:Nat)(listed:Array Bool),listed.size=ops.size→listed.toList.countP (fun b=> !b)≤fuel→wH ops listed→(∀i,aA listed i=true↔base i=true∨∃r∈recs,r.i=i)→∀μ φ a w,Rel E.P E.aH E.fn.ntmps w0 μ φ (kY f0 recs) (nV m0 recs) a w→wpAnyIn (FR rd) 0 E.P .any ops Q fuel listed a w):∀(fuel:Nat)(listed:Array Bool),listed.size=ops.size→listed.toList.countP (fun b=> !b)≤fuel→wH ops listed→(∀i,base i=true→aA listed i=true)→(∀i,aA listed i=true→base i=true∨∃r∈recs,r.i=i)→∀(μ:Ro)(φ:Nat→aG)(a:Act)(w:World),Rel E.P E.aH E.fn.ntmps w0 μ φ (na (aA listed) f0 recs) (nb (aA listed) m0 recs) a w→wpAnyIn (FR rd) 0 E.P .any ops Q fuel listed a w:=by
 have done:∀(fuel:Nat)(listed:Array Bool),listed.size=ops.size→listed.toList.countP (fun b=> !b)≤fuel→wH ops listed→(∀i,base i=true→aA listed i=true)→(∀i,aA listed i=true→base i=true∨∃r∈recs,r.i=i)→(∀r∈recs,aA listed r.i=true)→∀(μ:Ro)(φ:Nat→aG)(a:Act)(w:World),Rel E.P E.aH E.fn.ntmps w0 μ φ (na (aA listed) f0 recs) (nb (aA listed) m0 recs) a w→wpAnyIn (FR rd) 0 E.P .any ops Q fuel listed a w:=by
  intro fuel listed hs hc s9 hb oZ hl μ φ a w hR;have e1:na (aA listed) f0 recs=kY f0 recs:=funext fun t=>Cp rfl fun q hq hf=>by rw[hl q hq]at hf;cases hf
  have e2:nb (aA listed) m0 recs=nV m0 recs:=funext fun t=>Cq rfl fun q hq hf=>by rw[hl q hq]at hf;cases hf
  rw[e1,e2]at hR;exact hQ fuel listed hs hc s9 (fun i=>⟨oZ i,fun h=>h.elim (hb i) fun⟨r,hr,e⟩=>e▸hl r hr⟩) μ φ a w hR
 have VU:∀(listed:Array Bool),listed.size=ops.size→(∀i,base i=true→aA listed i=true)→(∀r∈recs,r.i∉Region.ready .any ops listed)→∀(n:Nat)(r:Rec),r∈recs→r.i<n→aA listed r.i=true:=by
  intro listed hs hb hr n;induction n with
  |zero=>intro r _ h;omega
  |succ n ih=>
   intro r rz hi;cases hc:aA listed r.i with
   |true=>rfl
   |false=>
    exfalso;have bu:r.i<listed.size:=by rw[hs];exact(Array.getElem?_eq_some_iff.1 (pq r rz)).1
    refine hr r rz (mem_ready.2 ⟨by simp only[aA,Array.getD_eq_getD_getElem?,Array.getElem?_eq_getElem bu,Option.getD_some]at hc⊢;exact hc,r.o,pq r rz,fun e he fU=>?_⟩);obtain⟨h1,h2⟩:=Og r rz e he fU;rcases h2 with h2|⟨q,hq,SF⟩
    ·exact hb _ h2
    ·have:=ih q hq (by omega);rwa[SF]at this
 intro fuel;induction fuel with
 |zero=>
  intro listed hs hc s9 hb oZ μ φ a w hR;refine done 0 listed hs hc s9 hb oZ (fun r hr=>?_) μ φ a w hR;have bu:r.i<listed.size:=by rw[hs];exact(Array.getElem?_eq_some_iff.1 (pq r hr)).1
  have:=List.countP_eq_zero.1 (Nat.le_zero.1 hc) listed[r.i] (by simp);simp only[aA,Array.getD_eq_getD_getElem?,Array.getElem?_eq_getElem bu,Option.getD_some];simpa using this
 |succ fuel ih=>
  intro listed hs hc s9 hb oZ μ φ a w hR;by_cases SG:∀r∈recs,aA listed r.i=true
  ·exact done (fuel+1) listed hs hc s9 hb oZ SG μ φ a w hR
  have aaR:∃r∈recs,aA listed r.i=false:=by
   refine Classical.byContradiction fun cQ=>SG fun r hr=>?_;cases hx:aA listed r.i with
   |true=>rfl
   |false=>exact absurd ⟨r,hr,hx⟩ cQ
  refine⟨fun h0=>absurd (fun r hr=>VU listed hs hb (fun r hr h=>by rw[h0]at h;cases h) (r.i+1) r hr (by omega)) SG,fun i hi=>?_⟩;obtain⟨P0,o,ho,y5⟩:=mem_ready.1 hi;have aaS:aA listed i=false:=by
   have bu:i<listed.size:=by rw[hs];exact(Array.getElem?_eq_some_iff.1 ho).1
   simp only[aA,Array.getD_eq_getD_getElem?,Array.getElem?_eq_getElem bu,Option.getD_some]at P0⊢;exact P0
  have hex:∃r∈recs,r.i=i∧r.o=o:=by
   refine Classical.byContradiction fun cQ=>?_;have Hh:∀r∈recs,r.i≠i:=fun r hr e=>cQ ⟨r,hr,e,by have:=pq r hr;rw[e,ho]at this;exact(Option.some.inj this).symm⟩;have hbi:base i=false:=by
    cases hx:base i with
    |false=>rfl
    |true=>rw[hb i hx]at aaS;cases aaS
   rcases SE i o ho hbi Hh with h|⟨j,h1,h2,h3⟩
   ·obtain⟨r,hr,VV⟩:=aaR;rw[pt listed s9 8 o r.i y5 (h r hr)]at VV;cases VV
   ·have:=pt listed s9 8 o j y5 h1;rcases oZ j this with h|⟨r,hr,e⟩
    ·rw[h]at h2;cases h2
    ·exact h3 r hr e
  obtain⟨r,hr,rfl,rfl⟩:=hex;have SH:r.i<listed.size:=by rw[hs];exact(Array.getElem?_eq_some_iff.1 ho).1
  have hSi:aA listed r.i=false:=by simp only[aA,Array.getD_eq_getD_getElem?,Array.getElem?_eq_getElem SH,Option.getD_some]at P0⊢;exact P0
  obtain⟨pre,post,lu⟩:=List.append_of_mem hr;subst lu;have sJ:∀q∈pre,Ord ops q r:=fun q hq=>(List.pairwise_append.1 aaQ).2.2 q hq r (by simp);have Oh:∀q∈post,Ord ops r q:=fun q hq=>(List.pairwise_cons.1 (List.pairwise_append.1 aaQ).2.1).1 q hq;have Y8:∀q∈post,q.i≠r.i:=fun q hq=>by have:=(List.pairwise_cons.1 (List.pairwise_append.1 bu).2.1).1 q hq;omega
  have aaT:∀q∈pre,q.i≠r.i:=fun q hq=>by have:=(List.pairwise_append.1 bu).2.2 q hq r (by simp);omega
  have aaU:∀q:Rec,reach ops 4 r.o q.i=true→aA listed q.i=true:=fun q h=>pt listed s9 4 r.o q.i y5 h;have Km:∀q∈post,reach ops 4 q.o r.i=true→aA listed q.i=false:=fun q hq h=>by
   cases Re:aA listed q.i with
   |false=>rfl
   |true=>have:=pt listed s9 4 q.o r.i (s9 q.i q.o (pq q (by simp[hq])) Re) h;rw[hSi]at this;cases this
  have Xv:∀(f:Fr),na (aA listed) f (r::post)=na (aA listed) f post:=fun f=>by rw[na,hSi];rfl
  have SI:∀(m:Mem),nb (aA listed) m (r::post)=nb (aA listed) m post:=fun m=>by rw[nb,hSi];rfl
  obtain⟨_,Y9,hrw,_⟩:=fq.append.1 xf;have hc:=ae7.append.1;have Xw:∀q∈pre,q.kl≠[]→reach ops 4 r.o q.i=true:=fun q hq=>(List.pairwise_append.1 iM).2.2 q hq r (by simp);have SJ:r.kl≠[]→∀q∈post,reach ops 4 q.o r.i=true:=fun h q hq=>(List.pairwise_cons.1 (List.pairwise_append.1 iM).2.1).1 q hq h;unfold wpOpIn;rw[pq r hr];simp only;have Y7:∀t∈r.o.looksAt ops,na (aA listed) f0 pre t=kY f0 pre t:=fun t ht=>Cp rfl fun q hq hs=>by
   have Hh:¬reach ops 4 r.o q.i=true:=fun h=>by rw[aaU q h]at hs;cases hs
   refine⟨fun hd=>?_,?_⟩
   ·rcases sJ q hq with h|⟨h,_⟩
    ·exact Hh h
    ·exact absurd ht ((Oper.apart_spec h).1 t hd)
   ·exact Classical.byContradiction fun cQ=>Hh (Xw q hq cQ)
  have Za:∀x∈r.ft,nb (aA listed) m0 pre x.2=nV m0 pre x.2:=fun x hx=>Cq rfl fun q hq hs=>by
   have Hh:¬reach ops 4 r.o q.i=true:=fun h=>by rw[aaU q h]at hs;cases hs
   refine⟨fun b hb=>?_,?_⟩
   ·rcases sJ q hq with h|⟨_,h,_⟩
    ·exact Hh h
    ·exact absurd rfl (h _ b hb x hx)
   ·exact Classical.byContradiction fun cQ=>Hh (Xw q hq cQ)
  have U3:∀q∈post,aA listed q.i=true→¬reach ops 4 q.o r.i=true:=fun q hq hs h=>by rw[Km q hq h]at hs;cases hs
  have hf2:∀t∈r.o.looksAt ops,na (aA listed) f0 (pre++r::post) t=kY f0 pre t:=fun t ht=>by
   rw[tU,Xv,oE fun q hq hs=>⟨fun hd=>?_,fun id hid=>?_⟩]
   ·exact Y7 t ht
   ·rcases Oh q hq with h|⟨h,_⟩
    ·exact U3 q hq hs h
    ·exact absurd ht ((Oper.apart_spec h).2.2 t hd)
   ·rw[Y7 t ht];rcases hc q hq id hid with h|h
    ·exact absurd h (U3 q hq hs)
    ·exact h.1 t ht
  have cM:∀x∈r.ft,nb (aA listed) m0 (pre++r::post) x.2=nV m0 pre x.2:=fun x hx=>by
   rw[tV,SI,oF fun q hq hs=>⟨fun b hb=>?_,fun id hid=>?_⟩]
   ·exact Za x hx
   ·rcases Oh q hq with h|⟨_,_,h⟩
    ·exact U3 q hq hs h
    ·exact absurd rfl (h _ b hb x hx)
   ·rw[Za x hx];rcases hc q hq id hid with h|h
    ·exact absurd h (U3 q hq hs)
    ·exact h.2.2.1 x hx
  have hwp:=Y9 _ _ hf2 cM μ φ a w (wpAnyIn (FR rd) 0 E.P .any ops Q fuel (listed.setIfInBounds r.i true)) Q hR fun μ' φ' a' w' iD=>by
   have Xx:∀j,aA (listed.setIfInBounds r.i true) j=if j=r.i then true else aA listed j:=fun j=>by
    simp only[aA,Array.getD_eq_getD_getElem?,Array.getElem?_setIfInBounds];by_cases e:r.i=j
    ·subst e;simp[SH]
    ·have e':¬j=r.i:=fun h=>e h.symm;simp[e,e']
   refine ih (listed.setIfInBounds r.i true) (by simp[hs]) ?_ ?_ ?_ ?_ μ' φ' a' w' ?_
   ·rw[Array.toList_setIfInBounds,List.countP_set (by simpa using SH)];have:listed.toList[r.i]'(by simpa using SH)=false:=by simp only[aA,Array.getD_eq_getD_getElem?,Array.getElem?_eq_getElem SH,Option.getD_some]at hSi;simpa using hSi
    rw[this];simp only[Bool.not_false,if_true,Bool.not_true,Bool.false_eq_true,if_false];omega
   ·intro i' o' P1 ny e he Ft;rw[Xx]at ny⊢;split
    ·rfl
    ·split at ny
     ·rename_i SF;subst SF;have:o'=r.o:=by rw[pq r hr]at P1;exact(Option.some.inj P1).symm
      subst this;exact y5 e he Ft
     ·exact s9 i' o' P1 ny e he Ft
   ·intro i' ny;rw[Xx];split
    ·rfl
    ·exact hb i' ny
   ·intro i' ny;rw[Xx]at ny;split at ny
    ·rename_i SF;exact Or.inr ⟨r,hr,SF.symm⟩
    ·exact oZ i' ny
   ·have Xy:∀q∈pre,aA (listed.setIfInBounds r.i true) q.i=aA listed q.i:=fun q hq=>by rw[Xx,if_neg (aaT q hq)]
    have tW:∀q∈post,aA (listed.setIfInBounds r.i true) q.i=aA listed q.i:=fun q hq=>by rw[Xx,if_neg (Y8 q hq)]
    have hSr:aA (listed.setIfInBounds r.i true) r.i=true:=by rw[Xx,if_pos rfl]
    have e1:na (aA (listed.setIfInBounds r.i true)) f0 (pre++r::post)=r.fs (na (aA listed) f0 (pre++r::post)):=funext fun t=>by
     have hg:na (aA (listed.setIfInBounds r.i true)) f0 pre=na (aA listed) f0 pre:=funext fun s=>wF rfl Xy;rw[tU,tU,Xv,na,hSr,hg];simp only[cond];by_cases hk:r.kl=[]
     ·by_cases hd:r.o.dst=some t
      ·rw[Rec.HC hd,oE fun q hq hs=>⟨fun hqd=>?_,fun id hid=>?_⟩,Rec.HC hd]
       ·rw[tW q hq]at hs;rcases Oh q hq with h|⟨h,_⟩
        ·exact U3 q hq hs h
        ·exact absurd hqd ((Oper.apart_spec h).2.1 t hd)
       ·rw[tW q hq]at hs;rw[Rec.HC hd];rcases hc q hq id hid with h|h
        ·exact absurd h (U3 q hq hs)
        ·exact h.2.1
      ·have yW:∀(g:Fr),r.fs g t=g t:=fun g=>Rec.Of hd fun id⟨b,hid⟩=>by rw[hk]at hid;cases hid
       rw[yW];exact wF (yW _) tW
     ·have P0:∀q∈post,aA listed q.i=false:=fun q hq=>Km q hq (SJ hk q hq);rw[oE fun q hq hs=>by rw[tW q hq,P0 q hq]at hs;cases hs];exact Rec.Cn (oE fun q hq hs=>by rw[P0 q hq]at hs;cases hs).symm
    have e2:nb (aA (listed.setIfInBounds r.i true)) m0 (pre++r::post)=r.ms (nb (aA listed) m0 (pre++r::post)):=funext fun j=>by
     have hg:nb (aA (listed.setIfInBounds r.i true)) m0 pre=nb (aA listed) m0 pre:=funext fun s=>wG rfl Xy;rw[tV,tV,SI,nb,hSr,hg];simp only[cond];by_cases hk:r.kl=[]
     ·by_cases hd:∃b,(j,b)∈r.wr
      ·obtain⟨b,hd,vv⟩:=Rec.Xu hd;rw[vv,oF fun q hq hs=>⟨fun b' hqd=>?_,fun id hid=>?_⟩,vv]
       ·rw[tW q hq]at hs;rcases Oh q hq with h|⟨_,_,h⟩
        ·exact U3 q hq hs h
        ·exact absurd rfl (h j b' hqd (true,j) (hrw j b hd))
       ·rw[tW q hq]at hs;rcases hc q hq id hid with h|h
        ·exact absurd h (U3 q hq hs)
        ·obtain⟨h1,h2⟩:=h.2.2.2 j b hd vv;refine⟨h1,fun b' fU=>?_⟩;rw[vv]at fU;cases fU;exact h2
      ·have N4:∀b,(j,b)∉r.wr:=fun b hb=>hd ⟨b,hb⟩;have yW:∀(g:Mem),r.ms g j=g j:=fun g=>Rec.SB N4 fun id⟨b,hid⟩=>by rw[hk]at hid;cases hid
       rw[yW];exact wG (yW _) tW
     ·have P0:∀q∈post,aA listed q.i=false:=fun q hq=>Km q hq (SJ hk q hq);rw[oF fun q hq hs=>by rw[tW q hq,P0 q hq]at hs;cases hs];exact Rec.Co (oF fun q hq hs=>by rw[P0 q hq]at hs;cases hs).symm
    rw[e1,e2];exact iD
  split
  ·rename_i hw;rw[if_pos hw]at hwp;exact hwp rd
  ·rename_i hw;rw[if_neg hw]at hwp;exact⟨fun _ _=>trivial,hwp⟩
end
end Go.Ab
set_option linter.unusedVariables false
namespace Go.Ab
open Go.RowKit (Below)
section
variable {E:Env} {ops:Array Oper} {w0:bx}
variable{o:Oper}
theorem P2{t:Nat}(h:.tmp t∈o.op.operands):t∈o.looksAt ops:=by unfold Oper.looksAt;refine List.mem_append.2 (.inl (List.mem_filterMap.2 ⟨.tmp t,by simpa using h,rfl⟩))
theorem tX{g:Nat×Bool}{t:Nat}(hg:o.guard=some g)(h:(ops[g.1]?).bind (·.dst)=some t):t∈o.looksAt ops:=by unfold Oper.looksAt;rw[hg];refine List.mem_append.2 (.inr ?_);show t∈((ops[g.1]?).bind (·.dst)).toList;rw[h];simp
variable{f F:Fr}
theorem vD(h:∀t∈o.looksAt ops,f t=F t):∀x∈o.op.operands,bC E f x=bC E F x:=by
 intro x hx;cases x with
 |tmp t=>simp only[bC];rw[h t (P2 hx)]
 |_=>rfl
variable{A:List (Nat×Bool)}{φ:Nat→aG}{a:Act}{w:World}
theorem HF{f2:Fr}{m2:Mem}{μ:Ro}(hg:guardOf o A=none)(hA:po E.fn.ntmps ops A f)(hR:Rel E.P E.aH E.fn.ntmps w0 μ φ f2 m2 a w)(hf:∀t∈o.looksAt ops,f2 t=f t):Region.wanted o (yielded ops a.tmps)=true:=by
 unfold guardOf at hg;unfold Region.wanted;split at hg
 ·rename_i Sw;simp[Sw]
 ·rename_i g Sw;split at hg
  ·rename_i bO;obtain⟨t,h1,h0,h2⟩:=hA g (by simpa using bO);have h3:=hR.fr t;rw[oS h0,hf t (tX Sw h1),h2]at h3;simp only[Sw];rw[sG h1 (pk h3)];simp
  ·cases hg
variable{i:Nat}{ft:br}{m:Mem}
theorem Cr(hE:iQ E){v:V}{wr:List (Nat×bL)}(hg:guardOf o A=none)(hA:po E.fn.ntmps ops A f)(hd:tE E o=true)(hn:∀(f2:Fr)(m2:Mem),(∀x∈o.op.operands,bC E f2 x=bC E f x)→(∀x∈ft,m2 x.2=m x.2)→∀(R':Type)(k':V→Fr→Mem→br→Option R'),G4 E true (cD E o.dst) o f2 m2 k'=k' v f2 (ry wr m2) ft):Ew E ops w0 ⟨i,o,v,wr,ft,[]⟩ f m:=by
 intro f2 m2 hf hm μ φ a w K Q hR hK;have hw:Region.wanted o (yielded ops a.tmps)=true:=by
  unfold guardOf at hg;unfold Region.wanted;split at hg
  ·rename_i Sw;simp[Sw]
  ·rename_i g Sw;split at hg
   ·rename_i bO;obtain⟨t,h1,h0,h2⟩:=hA g (by simpa using bO);have h3:=hR.fr t;rw[oS h0,hf t (tX Sw h1),h2]at h3;simp only[Sw];rw[sG h1 (pk h3)];simp
   ·cases hg
 simp only at hf hm hK⊢;rw[if_pos hw];exact fun rd=>(Xq hE (.inl rfl) (hn f2 m2 (vD hf) hm)).wC (yZ (hn f2 m2 (vD hf) hm Unit fun _ _ _ _=>some ())) rd w0 μ φ a w K Q hR fun y w' μ' φ' hle hM hF hv hl=>hK _ _ _ _ (hR.put hle (gZ hd) hM hF hv hl)
theorem Kn(hd:tE E o=true)(Ch:PU ops f o):Ew E ops w0 ⟨i,o,.aZ [],[],[],[]⟩ f m:=by
 intro f2 m2 hf hm μ φ a w K Q hR hK;simp only at hf hm hK⊢;have Zb:PU ops f2 o:=by obtain⟨g,hg,ht⟩:=Ch;exact⟨g,hg,fun t h=>by rw[hf t (tX hg h)];exact ht t h⟩
 rw[wb hR Zb];simp only[Bool.false_eq_true,if_false];exact hK _ _ _ _ (hR.put (fun _ _ h=>h) (gZ hd) hR.toaz hR.jB Cf (fun id hid=>by simp[V.has,cr]at hid))
def xF(x:Nat×Oper):Rec:=⟨x.1,x.2,.aZ [],[],[],[]⟩
theorem Ey{m:Mem}:∀(l:List (Nat×Oper))(F:Fr),(∀x∈l,tE E x.2=true)→(∀(pre post:List (Nat×Oper))(x:Nat×Oper),l=pre++x::post→PU ops (gF F pre) x.2)→fq E ops w0 F m (l.map xF)∧kY F (l.map xF)=gF F l
 |[],F,_,_=>⟨trivial,rfl⟩
 |x::r,F,hd,Ch=>by obtain⟨h1,h2⟩:=Ey (m:=m) r (gW F x.2.dst (.aZ [])) (fun y hy=>hd y (by simp[hy])) (fun pre post y h=>by have:=Ch (x::pre) post y (by rw[h];rfl);rwa[gF]at this);exact⟨⟨Kn (hd x (by simp)) (Ch [] r x rfl),by simp[xF],h1⟩,h2⟩
theorem Ez{m:Mem}:∀{l:List Rec},(∀q∈l,q.wr=[]∧q.kl=[])→nV m l=m
 |[],_=>rfl
 |r::l,h=>by
  obtain⟨h1,h2⟩:=h r (by simp);have:r.ms m=m:=by unfold Rec.ms;rw[h1,h2];rfl
  rw[nV,this];exact Ez fun q hq=>h q (by simp[hq])
theorem fq.wr:∀{l:List Rec}{f:Fr}{m:Mem},fq E ops w0 f m l→∀q∈l,∀id b,(id,b)∈q.wr→(true,id)∈q.ft
 |[],_,_,_,q,hq=>by cases hq
 |r::l,f,m,h,q,hq=>by
  rcases List.mem_cons.1 hq with rfl|hq
  ·exact h.2.1
  ·exact fq.wr h.2.2 q hq
def SK(q r:Rec):Prop:=reach ops 4 r.o q.i=true∨((∀id b,(id,b)∈q.wr→∀x∈r.ft,x.2≠id)∧∀id b,(id,b)∈r.wr→∀x∈q.ft,x.2≠id)
theorem HG{o:Oper}{w:Bool}{id:Nat}:∀{lg:Log},NP ops o w id lg=true→∀x∈lg,id≠x.2.2∨(w=false∧x.2.1=false)∨reach ops 4 o x.1=true
 |[],_,x,hx=>by cases hx
 |(j,w',nR)::lg,h,x,hx=>by
  simp only[NP,Bool.and_eq_true]at h;rcases List.mem_cons.1 hx with rfl|hx
  ·have h1:=h.1;simp only[Bool.or_eq_true,Bool.not_eq_true',Bool.and_eq_true]at h1;rcases h1 with(h1|h1)|h1
   ·exact .inl fun e=>by subst e;simp[Nat.beq_refl]at h1
   ·exact .inr (.inl h1)
   ·exact .inr (.inr h1)
  ·exact HG h.2 x hx
theorem y6{o:Oper}{lg:Log}:∀{ft:br},yM ops o lg ft=true→∀y∈ft,∀x∈lg,y.2≠x.2.2∨(y.1=false∧x.2.1=false)∨reach ops 4 o x.1=true
 |[],_,y,hy=>by cases hy
 |(w,id)::ft,h,y,hy=>by
  simp only[yM,Bool.and_eq_true]at h;rcases List.mem_cons.1 hy with rfl|hy
  ·exact HG h.1
  ·exact y6 h.2 y hy
theorem Cs{o:Oper}{id:Nat}:∀{lg:Log},A7 ops o id lg=true→∀x∈lg,x.2.2=vi id→reach ops 4 o x.1=true
 |[],_,x,hx=>by cases hx
 |(j,w,n)::lg,h,x,hx=>by
  simp only[A7,Bool.and_eq_true,Bool.or_eq_true,Bool.not_eq_true']at h;intro he;rcases List.mem_cons.1 hx with rfl|hx
  ·rcases h.1 with h1|h1
   ·simp only at he;rw[he,Nat.beq_refl]at h1;cases h1
   ·exact h1
  ·exact Cs h.2 x hx he
mutual
theorem Oi{id:Nat}:∀(v:V),v.has id=true→id∈v.ids
 |.agg cs,h=>rQ cs (by simpa only[V.has]using h)
 |.aZ cs,h=>rQ cs (by simpa only[V.has]using h)
 |.fn _ cs,h=>rQ cs (by simpa only[V.has]using h)
 |.os j,h=>by have:=Nat.eq_of_beq_eq_true h;subst this;simp[V.ids]
 |.fl j _ _,h=>by have:=Nat.eq_of_beq_eq_true h;subst this;simp[V.ids]
 |.oe j _ _,h=>by have:=Nat.eq_of_beq_eq_true h;subst this;simp[V.ids]
 |.om j,h=>by have:=Nat.eq_of_beq_eq_true h;subst this;simp[V.ids]
 |.tA j _ _,h=>by have:=Nat.eq_of_beq_eq_true h;subst this;simp[V.ids]
 |.xg j _ _ _ _ _,h=>by have:=Nat.eq_of_beq_eq_true h;subst this;simp[V.ids]
 |.op j _,h=>by have:=Nat.eq_of_beq_eq_true h;subst this;simp[V.ids]
 |.it j,h=>by have:=Nat.eq_of_beq_eq_true h;subst this;simp[V.ids]
 |.yl j,h=>by have:=Nat.eq_of_beq_eq_true h;subst this;simp[V.ids]
 |.pv _,h=>by cases h
 |.bf,h=>by cases h
 |.top,h=>by cases h
theorem rQ{id:Nat}:∀(cs:List V),cr id cs=true→id∈G5 cs
 |[],h=>by cases h
 |v::r,h=>by
  simp only[cr,Bool.or_eq_true]at h;simp only[G5,List.mem_append];rcases h with h|h
  ·exact .inl (Oi v h)
  ·exact .inr (rQ r h)
end
variable{id:Nat}
theorem xG{b:bL}(h:b.names id=true):id∈Bw (some b):=by
 cases b with
 |box cs=>exact rQ cs h
 |_=>cases h
theorem wI{m m':Mem}{id:Nat}:∀{ft:br}{x:Bool×Nat},x∈ft→(id∈Bw (m x.2)∨id∈Bw (m' x.2))→id∈Fj m m' ft
 |y::ft,x,hx,h=>by
  simp only[Fj,List.mem_append];rcases List.mem_cons.1 hx with rfl|hx
  ·exact .inl h
  ·exact .inr (wI hx h)
theorem SL{v:V}{wr:List (Nat×bL)}(Aa:∀t∈o.looksAt ops,f t=F t)(Zc:∀j b,(j,b)∈wr→(true,j)∈ft)(hn:id∉A6 ops o f m (ry wr m) v ft)(hft:∀x∈ft,x.2≠id):Clean ops id ⟨i,o,v,wr,ft,[]⟩ F m:=by
 simp only[A6,List.mem_append,not_or]at hn;obtain⟨⟨h1,h2⟩,h3⟩:=hn;refine⟨fun t ht=>?_,?_,fun x hx=>⟨hft x hx,fun b hb=>?_⟩,fun j b hb vv=>⟨hft _ (Zc j b hb),?_⟩⟩
 ·cases e:(F t).has id with
  |false=>rfl
  |true=>exact absurd (rQ _ (cR.2 ⟨f t,List.mem_map.2 ⟨t,ht,rfl⟩,by rw[Aa t ht];exact e⟩)) h1
 ·cases e:v.has id with
  |false=>rfl
  |true=>exact absurd (Oi _ e) h2
 ·cases e:b.names id with
  |false=>rfl
  |true=>exact absurd (wI hx (.inl (by rw[hb];exact xG e))) h3
 ·cases e:b.names id with
  |false=>rfl
  |true=>exact absurd (wI (Zc j b hb) (.inr (by have fU:ry wr m j=some b:=vv m;simp only;rw[fU];exact xG e))) h3
variable{R:Type}
theorem Ko{site:Nat}{rd:br}(h:sq E f m o=some (id,rd)){k:V→Fr→Mem→br→Option R}{r:R}(hx:cW E false site o f m k=some r):(∀x∈rd,x.1=false)∧∃dH,k (.os id) (eQ id f) (av (bg (bD id m) id) id dH) [(true,0)]=some r∧∀(f2:Fr)(m2:Mem),(∀x∈o.op.operands,bC E f2 x=bC E f x)→(∀x∈(true,id)::rd,m2 x.2=m x.2)→∀(R':Type)(k':V→Fr→Mem→br→Option R'),cW E false site o f2 m2 k'=k' (.os id) (eQ id f2) (av (bg (bD id m2) id) id dH) [(true,0)]:=by
 obtain⟨dst,op,type,pos,after,guard⟩:=o;unfold sq at h;simp only at h;split at h
 ·rename_i c;obtain⟨callee,args,argTypes⟩:=c;simp only at h;split at h
  ·rename_i nR x t t' jL YY;split at h
   ·rename_i e hu;split at h
    ·rename_i new rd' yS;split at h
     ·cases h
     ·rename_i YZ;simp only[Option.some.injEq,Prod.mk.injEq]at h;obtain⟨rfl,rfl⟩:=h;obtain⟨he1,he2,_⟩:=mw yS;have ae8:∀m2:Mem,bg (bD nR m2) nR nR=none:=fun m2=>by simp[bg,Nat.beq_refl]
      have main:∀(f2:Fr)(m2:Mem),args.toList.map (bC E f2)=[.os nR,x]→m2 nR=m nR→eG m2 (aU E.P e) x=some (new,rd')→∀(R':Type)(k':V→Fr→Mem→br→Option R'),cW E false site ⟨dst,.call ⟨.builtin .append,args,argTypes⟩,type,pos,after,guard⟩ f2 m2 k'=if !(decide (t'=t))then none else if(dm E e).isNone then none else match m nR with
       |some (.arr sz et es)=>if et=e∧sz=aU E.P e∧x.has nR=false then(if(es++new).length*Dy E.P e≤aa∧0<Dy E.P e then k' (.os nR) (eQ nR f2) (av (bg (bD nR m2) nR) nR (.arr sz e (es++new))) [(true,0)]else none)else none
       |_=>none:=by
       intro f2 m2 h1 h2 h3 R' k'
       simp only[cW,h1,YY,xm,Bool.false_or,hu,h3,h2]
       split
       ·rfl
       ·split
        ·rfl
        ·split
         ·rename_i sz et es Od;simp only[fresh,ae8,Od]
         ·rename_i cQ;split
          ·rename_i sz et es cM;exact absurd cM (cQ sz et es)
          ·rfl
      rw[main f m jL rfl yS]at hx;refine⟨he2,?_⟩;split at hx
      ·cases hx
      ·rename_i Xe;split at hx
       ·cases hx
       ·rename_i BG;split at hx
        ·rename_i sz et es hm;split at hx
         ·rename_i hc3;split at hx
          ·rename_i hc4;refine⟨_,hx,fun f2 m2 hf cM R' k'=>?_⟩;have ha:args.toList.map (bC E f2)=[.os nR,x]:=by rw[←jL];exact qS fun y hy=>hf y (by simp only[Op.operands,Call.operands];simp[Array.mem_toList_iff.1 hy])
           rw[main f2 m2 ha (cM (true,nR) (by simp)) (he1 m2 fun y hy=>cM y (by simp[hy])) R' k'];rw[if_neg Xe,if_neg BG,hm];simp only;rw[if_pos hc3,if_pos hc4]
          ·cases hx
         ·cases hx
        ·cases hx
    ·cases h
   ·cases h
  ·cases h
 ·cases h
theorem tr.kill(h:tr f F)(id:Nat):tr (eQ id f) (eQ id F):=fun t=>by
 rcases h t with e|e
 ·exact .inl (by simp only[eQ,e])
 ·exact .inr (by simp only[eQ,e];rfl)
theorem po.kill{nt:Nat}(h:po nt ops A f)(id:Nat):po nt ops A (eQ id f):=by intro g hg;obtain⟨t,h1,h0,h2⟩:=h g hg;exact⟨t,h1,h0,by simp only[eQ,h2];rfl⟩
theorem SM{x:Nat×br}(h:sq E f m o=some x):isApp E o=true:=by
 obtain⟨dst,op,type,pos,after,guard⟩:=o;unfold sq at h;simp only at h;unfold isApp;split at h
 ·rename_i c;obtain⟨callee,args,argTypes⟩:=c;simp only at h;split at h
  ·simp
  ·cases h
 ·cases h
theorem FG{rd:br}(h:sq E f m o=some (id,rd)):∃c x t t',o.op=.call c∧c.callee=.builtin .append∧c.args.toList.map (bC E f)=[.os id,x]∧c.argTypes.toList=[t,t']:=by
 unfold sq at h;split at h
 ·rename_i c hc;split at h
  ·rename_i nR x t t' h1 h2 h3;split at h
   ·split at h
    ·split at h
     ·cases h
     ·simp only[Option.some.injEq,Prod.mk.injEq]at h;obtain⟨rfl,_⟩:=h;exact⟨c,x,t,t',hc,h1,h2,h3⟩
    ·cases h
   ·cases h
  ·cases h
 ·cases h
theorem P3{kl:Kl}(h:Fk E f m o=some (kl,ft)){k:V→Fr→Mem→br→Option R}{r:R}(hx:G4 E false (cD E o.dst) o f m k=some r):isApp E o=true∧∃v wr ft1,k v (kf kl f) (ry wr (km kl m)) ft1=some r∧(∀x∈wr,(true,x.1)∈ft)∧(∀x∈kl,(true,x.2)∈ft)∧∀(f2:Fr)(m2:Mem),(∀x∈o.op.operands,bC E f2 x=bC E f x)→(∀x∈ft,m2 x.2=m x.2)→∀(R':Type)(k':V→Fr→Mem→br→Option R'),G4 E false (cD E o.dst) o f2 m2 k'=k' v (kf kl f2) (ry wr (km kl m2)) ft1:=by
 unfold Fk at h;unfold G4 at hx;split at h
 ·rename_i sp im;simp only[Option.some.injEq]at h;have hn:E.zy (cD E o.dst)=true:=by
   cases hn:E.zy (cD E o.dst)with
   |true=>rfl
   |false=>rw[hn]at im;cases im
  rw[hn]at im hx;simp only[cond]at im hx;rw[im]at hx;obtain⟨v,wr,h1,h2,h3,h4,_,_⟩:=Kh im hx;rw[h]at h1 h2 h3 h4;refine⟨by unfold isApp;rw[hn];rfl,v,wr,ft,h1,h2,h3,fun f2 m2 hf hm R' k'=>?_⟩;have:=Ke im hf (by rw[h];exact hm);unfold G4;rw[hn];simp only[cond];rw[this];exact h4 f2 m2 R' k'
 ·rename_i im;split at h
  ·rename_i id rd SN;simp only[Option.some.injEq,Prod.mk.injEq]at h;obtain⟨rfl,rfl⟩:=h;have e0:(bif false then none else bif E.zy (cD E o.dst)then wo E (cD E o.dst) o f m else none)=(bif E.zy (cD E o.dst)then wo E (cD E o.dst) o f m else none):=rfl;rw[e0,im]at hx;simp only at hx;obtain⟨xw,dH,hk,hn⟩:=Ko SN hx;refine⟨SM SN,.os id,[(id,dH)],[(true,0)],hk,by simp,by simp,fun f2 m2 hf hm R' k'=>?_⟩;have SO:(bif E.zy (cD E o.dst)then wo E (cD E o.dst) o f2 m2 else none)=none:=by
    cases JT:E.zy (cD E o.dst)with
    |false=>rfl
    |true=>
     simp only[cond];obtain⟨c,x,t,t',hc,VW,jL,Su⟩:=FG SN;have Zd:c.args.toList.map (bC E f2)=[.os id,x]:=by rw[←jL];exact List.map_congr_left fun y hy=>hf y (by rw[hc];simp only[Op.operands,Call.operands];rw[VW];simp[Array.mem_toList_iff.1 hy])
     have cM:m2 id=m id:=hm (true,id) (by simp);have Xr:∃sz et es,m id=some (.arr sz et es):=by
      obtain⟨dst,op,type,pos,after,guard⟩:=o;simp only at hc;subst hc;obtain⟨callee,args,argTypes⟩:=c;simp only at VW jL Su;subst VW;simp only[cW,jL,Su,xm,Bool.false_or]at hx;split at hx
      ·cases hx
      ·split at hx
       ·split at hx
        ·cases hx
        ·split at hx
         ·split at hx
          ·rename_i sz et es hm;exact⟨sz,et,es,hm⟩
          ·cases hx
         ·cases hx
       ·cases hx
     obtain⟨sz,et,es,Xr⟩:=Xr;unfold wo;rw[hc];simp only[VW,Zd,Su,cM,Xr];split<;>first|rfl|(rename_i heq;cases heq)
   unfold G4;have e1:(bif false then none else bif E.zy (cD E o.dst)then wo E (cD E o.dst) o f2 m2 else none)=(bif E.zy (cD E o.dst)then wo E (cD E o.dst) o f2 m2 else none):=rfl;rw[e1,SO];exact hn f2 m2 hf hm R' k'
  ·cases h
theorem tr.vU(h:tr f F)(id:Nat):tr (gn id f) (gn id F):=fun t=>by
 rcases h t with e|e
 ·exact .inl (by simp only[gn,e])
 ·exact .inr (by simp only[gn,e];rfl)
theorem tr.kf:∀{kl:Kl}{f F:Fr},tr f F→tr (Go.Ab.kf kl f) (Go.Ab.kf kl F)
 |[],_,_,h=>h
 |(true,id)::r,f,F,h=>tr.kf (kl:=r) (f:=eQ id f) (F:=eQ id F) (h.kill id)
 |(false,id)::r,f,F,h=>tr.kf (kl:=r) (f:=gn id f) (F:=gn id F) (h.vU id)
theorem po.vU{nt:Nat}(h:po nt ops A f)(id:Nat):po nt ops A (gn id f):=by intro g hg;obtain⟨t,h1,h0,h2⟩:=h g hg;exact⟨t,h1,h0,by simp only[gn,h2];rfl⟩
theorem po.kf{nt:Nat}{A:List (Nat×Bool)}:∀{kl:Kl}{f:Fr},po nt ops A f→po nt ops A (Go.Ab.kf kl f)
 |[],_,h=>h
 |(true,id)::r,f,h=>po.kf (kl:=r) (f:=eQ id f) (h.kill id)
 |(false,id)::r,f,h=>po.kf (kl:=r) (f:=gn id f) (h.vU id)
theorem P4(hE:iQ E)(hY:rF E.P E.aH E.fn.ntmps E.yl w0){v:V}{wr:List (Nat×bL)}{kl:Kl}{ft1:br}(hg:guardOf o A=none)(hA:po E.fn.ntmps ops A F)(hd:tE E o=true)(PX:∀x∈o.op.operands,bC E f x=bC E F x)(hn:∀(f2:Fr)(m2:Mem),(∀x∈o.op.operands,bC E f2 x=bC E f x)→(∀x∈ft,m2 x.2=m x.2)→∀(R':Type)(k':V→Fr→Mem→br→Option R'),G4 E false (cD E o.dst) o f2 m2 k'=k' v (kf kl f2) (ry wr (km kl m2)) ft1):Ew E ops w0 ⟨i,o,v,wr,ft,kl⟩ F m:=by
 intro f2 m2 hf hm μ φ a w K Q hR hK;have hw:Region.wanted o (yielded ops a.tmps)=true:=HF hg hA hR hf;simp only at hf hm hK⊢;rw[if_pos hw];have hx:=hn f2 m2 (fun x hx=>by rw[vD hf x hx,PX x hx]) hm (V×Fr×Mem) fun v f m _=>some (v,f,m);rcases FE hE hx with⟨v,f',m',ft,h1,h2⟩|⟨_,h2⟩
 ·simp only[Option.some.injEq,Prod.mk.injEq]at h1;obtain⟨rfl,rfl,rfl⟩:=h1;exact fun rd=>h2.wC (yZ hx) rd w0 μ φ a w K Q hR fun y w' μ' φ' hle hM hF hv hl=>hK _ _ _ _ (hR.put hle (gZ hd) hM hF hv hl)
 ·refine fun rd=>Cc.wC h2 rd w0 μ φ a w K Q hY hR fun v f' m' y w' μ' φ' h1 hle hM hF hv hl=>?_;simp only[Option.some.injEq,Prod.mk.injEq]at h1;obtain⟨rfl,rfl,rfl⟩:=h1;exact hK _ _ _ _ (hR.put hle (gZ hd) hM hF hv hl)
structure FH(ops:Array Oper)(mode:Nat)(F:Fr)(m:Mem)(lg:Log)(recs:List Rec):Prop where
 one:mode=1→∀q∈recs,q.wr=[]∧q.kl=[]
 ord:mode=2→recs.Pairwise (SK (ops:=ops))
 log:mode=2→∀q∈recs,∀y∈q.ft,∀x∈lg,y.2≠x.2.2∨(y.1=false∧x.2.1=false)∨reach ops 4 q.o x.1=true
 kl:recs.Pairwise fun q r=>q.kl≠[]→reach ops 4 r.o q.i=true
 cln:mP ops F m recs
 nam:∀q∈recs,∀id,q.Eu id→mode=2∧ops.toList.any (isApp E)=true∧(true,id)∈q.ft∧∀x∈lg,x.2.2=vi id→reach ops 4 q.o x.1=true
theorem mP.none:∀{l:List Rec}{f:Fr}{m:Mem},(∀q∈l,q.kl=[])→mP ops f m l
 |[],_,_,_=>trivial
 |r::l,f,m,h=>⟨fun q hq id⟨b,hid⟩=>(by rw[h q (by simp[hq])]at hid;cases hid),mP.none fun q hq=>h q (by simp[hq])⟩
theorem lv(hE:iQ E)(hY:rF E.P E.aH E.fn.ntmps E.yl w0){mode:Nat}(iG:mode=1∨mode=2):∀(fuel:Nat){R:Type}{A:List (Nat×Bool)}{l:List (Nat×Oper)}{f:Fr}{m:Mem}{lg:Log}{k:Fr→Mem→Option R}{r:R},cp E ops mode fuel R A l f m lg k=some r→(∀x∈l,ops[x.1]?=some x.2)→(mode=1→∀x∈l,e9 x.2=true)→Y4 ops A l→∀F:Fr,tr f F→po E.fn.ntmps ops A F→(∀x∈l,∀t∈x.2.looksAt ops,f t=F t)→∃(recs:List Rec)(f':Fr),k f' (nV m recs)=some r∧tr f' (kY F recs)∧recs.map (fun r=>(r.i,r.o))=l∧fq E ops w0 F m recs∧FH (E:=E) ops mode F m lg recs
 |0,_,_,_,_,_,_,_,_,h,_,_,_,_,_,_,_=>by simp[cp]at h
 |fuel+1,R,A,[],f,m,lg,k,r,h,_,_,_,F,hF,_,_=>by simp only[cp]at h;exact⟨[],f,h,hF,rfl,trivial,by simp,fun _=>.nil,by simp,.nil,trivial,by simp⟩
 |fuel+1,R,A,(i,o)::rest,f,m,lg,k,r,h,hl,Rn,Ci,F,hF,hA,Aa=>by
  have Za:(Nat.beq mode 1||Nat.beq mode 2)=true:=by rcases iG with rfl|rfl<;>rfl
  simp only[cp,Za]at h;split at h
  ·rename_i hg;split at h
   ·rename_i hd;have aaV:∀x∈o.op.operands,bC E f x=bC E F x:=vD (Aa (i,o) (by simp));split at h
    ·rename_i kl ft im;have Ze:mode=2:=by
      rcases iG with rfl|rfl
      ·cases im
      ·rfl
     subst Ze;have im:Fk E f m o=some (kl,ft):=im;split at h
     ·rename_i AJ;simp only[Bool.and_eq_true,List.all_eq_true]at AJ;obtain⟨⟨ae9,afa⟩,afb⟩:=AJ;obtain⟨SN,v,wr,ft1,hk,Zc,iM,hn⟩:=P3 im h;obtain⟨recs,f',c1,c2,c3,c4,c5⟩:=lv hE hY (.inr rfl) fuel hk (fun x hx=>hl x (by simp[hx])) (fun hm=>by cases hm) (fun x hx=>Ci x (by simp[hx])) (gW (kf kl F) o.dst v) ((tr.kf (kl:=kl) hF).put _ _) (po.put (po.kf (kl:=kl) hA) fun g oD t ht=>Ci (i,o) (by simp) g oD t ht) (fun x hx t ht=>by
       by_cases e:o.dst=some t
       ·rw[e,iX,iX]
       ·rw[dQ e,dQ e];exact xE (Aa x (by simp[hx]) t ht))
      have pq:∀q∈recs,reach ops 4 q.o i=true:=fun q hq=>afb (q.i,q.o) (by rw[←c3];exact List.mem_map.2 ⟨q,hq,rfl⟩);have Zf:ops.toList.any (isApp E)=true:=List.any_eq_true.2 ⟨o,List.mem_of_getElem? (by rw[Array.getElem?_toList];exact hl (i,o) (by simp)),SN⟩;refine⟨⟨i,o,v,wr,ft,kl⟩::recs,f',c1,c2,by simp[c3],⟨P4 hE hY hg hA hd aaV hn,fun j b hb=>Zc _ hb,c4⟩,?_⟩;refine⟨fun hm=>(by cases hm),fun hm=>List.pairwise_cons.2 ⟨fun q hq=>.inl (pq q hq),c5.ord hm⟩,fun hm q hq=>?_,List.pairwise_cons.2 ⟨fun q hq _=>pq q hq,c5.kl⟩,⟨fun q hq nR _=>.inl (pq q hq),c5.cln⟩,fun q hq nR hid=>?_⟩
      ·rcases List.mem_cons.1 hq with rfl|hq
       ·exact y6 ae9
       ·exact fun y hy x hx=>c5.log hm q hq y hy x (List.mem_append.2 (.inr hx))
      ·rcases List.mem_cons.1 hq with rfl|hq
       ·obtain⟨bb,hid⟩:=hid;exact⟨rfl,Zf,iM _ hid,Cs (afa _ hid)⟩
       ·obtain⟨g1,g2,g3,g4⟩:=c5.nam q hq nR hid;exact⟨g1,g2,g3,fun x hx=>g4 x (List.mem_append.2 (.inr hx))⟩
     ·cases h
    ·rcases FE hE h with⟨v,f1,m1,ft,hk,PX⟩|⟨wz,_⟩
     rotate_left
     ·cases wz
     obtain⟨Y7,wr,aaW,Zc,hn⟩:=PX.drawn rfl;subst Y7;have Pv:∀(f2:Fr)(m2:Mem),(∀x∈o.op.operands,bC E f2 x=bC E F x)→(∀x∈ft,m2 x.2=m x.2)→∀(R':Type)(k':V→Fr→Mem→br→Option R'),G4 E true (cD E o.dst) o f2 m2 k'=k' v f2 (ry wr m2) ft:=fun f2 m2 hf=>hn f2 m2 fun x hx=>by rw[hf x hx,aaV x hx]
     have step:∀(wr':List (Nat×bL))(lg':Log),ry wr' m=m1→(mode=1→wr'=[])→(∀id b,(id,b)∈wr'→(true,id)∈ft)→Ew E ops w0 ⟨i,o,v,wr',ft,[]⟩ F m→cp E ops mode fuel R A rest (gW f1 o.dst v) m1 lg' k=some r→(mode=2→lg'=(bif ops.toList.any (isApp E)then(A6 ops o f1 m m1 v ft).map (fun n=>(i,false,vi n))else[])++(ft.map (fun x=>(i,x))++lg)∧yM ops o lg ft=true)→∃(recs:List Rec)(f':Fr),k f' (nV m recs)=some r∧tr f' (kY F recs)∧recs.map (fun r=>(r.i,r.o))=(i,o)::rest∧fq E ops w0 F m recs∧FH (E:=E) ops mode F m lg recs:=by
      intro wr' lg' hwm N8 hw2 Y9 VT hlg;obtain⟨recs,f',c1,c2,c3,c4,c5⟩:=lv hE hY iG fuel VT (fun x hx=>hl x (by simp[hx])) (fun hm x hx=>Rn hm x (by simp[hx])) (fun x hx=>Ci x (by simp[hx])) (gW F o.dst v) (hF.put _ _) (po.put hA fun g oD t ht=>Ci (i,o) (by simp) g oD t ht) (fun x hx t ht=>by
       by_cases e:o.dst=some t
       ·rw[e,iX,iX]
       ·rw[dQ e,dQ e];exact Aa x (by simp[hx]) t ht)
      subst hwm;refine⟨⟨i,o,v,wr',ft,[]⟩::recs,f',c1,c2,by simp[c3],⟨Y9,hw2,c4⟩,?_⟩;have Xz:mode=2→∀x∈lg,x∈lg':=fun hm x hx=>by rw[(hlg hm).1];exact List.mem_append.2 (.inr (List.mem_append.2 (.inr hx)))
      have SP:mode=2→∀x∈ft,(i,x)∈lg':=fun hm x hx=>by rw[(hlg hm).1];exact List.mem_append.2 (.inr (List.mem_append.2 (.inl (List.mem_map.2 ⟨x,hx,rfl⟩))))
      refine⟨fun hm q hq=>?_,fun hm=>List.pairwise_cons.2 ⟨fun q hq=>?_,c5.ord hm⟩,fun hm q hq=>?_,List.pairwise_cons.2 ⟨fun q hq h=>absurd rfl h,c5.kl⟩,⟨fun q hq id hid=>?_,c5.cln⟩,fun q hq id hid=>?_⟩
      ·rcases List.mem_cons.1 hq with rfl|hq
       ·exact⟨N8 hm,rfl⟩
       ·exact c5.one hm q hq
      ·have d2:=c5.log hm;by_cases he:reach ops 4 q.o i=true
       ·exact .inl he
       ·refine .inr ⟨fun id b hb x hx hxi=>?_,fun id b hb x hx hxi=>?_⟩
        ·rcases d2 q hq x hx (i,true,id) (SP hm (true,id) (hw2 id b hb))with h|h|h
         ·exact h hxi
         ·cases h.2
         ·exact he h
        ·rcases d2 q hq (true,id) (fq.wr c4 q hq id b hb) (i,x) (SP hm x hx)with h|h|h
         ·exact h hxi.symm
         ·cases h.1
         ·exact he h
      ·rcases List.mem_cons.1 hq with rfl|hq
       ·exact y6 (hlg hm).2
       ·exact fun y hy x hx=>c5.log hm q hq y hy x (Xz hm x hx)
      ·obtain⟨g1,g2,g3,g4⟩:=c5.nam q hq id hid;by_cases he:reach ops 4 q.o i=true
       ·exact .inl he
       ·refine .inr (SL (Aa (i,o) (by simp)) hw2 (fun bO=>he (g4 (i,false,vi id) ?_ rfl)) fun x hx hxi=>?_)
        ·rw[(hlg g1).1,g2];exact List.mem_append.2 (.inl (List.mem_map.2 ⟨id,bO,rfl⟩))
        ·rcases c5.log g1 q hq (true,id) g3 (i,x) (SP g1 x hx)with h|h|h
         ·exact h hxi.symm
         ·cases h.1
         ·exact he h
      ·rcases List.mem_cons.1 hq with rfl|hq
       ·obtain⟨_,hid⟩:=hid;cases hid
       ·obtain⟨g1,g2,g3,g4⟩:=c5.nam q hq id hid;exact⟨g1,g2,g3,fun x hx=>g4 x (Xz g1 x hx)⟩
     rcases iG with rfl|rfl
     ·simp only[Nat.beq,Bool.false_eq_true,if_false]at hk;split at hk
      ·rename_i hqf;have Zg:wr=[]:=by
        cases wr with
        |nil=>rfl
        |cons x l=>have:=wE hqf _ (Zc x (by simp));cases this
       subst Zg;exact step [] lg aaW.symm (fun _=>rfl) (by simp) (Cr hE hg hA hd Pv) hk (by simp)
      ·cases hk
     ·simp only[Nat.beq,if_true]at hk;split at hk
      ·rename_i hof;exact step wr _ aaW.symm (by simp) (fun id b hb=>Zc _ hb) (Cr hE hg hA hd Pv) hk fun _=>⟨rfl,hof⟩
      ·cases hk
   ·cases h
  ·rename_i j yN hg;split at h
   ·rename_i tj Rp;split at h
    ·rename_i b hb;generalize im:zC A ((i,o)::rest)=sp at h;obtain⟨body,G6⟩:=sp;have lu:=Cg im;have hm0:Nat.beq mode 0=false:=by rcases iG with rfl|rfl<;>rfl
     simp only[hm0,Bool.false_and,Bool.false_eq_true,if_false]at h;split at h
     ·rename_i ip p k8;split at h
      ·rename_i c x y Ki;split at h
       ·rename_i hc;simp only[Bool.and_eq_true,List.all_eq_true,Bool.not_eq_true',beq_eq_false_iff_ne,ne_eq]at hc;obtain⟨⟨⟨⟨⟨⟨Kj,Y6⟩,we⟩,Sz⟩,Zh⟩,hpd⟩,cM⟩:=hc;have Zi:mode=1:=by
         rcases iG with h|h
         ·exact h
         ·subst h;simp[Nat.beq]at cM
        subst Zi;have Kj:=Nat.eq_of_beq_eq_true Kj;subst Kj;have Y6:guardOf p A=none:=by simpa using Y6
        obtain⟨rb,JD,h⟩:=Option.bind_eq_some_iff.1 h;have bO:∀z∈body,z∈(i,o)::rest:=fun z hz=>by rw[lu];simp[hz]
        have ta:∀z∈k8,z∈(i,o)::rest:=fun z hz=>by rw[lu];simp[hz]
        have Hz:(ip,p)∈(i,o)::rest:=by rw[lu];simp
        obtain⟨Sy,hb⟩:=Ce hb;have hFc:F c=.pv (.bool b):=by
         rcases hF c with e|e
         ·rw[←e];exact hb
         ·rw[e]at hb;cases hb
        have after:∀(qz:List Rec)(q:Operand),qz.map (fun r=>(r.i,r.o))=body→fq E ops w0 F m qz→(∀q∈qz,q.wr=[]∧q.kl=[])→bC E (kY F qz) q=.pv (.bool rb)→(q=if b then x else y)→∃(recs:List Rec)(f':Fr),k f' (nV m recs)=some r∧tr f' (kY F recs)∧recs.map (fun r=>(r.i,r.o))=body++(ip,p)::k8∧fq E ops w0 F m recs∧(∀q∈recs,q.wr=[]∧q.kl=[]):=by
         intro qz q aaX aaY Zg hq hqe;have VX:∀t,(∀z∈body,z.2.dst≠some t)→kY F qz t=F t:=fun t ht=>Ev fun q hq=>⟨ht (q.i,q.o) (by rw[←aaX];exact List.mem_map.2 ⟨q,hq,rfl⟩),(Zg q hq).2⟩;have hA1:po E.fn.ntmps ops A (kY F qz):=fun g oD=>by obtain⟨t,h1,h0,h2⟩:=hA g oD;exact⟨t,h1,h0,by rw[VX t fun z hz=>Ci z (bO z hz) g oD t h1];exact h2⟩
         have Ri:kY F qz c=.pv (.bool b):=by rw[VX c fun z hz=>(we z hz).2];exact hFc
         have hrp:Ew E ops w0 ⟨ip,p,.pv (.bool rb),[],[],[]⟩ (kY F qz) m:=Cr hE Y6 hA1 hpd fun f2 m2 hf hm R' k'=>by
          have oZ:bC E f2 (.tmp c)=.pv (.bool b):=by have:=hf (.tmp c) (by rw[Ki];simp[Op.operands]);rw[this,VS Sy];exact Ri
          have Xd:bC E f2 q=.pv (.bool rb):=by rw[hf q (by rw[Ki,hqe];cases b<;>simp[Op.operands])];exact hq
          rw[Hy Ki oZ,←hqe,Xd];rfl
         obtain⟨recs,f',c1,c2,c3,c4,c5⟩:=lv hE hY (.inl rfl) fuel h (fun z hz=>hl z (ta z hz)) (fun hm z hz=>Rn hm z (ta z hz)) (fun z hz=>Ci z (ta z hz)) (gW (kY F qz) p.dst (.pv (.bool rb))) (tr.put (vC fun t ht=>by rw[VX t ht];exact hF t) _ _) (po.put hA1 fun g oD t ht=>Ci (ip,p) Hz g oD t ht) (fun z hz t ht=>by
          by_cases e:p.dst=some t
          ·rw[e,iX,iX]
          ·have hnb:∀u∈body,u.2.dst≠some t:=fun u hu hud=>by
            have h1:=Zh z hz;simp only[blind,List.all_eq_true]at h1;have h2:=h1 u hu;rw[hud]at h2;simp only[Bool.not_eq_true']at h2;have:(z.2.looksAt ops).elem t=true:=by simpa using ht
            rw[this]at h2;cases h2
           rw[dQ e,dQ e,vB hnb,VX t hnb];exact Aa z (ta z hz) t ht)
         have hmB:nV m qz=m:=Ez Zg;refine⟨qz++⟨ip,p,.pv (.bool rb),[],[],[]⟩::recs,f',?_,?_,by simp[aaX,c3],?_,fun q hq=>?_⟩
         ·rw[HE,hmB];exact c1
         ·rw[HD];exact c2
         ·refine fq.append.2 ⟨aaY,?_⟩;rw[hmB];exact⟨hrp,by simp,c4⟩
         ·rcases List.mem_append.1 hq with h|h
          ·exact Zg q h
          ·rcases List.mem_cons.1 h with rfl|h
           ·exact⟨rfl,rfl⟩
           ·exact c5.one rfl q h
        have fin:(∃(recs:List Rec)(f':Fr),k f' (nV m recs)=some r∧tr f' (kY F recs)∧recs.map (fun r=>(r.i,r.o))=body++(ip,p)::k8∧fq E ops w0 F m recs∧(∀q∈recs,q.wr=[]∧q.kl=[]))→∃(recs:List Rec)(f':Fr),k f' (nV m recs)=some r∧tr f' (kY F recs)∧recs.map (fun r=>(r.i,r.o))=(i,o)::rest∧fq E ops w0 F m recs∧FH (E:=E) ops 1 F m lg recs:=by rintro⟨recs,f',c1,c2,c3,c4,c5⟩;exact⟨recs,f',c1,c2,by rw[lu];exact c3,c4,fun _=>c5,fun h=>(by cases h),fun h=>(by cases h),List.Pairwise.imp_of_mem (R:=fun _ _=>True) (fun{q r}hq hr _ h=>absurd (c5 q hq).2 h) (List.pairwise_of_forall fun _ _=>trivial),mP.none fun q hq=>(c5 q hq).2,fun q hq id⟨_,hid⟩=>(by rw[(c5 q hq).2]at hid;cases hid)⟩
        have go:∀q,b=yN→(q=if b then x else y)→cp E ops 1 fuel Bool ((j,yN)::A) body f m lg (fun f _=>vR (bC E f q))=some rb→∃(recs:List Rec)(f':Fr),k f' (nV m recs)=some r∧tr f' (kY F recs)∧recs.map (fun r=>(r.i,r.o))=body++(ip,p)::k8∧fq E ops w0 F m recs∧(∀q∈recs,q.wr=[]∧q.kl=[]):=by
         intro q PY hq VT;obtain⟨qz,f1,c1,c2,c3,c4,c5⟩:=lv hE hY (.inl rfl) fuel VT (fun z hz=>hl z (bO z hz)) (fun hm z hz=>Rn hm z (bO z hz)) (fun z hz g oD t ht=>by
          rcases List.mem_cons.1 oD with rfl|oD
          ·simp only[Rp]at ht;cases ht;exact(we z hz).2
          ·exact Ci z (bO z hz) g oD t ht) F hF (fun g oD=>by
          rcases List.mem_cons.1 oD with rfl|oD
          ·exact⟨c,Rp,Sy,by rw[hFc,PY]⟩
          ·exact hA g oD) (fun z hz=>Aa z (bO z hz))
         refine after qz q c3 c4 (c5.one rfl) ?_ hq;have hv:=xB c1;rcases Sv (E:=E) c2 q with e|e
         ·rw[←e];exact hv
         ·rw[e]at hv;cases hv
        have no:∀q,b= !yN→(q=if b then x else y)→vR (bC E (kZ f body) q)=some rb→∃(recs:List Rec)(f':Fr),k f' (nV m recs)=some r∧tr f' (kY F recs)∧recs.map (fun r=>(r.i,r.o))=body++(ip,p)::k8∧fq E ops w0 F m recs∧(∀q∈recs,q.wr=[]∧q.kl=[]):=by
         intro q PY hq VT;obtain⟨s1,s2⟩:=Ey (E:=E) (w0:=w0) (m:=m) body F (fun z hz=>(we z hz).1.2) (xA Rp Sz (fun z hz=>hl z (bO z hz)) (fun z hz=>(we z hz).2) (by rw[hFc,PY]) (by simp));refine after (body.map xF) q (by simp[xF,Function.comp_def]) s1 (fun u hu=>by obtain⟨z,_,rfl⟩:=List.mem_map.1 hu;exact⟨rfl,rfl⟩) ?_ hq;rw[s2];have hv:=xB VT;have hle:tr (kZ f body) (gF F body):=vC fun t ht=>by rw[sH ht];exact hF t
         rcases Sv (E:=E) hle q with e|e
         ·rw[←e];exact hv
         ·rw[e]at hv;cases hv
        refine fin ?_;cases yN<;>cases b<;>simp only[cond]at JD
        ·exact go y rfl rfl JD
        ·exact no x rfl rfl JD
        ·exact no y rfl rfl JD
        ·exact go x rfl rfl JD
       ·cases h
      ·cases h
     ·cases h
    ·cases h
   ·cases h
theorem qT{l:List Oper}:(i,o)∈(List.range l.length).zip l↔l[i]?=some o:=by
 rw[List.mem_iff_getElem?];constructor
 ·rintro⟨n,hn⟩;rw[List.getElem?_zip_eq_some]at hn;obtain⟨h1,h2⟩:=hn;rw[List.getElem?_range (by have:=(List.getElem?_eq_some_iff.1 h2).1;omega)]at h1;simp only[Option.some.injEq]at h1;subst h1;exact h2
 ·intro h;refine⟨i,List.getElem?_zip_eq_some.2 ⟨?_,h⟩⟩;exact List.getElem?_range (by have:=(List.getElem?_eq_some_iff.1 h).1;omega)
theorem tY:∀{l done:List (Nat×Oper)},mK ops done l=true→(∀x∈l,∀d∈done,reach ops 4 x.2 d.1=true∨d.2.apart ops x.2=true)∧l.Pairwise (fun q r=>reach ops 4 r.2 q.1=true∨q.2.apart ops r.2=true)∧∀x∈l,∀e∈x.2.after,Region.binds .any e=true→e.on<x.1
 |[],_,_=>⟨by simp,.nil,by simp⟩
 |(i,o)::r,done,h=>by
  simp only[mK,Bool.and_eq_true]at h;obtain⟨⟨h1,h2⟩,h3⟩:=h;obtain⟨i1,i2,i3⟩:=tY h3;have zP:∀{done:List (Nat×Oper)},vj ops done o=true→∀d∈done,reach ops 4 o d.1=true∨d.2.apart ops o=true:=by
   intro done;induction done with
   |nil=>intro _ d hd;cases hd
   |cons x l ih=>
    intro h d hd;simp only[vj,Bool.and_eq_true,Bool.or_eq_true]at h;rcases List.mem_cons.1 hd with rfl|hd
    ·exact h.1.symm
    ·exact ih h.2 d hd
  refine⟨fun x hx d hd=>?_,List.pairwise_cons.2 ⟨fun x hx=>i1 x hx (i,o) (by simp),i2⟩,fun x hx e he hb=>?_⟩
  ·rcases List.mem_cons.1 hx with rfl|hx
   ·exact zP h2 d hd
   ·exact i1 x hx d (by simp[hd])
  ·rcases List.mem_cons.1 hx with rfl|hx
   ·have:=List.all_eq_true.1 h1 e (Array.mem_toList_iff.2 he);simp only[hb,Bool.not_true,Bool.false_or]at this;rwa[Nat.blt_eq]at this
   ·exact i3 x hx e he hb
variable{rd:Option Nat}{fuel:Nat}{Q:Exit→Act→World→Prop}
theorem tZ(hE:iQ E)(hY:rF E.P E.aH E.fn.ntmps E.yl w0){mode:Nat}(iG:mode=1∨mode=2){l:List (Nat×Oper)}{base:Nat→Bool}(Rn:mode=1→∀x∈l,e9 x.2=true){k:Fr→Mem→Option R}{r:R}(hmz:∀x∈l,ops[x.1]?=some x.2)(XA:(l.map Prod.fst).Pairwise (·<·))(SD:∀x∈l,base x.1=false)(SE:∀i o,ops[i]?=some o→base i=false→(∀x∈l,x.1≠i)→(∀x∈l,reach ops 8 o x.1=true)∨∃j,reach ops 8 o j=true∧base j=false∧∀x∈l,x.1≠j)(afc:∀x∈l,∀e∈x.2.after,Region.binds .any e=true→base e.on=true∨∃y∈l,y.1=e.on)(hi:mK ops [] l=true)(h:cp E ops mode fuel R [] l f m [] k=some r)(hQ:∀(fuel:Nat)(listed:Array Bool),listed.size=ops.size→listed.toList.countP (fun b=> !b)≤fuel→wH ops listed→(∀i,aA listed i=true↔base i=true∨∃x∈l,x.1=i)→∀f' m' μ φ a w,k f' m'=some r→Rel E.P E.aH E.fn.ntmps w0 μ φ f' m' a w→wpAnyIn (FR rd) 0 E.P .any ops Q fuel listed a w):∀(fuel:Nat)(listed:Array Bool),listed.size=ops.size→listed.toList.countP (fun b=> !b)≤fuel→wH ops listed→(∀i,aA listed i=true↔base i=true)→∀(μ:Ro)(φ:Nat→aG)(a:Act)(w:World),Rel E.P E.aH E.fn.ntmps w0 μ φ f m a w→wpAnyIn (FR rd) 0 E.P .any ops Q fuel listed a w:=by
 intro aaZ listed hs hc s9 hb μ φ a w hR;obtain⟨recs,f',c1,c2,c3,c4,c5⟩:=lv (w0:=w0) hE hY iG fuel h hmz Rn (by intro x hx g hg;cases hg) f (tr.refl f) (by intro g hg;cases hg) (fun _ _ _ _=>rfl);obtain⟨_,i2,i3⟩:=tY hi;have bO:∀q∈recs,(q.i,q.o)∈l:=fun q hq=>by rw[←c3];exact List.mem_map.2 ⟨q,hq,rfl⟩
 have hof:∀x∈l,∃q∈recs,q.i=x.1:=fun x hx=>by rw[←c3]at hx;obtain⟨q,hq,rfl⟩:=List.mem_map.1 hx;exact⟨q,hq,rfl⟩
 have zP:recs.Pairwise fun q r=>reach ops 4 r.o q.i=true∨q.o.apart ops r.o=true:=by rw[←c3,List.pairwise_map]at i2;exact i2
 have FI:recs.Pairwise (SK (ops:=ops)):=by
  rcases iG with hm|hm
  ·exact List.Pairwise.imp_of_mem (fun{q r}hq hr _=>.inr ⟨fun id b hb=>(by rw[(c5.one hm q hq).1]at hb;cases hb),fun id b hb=>(by rw[(c5.one hm r hr).1]at hb;cases hb)⟩) zP
  ·exact c5.ord hm
 refine SC (E:=E) (w0:=w0) (recs:=recs) (f0:=f) (m0:=m) (base:=base) ?_ (fun q hq=>hmz _ (bO q hq)) (fun q hq=>SD _ (bO q hq)) (fun i o ho hbi cQ=>?_) ?_ c5.kl c5.cln (fun q hq e he Ft=>⟨i3 _ (bO q hq) e he Ft,?_⟩) c4 ?_ aaZ listed hs hc s9 (fun i hi=>(hb i).2 hi) (fun i hi=>Or.inl ((hb i).1 hi)) μ φ a w ?_
 ·rw[←c3,List.map_map]at XA;have h2:(recs.map (Prod.fst∘fun r=>(r.i,r.o))).Pairwise (·<·):=XA;rw[List.pairwise_map]at h2;exact h2
 ·have afd:∀x∈l,x.1≠i:=fun x hx e=>by obtain⟨q,hq,SF⟩:=hof x hx;exact cQ q hq (by rw[SF];exact e)
  rcases SE i o ho hbi afd with h1|⟨j,h1,h2,h3⟩
  ·exact Or.inl fun q hq=>h1 _ (bO q hq)
  ·exact Or.inr ⟨j,h1,h2,fun q hq=>h3 _ (bO q hq)⟩
 ·refine List.Pairwise.imp (fun{q r}h=>?_) (List.Pairwise.and zP FI);obtain⟨h1,h2⟩:=h;rcases h1 with h1|h1
  ·exact .inl h1
  ·rcases h2 with h2|h2
   ·exact .inl h2
   ·exact .inr ⟨h1,h2⟩
 ·rcases afc _ (bO q hq) e he Ft with h1|⟨y,hy,h1⟩
  ·exact Or.inl h1
  ·obtain⟨q',Px,SF⟩:=hof y hy;exact Or.inr ⟨q',Px,by rw[SF];exact h1⟩
 ·intro XB Oj YT BG afe oZ μ2 φ2 a2 w2 En;refine hQ XB Oj YT BG afe (fun i=>?_) _ _ μ2 φ2 a2 w2 c1 (En.weaken c2);rw[oZ i];constructor
  ·rintro(h1|⟨q,hq,h1⟩)
   ·exact Or.inl h1
   ·exact Or.inr ⟨_,bO q hq,h1⟩
  ·rintro(h1|⟨x,hx,h1⟩)
   ·exact Or.inl h1
   ·obtain⟨q,hq,SF⟩:=hof x hx;exact Or.inr ⟨q,hq,by rw[SF];exact h1⟩
 ·have hS:∀q∈recs,aA listed q.i=false:=fun q hq=>by
   cases hx:aA listed q.i with
   |false=>rfl
   |true=>have:=(hb q.i).1 hx;rw[SD _ (bO q hq)]at this;cases this
  rw[show na (aA listed) f recs=f from funext fun t=>oE fun q hq hs=>(by rw[hS q hq]at hs;cases hs),show nb (aA listed) m recs=m from funext fun t=>oF fun q hq hs=>(by rw[hS q hq]at hs;cases hs)];exact hR
variable{x:Nat×Oper}
theorem wJ(hx:x∈(List.range ops.size).zip ops.toList):ops[x.1]?=some x.2:=by have:=(qT (l:=ops.toList) (i:=x.1) (o:=x.2)).1 (by simpa using hx);rwa[Array.getElem?_toList]at this
theorem pw(ho:ops[i]?=some o):(i,o)∈(List.range ops.size).zip ops.toList:=by have:=(qT (l:=ops.toList) (i:=i) (o:=o)).2 (by rw[Array.getElem?_toList];exact ho);simpa using this
theorem zip_fst:((List.range ops.size).zip ops.toList).map Prod.fst=List.range ops.size:=by rw[List.map_fst_zip (by simp)]
variable{P:Program}
theorem Ct{F:Fence}{n:Nat}{listed:Array Bool}(hs:listed.size=ops.size)(AM:∀i o,ops[i]?=some o→aA listed i=true)(hq:Q .normal a w):wpAnyIn F n P .any ops Q fuel listed a w:=by
 have hr:Region.ready .any ops listed=[]:=by
  apply List.eq_nil_iff_forall_not_mem.2;intro j hj;obtain⟨h0,o,ho,_⟩:=mem_ready.1 hj;have h1:=AM j o ho;have bu:j<listed.size:=by rw[hs];exact(Array.getElem?_eq_some_iff.1 ho).1
  simp only[aA,Array.getD_eq_getD_getElem?,Array.getElem?_eq_getElem bu,Option.getD_some]at h0 h1;rw[h0]at h1;cases h1
 cases fuel with
 |zero=>exact⟨hr,hq⟩
 |succ fuel=>exact⟨fun _=>hq,fun i hi=>by rw[hr]at hi;cases hi⟩
theorem ua(n j:Nat):aA (Array.replicate n false) j=false:=by simp only[aA,Array.getD_eq_getD_getElem?,Array.getElem?_replicate];split<;>rfl
theorem count_le(n:Nat):(Array.replicate n false).toList.countP (fun b=> !b)≤n:=by have:=List.countP_le_length (p:=fun b=> !b) (l:=(Array.replicate n false).toList);simpa using this
theorem Ac:wH ops (Array.replicate ops.size false):=fun i o _ h=>by rw[ua]at h;cases h
theorem Cu(hE:iQ E)(hY:rF E.P E.aH E.fn.ntmps E.yl w0){mode:Nat}(iG:mode=1∨mode=2)(Rn:mode=1→∀o∈ops,e9 o=true){k:Fr→Mem→Option R}{r:R}(hi:mK ops [] ((List.range ops.size).zip ops.toList)=true)(h:cp E ops mode fuel R [] ((List.range ops.size).zip ops.toList) f m [] k=some r){μ:Ro}(hR:Rel E.P E.aH E.fn.ntmps w0 μ φ f m a w)(hQ:∀f' m' μ' φ' a' w',k f' m'=some r→Rel E.P E.aH E.fn.ntmps w0 μ' φ' f' m' a' w'→Q .normal a' w'):wpAnyIn (FR rd) 0 E.P .any ops Q ops.size (Array.replicate ops.size false) a w:=by
 refine tZ (w0:=w0) (base:=fun _=>false) hE hY iG (fun hm x hx=>Rn hm x.2 (Array.mem_of_getElem? (wJ hx))) (fun x hx=>wJ hx) (by rw[zip_fst];exact List.pairwise_lt_range) (fun _ _=>rfl) (fun i o ho _ cQ=>absurd rfl (cQ _ (pw ho))) (fun x hx e he hb=>Or.inr ?_) hi h ?_ ops.size _ (by simp) (count_le _) Ac (fun i=>by rw[ua]) μ φ a w hR
 ·obtain⟨_,_,i3⟩:=tY hi;have h1:=i3 x hx e he hb;have h2:x.1<ops.size:=(Array.getElem?_eq_some_iff.1 (wJ hx)).1;exact⟨_,pw (Array.getElem?_eq_getElem (show e.on<ops.size by omega)),rfl⟩
 ·intro XB Oj YT _ _ oZ f' m' μ2 φ2 a2 w2 hk En;exact Ct YT (fun i o ho=>(oZ i).2 (Or.inr ⟨_,pw ho,rfl⟩)) (hQ _ _ _ _ _ _ hk En)
theorem xH{j:Nat}(h:((List.range ops.size).zip ops.toList)[j]?=some x):x.1=j:=by
 have h1:(((List.range ops.size).zip ops.toList).map Prod.fst)[j]?=some x.1:=by rw[List.getElem?_map,h];rfl
 rw[zip_fst]at h1;obtain⟨h2,h3⟩:=List.getElem?_eq_some_iff.1 h1;rw[List.getElem_range]at h3;exact h3.symm
theorem nc{p:Nat}:x∈((List.range ops.size).zip ops.toList).take p↔x∈(List.range ops.size).zip ops.toList∧x.1<p:=by
 constructor
 ·intro h;obtain⟨j,hj⟩:=List.getElem?_of_mem h;have hjp:j<p:=by have:=(List.getElem?_eq_some_iff.1 hj).1;simp at this;omega
  rw[List.getElem?_take_of_lt hjp]at hj;exact⟨List.mem_of_getElem? hj,by rw[xH hj];exact hjp⟩
 ·rintro⟨h,hx⟩;obtain⟨j,hj⟩:=List.getElem?_of_mem h;have:=xH hj;exact List.mem_of_getElem? (i:=j) (by rw[List.getElem?_take_of_lt (by omega)];exact hj)
theorem rR{p:Nat}:x∈((List.range ops.size).zip ops.toList).drop p↔x∈(List.range ops.size).zip ops.toList∧p≤x.1:=by
 constructor
 ·intro h;obtain⟨j,hj⟩:=List.getElem?_of_mem h;rw[List.getElem?_drop]at hj;exact⟨List.mem_of_getElem? hj,by rw[xH hj];omega⟩
 ·rintro⟨h,hx⟩;obtain⟨j,hj⟩:=List.getElem?_of_mem h;have:=xH hj;exact List.mem_of_getElem? (i:=j-p) (by rw[List.getElem?_drop,show p+(j-p)=j by omega];exact hj)
variable{K:Act→World→Prop}{Q':Exit→Act→World→Prop}
theorem Oper.Kp{F:Fence}{n:Nat}(h:∀e a w,e≠.normal→Q' e a w→Q e a w)(hh:o.wpIn F n P a w K Q'):o.wpIn F n P a w K Q:=by
 unfold Oper.wpIn at*;refine⟨hh.1,?_⟩;have hh:=hh.2;have aa0:LetsOut Q'→LetsOut Q:=fun⟨a,w,hq⟩=>⟨a,w,h _ _ _ (by simp) hq⟩;generalize (o.semAt F.round a.eval).run P w=r at*;cases r with
 |ok x w'=>
  cases x<;>simp only[Oper.uponIn]at hh⊢<;>first
   |exact hh
   |exact⟨hh.1,CallsIn.mono hh.2 (fun e w'' he=>by cases e<;>first|exact aa0 he|exact h _ _ _ (by simp) he|exact he)⟩
   |exact⟨hh.1,RoundIn.mono hh.2 (fun e w'' he=>by cases e<;>first|exact aa0 he|exact h _ _ _ (by simp) he|exact he)⟩
 |halt x w'=>cases x<;>simp only[Oper.uponIn]at hh⊢<;>first|exact h _ _ _ (by simp) hh|exact hh
theorem FJ{F:Fence}{n:Nat}(h:∀e a w,e≠.normal→Q' e a w→Q e a w)(hh:wpOpIn F n P ops Q' i K a w):wpOpIn F n P ops Q i K a w:=by
 unfold wpOpIn at*;split
 ·simpa[*]using hh
 ·rename_i o ho;simp only[ho]at hh;split
  ·rename_i hw;simp only[hw,if_true]at hh;exact Oper.Kp h hh
  ·rename_i hw;simp only[hw]at hh;exact hh
theorem Kq(hE:iQ E)(hY:rF E.P E.aH E.fn.ntmps E.yl w0){p:Nat}(P5:RL ops p=true){k:Fr→Mem→Option R}{r:R}(Zj:mK ops [] (((List.range ops.size).zip ops.toList).take p)=true)(hi3:mK ops [] (((List.range ops.size).zip ops.toList).drop (p+1))=true){n1 n2 n3:Nat}(h:(cp E ops 2 n1 R [] (((List.range ops.size).zip ops.toList).take p) f m [] fun f m=>cp E ops 0 n2 R [] ((((List.range ops.size).zip ops.toList).drop p).take 1) f m [] fun f m=>cp E ops 2 n3 R [] (((List.range ops.size).zip ops.toList).drop (p+1)) f m [] k)=some r){μ:Ro}(hR:Rel E.P E.aH E.fn.ntmps w0 μ φ f m a w)(hQ:∀f' m' μ' φ' a' w',k f' m'=some r→Rel E.P E.aH E.fn.ntmps w0 μ' φ' f' m' a' w'→Q .normal a' w'):wpAnyIn (FR rd) 0 E.P .any ops Q ops.size (Array.replicate ops.size false) a w:=by
 unfold RL at P5;cases ho:ops[p]? with
 |none=>rw[ho]at P5;cases P5
 |some o=>
  rw[ho]at P5;simp only[Bool.and_eq_true]at P5;obtain⟨⟨_,DG⟩,hpa⟩:=P5;have hpn:p<ops.size:=(Array.getElem?_eq_some_iff.1 ho).1;have Og:∀e∈o.after,Region.binds .any e=true→e.on<p:=fun e he hb=>by have:=List.all_eq_true.1 DG e (Array.mem_toList_iff.2 he);rw[hb,Bool.not_true,Bool.false_or]at this;exact Nat.le_of_ble_eq_true this
  have aff:∀i,i<p→reach ops 8 o i=true:=fun i hi=>by
   have:=List.all_eq_true.1 hpa _ (pw (Array.getElem?_eq_getElem (show i<ops.size by omega)));simp only at this;have hb:Nat.blt i p=true:=by simp[Nat.blt];omega
   rw[hb]at this;exact this
  have aa1:∀i o',ops[i]?=some o'→p<i→reach ops 8 o' p=true:=fun i o' P1 hi=>by
   have:=List.all_eq_true.1 hpa _ (pw P1);simp only at this;have hb:Nat.blt i p=false:=by
    cases hx:Nat.blt i p with
    |false=>rfl
    |true=>have:i<p:=Nat.le_of_ble_eq_true hx;omega
   have oZ:Nat.beq i p=false:=by
    cases hx:Nat.beq i p with
    |false=>rfl
    |true=>have:=Nat.eq_of_beq_eq_true hx;omega
   rw[hb,oZ]at this;simpa using this
  refine tZ (w0:=w0) (base:=fun _=>false) hE hY (.inr rfl) (fun h=>by cases h) (fun x hx=>wJ (nc.1 hx).1) (by rw[List.map_take,zip_fst];exact(List.pairwise_lt_range).sublist (List.take_sublist _ _)) (fun _ _=>rfl) (fun i o' P1 _ cQ=>?_) (fun x hx e he hb=>Or.inr ?_) Zj h ?_ ops.size _ (by simp) (count_le _) Ac (fun i=>by rw[ua]) μ φ a w hR
  ·have hip:¬i<p:=fun hc=>cQ _ (nc.2 ⟨pw P1,hc⟩) rfl;by_cases hi:i=p
   ·subst hi;rw[ho]at P1;cases P1;exact Or.inl fun x hx=>aff _ (nc.1 hx).2
   ·exact Or.inr ⟨p,aa1 i o' P1 (by omega),rfl,fun x hx=>by have:=(nc.1 hx).2;omega⟩
  ·obtain⟨_,_,i3⟩:=tY Zj;have h1:=i3 x hx e he hb;have h2:=(nc.1 hx).2;exact⟨_,nc.2 ⟨pw (Array.getElem?_eq_getElem (show e.on<ops.size by omega)),by show e.on<p;omega⟩,rfl⟩
  ·intro fuel listed hs hc s9 hb f1 m1 μ1 φ1 a1 w1 PK Kk;have bu:∀i,aA listed i=true↔i<p:=fun i=>by
    rw[hb i];constructor
    ·rintro(h|⟨x,hx,rfl⟩)
     ·cases h
     ·exact(nc.1 hx).2
    ·intro hi;exact Or.inr ⟨_,nc.2 ⟨pw (Array.getElem?_eq_getElem (show i<ops.size by omega)),hi⟩,rfl⟩
   have mr:p<listed.size:=by rw[hs];exact hpn
   have hpu:aA listed p=false:=by
    cases hx:aA listed p with
    |false=>rfl
    |true=>have:=(bu p).1 hx;omega
   have Zk:listed[p]=false:=by simpa only[aA,Array.getD_eq_getD_getElem?,Array.getElem?_eq_getElem mr,Option.getD_some]using hpu
   cases fuel with
   |zero=>have:=List.countP_eq_zero.1 (Nat.le_zero.1 hc) listed[p] (by simp);rw[Zk]at this;simp at this
   |succ fuel=>
    have SQ:p∈Region.ready .any ops listed:=mem_ready.2 ⟨by simp only[Array.getD_eq_getD_getElem?,Array.getElem?_eq_getElem mr,Option.getD_some];exact Zk,o,ho,fun e he Ft=>(bu e.on).2 (Og e he Ft)⟩;refine⟨(fun h0=>by rw[h0]at SQ;cases SQ),fun i hi=>?_⟩;obtain⟨P0,o',P1,y5⟩:=mem_ready.1 hi;have pq:i<listed.size:=by rw[hs];exact(Array.getElem?_eq_some_iff.1 P1).1
    have hiu:aA listed i=false:=by simp only[aA,Array.getD_eq_getD_getElem?,Array.getElem?_eq_getElem pq,Option.getD_some]at P0⊢;exact P0
    have hip:i=p:=by
     refine Classical.byContradiction fun cQ=>?_;have h1:¬i<p:=fun hc=>by rw[(bu i).2 hc]at hiu;cases hiu
     have:=pt listed s9 8 o' p y5 (aa1 i o' P1 (by omega));rw[hpu]at this;cases this
    subst hip;have hL:(((List.range ops.size).zip ops.toList).drop i).take 1=[(i,o)]:=by
     have hlen:i<((List.range ops.size).zip ops.toList).length:=by simp;exact hpn
     rw[List.drop_eq_getElem_cons hlen];have hg:((List.range ops.size).zip ops.toList)[i]=(i,o):=by have h1:((List.range ops.size).zip ops.toList)[i]?=some ((List.range ops.size).zip ops.toList)[i]:=List.getElem?_eq_getElem hlen;have h2:=xH h1;have h3:=wJ (List.mem_of_getElem? h1);rw[h2,ho]at h3;exact Prod.ext h2 (Option.some.inj h3).symm
     rw[hg];rfl
    rw[hL]at PK;have Xx:∀j,aA (listed.setIfInBounds i true) j=if j=i then true else aA listed j:=fun j=>by
     simp only[aA,Array.getD_eq_getD_getElem?,Array.getElem?_setIfInBounds];by_cases e:i=j
     ·subst e;simp[mr]
     ·have e':¬j=i:=fun h=>e h.symm;simp[e,e']
    have hle:∀j,aA (listed.setIfInBounds i true) j=true↔j≤i:=fun j=>by
     rw[Xx];by_cases e:j=i
     ·simp[e]
     ·rw[if_neg e,bu];omega
    have aa2:=gB (rd:=rd) (w0:=w0) hE hY _ (.inl rfl) PK (by intro x hx;rw[List.mem_singleton]at hx;subst hx;exact ho) (by intro x hx g hg;cases hg) (fun h=>by cases h) μ1 φ1 a1 w1 (fun e a w=>(e=.normal∧wpAnyIn (FR rd) 0 E.P .any ops Q fuel (listed.setIfInBounds i true) a w)∨(e≠.normal∧Q e a w)) [] Kk (by intro g hg;cases hg) fun f2 m2 μ2 φ2 a2 w2 VI En _ _=>Or.inl ⟨rfl,?_⟩
    ·rw[List.append_nil,List.map_cons,List.map_nil,wpOpsIn_cons]at aa2;refine wpOpIn_mono (fun a w hq=>?_) (FJ (fun e a w cQ hq=>?_) aa2)
     ·rcases hq with⟨_,h⟩|⟨h,_⟩
      ·exact h
      ·exact absurd rfl h
     ·rcases hq with⟨h,_⟩|⟨_,h⟩
      ·exact absurd h cQ
      ·exact h
    ·refine tZ (w0:=w0) (base:=fun j=>decide (j≤i)) hE hY (.inr rfl) (fun h=>by cases h) (fun x hx=>wJ (rR.1 hx).1) (by rw[List.map_drop,zip_fst];exact(List.pairwise_lt_range).sublist (List.drop_sublist _ _)) (fun x hx=>by have:=(rR.1 hx).2;simp;omega) (fun j oj hj hbj cQ=>?_) (fun x hx e he Ft=>?_) hi3 VI ?_ fuel _ (by simp[hs]) ?_ ?_ (fun j=>by rw[hle j];simp) μ2 φ2 a2 w2 En
     ·simp only[decide_eq_false_iff_not]at hbj;exact absurd rfl (cQ _ (rR.2 ⟨pw hj,by show i+1≤j;omega⟩))
     ·obtain⟨_,_,i3⟩:=tY hi3;have h1:=i3 x hx e he Ft;have h2:x.1<ops.size:=(Array.getElem?_eq_some_iff.1 (wJ (rR.1 hx).1)).1;by_cases hei:e.on≤i
      ·exact Or.inl (by simpa using hei)
      ·exact Or.inr ⟨_,rR.2 ⟨pw (Array.getElem?_eq_getElem (show e.on<ops.size by omega)),by show i+1≤e.on;omega⟩,rfl⟩
     ·intro ahA aeK hs3 _ _ hb3 f3 m3 μ3 φ3 a3 w3 hk3 hR3;refine Ct hs3 (fun j oj hj=>(hb3 j).2 ?_) (hQ _ _ _ _ _ _ hk3 hR3);by_cases Kb:j≤i
      ·exact Or.inl (by simpa using Kb)
      ·exact Or.inr ⟨_,rR.2 ⟨pw hj,by show i+1≤j;omega⟩,rfl⟩
     ·rw[Array.toList_setIfInBounds,List.countP_set (by simpa using mr)];have:listed.toList[i]'(by simpa using mr)=false:=by simpa using Zk
      rw[this];simp only[Bool.not_false,if_true,Bool.not_true,Bool.false_eq_true,if_false];omega
     ·intro j oj hj hlj e he Ft;rw[hle]at hlj⊢;by_cases Kb:j=i
      ·subst Kb;rw[ho]at hj;cases hj;have:=Og e he Ft;omega
      ·have h1:=s9 j oj hj ((bu j).2 (by omega)) e he Ft;have:=(bu e.on).1 h1;omega
end
end Go.Ab
