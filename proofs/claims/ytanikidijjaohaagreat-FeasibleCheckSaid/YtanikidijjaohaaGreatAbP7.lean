import Derived.Test.YtanikidijjaohaaGreatAbP6
import Derived.OrdersIn
set_option linter.unusedVariables false
set_option linter.unusedSimpArgs false
namespace Go.Ab
open Go.RowKit (Below)
def uB(f F:Fr):Prop:=∀t,f t=F t∨f t=.top
theorem uB.refl(f:Fr):uB f f:=fun _=>.inl rfl
theorem uB.put{f F:Fr}(h:uB f F)(d:Option Nat)(v:V):uB (iE f d v) (iE F d v):=by
 intro t;cases d with
 |none=>exact h t
 |some d=>
  simp only[iE,fY];cases Nat.beq t d
  ·exact h t
  ·exact .inl rfl
theorem fB{f:Fr}{d:Option Nat}{v:V}{t:Nat}(h:d≠some t):iE f d v t=f t:=by
 cases d with
 |none=>rfl
 |some d=>exact pU (fun e=>h (by rw[e]))
theorem jO{f:Fr}{v:V}{t:Nat}:iE f (some t) v t=v:=by simp[iE,fY,ajF]
section
variable {E:Env} {ops:Array Oper} {w0:bu}
variable{nt:Nat}{μ:Ro}{φ:Nat→aA}{f:Fr}{m:Mem}{a:Act}
theorem Rel.weaken{f':Fr}{w:World}(h:Rel E.P E.aH nt w0 μ φ f m a w)(hf:uB f' f):Rel E.P E.aH nt w0 μ φ f' m a w:=
 {h with
  fr:=fun t=>by
   rcases hf t with e|e
   ·rw[e];exact h.fr t
   ·rw[e];exact .top,
  live:=fun t id an=>by
   rcases hf t with e|e
   ·rw[e]at an;exact h.live t id an
   ·rw[e]at an;cases an}
variable{t:Nat}
theorem C6{d:Nat}{y:Value}(hd:d<a.tmps.size):(a.put (some d) y).tmps.getD t undef=if t=d then y else a.tmps.getD t undef:=by
 simp only[Act.put,agN,ahE];by_cases e:d=t
 ·subst e;simp[hd]
 ·have e':¬t=d:=fun h=>e h.symm;simp[e,e']
theorem Rel.put{nt:Nat}{μ μ':Ro}{φ φ':Nat→aA}{f f':Fr}{m m':Mem}{a:Act}{w w':World}(h:Rel E.P E.aH nt w0 μ φ f m a w)(hle:II μ μ'){dst:Option Nat}{v:V}{y:Value}(hd:∀d,dst=some d→d<nt)(hM:aw E.P E.aH w0 μ' φ' m' w')(hF:bX E.P μ' φ' m' f' (ax nt w0 a))(hv:ae E.P μ' φ' v y)(hl:∀id,v.has id=true→(m' id).isSome=true):Rel E.P E.aH nt w0 μ' φ' (iE f' dst v) m' (a.put dst y) w':=by
 refine{toaw:=hM,size:=?_,defers:=?_,lR:=h.lR,fr:=fun t=>?_,live:=fun t id an=>?_}
 ·cases dst<;>simp[Act.put,h.size]
 ·cases dst<;>exact h.defers.mono hle
 ·cases dst with
  |none=>exact hF.fr t
  |some d=>
   have bS:d<a.tmps.size:=by rw[h.size];exact hd d rfl
   have hf:=hF.fr t;by_cases e:t=d
   ·subst e;rw[pN (hd t rfl),C6 bS,BY rfl,jO];exact hv
   ·rw[fB (by simpa using fun h=>e h.symm)];unfold ax at hf⊢;split
    ·rename_i ht;rw[BY ht]at hf;rw[C6 bS,IN e];exact hf
    ·rename_i ht;rw[IN ht]at hf;exact hf
 ·by_cases e:dst=some t
  ·subst e;rw[jO]at an;exact hl id an
  ·rw[fB e]at an;exact hF.live t id an
theorem Wo(h:t<E.fn.ntmps):bA E f (.tmp t)=f t:=by simp only[bA];rw[show Nat.blt t E.fn.ntmps=true by rw[ahC];exact h];rfl
theorem C7{p:PV}(h:bA E f (.tmp t)=.pv p):t<E.fn.ntmps∧f t=.pv p:=by
 simp only[bA]at h;cases e:Nat.blt t E.fn.ntmps with
 |true=>rw[e]at h;exact⟨by rwa[ahC]at e,h⟩
 |false=>rw[e]at h;cases h
theorem Tl{F:Fr}(h:uB f F)(q:Operand):bA E f q=bA E F q∨bA E f q=.top:=by
 cases q with
 |tmp t=>
  simp only[bA];cases Nat.blt t E.fn.ntmps with
  |true=>exact h t
  |false=>exact .inr rfl
 |_=>exact .inl rfl
def qk(nt:Nat)(ops:Array Oper)(A:List (Nat×Bool))(f:Fr):Prop:=∀g∈A,∃t,(ops[g.1]?).bind (·.dst)=some t∧t<nt∧f t=.pv (.bool g.2)
def y6(ops:Array Oper)(A:List (Nat×Bool))(a:Act):Prop:=∀g∈A,∃t,(ops[g.1]?).bind (·.dst)=some t∧a.tmps.getD t undef=.bool g.2
def ZA(ops:Array Oper)(A:List (Nat×Bool))(l:List (Nat×Oper)):Prop:=∀x∈l,∀g∈A,∀t,(ops[g.1]?).bind (·.dst)=some t→x.2.dst≠some t
variable{d:Option Nat}{A:List (Nat×Bool)}
theorem qk.put(h:qk nt ops A f){v:V}(hd:∀g∈A,∀t,(ops[g.1]?).bind (·.dst)=some t→d≠some t):qk nt ops A (iE f d v):=by intro g hg;obtain⟨t,h1,h0,h2⟩:=h g hg;exact⟨t,h1,h0,by rw[fB (hd g hg t h1)];exact h2⟩
variable{o:Oper}
theorem iG(h:uK E o=true):∀d,o.dst=some d→d<E.fn.ntmps:=by intro d hd;simp only[uK,hd]at h;rw[ahC]at h;exact h
variable{b:Bool}
theorem tE{j:Nat}(h:(ops[j]?).bind (·.dst)=some t)(hb:a.tmps.getD t undef=.bool b):yielded ops a.tmps j=some b:=by
 simp only[yielded,h,agO];have:a.tmps[t]?=some (.bool b):=by
  rw[agN]at hb;cases e:a.tmps[t]? with
  |none=>rw[e]at hb;simp[undef]at hb
  |some x=>rw[e]at hb;simpa using hb
 rw[this]
theorem Ak(ho:guardOf o A=none)(hA:y6 ops A a):Region.wanted o (yielded ops a.tmps)=true:=by
 unfold guardOf at ho;unfold Region.wanted;split at ho
 ·rename_i hg;simp[hg]
 ·rename_i g hg;split at ho
  ·rename_i bR;obtain⟨t,h1,h2⟩:=hA g (by simpa using bR);simp only[hg];rw[tE h1 h2];simp
  ·cases ho
theorem y6.put(h:y6 ops A a){y:Value}(hs:∀t,d=some t→t<a.tmps.size)(hd:∀g∈A,∀t,(ops[g.1]?).bind (·.dst)=some t→d≠some t):y6 ops A (a.put d y):=by
 intro g hg;obtain⟨t,h1,h2⟩:=h g hg;refine⟨t,h1,?_⟩;cases d with
 |none=>exact h2
 |some d=>rw[C6 (hs d rfl),IN fun e=>hd g hg t h1 (by rw[e])];exact h2
def Q6(ops:Array Oper)(f:Fr)(o:Oper):Prop:=∃g,o.guard=some g∧∀t,(ops[g.1]?).bind (·.dst)=some t→f t=.bn []∨f t=.pv (.bool (!g.2))
theorem Q7{P:Program}{x:Value}(h:ae P μ φ (.bn []) x):x=undef:=by
 cases h with
 | @bn _ xs h1 _=>have:xs= #[]:=aiM (by simpa using h1.symm);subst this;rfl
theorem C8{P:Program}:ae P μ φ (.bn []) undef:=.bn rfl (by simp)
theorem xn{w:World}(h:Rel E.P E.aH nt w0 μ φ f m a w)(hd:Q6 ops f o):Region.wanted o (yielded ops a.tmps)=false:=by
 obtain⟨g,hg,ht⟩:=hd;simp only[Region.wanted,hg];cases hs:(ops[g.1]?).bind (·.dst)with
 |none=>simp[yielded,hs]
 |some t=>
  have hy:nt≤t→yielded ops a.tmps g.1=none:=fun hle=>by simp only[yielded,hs,agO];rw[Array.getElem?_eq_none (by rw[h.size];exact hle)]
  by_cases EF:nt≤t
  ·rw[hy EF];rfl
  have bS:t<nt:=Nat.lt_of_not_le EF;have h3:=h.fr t;rw[pN bS]at h3;rcases ht t hs with e|e
  ·rw[e]at h3;have h4:=Q7 h3;have:yielded ops a.tmps g.1=none:=by
    simp only[yielded,hs,agO];rw[agN]at h4;cases e:a.tmps[t]? with
    |none=>rfl
    |some x=>rw[e]at h4;simp only[ahB]at h4;subst h4;rfl
   rw[this];rfl
  ·rw[e]at h3;rw[tE hs (qi h3)];cases g.2<;>rfl
theorem tF{t:Nat}:∀{l:List (Nat×Oper)}{f:Fr},(∀x∈l,x.2.dst≠some t)→ij f l t=f t
 |[],_,_=>rfl
 |x::r,f,h=>by rw[ij,tF (fun y hy=>h y (by simp[hy])),fB (h x (by simp))]
theorem wJ{t:Nat}:∀{l:List (Nat×Oper)}{f:Fr},(∀x∈l,x.2.dst≠some t)→lU f l t=f t
 |[],_,_=>rfl
 |x::r,f,h=>by rw[lU,wJ (fun y hy=>h y (by simp[hy])),fB (h x (by simp))]
theorem Al{t:Nat}:∀{l:List (Nat×Oper)}{f:Fr},(f t=.top∨∃x∈l,x.2.dst=some t)→lU f l t=.top
 |[],_,h=>by
  rcases h with h|⟨x,hx,_⟩
  ·exact h
  ·cases hx
 |x::r,f,h=>by
  rw[lU];by_cases e:x.2.dst=some t
  ·exact Al (.inl (by rw[e,jO]))
  ·refine Al ?_;rcases h with h|⟨y,hy,hd⟩
   ·exact .inl (by rw[fB e];exact h)
   ·rcases afh.1 hy with rfl|hy
    ·exact absurd hd e
    ·exact .inr ⟨y,hy,hd⟩
theorem wK{l:List (Nat×Oper)}{F:Fr}(h:∀t,(∀x∈l,x.2.dst≠some t)→f t=F t∨f t=.top):uB (lU f l) F:=by
 intro t;by_cases e:∃x∈l,x.2.dst=some t
 ·exact .inr (Al (.inr e))
 ·have e':∀x∈l,x.2.dst≠some t:=fun x hx hd=>e ⟨x,hx,hd⟩;rw[wJ e'];exact h t e'
theorem y7{g:Nat×Bool}{tj:Nat}(hj:(ops[g.1]?).bind (·.dst)=some tj):∀{l:List (Nat×Oper)}{done:List Nat}{f:Fr},uJ g done l=true→(∀x∈l,ops[x.1]?=some x.2)→(∀x∈l,x.2.dst≠some tj)→f tj=.pv (.bool (!g.2))→(∀j∈done,∀t,(ops[j]?).bind (·.dst)=some t→f t=.bn [])→∀(pre post:List (Nat×Oper))(x:Nat×Oper),l=pre++x::post→Q6 ops (ij f pre) x.2
 |[],_,_,_,_,_,_,_,pre,post,x,h=>by simp at h
 |y::r,done,f,hg,hl,hd,hb,LM,pre,post,x,h=>by
  simp only[uJ,T2]at hg;cases pre with
  |nil=>
   simp only[ah9,ahs]at h;obtain⟨rfl,rfl⟩:=h;rw[ij];have h1:=hg.1;split at h1
   ·rename_i hh ZB;refine⟨hh,ZB,fun t ht=>?_⟩;rcases Bool.or_eq_true_iff.1 h1 with h2|h2
    ·simp only[T2]at h2;have e1:=IT h2.1;have e2:hh.2=g.2:=by simpa using h2.2
     rw[e1]at ht;rw[hj]at ht;cases ht;exact .inr (by rw[e2];exact hb)
    ·exact .inl (LM _ (by simpa using h2) t ht)
   ·cases h1
  |cons z pre=>
   simp only[aiq,ahs]at h;obtain⟨rfl,h⟩:=h;rw[ij];refine y7 hj hg.2 (fun x hx=>hl x (by simp[hx])) (fun x hx=>hd x (by simp[hx])) (by rw[fB (hd y (by simp))];exact hb) (fun j hjm t ht=>?_) pre post x h;by_cases e:y.2.dst=some t
   ·rw[e,jO]
   ·rw[fB e];rcases afh.1 hjm with rfl|hjm
    ·rw[hl y (by simp)]at ht;exact absurd ht e
    ·exact LM j hjm t ht
theorem C9{A:List (Nat×Bool)}:∀{l a b:List (Nat×Oper)},AZ A l=(a,b)→l=a++b
 |[],a,b,h=>by simp[AZ]at h;obtain⟨rfl,rfl⟩:=h;rfl
 |x::r,a,b,h=>by
  simp only[AZ]at h;split at h
  ·cases hs:AZ A r with
   |mk a' b'=>rw[hs]at h;simp only[Xp]at h;obtain⟨rfl,rfl⟩:=h;rw[C9 hs];rfl
  ·simp only[Xp]at h;obtain⟨rfl,rfl⟩:=h;rfl
theorem y8{v:V}(h:wZ v=some b):v=.pv (.bool b):=by
 unfold wZ at h;split at h
 ·cases h;rfl
 ·cases h
theorem X6(hE:jJ E){site:Nat}{draw:Bool}{v:V}{f':Fr}{m':Mem}{ft:bp}(hn:draw=true∨∃c x y,o.op=.pick c x y)(h:∀(R':Type)(k':V→Fr→Mem→bp→Option R'),Ik E draw site o f m k'=k' v f' m' ft):tC E draw site o f m v f' m' ft:=by
 have hx:=GV hE (h (V×Fr×Mem×bp) fun v f m ft=>some (v,f,m,ft));rcases hx with⟨v1,f1,m1,ft1,h1,h2⟩|⟨h1,h2,_⟩
 rotate_left
 ·rcases hn with hn|⟨c,x,y,hn⟩
  ·rw[hn]at h1;cases h1
  ·exact absurd hn (h2 c x y)
 simp only[AI,Xp]at h1;obtain⟨rfl,rfl,rfl,rfl⟩:=h1;exact h2
theorem IJ{R:Type}{site:Nat}{draw:Bool}{p:Oper}{c:Nat}{x y:Operand}{k:V→Fr→Mem→bp→Option R}(hp:p.op=.pick (.tmp c) x y)(hb:bA E f (.tmp c)=.pv (.bool b)):Ik E draw site p f m k=k (bA E f (if b then x else y)) f m []:=by
 have sk:xC E site p f m=none:=by simp only[xC,hp]
 unfold Ik;rw[sk];have e:(bif draw then none else bif E.zO site then(none:Option Sp)else none)=none:=by cases draw<;>cases E.zO site<;>rfl
 rw[e];simp only[cC,hp,hb];cases b<;>rfl
end
section
variable {E:Env} {ops:Array Oper} {w0:bu}
theorem uX{rd:Option Nat}{Q:Exit→Act→World→Prop}{tail:List Nat}:∀(l:List (Nat×Oper))(f:Fr),(∀x∈l,ops[x.1]?=some x.2)→(∀x∈l,uK E x.2=true)→(∀(pre post:List (Nat×Oper))(x:Nat×Oper),l=pre++x::post→Q6 ops (ij f pre) x.2)→∀{μ:Ro}{φ:Nat→aA}{m:Mem}{a:Act}{w:World},Rel E.P E.aH E.fn.ntmps w0 μ φ f m a w→∀(A:List (Nat×Bool)),y6 ops A a→ZA ops A l→(∀a',Rel E.P E.aH E.fn.ntmps w0 μ φ (ij f l) m a' w→y6 ops A a'→wpOpsIn (FR rd) 0 E.P ops Q tail a' w)→wpOpsIn (FR rd) 0 E.P ops Q (l.map (·.1)++tail) a w
 |[],f,_,_,_,_,_,_,a,_,hR,_,hA,_,hK=>hK a hR hA
 |x::r,f,hl,hd,Da,μ,φ,m,a,w,hR,A,hA,Db,hK=>by simp only[agP,aiq,wpOpsIn];rw[hl x (by simp)];simp only;rw[xn hR (Da [] r x rfl)];simp only[AT,Xq];refine And.intro (fun _ _=>trivial) (uX r (iE f x.2.dst (.bn [])) (fun y hy=>hl y (by simp[hy])) (fun y hy=>hd y (by simp[hy])) (fun pre post y h=>?_) (hR.put (fun _ _ h=>h) (iG (hd x (by simp))) hR.toaw hR.kc C8 (fun id an=>by simp[V.has,ck]at an)) A (hA.put (fun t ht=>by rw[hR.size];exact iG (hd x (by simp)) t ht) fun g pB t ht=>Db x (by simp) g pB t ht) (fun y hy=>Db y (by simp[hy])) hK);have:=Da (x::pre) post y (by rw[h];rfl);rwa[ij]at this
theorem xS:∀{ft:bp},yR ft=true→∀x∈ft,x.1=false
 |[],_,x,hx=>by cases hx
 |(w,id)::r,h,x,hx=>by
  simp only[yR,T2,agS]at h;rcases afh.1 hx with rfl|hx
  ·exact h.1
  ·exact xS h.2 x hx
theorem hZ(hE:jJ E){rd:Option Nat}(hY:sw E.P E.aH E.fn.ntmps E.yl w0):∀(fuel:Nat){mode:Nat}(ku:mode=0∨mode=3){R:Type}{A:List (Nat×Bool)}{l:List (Nat×Oper)}{f:Fr}{m:Mem}{lg:Log}{k:Fr→Mem→Option R}{r:R},cg E ops mode fuel R A l f m lg k=some r→(∀x∈l,ops[x.1]?=some x.2)→ZA ops A l→(mode=3→∀x∈l,eZ x.2=true)→∀(μ:Ro)(φ:Nat→aA)(a:Act)(w:World)(Q:Exit→Act→World→Prop)(tail:List Nat),Rel E.P E.aH E.fn.ntmps w0 μ φ f m a w→y6 ops A a→(∀(f':Fr)(m':Mem)(μ':Ro)(φ':Nat→aA)(a':Act)(w':World),k f' m'=some r→Rel E.P E.aH E.fn.ntmps w0 μ' φ' f' m' a' w'→y6 ops A a'→(mode=3→m'=m∧∀t,(∀x∈l,x.2.dst≠some t)→f' t=f t)→wpOpsIn (FR rd) 0 E.P ops Q tail a' w')→wpOpsIn (FR rd) 0 E.P ops Q (l.map (·.1)++tail) a w
 |0,_,_,_,_,_,_,_,_,_,_,h,_,_,_,_,_,_,_,_,_,_,_,_=>by simp[cg]at h
 |fuel+1,mode,ku,R,A,[],f,m,lg,k,r,h,_,_,_,μ,φ,a,w,Q,tail,hR,hA,hK=>by simp only[cg]at h;exact hK f m μ φ a w h hR hA fun _=>⟨rfl,fun _ _=>rfl⟩
 |fuel+1,mode,ku,R,A,(i,o)::rest,f,m,lg,k,r,h,hl,Db,Sg,μ,φ,a,w,Q,tail,hR,hA,hK=>by
  simp only[cg]at h;split at h
  ·rename_i hg;split at h
   ·rename_i hd;have VC:Nat.beq mode 2=false:=by rcases ku with rfl|rfl<;>rfl
    simp only[VC,cond_false]at h;rw[←VC]at h;have hdf:=Aj h;rcases GV hE h with⟨v,f1,m1,ft,hk,Q8⟩|⟨_,ov⟩
    rotate_left
    ·simp only[agP,aiq,wpOpsIn];rw[hl (i,o) (by simp)];simp only;rw[Ak hg hA,BY rfl];refine C5.xR ov rd w0 μ φ a w _ Q hY hR fun v f1 m1 y w' μ' φ' hk hle hM hF hv GH=>?_;have cQ:Nat.beq mode 2=false:=by rcases ku with rfl|rfl<;>rfl
     rw[cQ]at hk;simp only[AT,Xq]at hk;rcases ku with rfl|rfl
     ·simp only[Nat.beq,T1]at hk;exact hZ hE hY fuel (.inl rfl) hk (fun x hx=>hl x (by simp[hx])) (fun x hx=>Db x (by simp[hx])) (fun hm x hx=>Sg hm x (by simp[hx])) _ _ _ _ Q tail (hR.put hle (iG hd) hM hF hv GH) (hA.put (fun t ht=>by rw[hR.size];exact iG hd t ht) fun g pB t ht=>Db (i,o) (by simp) g pB t ht) fun f' m' μ2 φ2 a' w2 qd jf xc tq=>hK f' m' μ2 φ2 a' w2 qd jf xc fun h=>by cases h
     ·simp[Nat.beq,yR]at hk
    have cQ:Nat.beq mode 2=false:=by rcases ku with rfl|rfl<;>rfl
    rw[cQ]at hk;simp only[AT,Xq]at hk;have hq:(mode=3→f1=f∧m1=m)∧cg E ops mode fuel R A rest (iE f1 o.dst v) m1 lg k=some r:=by
     rcases ku with rfl|rfl
     ·simp only[Nat.beq,T1]at hk;exact⟨fun h=>(by cases h),hk⟩
     ·simp only[Nat.beq,AT,Xq]at hk;split at hk
      ·rename_i hqf;exact⟨fun h=>Q8.same (Sg rfl (i,o) (by simp)) (xS hqf),hk⟩
      ·cases hk
    obtain⟨Tm,hk⟩:=hq;simp only[agP,aiq,wpOpsIn];rw[hl (i,o) (by simp)];simp only;rw[Ak hg hA,BY rfl];refine Q8.xR hdf rd w0 μ φ a w _ Q hR fun y w' μ' φ' hle hM hF hv GH=>?_;refine hZ hE hY fuel ku hk (fun x hx=>hl x (by simp[hx])) (fun x hx=>Db x (by simp[hx])) (fun hm x hx=>Sg hm x (by simp[hx])) _ _ _ _ Q tail (hR.put hle (iG hd) hM hF hv GH) (hA.put (fun t ht=>by rw[hR.size];exact iG hd t ht) fun g pB t ht=>Db (i,o) (by simp) g pB t ht) fun f' m' μ2 φ2 a' w2 qd jf xc tq=>?_;refine hK f' m' μ2 φ2 a' w2 qd jf xc fun ZC=>?_;obtain⟨e1,e2⟩:=Tm ZC;obtain⟨e3,e4⟩:=tq ZC;refine⟨by rw[e3,e2],fun t ht=>?_⟩;rw[e4 t fun x hx=>ht x (by simp[hx]),fB (ht (i,o) (by simp)),e1]
   ·cases h
  ·rename_i j A0 hg;split at h
   ·rename_i tj VD;split at h
    ·rename_i b hb;have ZD:tj<E.fn.ntmps:=by
      simp only[bA]at hb;cases e:Nat.blt tj E.fn.ntmps with
      |true=>rwa[ahC]at e
      |false=>rw[e]at hb;cases hb
     have ZE:f tj=.pv (.bool b):=by simp only[bA]at hb;rw[show Nat.blt tj E.fn.ntmps=true by rw[ahC];exact ZD]at hb;exact hb
     have hba:a.tmps.getD tj undef=.bool b:=by have:=(ak hR (.tmp tj)).1;rw[hb]at this;exact qi this
     generalize sk:AZ A ((i,o)::rest)=sp at h;obtain⟨body,Im⟩:=sp;have l6:=C9 sk;simp only at h;split at h
     ·rename_i X7;split at h
      ·rename_i hc;simp only[T2,ahq,agS,aho,aj0]at hc X7;obtain⟨⟨KY,Tn⟩,X8⟩:=hc;have hm0:mode=0:=IT X7.1;subst hm0;have bR:∀z∈body,z∈(i,o)::rest:=fun z hz=>by rw[l6];simp[hz]
       have uY:∀z∈Im,z∈(i,o)::rest:=fun z hz=>by rw[l6];simp[hz]
       by_cases Si:b=A0
       ·have:EY A0 b=true:=by subst Si;cases b<;>rfl
        rw[this]at h;simp only[cond]at h;have ZF:fY f tj (.pv (.bool A0))=f:=funext fun t=>by
         unfold fY;cases e:Nat.beq t tj with
         |false=>rfl
         |true=>rw[IT e];simp only[cond];rw[←Si];exact ZE.symm
        rw[ZF]at h;refine hZ hE hY fuel ku h hl (fun z hz g pB t ht=>?_) (fun h=>by cases h) _ _ _ _ Q tail hR (fun g pB=>?_) fun f' m' μ2 φ2 a' w2 qd jf xc tq=>hK f' m' μ2 φ2 a' w2 qd jf (fun g pB=>xc g (by simp[pB])) fun h=>by cases h
        ·rcases afh.1 pB with rfl|pB
         ·simp only[VD]at ht;cases ht;exact X8 z hz
         ·exact Db z hz g pB t ht
        ·rcases afh.1 pB with rfl|pB
         ·exact⟨tj,VD,by rw[hba,Si]⟩
         ·exact hA g pB
       ·have:EY A0 b=false:=by cases b<;>cases A0<;>first|rfl|exact absurd rfl Si
        rw[this]at h;simp only[cond]at h;have hbn:b= !A0:=by cases b<;>cases A0<;>first|rfl|exact absurd rfl Si
        have ZF:fY f tj (.pv (.bool !A0))=f:=funext fun t=>by
         unfold fY;cases e:Nat.beq t tj with
         |false=>rfl
         |true=>rw[IT e];simp only[cond];rw[←hbn];exact ZE.symm
        rw[ZF]at h;rw[l6,ah8,ahk];refine uX body f (fun z hz=>hl z (bR z hz)) KY (y7 VD Tn (fun z hz=>hl z (bR z hz)) (fun z hz=>X8 z (bR z hz)) (by rw[ZE,hbn]) (by simp)) hR A hA (fun z hz g pB t ht=>Db z (bR z hz) g pB t ht) fun a' jf xc=>?_
        ·refine hZ hE hY fuel ku h (fun z hz=>hl z (uY z hz)) (fun z hz=>Db z (uY z hz)) (fun h=>by cases h) _ _ _ _ Q tail jf xc fun f' m' μ2 φ2 a' w2 qd jf xc tq=>hK f' m' μ2 φ2 a' w2 qd jf xc fun h=>by cases h
      ·cases h
     ·split at h
      ·rename_i ip p lV;split at h
       ·rename_i c x y To;split at h
        ·rename_i hc;simp only[T2,ahq,agS,aho,aj0]at hc;obtain⟨⟨⟨⟨⟨⟨LP,ZG⟩,Bn⟩,Tn⟩,_⟩,hpd⟩,_⟩:=hc;have LP:=IT LP;subst LP;have ZG:guardOf p A=none:=by simpa using ZG
         obtain⟨rb,Tp,h⟩:=By.1 h;have bR:∀z∈body,z∈(i,o)::rest:=fun z hz=>by rw[l6];simp[hz]
         have uY:∀z∈lV,z∈(i,o)::rest:=fun z hz=>by rw[l6];simp[hz]
         have IK:(ip,p)∈(i,o)::rest:=by rw[l6];simp
         rw[l6,ah8,ahk];have after:∀(f1:Fr)(μ1:Ro)(φ1:Nat→aA)(a1:Act)(w1:World)(q:Operand),Rel E.P E.aH E.fn.ntmps w0 μ1 φ1 f1 m a1 w1→y6 ops A a1→(∀t,(∀z∈body,z.2.dst≠some t)→f1 t=f t)→bA E f1 q=.pv (.bool rb)→(q=if b then x else y)→wpOpsIn (FR rd) 0 E.P ops Q (((ip,p)::lV).map (·.1)++tail) a1 w1:=by
          intro f1 μ1 φ1 a1 w1 q LQ hA1 ZH hq hqe;have XR:bA E f1 (.tmp c)=.pv (.bool b):=by simp only[bA];rw[show Nat.blt c E.fn.ntmps=true by rw[ahC];exact ZD];show f1 c=_;rw[ZH c fun z hz=>(Bn z hz).2];exact ZE
          simp only[agP,aiq,wpOpsIn];rw[hl (ip,p) IK];simp only;rw[Ak ZG hA1,BY rfl];have Q8:tC E (Nat.beq mode 1||Nat.beq mode 2) (cD E p.dst) p f1 m (.pv (.bool rb)) f1 m []:=X6 hE (.inr ⟨_,_,_,To⟩) fun R' k'=>by rw[IJ To XR,←hqe,hq]
          refine Q8.xR (fun c h=>by rw[To]at h;cases h) rd w0 μ1 φ1 a1 w1 _ Q LQ fun z w' μ' φ' tq hM hF hv GH=>?_;have hle:uB (iE (lU f body) p.dst (.pv (.bool rb))) (iE f1 p.dst (.pv (.bool rb))):=uB.put (wK fun t ht=>.inl (ZH t ht).symm) _ _;refine hZ hE hY fuel ku h (fun z hz=>hl z (uY z hz)) (fun z hz=>Db z (uY z hz)) (fun hm z hz=>Sg hm z (uY z hz)) _ _ _ _ Q tail ((LQ.put tq (iG hpd) hM hF hv GH).weaken hle) (hA1.put (fun t ht=>by rw[LQ.size];exact iG hpd t ht) fun g pB t ht=>Db (ip,p) IK g pB t ht) fun f' m' μ2 φ2 a' w2 qd jf xc tq=>?_;refine hK f' m' μ2 φ2 a' w2 qd jf xc fun ZC=>?_;obtain⟨e3,e4⟩:=tq ZC;refine⟨e3,fun t ht=>?_⟩;rw[e4 t fun z hz=>ht z (uY z hz),fB (ht (ip,p) IK),wJ fun z hz=>ht z (bR z hz)]
         have go:∀q,b=A0→(q=if b then x else y)→cg E ops 3 fuel Bool ((j,A0)::A) body f m lg (fun f _=>wZ (bA E f q))=some rb→wpOpsIn (FR rd) 0 E.P ops Q (body.map (·.1)++(((ip,p)::lV).map (·.1)++tail)) a w:=by
          intro q Si hq Wp;refine hZ hE hY fuel (.inr rfl) Wp (fun z hz=>hl z (bR z hz)) ?_ (fun _ z hz=>(Bn z hz).1.1) _ _ _ _ Q _ hR ?_ fun f' m' μ2 φ2 a' w2 qd jf xc tq=>?_
          ·intro z hz g pB t ht;rcases afh.1 pB with rfl|pB
           ·simp only[VD]at ht;cases ht;exact(Bn z hz).2
           ·exact Db z (bR z hz) g pB t ht
          ·intro g pB;rcases afh.1 pB with rfl|pB
           ·exact⟨c,VD,by rw[hba,Si]⟩
           ·exact hA g pB
          ·obtain⟨e1,e2⟩:=tq rfl;subst e1;exact after f' μ2 φ2 a' w2 q jf (fun g pB=>xc g (by simp[pB])) e2 (y8 qd) hq
         have no:∀q,b= !A0→(q=if b then x else y)→wZ (bA E (lU f body) q)=some rb→wpOpsIn (FR rd) 0 E.P ops Q (body.map (·.1)++(((ip,p)::lV).map (·.1)++tail)) a w:=by
          intro q Si hq Wp;refine uX body f (fun z hz=>hl z (bR z hz)) (fun z hz=>(Bn z hz).1.2) (y7 VD Tn (fun z hz=>hl z (bR z hz)) (fun z hz=>(Bn z hz).2) (by rw[ZE,Si]) (by simp)) hR A hA (fun z hz g pB t ht=>Db z (bR z hz) g pB t ht) fun a' jf xc=>?_;refine after _ μ φ a' w q jf xc (fun t ht=>tF ht) ?_ hq;have hv:=y8 Wp;cases q with
          |tmp t=>
           simp only[bA]at hv⊢;have hle:uB (lU f body) (ij f body):=wK fun t ht=>.inl (tF ht).symm;cases e:Nat.blt t E.fn.ntmps with
           |false=>rw[e]at hv;cases hv
           |true=>
            rw[e]at hv;simp only[cond]at hv⊢;rcases hle t with e|e
            ·rw[←e];exact hv
            ·rw[e]at hv;cases hv
          |_=>exact hv
         have hbm:(bif Nat.beq mode 0 then 3 else mode)=3:=by rcases ku with rfl|rfl<;>rfl
         rw[hbm]at Tp;cases A0<;>cases b<;>simp only[cond]at Tp
         ·exact go y rfl rfl Tp
         ·exact no x rfl rfl Tp
         ·exact no y rfl rfl Tp
         ·exact go x rfl rfl Tp
        ·cases h
       ·cases h
      ·cases h
    ·cases h
   ·cases h
end
structure Rec where
 i:Nat
 o:Oper
 v:V
 wr:List (Nat×bF)
 ft:bp
 kl:Kl
def Rec.fs(r:Rec)(f:Fr):Fr:=iE (kf r.kl f) r.o.dst r.v
def Rec.ms(r:Rec)(m:Mem):Mem:=sj r.wr (km r.kl m)
def Rec.FB(r:Rec)(id:Nat):Prop:=∃b,(b,id)∈r.kl
def lS(f:Fr):List Rec→Fr
 |[]=>f
 |r::l=>lS (r.fs f) l
def pj(m:Mem):List Rec→Mem
 |[]=>m
 |r::l=>pj (r.ms m) l
def nS(S:Nat→Bool)(f:Fr):List Rec→Fr
 |[]=>f
 |r::l=>nS S (bif S r.i then r.fs f else f) l
def nT(S:Nat→Bool)(m:Mem):List Rec→Mem
 |[]=>m
 |r::l=>nT S (bif S r.i then r.ms m else m) l
theorem GW:∀{wr:List (Nat×bF)}{m:Mem}{j:Nat},(∀b,(j,b)∉wr)→sj wr m j=m j
 |[],_,_,_=>rfl
 |(id,b)::r,m,j,h=>by rw[sj,GW fun b' hb=>h b' (by simp[hb])];exact ao fun e=>h b (by simp[e])
theorem Tr:∀{wr:List (Nat×bF)}{j:Nat},(∃b,(j,b)∈wr)→∃b',(j,b')∈wr∧∀m:Mem,sj wr m j=some b'
 |[],_,h=>by simp_all
 |(id,b)::r,j,h=>by
  by_cases hr:∃b,(j,b)∈r
  ·obtain⟨b',h1,h2⟩:=Tr hr;exact⟨b',by simp[h1],fun m=>h2 _⟩
  ·obtain⟨b0,hb⟩:=h;rcases afh.1 hb with hb|hb
   ·simp only[Xp]at hb;obtain⟨rfl,rfl⟩:=hb;simp_all[sj,GW]
   simp_all
mutual
theorem IL{id:Nat}:∀{v:V},v.uG id=true→v.has id=true
 |.agg cs,h=>tG (cs:=cs) (by simpa[V.uG]using h)
 |.bn cs,h=>tG (cs:=cs) (by simpa[V.uG]using h)
 |.fn _ cs,h=>tG (cs:=cs) (by simpa[V.uG]using h)
 |.uF _ _ _,h=>h
 |.yL _ _ _ _ _ _,h=>h
 |.pv _,h=>by cases h
 |.gF,h=>by cases h
 |.op _ _,h=>by cases h
 |.oe _ _ _,h=>by cases h
 |.os _,h=>by cases h
 |.fx _ _ _,h=>by cases h
 |.om _,h=>by cases h
 |.yl _,h=>by cases h
 |.it _,h=>by cases h
 |.top,h=>by cases h
theorem tG{id:Nat}:∀{cs:List V},yM id cs=true→ck id cs=true
 |[],h=>by cases h
 |c::r,h=>by
  simp only[yM,afk]at h;simp only[ck,afk];rcases h with h|h
  ·exact .inl (IL h)
  ·exact .inr (tG h)
end
variable{id:Nat}
theorem Bo{v:V}(h:v.has id=false):rn id v=v:=by unfold rn;rw[h];rfl
theorem Bp{id:Nat}:∀{cs:List V},ck id cs=false→cs.map (rn id)=cs
 |[],_=>rfl
 |c::r,h=>by simp only[ck,ahi]at h;simp only[agP,Bo h.1,Bp h.2]
theorem IM{b:bF}(h:b.names id=false):fZ id b=b:=by
 cases b with
 |box cs=>simp only[fZ,Bp (show ck id cs=false from h)]
 |_=>rfl
theorem y9{v:V}(h:v.has id=false):mX id v=v:=by
 unfold mX;cases h2:v.uG id with
 |false=>rfl
 |true=>rw[IL h2]at h;cases h
theorem za{id:Nat}:∀{cs:List V},ck id cs=false→cs.map (mX id)=cs
 |[],_=>rfl
 |c::r,h=>by simp only[ck,ahi]at h;simp only[agP,y9 h.1,za h.2]
theorem GX{b:bF}(h:b.names id=false):dI id b=b:=by
 cases b with
 |box cs=>simp only[dI,za (show ck id cs=false from h)]
 |_=>rfl
theorem Dc:∀{kl:Kl}{f:Fr}{t:Nat},(∀id,(∃b,(b,id)∈kl)→(f t).has id=false)→kf kl f t=f t
 |[],_,_,_=>rfl
 |(true,id)::r,f,t,h=>by have h0:eL id f t=f t:=Bo (h id ⟨true,by simp⟩);rw[kf,Dc (kl:=r) (f:=eL id f) fun j hj=>by rw[h0];exact h j (let⟨b,hb⟩:=hj;⟨b,by simp[hb]⟩),h0]
 |(false,id)::r,f,t,h=>by have h0:gG id f t=f t:=y9 (h id ⟨false,by simp⟩);rw[kf,Dc (kl:=r) (f:=gG id f) fun j hj=>by rw[h0];exact h j (let⟨b,hb⟩:=hj;⟨b,by simp[hb]⟩),h0]
theorem zb:∀{kl:Kl}{f g:Fr}{t:Nat},f t=g t→kf kl f t=kf kl g t
 |[],_,_,_,h=>h
 |(true,id)::r,f,g,t,h=>zb (kl:=r) (f:=eL id f) (g:=eL id g) (by simp only[eL,h])
 |(false,id)::r,f,g,t,h=>zb (kl:=r) (f:=gG id f) (g:=gG id g) (by simp only[gG,h])
theorem Dd:∀{kl:Kl}{m:Mem}{j:Nat},(∀id,(∃b,(b,id)∈kl)→j≠id∧∀b,m j=some b→b.names id=false)→km kl m j=m j
 |[],_,_,_=>rfl
 |(true,id)::r,m,j,h=>by
  obtain⟨h1,h2⟩:=h id ⟨true,by simp⟩;have h0:bl (bB id m) id j=m j:=by
   rw[fo h1];unfold bB;cases hm:m j with
   |none=>rfl
   |some b=>simp only[IM (h2 b hm)]
  rw[km,Dd (kl:=r) (m:=bl (bB id m) id) fun i hi=>by rw[h0];exact h i (let⟨b,hb⟩:=hi;⟨b,by simp[hb]⟩),h0]
 |(false,id)::r,m,j,h=>by
  obtain⟨h1,h2⟩:=h id ⟨false,by simp⟩;have h0:eQ id m j=m j:=by
   unfold eQ;cases hm:m j with
   |none=>rfl
   |some b=>simp only[GX (h2 b hm)]
  rw[km,Dd (kl:=r) (m:=eQ id m) fun i hi=>by rw[h0];exact h i (let⟨b,hb⟩:=hi;⟨b,by simp[hb]⟩),h0]
theorem De:∀{kl:Kl}{m n:Mem}{j:Nat},m j=n j→km kl m j=km kl n j
 |[],_,_,_,h=>h
 |(true,id)::r,m,n,j,h=>De (kl:=r) (m:=bl (bB id m) id) (n:=bl (bB id n) id) (by
  by_cases e:j=id
  ·subst e;simp
  simp_all[fo,bB])
 |(false,id)::r,m,n,j,h=>De (kl:=r) (m:=eQ id m) (n:=eQ id n) (by simp only[eQ,h])
variable{r:Rec}
theorem Rec.IP{f:Fr}{t:Nat}(h:r.o.dst=some t):r.fs f t=r.v:=by unfold Rec.fs;rw[h,jO]
theorem Rec.Pz{f:Fr}{t:Nat}(h:r.o.dst≠some t)(hc:∀id,r.FB id→(f t).has id=false):r.fs f t=f t:=by unfold Rec.fs;rw[fB h];exact Dc hc
theorem Rec.Df{f g:Fr}{t:Nat}(h:f t=g t):r.fs f t=r.fs g t:=by
 by_cases e:r.o.dst=some t
 ·rw[IP e,IP e]
 ·unfold Rec.fs;grind [fB,zb]
theorem Rec.X9{j:Nat}(h:∃b,(j,b)∈r.wr):∃b',(j,b')∈r.wr∧∀m,r.ms m j=some b':=let⟨b',h1,h2⟩:=Tr h;⟨b',h1,fun m=>h2 _⟩
theorem Rec.Ts{m:Mem}{j:Nat}(h:∀b,(j,b)∉r.wr)(hc:∀id,r.FB id→j≠id∧∀b,m j=some b→b.names id=false):r.ms m j=m j:=by unfold Rec.ms;rw[GW h];exact Dd hc
theorem Rec.Dg{m n:Mem}{j:Nat}(h:m j=n j):r.ms m j=r.ms n j:=by
 by_cases e:∃b,(j,b)∈r.wr
 ·obtain⟨b,_,e⟩:=Rec.X9 e;rw[e,e]
 ·have e':∀b,(j,b)∉r.wr:=fun b hb=>e ⟨b,hb⟩;unfold Rec.ms;grind [GW,De]
section
variable {S S':Nat→Bool}
theorem IQ{f:Fr}:∀{l l':List Rec},lS f (l++l')=lS (lS f l) l':=by
 intro l;induction l generalizing f with
 |nil=>intro l';rfl
 |cons r l ih=>intro l';exact ih
theorem IU{m:Mem}:∀{l l':List Rec},pj m (l++l')=pj (pj m l) l':=by
 intro l;induction l generalizing m with
 |nil=>intro l';rfl
 |cons r l ih=>intro l';exact ih
theorem uZ{f:Fr}:∀{l l':List Rec},nS S f (l++l')=nS S (nS S f l) l':=by
 intro l;induction l generalizing f with
 |nil=>intro l';rfl
 |cons r l ih=>intro l';exact ih
theorem va{m:Mem}:∀{l l':List Rec},nT S m (l++l')=nT S (nT S m l) l':=by
 intro l;induction l generalizing m with
 |nil=>intro l';rfl
 |cons r l ih=>intro l';exact ih
theorem FC{t:Nat}:∀{l:List Rec}{f:Fr},(∀q∈l,q.o.dst≠some t∧q.kl=[])→lS f l t=f t
 |[],_,_=>rfl
 |r::l,f,h=>by rw[lS,FC fun q hq=>h q (by simp[hq])];obtain⟨h1,h2⟩:=h r (by simp);exact Rec.Pz h1 fun id⟨b,an⟩=>by rw[h2]at an;cases an
theorem pC{t:Nat}:∀{l:List Rec}{f:Fr},(∀q∈l,S q.i=true→q.o.dst≠some t∧∀id,q.FB id→(f t).has id=false)→nS S f l t=f t
 |[],_,_=>rfl
 |r::l,f,h=>by
  have h0:(bif S r.i then r.fs f else f) t=f t:=by
   cases e:S r.i with
   |false=>rfl
   |true=>simp_all[Rec.Pz]
  rw[nS,pC fun q hq hs=>by rw[h0];exact h q (by simp[hq]) hs,h0]
theorem Dh{t:Nat}:∀{l:List Rec}{f g:Fr},f t=g t→(∀q∈l,S q.i=false→q.o.dst≠some t∧q.kl=[])→nS S f l t=lS g l t
 |[],_,_,h,_=>h
 |r::l,f,g,h,hs=>by
  rw[nS,lS];refine Dh ?_ fun q hq=>hs q (by simp[hq]);cases e:S r.i with
  |true=>exact Rec.Df h
  |false=>obtain⟨h1,h2⟩:=hs r (by simp) e;rw[Rec.Pz h1 fun id⟨b,an⟩=>by rw[h2]at an;cases an];exact h
theorem xT{t:Nat}:∀{l:List Rec}{f g:Fr},f t=g t→(∀q∈l,S q.i=S' q.i)→nS S f l t=nS S' g l t
 |[],_,_,h,_=>h
 |r::l,f,g,h,hs=>by
  rw[nS,nS];refine xT ?_ fun q hq=>hs q (by simp[hq]);rw[hs r (by simp)];cases S' r.i
  ·exact h
  ·exact Rec.Df h
theorem pD{j:Nat}:∀{l:List Rec}{m:Mem},(∀q∈l,S q.i=true→(∀b,(j,b)∉q.wr)∧∀id,q.FB id→j≠id∧∀b,m j=some b→b.names id=false)→nT S m l j=m j
 |[],_,_=>rfl
 |r::l,m,h=>by
  have h0:(bif S r.i then r.ms m else m) j=m j:=by
   cases e:S r.i with
   |false=>rfl
   |true=>simp_all[Rec.Ts]
  rw[nT,pD fun q hq hs=>by rw[h0];exact h q (by simp[hq]) hs,h0]
theorem Di{j:Nat}:∀{l:List Rec}{m n:Mem},m j=n j→(∀q∈l,S q.i=false→(∀b,(j,b)∉q.wr)∧q.kl=[])→nT S m l j=pj n l j
 |[],_,_,h,_=>h
 |r::l,m,n,h,hs=>by
  rw[nT,pj];refine Di ?_ fun q hq=>hs q (by simp[hq]);cases e:S r.i with
  |true=>exact Rec.Dg h
  |false=>obtain⟨h1,h2⟩:=hs r (by simp) e;rw[Rec.Ts h1 fun id⟨b,an⟩=>by rw[h2]at an;cases an];exact h
theorem xU{j:Nat}:∀{l:List Rec}{m n:Mem},m j=n j→(∀q∈l,S q.i=S' q.i)→nT S m l j=nT S' n l j
 |[],_,_,h,_=>h
 |r::l,m,n,h,hs=>by
  rw[nT,nT];refine xU ?_ fun q hq=>hs q (by simp[hq]);rw[hs r (by simp)];cases S' r.i
  ·exact h
  ·exact Rec.Dg h
end
section
variable {E:Env} {ops:Array Oper} {w0:bu}
def FD(E:Env)(ops:Array Oper)(w0:bu)(r:Rec)(f:Fr)(m:Mem):Prop:=∀(f2:Fr)(m2:Mem),(∀t∈r.o.looksAt ops,f2 t=f t)→(∀x∈r.ft,m2 x.2=m x.2)→∀(μ:Ro)(φ:Nat→aA)(a:Act)(w:World)(K:Act→World→Prop)(Q:Exit→Act→World→Prop),Rel E.P E.aH E.fn.ntmps w0 μ φ f2 m2 a w→(∀μ' φ' a' w',Rel E.P E.aH E.fn.ntmps w0 μ' φ' (r.fs f2) (r.ms m2) a' w'→K a' w')→if Region.wanted r.o (yielded ops a.tmps)then∀rd:Option Nat,r.o.wpIn (FR rd) 0 E.P a w K Q else K (a.put r.o.dst undef) w
def fC(E:Env)(ops:Array Oper)(w0:bu):Fr→Mem→List Rec→Prop
 |_,_,[]=>True
 |f,m,r::l=>FD E ops w0 r f m∧(∀id b,(id,b)∈r.wr→(true,id)∈r.ft)∧fC E ops w0 (r.fs f) (r.ms m) l
theorem fC.append{f:Fr}{m:Mem}{l l':List Rec}:fC E ops w0 f m (l++l')↔fC E ops w0 f m l∧fC E ops w0 (lS f l) (pj m l) l':=by
 induction l generalizing f m with
 |nil=>simp[fC,lS,pj]
 |cons r l ih=>simp_all[aiq,fC,lS,pj,ajT]
def Clean(ops:Array Oper)(id:Nat)(r:Rec)(f:Fr)(m:Mem):Prop:=(∀t∈r.o.looksAt ops,(f t).has id=false)∧r.v.has id=false∧(∀x∈r.ft,x.2≠id∧∀b,m x.2=some b→b.names id=false)∧∀j b,(j,b)∈r.wr→(∀m,r.ms m j=some b)→j≠id∧b.names id=false
def nL(ops:Array Oper):Fr→Mem→List Rec→Prop
 |_,_,[]=>True
 |f,m,r::l=>(∀q∈l,∀id,q.FB id→reach ops 4 q.o r.i=true∨Clean ops id r f m)∧nL ops (r.fs f) (r.ms m) l
theorem nL.append{f:Fr}{m:Mem}{l l':List Rec}(h:nL ops f m (l++l')):nL ops (lS f l) (pj m l) l':=by
 induction l generalizing f m with
 |nil=>exact h
 |cons r l ih=>exact ih h.2
def Ord(ops:Array Oper)(q r:Rec):Prop:=reach ops 4 r.o q.i=true∨(q.o.apart ops r.o=true∧(∀id b,(id,b)∈q.wr→∀x∈r.ft,x.2≠id)∧∀id b,(id,b)∈r.wr→∀x∈q.ft,x.2≠id)
theorem Q9{o:Oper}{j:Nat}(h:Cs o j=true):∃e∈o.after,Region.binds .any e=true∧e.on=j:=by unfold Cs at h;obtain⟨e,he,h⟩:=aip.1 h;have he:e∈o.after:=ah4.1 he;simp only[T2]at h;grind [Nat.eq_of_beq_eq_true]
abbrev aD(l:Array Bool):Nat→Bool:=fun i=>l.getD i false
def xV(ops:Array Oper)(ag:Array Bool):Prop:=∀i o,ops[i]?=some o→aD ag i=true→∀e∈o.after,Region.binds .any e=true→aD ag e.on=true
theorem qm(ag:Array Bool)(sC:xV ops ag):∀(n:Nat)(o:Oper)(j:Nat),(∀e∈o.after,Region.binds .any e=true→aD ag e.on=true)→reach ops n o j=true→aD ag j=true:=by
 have abo:∀(o:Oper)(j:Nat),(∀e∈o.after,Region.binds .any e=true→aD ag e.on=true)→Cs o j=true→aD ag j=true:=fun o j ho h=>by grind [Q9]
 intro n;induction n with
 |zero=>exact fun o j ho h=>abo o j ho h
 |succ n ihn=>
  intro o j ho h;simp only[reach,afk]at h;rcases h with h|h
  ·exact abo o j ho h
  ·obtain⟨e,he,h⟩:=aip.1 h;simp only[T2]at h;obtain⟨hb,h⟩:=h;have he:e∈o.after:=ah4.1 he;split at h
   ·rename_i p hp;exact ihn p j (sC e.on p hp (ho e he hb)) h
   ·cases h
theorem Tu{rd:Option Nat}{recs:List Rec}{f0:Fr}{m0:Mem}{Q:Exit→Act→World→Prop}{base:Nat→Bool}(bS:recs.Pairwise fun q r=>q.i<r.i)(ov:∀r∈recs,ops[r.i]?=some r.o)(Ya:∀r∈recs,base r.i=false)(Yb:∀i o,ops[i]?=some o→base i=false→(∀r∈recs,r.i≠i)→(∀r∈recs,reach ops 8 o r.i=true)∨∃j,reach ops 8 o j=true∧base j=false∧∀r∈recs,r.i≠j)(abp:recs.Pairwise (Ord ops))(Yc:recs.Pairwise fun q r=>q.kl≠[]→reach ops 4 r.o q.i=true)(aeD:nL ops f0 m0 recs)(Tv:∀r∈recs,∀e∈r.o.after,Region.binds .any e=true→e.on<r.i∧(base e.on=true∨∃q∈recs,q.i=e.on))(Bm:fC E ops w0 f0 m0 recs)(hQ:∀(fuel:Nat)(ag:Array Bool),ag.size=ops.size→ag.toList.countP (fun b=> !b)≤fuel→xV ops ag→(∀i,aD ag i=true↔base i=true∨∃r∈recs,r.i=i)→∀μ φ a w,Rel E.P E.aH E.fn.ntmps w0 μ φ (lS f0 recs) (pj m0 recs) a w→wpAnyIn (FR rd) 0 E.P .any ops Q fuel ag a w):∀(fuel:Nat)(ag:Array Bool),ag.size=ops.size→ag.toList.countP (fun b=> !b)≤fuel→xV ops ag→(∀i,base i=true→aD ag i=true)→(∀i,aD ag i=true→base i=true∨∃r∈recs,r.i=i)→∀(μ:Ro)(φ:Nat→aA)(a:Act)(w:World),Rel E.P E.aH E.fn.ntmps w0 μ φ (nS (aD ag) f0 recs) (nT (aD ag) m0 recs) a w→wpAnyIn (FR rd) 0 E.P .any ops Q fuel ag a w:=by
 have done:∀(fuel:Nat)(ag:Array Bool),ag.size=ops.size→ag.toList.countP (fun b=> !b)≤fuel→xV ops ag→(∀i,base i=true→aD ag i=true)→(∀i,aD ag i=true→base i=true∨∃r∈recs,r.i=i)→(∀r∈recs,aD ag r.i=true)→∀(μ:Ro)(φ:Nat→aA)(a:Act)(w:World),Rel E.P E.aH E.fn.ntmps w0 μ φ (nS (aD ag) f0 recs) (nT (aD ag) m0 recs) a w→wpAnyIn (FR rd) 0 E.P .any ops Q fuel ag a w:=by
  intro fuel ag hs hc sC hb tf hl μ φ a w hR;have e1:nS (aD ag) f0 recs=lS f0 recs:=funext fun t=>Dh rfl fun q hq hf=>by rw[hl q hq]at hf;cases hf
  have e2:nT (aD ag) m0 recs=pj m0 recs:=funext fun t=>Di rfl fun q hq hf=>by rw[hl q hq]at hf;cases hf
  rw[e1,e2]at hR;exact hQ fuel ag hs hc sC (fun i=>⟨tf i,fun h=>h.elim (hb i) fun⟨r,hr,e⟩=>e▸hl r hr⟩) μ φ a w hR
 have Wq:∀(ag:Array Bool),ag.size=ops.size→(∀i,base i=true→aD ag i=true)→(∀r∈recs,r.i∉Region.ready .any ops ag)→∀(n:Nat)(r:Rec),r∈recs→r.i<n→aD ag r.i=true:=by
  intro ag hs hb hr n;induction n with
  |zero=>intro r _ h;omega
  |succ n ih=>
   intro r yK hi;cases hc:aD ag r.i with
   |true=>rfl
   |false=>
    exfalso;have bS:r.i<ag.size:=by rw[hs];exact(YH.1 (ov r yK)).1
    refine hr r yK (mem_ready.2 ⟨by simp only[aD,agN,OF bS,ahB]at hc⊢;exact hc,r.o,ov r yK,fun e he gX=>?_⟩);obtain⟨h1,h2⟩:=Tv r yK e he gX;rcases h2 with h2|⟨q,hq,hqi⟩
    ·exact hb _ h2
    ·have:=ih q hq (by omega);rwa[hqi]at this
 intro fuel;induction fuel with
 |zero=>
  intro ag hs hc sC hb tf μ φ a w hR;refine done 0 ag hs hc sC hb tf (fun r hr=>?_) μ φ a w hR;have bS:r.i<ag.size:=by rw[hs];exact(YH.1 (ov r hr)).1
  have:=ajR.1 (Nat.le_zero.1 hc) ag[r.i] (by simp);simp only[aD,agN,OF bS,ahB];simpa using this
 |succ fuel ih=>
  intro ag hs hc sC hb tf μ φ a w hR;by_cases Tw:∀r∈recs,aD ag r.i=true
  ·exact done (fuel+1) ag hs hc sC hb tf Tw μ φ a w hR
  have abq:∃r∈recs,aD ag r.i=false:=by
   refine ahX fun cL=>Tw fun r hr=>?_;cases hx:aD ag r.i with
   |true=>rfl
   |false=>exact absurd ⟨r,hr,hx⟩ cL
  refine⟨fun h0=>absurd (fun r hr=>Wq ag hs hb (fun r hr h=>by rw[h0]at h;cases h) (r.i+1) r hr (by omega)) Tw,fun i hi=>?_⟩;obtain⟨Tx,o,ho,Dj⟩:=mem_ready.1 hi;have abr:aD ag i=false:=by
   have bS:i<ag.size:=by rw[hs];exact(YH.1 ho).1
   simp only[aD,agN,OF bS,ahB]at Tx⊢;exact Tx
  have hex:∃r∈recs,r.i=i∧r.o=o:=by
   refine ahX fun cL=>?_;have KX:∀r∈recs,r.i≠i:=fun r hr e=>cL ⟨r,hr,e,by have:=ov r hr;rw[e,ho]at this;exact(ai3 this).symm⟩;have hbi:base i=false:=by
    cases hx:base i with
    |false=>rfl
    |true=>rw[hb i hx]at abr;cases abr
   rcases Yb i o ho hbi KX with h|⟨j,h1,h2,h3⟩
   ·obtain⟨r,hr,Yd⟩:=abq;rw[qm ag sC 8 o r.i Dj (h r hr)]at Yd;cases Yd
   ·have:=qm ag sC 8 o j Dj h1;rcases tf j this with h|⟨r,hr,e⟩
    ·rw[h]at h2;cases h2
    ·exact h3 r hr e
  obtain⟨r,hr,rfl,rfl⟩:=hex;have Ty:r.i<ag.size:=by rw[hs];exact(YH.1 ho).1
  have hSi:aD ag r.i=false:=by simp only[aD,agN,OF Ty,ahB]at Tx⊢;exact Tx
  obtain⟨pre,post,l6⟩:=List.append_of_mem hr;subst l6;have EJ:∀q∈pre,Ord ops q r:=fun q hq=>(ah5.1 abp).2.2 q hq r (by simp);have PA:∀q∈post,Ord ops r q:=fun q hq=>(ahw.1 (ah5.1 abp).2.1).1 q hq;have ZI:∀q∈post,q.i≠r.i:=fun q hq=>by have:=(ahw.1 (ah5.1 bS).2.1).1 q hq;omega
  have abt:∀q∈pre,q.i≠r.i:=fun q hq=>by have:=(ah5.1 bS).2.2 q hq r (by simp);omega
  have Ra:∀q:Rec,reach ops 4 r.o q.i=true→aD ag q.i=true:=fun q h=>qm ag sC 4 r.o q.i Dj h;have LR:∀q∈post,reach ops 4 q.o r.i=true→aD ag q.i=false:=fun q hq h=>by
   cases Y3:aD ag q.i with
   |false=>rfl
   |true=>have:=qm ag sC 4 q.o r.i (sC q.i q.o (ov q (by simp[hq])) Y3) h;rw[hSi]at this;cases this
  have Ye:∀(f:Fr),nS (aD ag) f (r::post)=nS (aD ag) f post:=fun f=>by rw[nS,hSi];rfl
  have Tz:∀(m:Mem),nT (aD ag) m (r::post)=nT (aD ag) m post:=fun m=>by rw[nT,hSi];rfl
  obtain⟨_,ZJ,hrw,_⟩:=fC.append.1 Bm;have hc:=aeD.append.1;have Yf:∀q∈pre,q.kl≠[]→reach ops 4 r.o q.i=true:=fun q hq=>(ah5.1 Yc).2.2 q hq r (by simp);have TA:r.kl≠[]→∀q∈post,reach ops 4 q.o r.i=true:=fun h q hq=>(ahw.1 (ah5.1 Yc).2.1).1 q hq h;unfold wpOpIn;rw[ov r hr];simp only;have ZH:∀t∈r.o.looksAt ops,nS (aD ag) f0 pre t=lS f0 pre t:=fun t ht=>Dh rfl fun q hq hs=>by
   have KX:¬reach ops 4 r.o q.i=true:=fun h=>by rw[Ra q h]at hs;cases hs
   refine⟨fun hd=>?_,?_⟩
   ·rcases EJ q hq with h|⟨h,_⟩
    ·exact KX h
    ·exact absurd ht ((Oper.apart_spec h).1 t hd)
   ·exact ahX fun cL=>KX (Yf q hq cL)
  have ZK:∀x∈r.ft,nT (aD ag) m0 pre x.2=pj m0 pre x.2:=fun x hx=>Di rfl fun q hq hs=>by
   have KX:¬reach ops 4 r.o q.i=true:=fun h=>by rw[Ra q h]at hs;cases hs
   refine⟨fun b hb=>?_,?_⟩
   ·rcases EJ q hq with h|⟨_,h,_⟩
    ·exact KX h
    ·exact absurd rfl (h _ b hb x hx)
   ·exact ahX fun cL=>KX (Yf q hq cL)
  have Vw:∀q∈post,aD ag q.i=true→¬reach ops 4 q.o r.i=true:=fun q hq hs h=>by rw[LR q hq h]at hs;cases hs
  have hf2:∀t∈r.o.looksAt ops,nS (aD ag) f0 (pre++r::post) t=lS f0 pre t:=fun t ht=>by
   rw[uZ,Ye,pC fun q hq hs=>⟨fun hd=>?_,fun id an=>?_⟩]
   ·exact ZH t ht
   ·rcases PA q hq with h|⟨h,_⟩
    ·exact Vw q hq hs h
    ·exact absurd ht ((Oper.apart_spec h).2.2 t hd)
   ·rw[ZH t ht];rcases hc q hq id an with h|h
    ·exact absurd h (Vw q hq hs)
    ·exact h.1 t ht
  have cQ:∀x∈r.ft,nT (aD ag) m0 (pre++r::post) x.2=pj m0 pre x.2:=fun x hx=>by
   rw[va,Tz,pD fun q hq hs=>⟨fun b hb=>?_,fun id an=>?_⟩]
   ·exact ZK x hx
   ·rcases PA q hq with h|⟨_,_,h⟩
    ·exact Vw q hq hs h
    ·exact absurd rfl (h _ b hb x hx)
   ·rw[ZK x hx];rcases hc q hq id an with h|h
    ·exact absurd h (Vw q hq hs)
    ·exact h.2.2.1 x hx
  have hwp:=ZJ _ _ hf2 cQ μ φ a w (wpAnyIn (FR rd) 0 E.P .any ops Q fuel (ag.setIfInBounds r.i true)) Q hR fun μ' φ' a' w' jf=>by
   have ZL:∀j,aD (ag.setIfInBounds r.i true) j=if j=r.i then true else aD ag j:=fun j=>by
    simp only[aD,agN,ahE];by_cases e:r.i=j
    ·subst e;simp[Ty]
    ·have e':¬j=r.i:=fun h=>e h.symm;simp[e,e']
   refine ih (ag.setIfInBounds r.i true) (by simp[hs]) ?_ ?_ ?_ ?_ μ' φ' a' w' ?_
   ·rw[ai7,List.countP_set (by simpa using Ty)];have:ag.toList[r.i]'(by simpa using Ty)=false:=by simp only[aD,agN,OF Ty,ahB]at hSi;simpa using hSi
    rw[this];simp only[agX,T1,afj,AT,Xq];omega
   ·intro i' o' TC mT e he KY;rw[ZL]at mT⊢;split
    ·rfl
    ·split at mT
     ·rename_i hqi;subst hqi;have:o'=r.o:=by rw[ov r hr]at TC;exact(ai3 TC).symm
      subst this;exact Dj e he KY
     ·exact sC i' o' TC mT e he KY
   ·intro i' mT;rw[ZL];split
    ·rfl
    ·exact hb i' mT
   ·intro i' mT;rw[ZL]at mT;split at mT
    ·rename_i hqi;exact Or.inr ⟨r,hr,hqi.symm⟩
    ·exact tf i' mT
   ·have Yg:∀q∈pre,aD (ag.setIfInBounds r.i true) q.i=aD ag q.i:=fun q hq=>by rw[ZL,IN (abt q hq)]
    have vb:∀q∈post,aD (ag.setIfInBounds r.i true) q.i=aD ag q.i:=fun q hq=>by rw[ZL,IN (ZI q hq)]
    have hSr:aD (ag.setIfInBounds r.i true) r.i=true:=by rw[ZL,BY rfl]
    have e1:nS (aD (ag.setIfInBounds r.i true)) f0 (pre++r::post)=r.fs (nS (aD ag) f0 (pre++r::post)):=funext fun t=>by
     have hg:nS (aD (ag.setIfInBounds r.i true)) f0 pre=nS (aD ag) f0 pre:=funext fun s=>xT rfl Yg;rw[uZ,uZ,Ye,nS,hSr,hg];simp only[cond];by_cases hk:r.kl=[]
     ·by_cases hd:r.o.dst=some t
      ·rw[Rec.IP hd,pC fun q hq hs=>⟨fun hqd=>?_,fun id an=>?_⟩,Rec.IP hd]
       ·rw[vb q hq]at hs;rcases PA q hq with h|⟨h,_⟩
        ·exact Vw q hq hs h
        ·exact absurd hqd ((Oper.apart_spec h).2.1 t hd)
       ·rw[vb q hq]at hs;rw[Rec.IP hd];rcases hc q hq id an with h|h
        ·exact absurd h (Vw q hq hs)
        ·exact h.2.1
      ·have Bk:∀(g:Fr),r.fs g t=g t:=fun g=>Rec.Pz hd fun id⟨b,an⟩=>by rw[hk]at an;cases an
       rw[Bk];exact xT (Bk _) vb
     ·have Tx:∀q∈post,aD ag q.i=false:=fun q hq=>LR q hq (TA hk q hq);rw[pC fun q hq hs=>by rw[vb q hq,Tx q hq]at hs;cases hs];exact Rec.Df (pC fun q hq hs=>by rw[Tx q hq]at hs;cases hs).symm
    have e2:nT (aD (ag.setIfInBounds r.i true)) m0 (pre++r::post)=r.ms (nT (aD ag) m0 (pre++r::post)):=funext fun j=>by
     have hg:nT (aD (ag.setIfInBounds r.i true)) m0 pre=nT (aD ag) m0 pre:=funext fun s=>xU rfl Yg;rw[va,va,Tz,nT,hSr,hg];simp only[cond];by_cases hk:r.kl=[]
     ·by_cases hd:∃b,(j,b)∈r.wr
      ·obtain⟨b,hd,uE⟩:=Rec.X9 hd;rw[uE,pD fun q hq hs=>⟨fun b' hqd=>?_,fun id an=>?_⟩,uE]
       ·rw[vb q hq]at hs;rcases PA q hq with h|⟨_,_,h⟩
        ·exact Vw q hq hs h
        ·exact absurd rfl (h j b' hqd (true,j) (hrw j b hd))
       ·rw[vb q hq]at hs;rcases hc q hq id an with h|h
        ·exact absurd h (Vw q hq hs)
        ·obtain⟨h1,h2⟩:=h.2.2.2 j b hd uE;refine⟨h1,fun b' gX=>?_⟩;rw[uE]at gX;cases gX;exact h2
      ·have hd':∀b,(j,b)∉r.wr:=fun b hb=>hd ⟨b,hb⟩;have Bk:∀(g:Mem),r.ms g j=g j:=fun g=>Rec.Ts hd' fun id⟨b,an⟩=>by rw[hk]at an;cases an
       rw[Bk];exact xU (Bk _) vb
     ·have Tx:∀q∈post,aD ag q.i=false:=fun q hq=>LR q hq (TA hk q hq);rw[pD fun q hq hs=>by rw[vb q hq,Tx q hq]at hs;cases hs];exact Rec.Dg (pD fun q hq hs=>by rw[Tx q hq]at hs;cases hs).symm
    rw[e1,e2];exact jf
  split
  ·rename_i hw;rw[BY hw]at hwp;exact hwp rd
  ·rename_i hw;rw[IN hw]at hwp;exact⟨fun _ _=>trivial,hwp⟩
end
section
variable {E:Env} {ops:Array Oper} {w0:bu}
variable{o:Oper}
theorem Rb{t:Nat}(h:.tmp t∈o.op.operands):t∈o.looksAt ops:=by unfold Oper.looksAt;refine ag2.2 (.inl (List.mem_filterMap.2 ⟨.tmp t,by simpa using h,rfl⟩))
theorem vc{g:Nat×Bool}{t:Nat}(hg:o.guard=some g)(h:(ops[g.1]?).bind (·.dst)=some t):t∈o.looksAt ops:=by simp_all[Oper.looksAt]
variable{f F:Fr}
theorem wL(h:∀t∈o.looksAt ops,f t=F t):∀x∈o.op.operands,bA E f x=bA E F x:=by
 intro x hx;cases x with
 |tmp t=>simp_all[bA,Rb]
 |_=>rfl
variable{A:List (Nat×Bool)}{φ:Nat→aA}{a:Act}{w:World}
theorem IV{f2:Fr}{m2:Mem}{μ:Ro}(hg:guardOf o A=none)(hA:qk E.fn.ntmps ops A f)(hR:Rel E.P E.aH E.fn.ntmps w0 μ φ f2 m2 a w)(hf:∀t∈o.looksAt ops,f2 t=f t):Region.wanted o (yielded ops a.tmps)=true:=by
 unfold guardOf at hg;unfold Region.wanted;split at hg
 ·rename_i ZB;simp[ZB]
 ·rename_i g ZB;split at hg
  ·rename_i bR;obtain⟨t,h1,h0,h2⟩:=hA g (by simpa using bR);have h3:=hR.fr t;grind [pN,vc,tE,qi]
  ·cases hg
variable{i:Nat}{ft:bp}{m:Mem}
theorem Dk(hE:jJ E){v:V}{wr:List (Nat×bF)}(hg:guardOf o A=none)(hA:qk E.fn.ntmps ops A f)(hd:uK E o=true)(hn:∀(f2:Fr)(m2:Mem),(∀x∈o.op.operands,bA E f2 x=bA E f x)→(∀x∈ft,m2 x.2=m x.2)→∀(R':Type)(k':V→Fr→Mem→bp→Option R'),Ik E true (cD E o.dst) o f2 m2 k'=k' v f2 (sj wr m2) ft):FD E ops w0 ⟨i,o,v,wr,ft,[]⟩ f m:=by
 intro f2 m2 hf hm μ φ a w K Q hR hK;have hw:Region.wanted o (yielded ops a.tmps)=true:=by
  unfold guardOf at hg;unfold Region.wanted;split at hg
  ·rename_i ZB;simp[ZB]
  ·rename_i g ZB;split at hg
   ·rename_i bR;obtain⟨t,h1,h0,h2⟩:=hA g (by simpa using bR);have h3:=hR.fr t;grind [pN,vc,tE,qi]
   ·cases hg
 simp only at hf hm hK⊢;rw[BY hw];exact fun rd=>(X6 hE (.inl rfl) (hn f2 m2 (wL hf) hm)).xR (Aj (hn f2 m2 (wL hf) hm Unit fun _ _ _ _=>some ())) rd w0 μ φ a w K Q hR fun y w' μ' φ' hle hM hF hv hl=>hK _ _ _ _ (hR.put hle (iG hd) hM hF hv hl)
theorem LS(hd:uK E o=true)(Da:Q6 ops f o):FD E ops w0 ⟨i,o,.bn [],[],[],[]⟩ f m:=by
 intro f2 m2 hf hm μ φ a w K Q hR hK;simp only at hf hm hK⊢;have ZM:Q6 ops f2 o:=by obtain⟨g,hg,ht⟩:=Da;exact⟨g,hg,fun t h=>by simp_all[vc]⟩
 rw[xn hR ZM];simp only[AT,Xq];exact hK _ _ _ _ (hR.put (fun _ _ h=>h) (iG hd) hR.toaw hR.kc C8 (fun id an=>by simp[V.has,ck]at an))
def zd(x:Nat×Oper):Rec:=⟨x.1,x.2,.bn [],[],[],[]⟩
theorem FE{m:Mem}:∀(l:List (Nat×Oper))(F:Fr),(∀x∈l,uK E x.2=true)→(∀(pre post:List (Nat×Oper))(x:Nat×Oper),l=pre++x::post→Q6 ops (ij F pre) x.2)→fC E ops w0 F m (l.map zd)∧lS F (l.map zd)=ij F l
 |[],F,_,_=>⟨trivial,rfl⟩
 |x::r,F,hd,Da=>by obtain⟨h1,h2⟩:=FE (m:=m) r (iE F x.2.dst (.bn [])) (fun y hy=>hd y (by simp[hy])) (fun pre post y h=>by have:=Da (x::pre) post y (by rw[h];rfl);rwa[ij]at this);exact⟨⟨LS (hd x (by simp)) (Da [] r x rfl),by simp[zd],h1⟩,h2⟩
theorem FF{m:Mem}:∀{l:List Rec},(∀q∈l,q.wr=[]∧q.kl=[])→pj m l=m
 |[],_=>rfl
 |r::l,h=>by
  obtain⟨h1,h2⟩:=h r (by simp);have:r.ms m=m:=by unfold Rec.ms;rw[h1,h2];rfl
  simp_all[pj,FF]
theorem fC.wr:∀{l:List Rec}{f:Fr}{m:Mem},fC E ops w0 f m l→∀q∈l,∀id b,(id,b)∈q.wr→(true,id)∈q.ft
 |[],_,_,_,q,hq=>by cases hq
 |r::l,f,m,h,q,hq=>by
  rcases afh.1 hq with rfl|hq
  ·exact h.2.1
  ·exact fC.wr h.2.2 q hq
def TD(q r:Rec):Prop:=reach ops 4 r.o q.i=true∨((∀id b,(id,b)∈q.wr→∀x∈r.ft,x.2≠id)∧∀id b,(id,b)∈r.wr→∀x∈q.ft,x.2≠id)
theorem IW{o:Oper}{w:Bool}{id:Nat}:∀{lg:Log},Pc ops o w id lg=true→∀x∈lg,id≠x.2.2∨(w=false∧x.2.1=false)∨reach ops 4 o x.1=true
 |[],_,x,hx=>by cases hx
 |(j,w',qY)::lg,h,x,hx=>by
  simp only[Pc,T2]at h;rcases afh.1 hx with rfl|hx
  ·have h1:=h.1;simp only[afk,agS,T2]at h1;grind [Nat.beq_refl]
  ·exact IW h.2 x hx
theorem Am{o:Oper}{lg:Log}:∀{ft:bp},zW ops o lg ft=true→∀y∈ft,∀x∈lg,y.2≠x.2.2∨(y.1=false∧x.2.1=false)∨reach ops 4 o x.1=true
 |[],_,y,hy=>by cases hy
 |(w,id)::ft,h,y,hy=>by
  simp only[zW,T2]at h;rcases afh.1 hy with rfl|hy
  ·exact IW h.1
  ·exact Am h.2 y hy
theorem Dl{o:Oper}{id:Nat}:∀{lg:Log},B0 ops o id lg=true→∀x∈lg,x.2.2=wq id→reach ops 4 o x.1=true
 |[],_,x,hx=>by cases hx
 |(j,w,n)::lg,h,x,hx=>by
  simp only[B0,T2,afk,agS]at h;intro he;rcases afh.1 hx with rfl|hx
  ·simp_all
  ·exact Dl h.2 x hx he
mutual
theorem PB{id:Nat}:∀(v:V),v.has id=true→id∈v.ids
 |.agg cs,h=>sH cs (by simpa only[V.has]using h)
 |.bn cs,h=>sH cs (by simpa only[V.has]using h)
 |.fn _ cs,h=>sH cs (by simpa only[V.has]using h)
 |.os j,h=>by have:=IT h;subst this;simp[V.ids]
 |.fx j _ _,h=>by have:=IT h;subst this;simp[V.ids]
 |.oe j _ _,h=>by have:=IT h;subst this;simp[V.ids]
 |.om j,h=>by have:=IT h;subst this;simp[V.ids]
 |.uF j _ _,h=>by have:=IT h;subst this;simp[V.ids]
 |.yL j _ _ _ _ _,h=>by have:=IT h;subst this;simp[V.ids]
 |.op j _,h=>by have:=IT h;subst this;simp[V.ids]
 |.it j,h=>by have:=IT h;subst this;simp[V.ids]
 |.yl j,h=>by have:=IT h;subst this;simp[V.ids]
 |.pv _,h=>by cases h
 |.gF,h=>by cases h
 |.top,h=>by cases h
theorem sH{id:Nat}:∀(cs:List V),ck id cs=true→id∈Il cs
 |[],h=>by cases h
 |v::r,h=>by
  simp only[ck,afk]at h;simp only[Il,ag2];rcases h with h|h
  ·exact .inl (PB v h)
  ·exact .inr (sH r h)
end
variable{id:Nat}
theorem ze{b:bF}(h:b.names id=true):id∈Ct (some b):=by
 cases b with
 |box cs=>exact sH cs h
 |_=>cases h
theorem xW{m m':Mem}{id:Nat}:∀{ft:bp}{x:Bool×Nat},x∈ft→(id∈Ct (m x.2)∨id∈Ct (m' x.2))→id∈GB m m' ft
 |y::ft,x,hx,h=>by
  simp only[GB,ag2];rcases afh.1 hx with rfl|hx
  ·exact .inl h
  ·exact .inr (xW hx h)
theorem TE{v:V}{wr:List (Nat×bF)}(IX:∀t∈o.looksAt ops,f t=F t)(ZN:∀j b,(j,b)∈wr→(true,j)∈ft)(hn:id∉BZ ops o f m (sj wr m) v ft)(hft:∀x∈ft,x.2≠id):Clean ops id ⟨i,o,v,wr,ft,[]⟩ F m:=by
 simp only[BZ,ag2,ajV]at hn;obtain⟨⟨h1,h2⟩,h3⟩:=hn;refine⟨fun t ht=>?_,?_,fun x hx=>⟨hft x hx,fun b hb=>?_⟩,fun j b hb uE=>⟨hft _ (ZN j b hb),?_⟩⟩
 ·cases e:(F t).has id with
  |false=>rfl
  |true=>exact absurd (sH _ (cF.2 ⟨f t,agZ.2 ⟨t,ht,rfl⟩,by rw[IX t ht];omega⟩)) h1
 ·cases e:v.has id with
  |false=>rfl
  |true=>exact absurd (PB _ e) h2
 ·cases e:b.names id with
  |false=>rfl
  |true=>grind [absurd,xW,ze]
 ·cases e:b.names id with
  |false=>rfl
  |true=>exact absurd (xW (ZN j b hb) (.inr (by have gX:sj wr m j=some b:=uE m;simp_all[ze]))) h3
variable{R:Type}
theorem LU{site:Nat}{rd:bp}(h:tp E f m o=some (id,rd)){k:V→Fr→Mem→bp→Option R}{r:R}(hx:cC E false site o f m k=some r):(∀x∈rd,x.1=false)∧∃du,k (.os id) (eL id f) (al (bl (bB id m) id) id du) [(true,0)]=some r∧∀(f2:Fr)(m2:Mem),(∀x∈o.op.operands,bA E f2 x=bA E f x)→(∀x∈(true,id)::rd,m2 x.2=m x.2)→∀(R':Type)(k':V→Fr→Mem→bp→Option R'),cC E false site o f2 m2 k'=k' (.os id) (eL id f2) (al (bl (bB id m2) id) id du) [(true,0)]:=by
 obtain⟨dst,op,type,pos,after,guard⟩:=o;unfold tp at h;simp only at h;split at h
 ·rename_i c;obtain⟨callee,args,argTypes⟩:=c;simp only at h;split at h
  ·rename_i qY x t t' qg Q3;split at h
   ·rename_i e hu;split at h
    ·rename_i new rd' B4;split at h
     ·cases h
     ·rename_i hxh;simp only[AI,Xp]at h;obtain⟨rfl,rfl⟩:=h;obtain⟨he1,he2,_⟩:=na B4;have agA:∀m2:Mem,bl (bB qY m2) qY qY=none:=fun m2=>by simp_all
      have main:∀(f2:Fr)(m2:Mem),args.toList.map (bA E f2)=[.os qY,x]→m2 qY=m qY→eA m2 (aR E.P e) x=some (new,rd')→∀(R':Type)(k':V→Fr→Mem→bp→Option R'),cC E false site ⟨dst,.call ⟨.builtin .append,args,argTypes⟩,type,pos,after,guard⟩ f2 m2 k'=if !(decide (t'=t))then none else if(c7 E e).isNone then none else match m qY with
       |some (.arr sz et es)=>if et=e∧sz=aR E.P e∧x.has qY=false then(if(es++new).length*Ev E.P e≤aj∧0<Ev E.P e then k' (.os qY) (eL qY f2) (al (bl (bB qY m2) qY) qY (.arr sz e (es++new))) [(true,0)]else none)else none
       |_=>none:=by
       intro f2 m2 h1 h2 h3 R' k'
       simp only[cC,h1,Q3,yQ,ahA,hu,h3,h2]
       split
       ·rfl
       ·split
        ·rfl
        ·split
         ·simp_all[fresh]
         simp
      rw[main f m qg rfl B4]at hx;refine⟨he2,?_⟩;split at hx
      ·cases hx
      ·rename_i Y6;split at hx
       ·cases hx
       ·rename_i SI;split at hx
        ·rename_i sz et es hm;split at hx
         ·rename_i hc3;split at hx
          ·rename_i hc4;refine⟨_,hx,fun f2 m2 hf cQ R' k'=>?_⟩;have ha:args.toList.map (bA E f2)=[.os qY,x]:=by grind [nK,Op.operands,Call.operands]
           rw[main f2 m2 ha (cQ (true,qY) (by simp)) (he1 m2 fun y hy=>cQ y (by simp[hy])) R' k'];simp_all
          ·cases hx
         ·cases hx
        ·cases hx
    ·cases h
   ·cases h
  ·cases h
 ·cases h
theorem uB.kill(h:uB f F)(id:Nat):uB (eL id f) (eL id F):=fun t=>by
 rcases h t with e|e
 ·exact .inl (by simp only[eL,e])
 ·exact .inr (by simp only[eL,e];rfl)
theorem qk.kill{nt:Nat}(h:qk nt ops A f)(id:Nat):qk nt ops A (eL id f):=by intro g hg;obtain⟨t,h1,h0,h2⟩:=h g hg;exact⟨t,h1,h0,by simp only[eL,h2];rfl⟩
theorem TF{x:Nat×bp}(h:tp E f m o=some x):isApp E o=true:=by
 obtain⟨dst,op,type,pos,after,guard⟩:=o;unfold tp at h;simp only at h;unfold isApp;split at h
 ·rename_i c;obtain⟨callee,args,argTypes⟩:=c;grind
 ·cases h
theorem GY{rd:bp}(h:tp E f m o=some (id,rd)):∃c x t t',o.op=.call c∧c.callee=.builtin .append∧c.args.toList.map (bA E f)=[.os id,x]∧c.argTypes.toList=[t,t']:=by unfold tp at h;grind
theorem Rc{kl:Kl}(h:GC E f m o=some (kl,ft)){k:V→Fr→Mem→bp→Option R}{r:R}(hx:Ik E false (cD E o.dst) o f m k=some r):isApp E o=true∧∃v wr ft1,k v (kf kl f) (sj wr (km kl m)) ft1=some r∧(∀x∈wr,(true,x.1)∈ft)∧(∀x∈kl,(true,x.2)∈ft)∧∀(f2:Fr)(m2:Mem),(∀x∈o.op.operands,bA E f2 x=bA E f x)→(∀x∈ft,m2 x.2=m x.2)→∀(R':Type)(k':V→Fr→Mem→bp→Option R'),Ik E false (cD E o.dst) o f2 m2 k'=k' v (kf kl f2) (sj wr (km kl m2)) ft1:=by
 unfold GC at h;unfold Ik at hx;split at h
 ·rename_i sp sk;simp only[AI]at h;have hn:E.zO (cD E o.dst)=true:=by grind
  rw[hn]at sk hx;simp only[cond]at sk hx;rw[sk]at hx;obtain⟨v,wr,h1,h2,h3,h4,_,_⟩:=LO sk hx;rw[h]at h1 h2 h3 h4;refine⟨by unfold isApp;rw[hn];rfl,v,wr,ft,h1,h2,h3,fun f2 m2 hf hm R' k'=>?_⟩;have:=LL sk hf (by rw[h];exact hm);simp_all[Ik,cond]
 ·rename_i sk;split at h
  ·rename_i id rd TG;simp only[AI,Xp]at h;obtain⟨rfl,rfl⟩:=h;have e0:(bif false then none else bif E.zO (cD E o.dst)then xC E (cD E o.dst) o f m else none)=(bif E.zO (cD E o.dst)then xC E (cD E o.dst) o f m else none):=rfl;rw[e0,sk]at hx;simp only at hx;obtain⟨iF,du,hk,hn⟩:=LU TG hx;refine⟨TF TG,.os id,[(id,du)],[(true,0)],hk,by simp,by simp,fun f2 m2 hf hm R' k'=>?_⟩;have abu:(bif E.zO (cD E o.dst)then xC E (cD E o.dst) o f2 m2 else none)=none:=by
    cases Fh:E.zO (cD E o.dst)with
    |false=>rfl
    |true=>
     simp only[cond];obtain⟨c,x,t,t',hc,abv,qg,Wn⟩:=GY TG;have aeE:c.args.toList.map (bA E f2)=[.os id,x]:=by simp_all[ahc,Op.operands,Call.operands]
     have cQ:m2 id=m id:=hm (true,id) (by simp);have ZC:∃sz et es,m id=some (.arr sz et es):=by obtain⟨dst,op,type,pos,after,guard⟩:=o;simp only at hc;subst hc;obtain⟨callee,args,argTypes⟩:=c;simp only at abv qg Wn;subst abv;simp only[cC,qg,Wn,yQ,ahA]at hx;grind
     obtain⟨sz,et,es,ZC⟩:=ZC;unfold xC;simp_all
   unfold Ik;have e1:(bif false then none else bif E.zO (cD E o.dst)then xC E (cD E o.dst) o f2 m2 else none)=(bif E.zO (cD E o.dst)then xC E (cD E o.dst) o f2 m2 else none):=rfl;rw[e1,abu];exact hn f2 m2 hf hm R' k'
  ·cases h
theorem uB.w9(h:uB f F)(id:Nat):uB (gG id f) (gG id F):=fun t=>by
 rcases h t with e|e
 ·simp_all[gG]
 ·exact .inr (by simp only[gG,e];rfl)
theorem uB.kf:∀{kl:Kl}{f F:Fr},uB f F→uB (Go.Ab.kf kl f) (Go.Ab.kf kl F)
 |[],_,_,h=>h
 |(true,id)::r,f,F,h=>uB.kf (kl:=r) (f:=eL id f) (F:=eL id F) (h.kill id)
 |(false,id)::r,f,F,h=>uB.kf (kl:=r) (f:=gG id f) (F:=gG id F) (h.w9 id)
theorem qk.w9{nt:Nat}(h:qk nt ops A f)(id:Nat):qk nt ops A (gG id f):=by intro g hg;obtain⟨t,h1,h0,h2⟩:=h g hg;exact⟨t,h1,h0,by simp only[gG,h2];rfl⟩
theorem qk.kf{nt:Nat}{A:List (Nat×Bool)}:∀{kl:Kl}{f:Fr},qk nt ops A f→qk nt ops A (Go.Ab.kf kl f)
 |[],_,h=>h
 |(true,id)::r,f,h=>qk.kf (kl:=r) (f:=eL id f) (h.kill id)
 |(false,id)::r,f,h=>qk.kf (kl:=r) (f:=gG id f) (h.w9 id)
theorem Re(hE:jJ E)(hY:sw E.P E.aH E.fn.ntmps E.yl w0){v:V}{wr:List (Nat×bF)}{kl:Kl}{ft1:bp}(hg:guardOf o A=none)(hA:qk E.fn.ntmps ops A F)(hd:uK E o=true)(Q8:∀x∈o.op.operands,bA E f x=bA E F x)(hn:∀(f2:Fr)(m2:Mem),(∀x∈o.op.operands,bA E f2 x=bA E f x)→(∀x∈ft,m2 x.2=m x.2)→∀(R':Type)(k':V→Fr→Mem→bp→Option R'),Ik E false (cD E o.dst) o f2 m2 k'=k' v (kf kl f2) (sj wr (km kl m2)) ft1):FD E ops w0 ⟨i,o,v,wr,ft,kl⟩ F m:=by
 intro f2 m2 hf hm μ φ a w K Q hR hK;have hw:Region.wanted o (yielded ops a.tmps)=true:=IV hg hA hR hf;simp only at hf hm hK⊢;rw[BY hw];have hx:=hn f2 m2 (fun x hx=>by rw[wL hf x hx,Q8 x hx]) hm (V×Fr×Mem) fun v f m _=>some (v,f,m);rcases GV hE hx with⟨v,f',m',ft,h1,h2⟩|⟨_,h2⟩
 ·simp only[AI,Xp]at h1;obtain⟨rfl,rfl,rfl⟩:=h1;exact fun rd=>h2.xR (Aj hx) rd w0 μ φ a w K Q hR fun y w' μ' φ' hle hM hF hv hl=>hK _ _ _ _ (hR.put hle (iG hd) hM hF hv hl)
 ·refine fun rd=>C5.xR h2 rd w0 μ φ a w K Q hY hR fun v f' m' y w' μ' φ' h1 hle hM hF hv hl=>?_;simp only[AI,Xp]at h1;obtain⟨rfl,rfl,rfl⟩:=h1;exact hK _ _ _ _ (hR.put hle (iG hd) hM hF hv hl)
structure GZ(ops:Array Oper)(mode:Nat)(F:Fr)(m:Mem)(lg:Log)(recs:List Rec):Prop where
 one:mode=1→∀q∈recs,q.wr=[]∧q.kl=[]
 ord:mode=2→recs.Pairwise (TD (ops:=ops))
 log:mode=2→∀q∈recs,∀y∈q.ft,∀x∈lg,y.2≠x.2.2∨(y.1=false∧x.2.1=false)∨reach ops 4 q.o x.1=true
 kl:recs.Pairwise fun q r=>q.kl≠[]→reach ops 4 r.o q.i=true
 cln:nL ops F m recs
 nam:∀q∈recs,∀id,q.FB id→mode=2∧ops.toList.any (isApp E)=true∧(true,id)∈q.ft∧∀x∈lg,x.2.2=wq id→reach ops 4 q.o x.1=true
theorem nL.none:∀{l:List Rec}{f:Fr}{m:Mem},(∀q∈l,q.kl=[])→nL ops f m l
 |[],_,_,_=>trivial
 |r::l,f,m,h=>⟨fun q hq id⟨b,an⟩=>(by simp_all),nL.none fun q hq=>h q (by simp[hq])⟩
theorem l7(hE:jJ E)(hY:sw E.P E.aH E.fn.ntmps E.yl w0){mode:Nat}(ku:mode=1∨mode=2):∀(fuel:Nat){R:Type}{A:List (Nat×Bool)}{l:List (Nat×Oper)}{f:Fr}{m:Mem}{lg:Log}{k:Fr→Mem→Option R}{r:R},cg E ops mode fuel R A l f m lg k=some r→(∀x∈l,ops[x.1]?=some x.2)→(mode=1→∀x∈l,eZ x.2=true)→ZA ops A l→∀F:Fr,uB f F→qk E.fn.ntmps ops A F→(∀x∈l,∀t∈x.2.looksAt ops,f t=F t)→∃(recs:List Rec)(f':Fr),k f' (pj m recs)=some r∧uB f' (lS F recs)∧recs.map (fun r=>(r.i,r.o))=l∧fC E ops w0 F m recs∧GZ (E:=E) ops mode F m lg recs
 |0,_,_,_,_,_,_,_,_,h,_,_,_,_,_,_,_=>by simp[cg]at h
 |fuel+1,R,A,[],f,m,lg,k,r,h,_,_,_,F,hF,_,_=>by simp only[cg]at h;exact⟨[],f,h,hF,rfl,trivial,by simp,fun _=>.nil,by simp,.nil,trivial,by simp⟩
 |fuel+1,R,A,(i,o)::rest,f,m,lg,k,r,h,hl,Sg,Db,F,hF,hA,IX=>by
  have ZK:(Nat.beq mode 1||Nat.beq mode 2)=true:=by simp_all
  simp only[cg,ZK]at h;split at h
  ·rename_i hg;split at h
   ·rename_i hd;have abw:∀x∈o.op.operands,bA E f x=bA E F x:=wL (IX (i,o) (by simp));split at h
    ·rename_i kl ft sk;have ZO:mode=2:=by
      rcases ku with rfl|rfl
      ·cases sk
      rfl
     subst ZO;have sk:GC E f m o=some (kl,ft):=sk;split at h
     ·rename_i Pk;simp only[T2,ahq]at Pk;obtain⟨⟨aeF,aeG⟩,aeH⟩:=Pk;obtain⟨TG,v,wr,ft1,hk,ZN,Yc,hn⟩:=Rc sk h;obtain⟨recs,f',c1,c2,c3,c4,c5⟩:=l7 hE hY (.inr rfl) fuel hk (fun x hx=>hl x (by simp[hx])) (fun hm=>by omega) (fun x hx=>Db x (by simp[hx])) (iE (kf kl F) o.dst v) ((uB.kf (kl:=kl) hF).put _ _) (qk.put (qk.kf (kl:=kl) hA) fun g pB t ht=>Db (i,o) (by simp) g pB t ht) (fun x hx t ht=>by
       by_cases e:o.dst=some t
       ·rw[e,jO,jO]
       grind [fB,zb])
      have ov:∀q∈recs,reach ops 4 q.o i=true:=fun q hq=>aeH (q.i,q.o) (by grind);have ZP:ops.toList.any (isApp E)=true:=aip.2 ⟨o,aaQ (by rw[agR];exact hl (i,o) (by simp)),TG⟩;refine⟨⟨i,o,v,wr,ft,kl⟩::recs,f',c1,c2,by simp[c3],⟨Re hE hY hg hA hd abw hn,fun j b hb=>ZN _ hb,c4⟩,?_⟩;refine⟨fun hm=>(by omega),fun hm=>ahw.2 ⟨fun q hq=>.inl (ov q hq),c5.ord hm⟩,fun hm q hq=>?_,ahw.2 ⟨fun q hq _=>ov q hq,c5.kl⟩,⟨fun q hq qY _=>.inl (ov q hq),c5.cln⟩,fun q hq qY an=>?_⟩
      ·rcases afh.1 hq with rfl|hq
       ·exact Am aeF
       ·exact fun y hy x hx=>c5.log hm q hq y hy x (ag2.2 (.inr hx))
      ·rcases afh.1 hq with rfl|hq
       ·obtain⟨bb,an⟩:=an;exact⟨rfl,ZP,Yc _ an,Dl (aeG _ an)⟩
       ·obtain⟨g1,g2,g3,g4⟩:=c5.nam q hq qY an;exact⟨g1,g2,g3,fun x hx=>g4 x (ag2.2 (.inr hx))⟩
     ·cases h
    ·rcases GV hE h with⟨v,f1,m1,ft,hk,Q8⟩|⟨xj,_⟩
     rotate_left
     ·cases xj
     obtain⟨ZH,wr,abx,ZN,hn⟩:=Q8.drawn rfl;subst ZH;have QI:∀(f2:Fr)(m2:Mem),(∀x∈o.op.operands,bA E f2 x=bA E F x)→(∀x∈ft,m2 x.2=m x.2)→∀(R':Type)(k':V→Fr→Mem→bp→Option R'),Ik E true (cD E o.dst) o f2 m2 k'=k' v f2 (sj wr m2) ft:=fun f2 m2 hf=>hn f2 m2 fun x hx=>by rw[hf x hx,abw x hx]
     have step:∀(wr':List (Nat×bF))(lg':Log),sj wr' m=m1→(mode=1→wr'=[])→(∀id b,(id,b)∈wr'→(true,id)∈ft)→FD E ops w0 ⟨i,o,v,wr',ft,[]⟩ F m→cg E ops mode fuel R A rest (iE f1 o.dst v) m1 lg' k=some r→(mode=2→lg'=(bif ops.toList.any (isApp E)then(BZ ops o f1 m m1 v ft).map (fun n=>(i,false,wq n))else[])++(ft.map (fun x=>(i,x))++lg)∧zW ops o lg ft=true)→∃(recs:List Rec)(f':Fr),k f' (pj m recs)=some r∧uB f' (lS F recs)∧recs.map (fun r=>(r.i,r.o))=(i,o)::rest∧fC E ops w0 F m recs∧GZ (E:=E) ops mode F m lg recs:=by
      intro wr' lg' hwm Er hw2 ZJ Wp PC;obtain⟨recs,f',c1,c2,c3,c4,c5⟩:=l7 hE hY ku fuel Wp (fun x hx=>hl x (by simp[hx])) (fun hm x hx=>Sg hm x (by simp[hx])) (fun x hx=>Db x (by simp[hx])) (iE F o.dst v) (hF.put _ _) (qk.put hA fun g pB t ht=>Db (i,o) (by simp) g pB t ht) (fun x hx t ht=>by
       by_cases e:o.dst=some t
       ·rw[e,jO,jO]
       grind [fB])
      subst hwm;refine⟨⟨i,o,v,wr',ft,[]⟩::recs,f',c1,c2,by simp[c3],⟨ZJ,hw2,c4⟩,?_⟩;have aby:mode=2→∀x∈lg,x∈lg':=fun hm x hx=>by simp_all
      have Yh:mode=2→∀x∈ft,(i,x)∈lg':=fun hm x hx=>by simp_all
      refine⟨fun hm q hq=>?_,fun hm=>ahw.2 ⟨fun q hq=>?_,c5.ord hm⟩,fun hm q hq=>?_,ahw.2 ⟨fun q hq h=>absurd rfl h,c5.kl⟩,⟨fun q hq id an=>?_,c5.cln⟩,fun q hq id an=>?_⟩
      ·rcases afh.1 hq with rfl|hq
       ·exact⟨Er hm,rfl⟩
       ·exact c5.one hm q hq
      ·have d2:=c5.log hm;by_cases he:reach ops 4 q.o i=true
       ·exact .inl he
       ·refine .inr ⟨fun id b hb x hx hxi=>?_,fun id b hb x hx hxi=>?_⟩
        ·grind
        ·rcases d2 q hq (true,id) (fC.wr c4 q hq id b hb) (i,x) (Yh hm x hx)with h|h|h
         ·exact h hxi.symm
         ·cases h.1
         ·exact he h
      ·rcases afh.1 hq with rfl|hq
       ·exact Am (PC hm).2
       ·exact fun y hy x hx=>c5.log hm q hq y hy x (aby hm x hx)
      ·obtain⟨g1,g2,g3,g4⟩:=c5.nam q hq id an;by_cases he:reach ops 4 q.o i=true
       ·exact .inl he
       ·refine .inr (TE (IX (i,o) (by simp)) hw2 (fun bR=>he (g4 (i,false,wq id) ?_ rfl)) fun x hx hxi=>?_)
        ·grind
        ·rcases c5.log g1 q hq (true,id) g3 (i,x) (Yh g1 x hx)with h|h|h
         ·exact h hxi.symm
         ·cases h.1
         ·exact he h
      ·rcases afh.1 hq with rfl|hq
       ·obtain⟨_,an⟩:=an;cases an
       ·obtain⟨g1,g2,g3,g4⟩:=c5.nam q hq id an;grind
     rcases ku with rfl|rfl
     ·simp only[Nat.beq,AT,Xq]at hk;split at hk
      ·rename_i hqf;have hwn:wr=[]:=by
        cases wr with
        |nil=>rfl
        |cons x l=>have:=xS hqf _ (ZN x (by simp));cases this
       subst hwn;exact step [] lg abx.symm (fun _=>rfl) (by simp) (Dk hE hg hA hd QI) hk (by simp)
      ·cases hk
     ·simp only[Nat.beq,T1]at hk;split at hk
      ·rename_i hof;exact step wr _ abx.symm (by simp) (fun id b hb=>ZN _ hb) (Dk hE hg hA hd QI) hk fun _=>⟨rfl,hof⟩
      ·cases hk
   ·cases h
  ·rename_i j A0 hg;split at h
   ·rename_i tj VD;split at h
    ·rename_i b hb;generalize sk:AZ A ((i,o)::rest)=sp at h;obtain⟨body,Im⟩:=sp;have l6:=C9 sk;have hm0:Nat.beq mode 0=false:=by rcases ku with rfl|rfl<;>rfl
     simp only[hm0,aiy,AT,Xq]at h;split at h
     ·rename_i ip p lV;split at h
      ·rename_i c x y To;split at h
       ·rename_i hc;simp only[T2,ahq,agS,aho,aj0]at hc;obtain⟨⟨⟨⟨⟨⟨LP,ZG⟩,Bn⟩,Tn⟩,aeI⟩,hpd⟩,cQ⟩:=hc;have ZQ:mode=1:=by simp_all
        subst ZQ;have LP:=IT LP;subst LP;have ZG:guardOf p A=none:=by simpa using ZG
        obtain⟨rb,Tp,h⟩:=By.1 h;have bR:∀z∈body,z∈(i,o)::rest:=fun z hz=>by rw[l6];simp[hz]
        have uY:∀z∈lV,z∈(i,o)::rest:=fun z hz=>by rw[l6];simp[hz]
        have IK:(ip,p)∈(i,o)::rest:=by rw[l6];simp
        obtain⟨ZD,hb⟩:=C7 hb;have hFc:F c=.pv (.bool b):=by
         rcases hF c with e|e
         ·rw[←e];omega
         simp_all
        have after:∀(ry:List Rec)(q:Operand),ry.map (fun r=>(r.i,r.o))=body→fC E ops w0 F m ry→(∀q∈ry,q.wr=[]∧q.kl=[])→bA E (lS F ry) q=.pv (.bool rb)→(q=if b then x else y)→∃(recs:List Rec)(f':Fr),k f' (pj m recs)=some r∧uB f' (lS F recs)∧recs.map (fun r=>(r.i,r.o))=body++(ip,p)::lV∧fC E ops w0 F m recs∧(∀q∈recs,q.wr=[]∧q.kl=[]):=by
         intro ry q aeJ abz hwn hq hqe;have abA:∀t,(∀z∈body,z.2.dst≠some t)→lS F ry t=F t:=fun t ht=>FC fun q hq=>⟨ht (q.i,q.o) (by grind),(hwn q hq).2⟩;have hA1:qk E.fn.ntmps ops A (lS F ry):=fun g pB=>by obtain⟨t,h1,h0,h2⟩:=hA g pB;exact⟨t,h1,h0,by rw[abA t fun z hz=>Db z (bR z hz) g pB t h1];omega⟩
         have XR:lS F ry c=.pv (.bool b):=by grind
         have hrp:FD E ops w0 ⟨ip,p,.pv (.bool rb),[],[],[]⟩ (lS F ry) m:=Dk hE ZG hA1 hpd fun f2 m2 hf hm R' k'=>by
          have tf:bA E f2 (.tmp c)=.pv (.bool b):=by simp_all[Op.operands,Wo]
          have hq2:bA E f2 q=.pv (.bool rb):=by grind [Op.operands]
          rw[IJ To tf,←hqe,hq2];rfl
         obtain⟨recs,f',c1,c2,c3,c4,c5⟩:=l7 hE hY (.inl rfl) fuel h (fun z hz=>hl z (uY z hz)) (fun hm z hz=>Sg hm z (uY z hz)) (fun z hz=>Db z (uY z hz)) (iE (lS F ry) p.dst (.pv (.bool rb))) (uB.put (wK fun t ht=>by rw[abA t ht];exact hF t) _ _) (qk.put hA1 fun g pB t ht=>Db (ip,p) IK g pB t ht) (fun z hz t ht=>by
          by_cases e:p.dst=some t
          ·rw[e,jO,jO]
          ·have hnb:∀u∈body,u.2.dst≠some t:=fun u hu hud=>by grind [blind,List.all_eq_true,Bool.not_eq_true']
           grind [fB,wJ])
         have hmB:pj m ry=m:=FF hwn;refine⟨ry++⟨ip,p,.pv (.bool rb),[],[],[]⟩::recs,f',?_,?_,by simp[aeJ,c3],?_,fun q hq=>?_⟩
         ·rw[IU,hmB];exact c1
         ·rw[IQ];exact c2
         ·refine fC.append.2 ⟨abz,?_⟩;rw[hmB];exact⟨hrp,by simp,c4⟩
         ·rcases ag2.1 hq with h|h
          ·exact hwn q h
          ·rcases afh.1 h with rfl|h
           ·simp
           ·exact c5.one rfl q h
        have fin:(∃(recs:List Rec)(f':Fr),k f' (pj m recs)=some r∧uB f' (lS F recs)∧recs.map (fun r=>(r.i,r.o))=body++(ip,p)::lV∧fC E ops w0 F m recs∧(∀q∈recs,q.wr=[]∧q.kl=[]))→∃(recs:List Rec)(f':Fr),k f' (pj m recs)=some r∧uB f' (lS F recs)∧recs.map (fun r=>(r.i,r.o))=(i,o)::rest∧fC E ops w0 F m recs∧GZ (E:=E) ops 1 F m lg recs:=by rintro⟨recs,f',c1,c2,c3,c4,c5⟩;exact⟨recs,f',c1,c2,by rw[l6];omega,c4,fun _=>c5,fun h=>(by omega),fun h=>(by omega),ajl (R:=fun _ _=>True) (fun{q r}hq hr _ h=>absurd (c5 q hq).2 h) (List.pairwise_of_forall fun _ _=>trivial),nL.none fun q hq=>(c5 q hq).2,fun q hq id⟨_,an⟩=>(by simp_all)⟩
        have go:∀q,b=A0→(q=if b then x else y)→cg E ops 1 fuel Bool ((j,A0)::A) body f m lg (fun f _=>wZ (bA E f q))=some rb→∃(recs:List Rec)(f':Fr),k f' (pj m recs)=some r∧uB f' (lS F recs)∧recs.map (fun r=>(r.i,r.o))=body++(ip,p)::lV∧fC E ops w0 F m recs∧(∀q∈recs,q.wr=[]∧q.kl=[]):=by
         intro q Si hq Wp;obtain⟨ry,f1,c1,c2,c3,c4,c5⟩:=l7 hE hY (.inl rfl) fuel Wp (fun z hz=>hl z (bR z hz)) (fun hm z hz=>Sg hm z (bR z hz)) (fun z hz g pB t ht=>by
          rcases afh.1 pB with rfl|pB
          ·grind
          ·exact Db z (bR z hz) g pB t ht) F hF (fun g pB=>by
          rcases afh.1 pB with rfl|pB
          ·simp_all
          ·exact hA g pB) (fun z hz=>IX z (bR z hz))
         refine after ry q c3 c4 (c5.one rfl) ?_ hq;grind [y8,Tl]
        have no:∀q,b= !A0→(q=if b then x else y)→wZ (bA E (lU f body) q)=some rb→∃(recs:List Rec)(f':Fr),k f' (pj m recs)=some r∧uB f' (lS F recs)∧recs.map (fun r=>(r.i,r.o))=body++(ip,p)::lV∧fC E ops w0 F m recs∧(∀q∈recs,q.wr=[]∧q.kl=[]):=by intro q Si hq Wp;obtain⟨s1,s2⟩:=FE (E:=E) (w0:=w0) (m:=m) body F (fun z hz=>(Bn z hz).1.2) (y7 VD Tn (fun z hz=>hl z (bR z hz)) (fun z hz=>(Bn z hz).2) (by rw[hFc,Si]) (by simp));refine after (body.map zd) q (by simp[zd,ajk]) s1 (fun u hu=>by obtain⟨z,_,rfl⟩:=agZ.1 hu;exact⟨rfl,rfl⟩) ?_ hq;rw[s2];have hv:=y8 Wp;grind [uB,lU,ij,wK,tF,Tl]
        grind
       ·cases h
      ·cases h
     ·cases h
    ·cases h
   ·cases h
theorem rR{l:List Oper}:(i,o)∈(List.range l.length).zip l↔l[i]?=some o:=by
 rw[ahn];constructor
 ·grind
 ·intro h;refine⟨i,List.getElem?_zip_eq_some.2 ⟨?_,h⟩⟩;grind
theorem vd:∀{l done:List (Nat×Oper)},nD ops done l=true→(∀x∈l,∀d∈done,reach ops 4 x.2 d.1=true∨d.2.apart ops x.2=true)∧l.Pairwise (fun q r=>reach ops 4 r.2 q.1=true∨q.2.apart ops r.2=true)∧∀x∈l,∀e∈x.2.after,Region.binds .any e=true→e.on<x.1
 |[],_,_=>⟨by simp,.nil,by simp⟩
 |(i,o)::r,done,h=>by
  simp only[nD,T2]at h;obtain⟨⟨h1,h2⟩,h3⟩:=h;obtain⟨i1,i2,i3⟩:=vd h3;have Ep:∀{done:List (Nat×Oper)},wu ops done o=true→∀d∈done,reach ops 4 o d.1=true∨d.2.apart ops o=true:=by
   intro done;induction done with
   |nil=>simp
   |cons x l ih=>intro h d hd;simp only[wu,T2,afk]at h;grind
  refine⟨fun x hx d hd=>?_,ahw.2 ⟨fun x hx=>i1 x hx (i,o) (by simp),i2⟩,fun x hx e he hb=>?_⟩
  ·grind
  ·rcases afh.1 hx with rfl|hx
   ·have:=ahq.1 h1 e (ah4.2 he);simp_all
   ·exact i3 x hx e he hb
variable{rd:Option Nat}{fuel:Nat}{Q:Exit→Act→World→Prop}
theorem ve(hE:jJ E)(hY:sw E.P E.aH E.fn.ntmps E.yl w0){mode:Nat}(ku:mode=1∨mode=2){l:List (Nat×Oper)}{base:Nat→Bool}(Sg:mode=1→∀x∈l,eZ x.2=true){k:Fr→Mem→Option R}{r:R}(hmz:∀x∈l,ops[x.1]?=some x.2)(agn:(l.map Prod.fst).Pairwise (·<·))(Ya:∀x∈l,base x.1=false)(Yb:∀i o,ops[i]?=some o→base i=false→(∀x∈l,x.1≠i)→(∀x∈l,reach ops 8 o x.1=true)∨∃j,reach ops 8 o j=true∧base j=false∧∀x∈l,x.1≠j)(aeK:∀x∈l,∀e∈x.2.after,Region.binds .any e=true→base e.on=true∨∃y∈l,y.1=e.on)(hi:nD ops [] l=true)(h:cg E ops mode fuel R [] l f m [] k=some r)(hQ:∀(fuel:Nat)(ag:Array Bool),ag.size=ops.size→ag.toList.countP (fun b=> !b)≤fuel→xV ops ag→(∀i,aD ag i=true↔base i=true∨∃x∈l,x.1=i)→∀f' m' μ φ a w,k f' m'=some r→Rel E.P E.aH E.fn.ntmps w0 μ φ f' m' a w→wpAnyIn (FR rd) 0 E.P .any ops Q fuel ag a w):∀(fuel:Nat)(ag:Array Bool),ag.size=ops.size→ag.toList.countP (fun b=> !b)≤fuel→xV ops ag→(∀i,aD ag i=true↔base i=true)→∀(μ:Ro)(φ:Nat→aA)(a:Act)(w:World),Rel E.P E.aH E.fn.ntmps w0 μ φ f m a w→wpAnyIn (FR rd) 0 E.P .any ops Q fuel ag a w:=by
 intro abB ag hs hc sC hb μ φ a w hR;obtain⟨recs,f',c1,c2,c3,c4,c5⟩:=l7 (w0:=w0) hE hY ku fuel h hmz Sg (by intro x hx g hg;cases hg) f (uB.refl f) (by intro g hg;cases hg) (fun _ _ _ _=>rfl);obtain⟨_,i2,i3⟩:=vd hi;have bR:∀q∈recs,(q.i,q.o)∈l:=fun q hq=>by grind
 have hof:∀x∈l,∃q∈recs,q.i=x.1:=fun x hx=>by grind
 have Ep:recs.Pairwise fun q r=>reach ops 4 r.o q.i=true∨q.o.apart ops r.o=true:=by grind
 have hmo:recs.Pairwise (TD (ops:=ops)):=by
  rcases ku with hm|hm
  ·exact ajl (fun{q r}hq hr _=>.inr ⟨fun id b hb=>(by rw[(c5.one hm q hq).1]at hb;cases hb),fun id b hb=>(by rw[(c5.one hm r hr).1]at hb;cases hb)⟩) Ep
  ·exact c5.ord hm
 refine Tu (E:=E) (w0:=w0) (recs:=recs) (f0:=f) (m0:=m) (base:=base) ?_ (fun q hq=>hmz _ (bR q hq)) (fun q hq=>Ya _ (bR q hq)) (fun i o ho hbi cL=>?_) ?_ c5.kl c5.cln (fun q hq e he KY=>⟨i3 _ (bR q hq) e he KY,?_⟩) c4 ?_ abB ag hs hc sC (fun i hi=>(hb i).2 hi) (fun i hi=>Or.inl ((hb i).1 hi)) μ φ a w ?_
 ·grind
 ·grind
 ·refine List.Pairwise.imp (fun{q r}h=>?_) (List.Pairwise.and Ep hmo);obtain⟨h1,h2⟩:=h;rcases h1 with h1|h1
  ·exact .inl h1
  ·rcases h2 with h2|h2
   ·exact .inl h2
   ·exact .inr ⟨h1,h2⟩
 ·rcases aeK _ (bR q hq) e he KY with h1|⟨y,hy,h1⟩
  ·exact Or.inl h1
  grind
 ·intro Yi PD V7 SI aeL tf μ2 φ2 a2 w2 Fu;refine hQ Yi PD V7 SI aeL (fun i=>?_) _ _ μ2 φ2 a2 w2 c1 (Fu.weaken c2);grind
 ·have hS:∀q∈recs,aD ag q.i=false:=fun q hq=>by grind
  rw[show nS (aD ag) f recs=f from funext fun t=>pC fun q hq hs=>(by simp_all),show nT (aD ag) m recs=m from funext fun t=>pD fun q hq hs=>(by simp_all)];omega
variable{x:Nat×Oper}
theorem An(hx:x∈(List.range ops.size).zip ops.toList):ops[x.1]?=some x.2:=by have:=(rR (l:=ops.toList) (i:=x.1) (o:=x.2)).1 (by omega);simp_all
theorem qn(ho:ops[i]?=some o):(i,o)∈(List.range ops.size).zip ops.toList:=by have:=(rR (l:=ops.toList) (i:=i) (o:=o)).2 (by simp_all);omega
theorem G0:((List.range ops.size).zip ops.toList).map Prod.fst=List.range ops.size:=by rw[List.map_fst_zip (by simp)]
variable{P:Program}
theorem Dm{F:Fence}{n:Nat}{ag:Array Bool}(hs:ag.size=ops.size)(EH:∀i o,ops[i]?=some o→aD ag i=true)(hq:Q .normal a w):wpAnyIn F n P .any ops Q fuel ag a w:=by
 have hr:Region.ready .any ops ag=[]:=by apply List.eq_nil_iff_forall_not_mem.2;intro j hj;obtain⟨h0,o,ho,_⟩:=mem_ready.1 hj;grind
 cases fuel with
 |zero=>exact⟨hr,hq⟩
 |succ fuel=>exact⟨fun _=>hq,fun i hi=>by rw[hr]at hi;cases hi⟩
theorem vf(n j:Nat):aD (Array.replicate n false) j=false:=by simp only[aD,agN,Array.getElem?_replicate];split<;>rfl
theorem count_le(n:Nat):(Array.replicate n false).toList.countP (fun b=> !b)≤n:=by grind [List.countP_le_length,Array.replicate]
theorem Bq:xV ops (Array.replicate ops.size false):=fun i o _ h=>by rw[vf]at h;cases h
theorem Dn(hE:jJ E)(hY:sw E.P E.aH E.fn.ntmps E.yl w0){mode:Nat}(ku:mode=1∨mode=2)(Sg:mode=1→∀o∈ops,eZ o=true){k:Fr→Mem→Option R}{r:R}(hi:nD ops [] ((List.range ops.size).zip ops.toList)=true)(h:cg E ops mode fuel R [] ((List.range ops.size).zip ops.toList) f m [] k=some r){μ:Ro}(hR:Rel E.P E.aH E.fn.ntmps w0 μ φ f m a w)(hQ:∀f' m' μ' φ' a' w',k f' m'=some r→Rel E.P E.aH E.fn.ntmps w0 μ' φ' f' m' a' w'→Q .normal a' w'):wpAnyIn (FR rd) 0 E.P .any ops Q ops.size (Array.replicate ops.size false) a w:=by
 refine ve (w0:=w0) (base:=fun _=>false) hE hY ku (fun hm x hx=>Sg hm x.2 (aiL (An hx))) (fun x hx=>An hx) (by rw[G0];exact aiG) (fun _ _=>rfl) (fun i o ho _ cL=>absurd rfl (cL _ (qn ho))) (fun x hx e he hb=>Or.inr ?_) hi h ?_ ops.size _ (by simp) (count_le _) Bq (fun i=>by rw[vf]) μ φ a w hR
 ·obtain⟨_,_,i3⟩:=vd hi;have h1:=i3 x hx e he hb;have h2:x.1<ops.size:=(YH.1 (An hx)).1;exact⟨_,qn (OF (show e.on<ops.size by omega)),rfl⟩
 ·intro Yi PD V7 _ _ tf f' m' μ2 φ2 a2 w2 hk Fu;exact Dm V7 (fun i o ho=>(tf i).2 (Or.inr ⟨_,qn ho,rfl⟩)) (hQ _ _ _ _ _ _ hk Fu)
theorem B7{j:Nat}(h:((List.range ops.size).zip ops.toList)[j]?=some x):x.1=j:=by grind
theorem nU{p:Nat}:x∈((List.range ops.size).zip ops.toList).take p↔x∈(List.range ops.size).zip ops.toList∧x.1<p:=by
 constructor
 ·grind [List.getElem?_of_mem,List.getElem?_take_of_lt,List.mem_of_getElem?,B7]
 ·rintro⟨h,hx⟩;obtain⟨j,hj⟩:=ag4 h;have:=B7 hj;exact aaQ (i:=j) (by simp_all)
theorem sI{p:Nat}:x∈((List.range ops.size).zip ops.toList).drop p↔x∈(List.range ops.size).zip ops.toList∧p≤x.1:=by
 constructor
 ·grind [List.getElem?_of_mem,List.mem_of_getElem?,B7]
 ·rintro⟨h,hx⟩;obtain⟨j,hj⟩:=ag4 h;have:=B7 hj;exact aaQ (i:=j-p) (by simp_all)
variable{K:Act→World→Prop}{Q':Exit→Act→World→Prop}
theorem Oper.LV{F:Fence}{n:Nat}(h:∀e a w,e≠.normal→Q' e a w→Q e a w)(hh:o.wpIn F n P a w K Q'):o.wpIn F n P a w K Q:=by
 unfold Oper.wpIn at*;refine⟨hh.1,?_⟩;have hh:=hh.2;have abC:LetsOut Q'→LetsOut Q:=fun⟨a,w,hq⟩=>⟨a,w,h _ _ _ (by simp) hq⟩;generalize (o.semAt F.round a.eval).run P w=r at*;cases r with
 |ok x w'=>
  cases x<;>simp only[Oper.uponIn]at hh⊢<;>first
   |exact hh
   |exact⟨hh.1,CallsIn.mono hh.2 (fun e w'' he=>by cases e<;>first|exact abC he|exact h _ _ _ (by simp) he|exact he)⟩
   |exact⟨hh.1,RoundIn.mono hh.2 (fun e w'' he=>by cases e<;>first|exact abC he|exact h _ _ _ (by simp) he|exact he)⟩
 |halt x w'=>cases x<;>simp only[Oper.uponIn]at hh⊢<;>simp_all
theorem G1{F:Fence}{n:Nat}(h:∀e a w,e≠.normal→Q' e a w→Q e a w)(hh:wpOpIn F n P ops Q' i K a w):wpOpIn F n P ops Q i K a w:=by
 unfold wpOpIn at*;split
 ·simpa[*]using hh
 ·rename_i o ho;simp only[ho]at hh;split
  ·rename_i hw;simp only[hw,T1]at hh;exact Oper.LV h hh
  simp_all
theorem LW(hE:jJ E)(hY:sw E.P E.aH E.fn.ntmps E.yl w0){p:Nat}(Wr:SB ops p=true){k:Fr→Mem→Option R}{r:R}(ZR:nD ops [] (((List.range ops.size).zip ops.toList).take p)=true)(hi3:nD ops [] (((List.range ops.size).zip ops.toList).drop (p+1))=true){n1 n2 n3:Nat}(h:(cg E ops 2 n1 R [] (((List.range ops.size).zip ops.toList).take p) f m [] fun f m=>cg E ops 0 n2 R [] ((((List.range ops.size).zip ops.toList).drop p).take 1) f m [] fun f m=>cg E ops 2 n3 R [] (((List.range ops.size).zip ops.toList).drop (p+1)) f m [] k)=some r){μ:Ro}(hR:Rel E.P E.aH E.fn.ntmps w0 μ φ f m a w)(hQ:∀f' m' μ' φ' a' w',k f' m'=some r→Rel E.P E.aH E.fn.ntmps w0 μ' φ' f' m' a' w'→Q .normal a' w'):wpAnyIn (FR rd) 0 E.P .any ops Q ops.size (Array.replicate ops.size false) a w:=by
 unfold SB at Wr;cases ho:ops[p]? with
 |none=>simp_all
 |some o=>
  rw[ho]at Wr;simp only[T2]at Wr;obtain⟨⟨_,EI⟩,hpa⟩:=Wr;have hpn:p<ops.size:=(YH.1 ho).1;have Tv:∀e∈o.after,Region.binds .any e=true→e.on<p:=fun e he hb=>by have:=ahq.1 EI e (ah4.2 he);simp_all
  have aeM:∀i,i<p→reach ops 8 o i=true:=fun i hi=>by have:=ahq.1 hpa _ (qn (OF (show i<ops.size by omega)));simp_all
  have aeN:∀i o',ops[i]?=some o'→p<i→reach ops 8 o' p=true:=fun i o' TC hi=>by
   have:=ahq.1 hpa _ (qn TC);simp only at this;have hb:Nat.blt i p=false:=by
    cases hx:Nat.blt i p with
    |false=>rfl
    |true=>have:i<p:=ajC hx;omega
   have tf:Nat.beq i p=false:=by
    cases hx:Nat.beq i p with
    |false=>rfl
    |true=>simp_all
   simp_all
  refine ve (w0:=w0) (base:=fun _=>false) hE hY (.inr rfl) (fun h=>by omega) (fun x hx=>An (nU.1 hx).1) (by simp[ai0,G0,aiG,List.take_sublist]) (fun _ _=>rfl) (fun i o' TC _ cL=>?_) (fun x hx e he hb=>Or.inr ?_) ZR h ?_ ops.size _ (by simp) (count_le _) Bq (fun i=>by rw[vf]) μ φ a w hR
  ·have hip:¬i<p:=fun hc=>cL _ (nU.2 ⟨qn TC,hc⟩) rfl;by_cases hi:i=p
   ·subst hi;rw[ho]at TC;cases TC;exact Or.inl fun x hx=>aeM _ (nU.1 hx).2
   ·exact Or.inr ⟨p,aeN i o' TC (by omega),rfl,fun x hx=>by have:=(nU.1 hx).2;omega⟩
  ·obtain⟨_,_,i3⟩:=vd ZR;have h1:=i3 x hx e he hb;have h2:=(nU.1 hx).2;exact⟨_,nU.2 ⟨qn (OF (show e.on<ops.size by omega)),by omega⟩,rfl⟩
  ·intro fuel ag hs hc sC hb f1 m1 μ1 φ1 a1 w1 QX LQ;have bS:∀i,aD ag i=true↔i<p:=fun i=>by
    rw[hb i];constructor
    ·rintro(h|⟨x,hx,rfl⟩)
     ·cases h
     ·exact(nU.1 hx).2
    ·intro hi;exact Or.inr ⟨_,nU.2 ⟨qn (OF (show i<ops.size by omega)),hi⟩,rfl⟩
   have ou:p<ag.size:=by omega
   have hpu:aD ag p=false:=by grind
   have agB:ag[p]=false:=by simp_all
   cases fuel with
   |zero=>have:=ajR.1 (Nat.le_zero.1 hc) ag[p] (by simp);simp_all
   |succ fuel=>
    have aeO:p∈Region.ready .any ops ag:=mem_ready.2 ⟨by simp_all,o,ho,fun e he KY=>(bS e.on).2 (Tv e he KY)⟩;refine⟨(fun h0=>by simp_all),fun i hi=>?_⟩;obtain⟨Tx,o',TC,Dj⟩:=mem_ready.1 hi;have ov:i<ag.size:=by grind
    have hiu:aD ag i=false:=by simp_all
    have hip:i=p:=by refine ahX fun cL=>?_;grind [qm]
    subst hip;have hL:(((List.range ops.size).zip ops.toList).drop i).take 1=[(i,o)]:=by
     have hlen:i<((List.range ops.size).zip ops.toList).length:=by simp;omega
     rw[aie hlen];simp_all
    rw[hL]at QX;have ZL:∀j,aD (ag.setIfInBounds i true) j=if j=i then true else aD ag j:=fun j=>by simp only[aD,agN,ahE];grind
    have hle:∀j,aD (ag.setIfInBounds i true) j=true↔j≤i:=fun j=>by grind
    have abD:=hZ (rd:=rd) (w0:=w0) hE hY _ (.inl rfl) QX (by simp_all) (by intro x hx g hg;cases hg) (fun h=>by omega) μ1 φ1 a1 w1 (fun e a w=>(e=.normal∧wpAnyIn (FR rd) 0 E.P .any ops Q fuel (ag.setIfInBounds i true) a w)∨(e≠.normal∧Q e a w)) [] LQ (by intro g hg;cases hg) fun f2 m2 μ2 φ2 a2 w2 Wb Fu _ _=>Or.inl ⟨rfl,?_⟩
    ·rw[aij,agP,ail,wpOpsIn_cons]at abD;refine wpOpIn_mono (fun a w hq=>?_) (G1 (fun e a w cL hq=>?_) abD)
     ·rcases hq with⟨_,h⟩|⟨h,_⟩
      ·omega
      ·exact absurd rfl h
     simp_all
    ·refine ve (w0:=w0) (base:=fun j=>decide (j≤i)) hE hY (.inr rfl) (fun h=>by omega) (fun x hx=>An (sI.1 hx).1) (by grind [List.map_drop,G0,List.pairwise_lt_range,List.drop_sublist]) (fun x hx=>by have:=(sI.1 hx).2;simp;omega) (fun j oj hj hbj cL=>?_) (fun x hx e he KY=>?_) hi3 Wb ?_ fuel _ (by simp[hs]) ?_ ?_ (fun j=>by rw[hle j];simp) μ2 φ2 a2 w2 Fu
     ·simp only[agW]at hbj;exact absurd rfl (cL _ (sI.2 ⟨qn hj,by omega⟩))
     ·obtain⟨_,_,i3⟩:=vd hi3;have h1:=i3 x hx e he KY;have h2:x.1<ops.size:=(YH.1 (An (sI.1 hx).1)).1;by_cases hei:e.on≤i
      ·simp_all
      ·exact Or.inr ⟨_,sI.2 ⟨qn (OF (show e.on<ops.size by omega)),by omega⟩,rfl⟩
     ·intro ago aek hs3 _ _ hb3 f3 m3 μ3 φ3 a3 w3 hk3 hR3;refine Dm hs3 (fun j oj hj=>(hb3 j).2 ?_) (hQ _ _ _ _ _ _ hk3 hR3);by_cases QY:j≤i
      ·simp_all
      ·exact Or.inr ⟨_,sI.2 ⟨qn hj,by omega⟩,rfl⟩
     ·grind
     ·intro j oj hj hlj e he KY;rw[hle]at hlj⊢;by_cases QY:j=i
      ·grind
      ·have h1:=sC j oj hj ((bS j).2 (by omega)) e he KY;grind
end
end Go.Ab
