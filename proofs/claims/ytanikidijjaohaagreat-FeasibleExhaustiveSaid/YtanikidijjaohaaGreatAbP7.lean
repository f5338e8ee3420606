import Derived.Test.YtanikidijjaohaaGreatAbP6
import Derived.OrdersIn
set_option linter.unusedVariables false
set_option linter.unusedSimpArgs false
namespace Go.Ab
open Go.RowKit (Below)
def wN(f F:Fr):Prop:=∀t,f t=F t∨f t=.top
theorem wN.refl(f:Fr):wN f f:=fun _=>.inl rfl
theorem wN.put{f F:Fr}(h:wN f F)(d:Option Nat)(v:V):wN (jK f d v) (jK F d v):=by
 intro t;cases d with
 |none=>exact h t
 |some d=>
  simp only[jK,gO];cases Nat.beq t d
  ·exact h t
  ·exact .inl rfl
theorem ga{f:Fr}{d:Option Nat}{v:V}{t:Nat}(h:d≠some t):jK f d v t=f t:=by
 cases d with
 |none=>rfl
 |some d=>exact rP (fun e=>h (by rw[e]))
theorem kC{f:Fr}{v:V}{t:Nat}:jK f (some t) v t=v:=by simp[jK,gO,amQ]
section
variable {E:Env} {ops:Array Oper} {w0:bI}
variable{nt:Nat}{μ:Ro}{φ:Nat→aH}{f:Fr}{m:Mem}{a:Act}
theorem Rel.weaken{f':Fr}{w:World}(h:Rel E.P E.aM nt w0 μ φ f m a w)(hf:wN f' f):Rel E.P E.aM nt w0 μ φ f' m a w:=
 {h with
  fr:=fun t=>by
   rcases hf t with e|e
   ·rw[e];exact h.fr t
   ·rw[e];exact .top,
  live:=fun t id av=>by
   rcases hf t with e|e
   ·rw[e]at av;exact h.live t id av
   ·rw[e]at av;cases av}
variable{t:Nat}
theorem Fu{d:Nat}{y:Value}(hd:d<a.tmps.size):(a.put (some d) y).tmps.getD t undef=if t=d then y else a.tmps.getD t undef:=by
 simp only[Act.put,ajG,akJ];by_cases e:d=t
 ·subst e;simp[hd]
 ·have e':¬t=d:=fun h=>e h.symm;simp[e,e']
theorem Rel.put{nt:Nat}{μ μ':Ro}{φ φ':Nat→aH}{f f':Fr}{m m':Mem}{a:Act}{w w':World}(h:Rel E.P E.aM nt w0 μ φ f m a w)(hle:LA μ μ'){dst:Option Nat}{v:V}{y:Value}(hd:∀d,dst=some d→d<nt)(hM:az E.P E.aM w0 μ' φ' m' w')(hF:cu E.P μ' φ' m' f' (ax nt w0 a))(hv:ah E.P μ' φ' v y)(hl:∀id,v.has id=true→(m' id).isSome=true):Rel E.P E.aM nt w0 μ' φ' (jK f' dst v) m' (a.put dst y) w':=by
 refine{toaz:=hM,size:=?_,defers:=?_,mY:=h.mY,fr:=fun t=>?_,live:=fun t id av=>?_}
 ·cases dst<;>simp[Act.put,h.size]
 ·cases dst<;>exact h.defers.mono hle
 ·cases dst with
  |none=>exact hF.fr t
  |some d=>
   have cd:d<a.tmps.size:=by rw[h.size];exact hd d rfl
   have hf:=hF.fr t;by_cases e:t=d
   ·subst e;rw[rI (hd t rfl),Fu cd,BK rfl,kC];exact hv
   ·rw[ga (by simpa using fun h=>e h.symm)];unfold ax at hf⊢;split
    ·rename_i ht;rw[BK ht]at hf;rw[Fu cd,IN e];exact hf
    ·rename_i ht;rw[IN ht]at hf;exact hf
 ·by_cases e:dst=some t
  ·subst e;rw[kC]at av;exact hl id av
  ·rw[ga e]at av;exact hF.live t id av
theorem Z1(h:t<E.fn.ntmps):bL E f (.tmp t)=f t:=by simp only[bL];rw[show Nat.blt t E.fn.ntmps=true by rw[akH];exact h];rfl
theorem Fv{p:PV}(h:bL E f (.tmp t)=.pv p):t<E.fn.ntmps∧f t=.pv p:=by
 simp only[bL]at h;cases e:Nat.blt t E.fn.ntmps with
 |true=>rw[e]at h;exact⟨by rwa[akH]at e,h⟩
 |false=>rw[e]at h;cases h
theorem WR{F:Fr}(h:wN f F)(q:Operand):bL E f q=bL E F q∨bL E f q=.top:=by
 cases q with
 |tmp t=>
  simp only[bL];cases Nat.blt t E.fn.ntmps with
  |true=>exact h t
  |false=>exact .inr rfl
 |_=>exact .inl rfl
def sa(nt:Nat)(ops:Array Oper)(A:List (Nat×Bool))(f:Fr):Prop:=∀g∈A,∃t,(ops[g.1]?).bind (·.dst)=some t∧t<nt∧f t=.pv (.bool g.2)
def A5(ops:Array Oper)(A:List (Nat×Bool))(a:Act):Prop:=∀g∈A,∃t,(ops[g.1]?).bind (·.dst)=some t∧a.tmps.getD t undef=.bool g.2
def ab5(ops:Array Oper)(A:List (Nat×Bool))(l:List (Nat×Oper)):Prop:=∀x∈l,∀g∈A,∀t,(ops[g.1]?).bind (·.dst)=some t→x.2.dst≠some t
variable{d:Option Nat}{A:List (Nat×Bool)}
theorem sa.put(h:sa nt ops A f){v:V}(hd:∀g∈A,∀t,(ops[g.1]?).bind (·.dst)=some t→d≠some t):sa nt ops A (jK f d v):=by intro g hg;obtain⟨t,h1,h0,h2⟩:=h g hg;exact⟨t,h1,h0,by rw[ga (hd g hg t h1)];exact h2⟩
variable{o:Oper}
theorem jL(h:wW E o=true):∀d,o.dst=some d→d<E.fn.ntmps:=by intro d hd;simp only[wW,hd]at h;rw[akH]at h;exact h
variable{b:Bool}
theorem vD{j:Nat}(h:(ops[j]?).bind (·.dst)=some t)(hb:a.tmps.getD t undef=.bool b):yielded ops a.tmps j=some b:=by
 simp only[yielded,h,ajH];have:a.tmps[t]?=some (.bool b):=by
  rw[ajG]at hb;cases e:a.tmps[t]? with
  |none=>rw[e]at hb;simp[undef]at hb
  |some x=>rw[e]at hb;simpa using hb
 rw[this]
theorem Ch(ho:guardOf o A=none)(hA:A5 ops A a):Region.wanted o (yielded ops a.tmps)=true:=by
 unfold guardOf at ho;unfold Region.wanted;split at ho
 ·rename_i hg;simp[hg]
 ·rename_i g hg;split at ho
  ·rename_i cg;obtain⟨t,h1,h2⟩:=hA g (by simpa using cg);simp only[hg];rw[vD h1 h2];simp
  ·cases ho
theorem A5.put(h:A5 ops A a){y:Value}(hs:∀t,d=some t→t<a.tmps.size)(hd:∀g∈A,∀t,(ops[g.1]?).bind (·.dst)=some t→d≠some t):A5 ops A (a.put d y):=by
 intro g hg;obtain⟨t,h1,h2⟩:=h g hg;refine⟨t,h1,?_⟩;cases d with
 |none=>exact h2
 |some d=>rw[Fu (hs d rfl),IN fun e=>hd g hg t h1 (by rw[e])];exact h2
def Uq(ops:Array Oper)(f:Fr)(o:Oper):Prop:=∃g,o.guard=some g∧∀t,(ops[g.1]?).bind (·.dst)=some t→f t=.bu []∨f t=.pv (.bool (!g.2))
theorem Ur{P:Program}{x:Value}(h:ah P μ φ (.bu []) x):x=undef:=by
 cases h with
 | @bu _ xs h1 _=>have:xs= #[]:=alR (by simpa using h1.symm);subst this;rfl
theorem Fx{P:Program}:ah P μ φ (.bu []) undef:=.bu rfl (by simp)
theorem zu{w:World}(h:Rel E.P E.aM nt w0 μ φ f m a w)(hd:Uq ops f o):Region.wanted o (yielded ops a.tmps)=false:=by
 obtain⟨g,hg,ht⟩:=hd;simp only[Region.wanted,hg];cases hs:(ops[g.1]?).bind (·.dst)with
 |none=>simp[yielded,hs]
 |some t=>
  have hy:nt≤t→yielded ops a.tmps g.1=none:=fun hle=>by simp only[yielded,hs,ajH];rw[Array.getElem?_eq_none (by rw[h.size];exact hle)]
  by_cases Hf:nt≤t
  ·rw[hy Hf];rfl
  have cd:t<nt:=Nat.lt_of_not_le Hf;have h3:=h.fr t;rw[rI cd]at h3;rcases ht t hs with e|e
  ·rw[e]at h3;have h4:=Ur h3;have:yielded ops a.tmps g.1=none:=by
    simp only[yielded,hs,ajH];rw[ajG]at h4;cases e:a.tmps[t]? with
    |none=>rfl
    |some x=>rw[e]at h4;simp only[akG]at h4;subst h4;rfl
   rw[this];rfl
  ·rw[e]at h3;rw[vD hs (rY h3)];cases g.2<;>rfl
theorem vE{t:Nat}:∀{l:List (Nat×Oper)}{f:Fr},(∀x∈l,x.2.dst≠some t)→jq f l t=f t
 |[],_,_=>rfl
 |x::r,f,h=>by rw[jq,vE (fun y hy=>h y (by simp[hy])),ga (h x (by simp))]
theorem yP{t:Nat}:∀{l:List (Nat×Oper)}{f:Fr},(∀x∈l,x.2.dst≠some t)→nb f l t=f t
 |[],_,_=>rfl
 |x::r,f,h=>by rw[nb,yP (fun y hy=>h y (by simp[hy])),ga (h x (by simp))]
theorem Ci{t:Nat}:∀{l:List (Nat×Oper)}{f:Fr},(f t=.top∨∃x∈l,x.2.dst=some t)→nb f l t=.top
 |[],_,h=>by
  rcases h with h|⟨x,hx,_⟩
  ·exact h
  ·cases hx
 |x::r,f,h=>by
  rw[nb];by_cases e:x.2.dst=some t
  ·exact Ci (.inl (by rw[e,kC]))
  ·refine Ci ?_;rcases h with h|⟨y,hy,hd⟩
   ·exact .inl (by rw[ga e];exact h)
   ·rcases ah4.1 hy with rfl|hy
    ·exact absurd hd e
    ·exact .inr ⟨y,hy,hd⟩
theorem yQ{l:List (Nat×Oper)}{F:Fr}(h:∀t,(∀x∈l,x.2.dst≠some t)→f t=F t∨f t=.top):wN (nb f l) F:=by
 intro t;by_cases e:∃x∈l,x.2.dst=some t
 ·exact .inr (Ci (.inr e))
 ·have e':∀x∈l,x.2.dst≠some t:=fun x hx hd=>e ⟨x,hx,hd⟩;rw[yP e'];exact h t e'
theorem A6{g:Nat×Bool}{tj:Nat}(hj:(ops[g.1]?).bind (·.dst)=some tj):∀{l:List (Nat×Oper)}{done:List Nat}{f:Fr},wV g done l=true→(∀x∈l,ops[x.1]?=some x.2)→(∀x∈l,x.2.dst≠some tj)→f tj=.pv (.bool (!g.2))→(∀j∈done,∀t,(ops[j]?).bind (·.dst)=some t→f t=.bu [])→∀(pre post:List (Nat×Oper))(x:Nat×Oper),l=pre++x::post→Uq ops (jq f pre) x.2
 |[],_,_,_,_,_,_,_,pre,post,x,h=>by simp at h
 |y::r,done,f,hg,hl,hd,hb,OU,pre,post,x,h=>by
  simp only[wV,T1]at hg;cases pre with
  |nil=>
   simp only[aj1,aku]at h;obtain⟨rfl,rfl⟩:=h;rw[jq];have h1:=hg.1;split at h1
   ·rename_i hh hgd;refine⟨hh,hgd,fun t ht=>?_⟩;rcases Bool.or_eq_true_iff.1 h1 with h2|h2
    ·simp only[T1]at h2;have e1:=No h2.1;have e2:hh.2=g.2:=by simpa using h2.2
     rw[e1]at ht;rw[hj]at ht;cases ht;exact .inr (by rw[e2];exact hb)
    ·exact .inl (OU _ (by simpa using h2) t ht)
   ·cases h1
  |cons z pre=>
   simp only[akF,aku]at h;obtain⟨rfl,h⟩:=h;rw[jq];refine A6 hj hg.2 (fun x hx=>hl x (by simp[hx])) (fun x hx=>hd x (by simp[hx])) (by rw[ga (hd y (by simp))];exact hb) (fun j hjm t ht=>?_) pre post x h;by_cases e:y.2.dst=some t
   ·rw[e,kC]
   ·rw[ga e];rcases ah4.1 hjm with rfl|hjm
    ·rw[hl y (by simp)]at ht;exact absurd ht e
    ·exact OU j hjm t ht
theorem Fy{A:List (Nat×Bool)}:∀{l a b:List (Nat×Oper)},C6 A l=(a,b)→l=a++b
 |[],a,b,h=>by simp[C6]at h;obtain⟨rfl,rfl⟩:=h;rfl
 |x::r,a,b,h=>by
  simp only[C6]at h;split at h
  ·cases hs:C6 A r with
   |mk a' b'=>rw[hs]at h;simp only[ado]at h;obtain⟨rfl,rfl⟩:=h;rw[Fy hs];rfl
  ·simp only[ado]at h;obtain⟨rfl,rfl⟩:=h;rfl
theorem A7{v:V}(h:zd v=some b):v=.pv (.bool b):=by
 unfold zd at h;split at h
 ·cases h;rfl
 ·cases h
theorem aa9(hE:kv E){site:Nat}{draw:Bool}{v:V}{f':Fr}{m':Mem}{ft:bG}(hn:draw=true∨∃c x y,o.op=.pick c x y)(h:∀(R':Type)(k':V→Fr→Mem→bG→Option R'),La E draw site o f m k'=k' v f' m' ft):vB E draw site o f m v f' m' ft:=by
 have hx:=Jw hE (h (V×Fr×Mem×bG) fun v f m ft=>some (v,f,m,ft));rcases hx with⟨v1,f1,m1,ft1,h1,h2⟩|⟨h1,h2,_⟩
 rotate_left
 ·rcases hn with hn|⟨c,x,y,hn⟩
  ·rw[hn]at h1;cases h1
  ·exact absurd hn (h2 c x y)
 simp only[AT,ado]at h1;obtain⟨rfl,rfl,rfl,rfl⟩:=h1;exact h2
theorem LB{R:Type}{site:Nat}{draw:Bool}{p:Oper}{c:Nat}{x y:Operand}{k:V→Fr→Mem→bG→Option R}(hp:p.op=.pick (.tmp c) x y)(hb:bL E f (.tmp c)=.pv (.bool b)):La E draw site p f m k=k (bL E f (if b then x else y)) f m []:=by
 have ug:zJ E site p f m=none:=by simp only[zJ,hp]
 unfold La;rw[ug];have e:(bif draw then none else bif E.BU site then(none:Option Sp)else none)=none:=by cases draw<;>cases E.BU site<;>rfl
 rw[e];simp only[cT,hp,hb];cases b<;>rfl
end
section
variable {E:Env} {ops:Array Oper} {w0:bI}
theorem xh{rd:Option Nat}{Q:Exit→Act→World→Prop}{tail:List Nat}:∀(l:List (Nat×Oper))(f:Fr),(∀x∈l,ops[x.1]?=some x.2)→(∀x∈l,wW E x.2=true)→(∀(pre post:List (Nat×Oper))(x:Nat×Oper),l=pre++x::post→Uq ops (jq f pre) x.2)→∀{μ:Ro}{φ:Nat→aH}{m:Mem}{a:Act}{w:World},Rel E.P E.aM E.fn.ntmps w0 μ φ f m a w→∀(A:List (Nat×Bool)),A5 ops A a→ab5 ops A l→(∀a',Rel E.P E.aM E.fn.ntmps w0 μ φ (jq f l) m a' w→A5 ops A a'→wpOpsIn (FR rd) 0 E.P ops Q tail a' w)→wpOpsIn (FR rd) 0 E.P ops Q (l.map (·.1)++tail) a w
 |[],f,_,_,_,_,_,_,a,_,hR,_,hA,_,hK=>hK a hR hA
 |x::r,f,hl,hd,Fz,μ,φ,m,a,w,hR,A,hA,FA,hK=>by simp only[ajy,akF,wpOpsIn];rw[hl x (by simp)];simp only;rw[zu hR (Fz [] r x rfl)];simp only[By,abG];refine And.intro (fun _ _=>trivial) (xh r (jK f x.2.dst (.bu [])) (fun y hy=>hl y (by simp[hy])) (fun y hy=>hd y (by simp[hy])) (fun pre post y h=>?_) (hR.put (fun _ _ h=>h) (jL (hd x (by simp))) hR.toaz hR.kZ Fx (fun id av=>by simp[V.has,cD]at av)) A (hA.put (fun t ht=>by rw[hR.size];exact jL (hd x (by simp)) t ht) fun g ru t ht=>FA x (by simp) g ru t ht) (fun y hy=>FA y (by simp[hy])) hK);have:=Fz (x::pre) post y (by rw[h];rfl);rwa[jq]at this
theorem zW:∀{ft:bG},AS ft=true→∀x∈ft,x.1=false
 |[],_,x,hx=>by cases hx
 |(w,id)::r,h,x,hx=>by
  simp only[AS,T1,ajF]at h;rcases ah4.1 hx with rfl|hx
  ·exact h.1
  ·exact zW h.2 x hx
theorem jm(hE:kv E){rd:Option Nat}(hY:ur E.P E.aM E.fn.ntmps E.yl w0):∀(fuel:Nat){mode:Nat}(lr:mode=0∨mode=3){R:Type}{A:List (Nat×Bool)}{l:List (Nat×Oper)}{f:Fr}{m:Mem}{lg:Log}{k:Fr→Mem→Option R}{r:R},cB E ops mode fuel R A l f m lg k=some r→(∀x∈l,ops[x.1]?=some x.2)→ab5 ops A l→(mode=3→∀x∈l,fx x.2=true)→∀(μ:Ro)(φ:Nat→aH)(a:Act)(w:World)(Q:Exit→Act→World→Prop)(tail:List Nat),Rel E.P E.aM E.fn.ntmps w0 μ φ f m a w→A5 ops A a→(∀(f':Fr)(m':Mem)(μ':Ro)(φ':Nat→aH)(a':Act)(w':World),k f' m'=some r→Rel E.P E.aM E.fn.ntmps w0 μ' φ' f' m' a' w'→A5 ops A a'→(mode=3→m'=m∧∀t,(∀x∈l,x.2.dst≠some t)→f' t=f t)→wpOpsIn (FR rd) 0 E.P ops Q tail a' w')→wpOpsIn (FR rd) 0 E.P ops Q (l.map (·.1)++tail) a w
 |0,_,_,_,_,_,_,_,_,_,_,h,_,_,_,_,_,_,_,_,_,_,_,_=>by simp[cB]at h
 |fuel+1,mode,lr,R,A,[],f,m,lg,k,r,h,_,_,_,μ,φ,a,w,Q,tail,hR,hA,hK=>by simp only[cB]at h;exact hK f m μ φ a w h hR hA fun _=>⟨rfl,fun _ _=>rfl⟩
 |fuel+1,mode,lr,R,A,(i,o)::rest,f,m,lg,k,r,h,hl,FA,VN,μ,φ,a,w,Q,tail,hR,hA,hK=>by
  simp only[cB]at h;split at h
  ·rename_i hg;split at h
   ·rename_i hd;have Ze:Nat.beq mode 2=false:=by rcases lr with rfl|rfl<;>rfl
    simp only[Ze,cond_false]at h;rw[←Ze]at h;have hdf:=Cg h;rcases Jw hE h with⟨v,f1,m1,ft,hk,Dv⟩|⟨_,oq⟩
    rotate_left
    ·simp only[ajy,akF,wpOpsIn];rw[hl (i,o) (by simp)];simp only;rw[Ch hg hA,BK rfl];refine Ft.zV oq rd w0 μ φ a w _ Q hY hR fun v f1 m1 y w' μ' φ' hk hle hM hF hv Jj=>?_;have c9:Nat.beq mode 2=false:=by rcases lr with rfl|rfl<;>rfl
     rw[c9]at hk;simp only[By,abG]at hk;rcases lr with rfl|rfl
     ·simp only[Nat.beq,aaV]at hk;exact jm hE hY fuel (.inl rfl) hk (fun x hx=>hl x (by simp[hx])) (fun x hx=>FA x (by simp[hx])) (fun hm x hx=>VN hm x (by simp[hx])) _ _ _ _ Q tail (hR.put hle (jL hd) hM hF hv Jj) (hA.put (fun t ht=>by rw[hR.size];exact jL hd t ht) fun g ru t ht=>FA (i,o) (by simp) g ru t ht) fun f' m' μ2 φ2 a' w2 qg j6 zi vo=>hK f' m' μ2 φ2 a' w2 qg j6 zi fun h=>by cases h
     ·simp[Nat.beq,AS]at hk
    have c9:Nat.beq mode 2=false:=by rcases lr with rfl|rfl<;>rfl
    rw[c9]at hk;simp only[By,abG]at hk;have hq:(mode=3→f1=f∧m1=m)∧cB E ops mode fuel R A rest (jK f1 o.dst v) m1 lg k=some r:=by
     rcases lr with rfl|rfl
     ·simp only[Nat.beq,aaV]at hk;exact⟨fun h=>(by cases h),hk⟩
     ·simp only[Nat.beq,By,abG]at hk;split at hk
      ·rename_i hqf;exact⟨fun h=>Dv.same (VN rfl (i,o) (by simp)) (zW hqf),hk⟩
      ·cases hk
    obtain⟨WS,hk⟩:=hq;simp only[ajy,akF,wpOpsIn];rw[hl (i,o) (by simp)];simp only;rw[Ch hg hA,BK rfl];refine Dv.zV hdf rd w0 μ φ a w _ Q hR fun y w' μ' φ' hle hM hF hv Jj=>?_;refine jm hE hY fuel lr hk (fun x hx=>hl x (by simp[hx])) (fun x hx=>FA x (by simp[hx])) (fun hm x hx=>VN hm x (by simp[hx])) _ _ _ _ Q tail (hR.put hle (jL hd) hM hF hv Jj) (hA.put (fun t ht=>by rw[hR.size];exact jL hd t ht) fun g ru t ht=>FA (i,o) (by simp) g ru t ht) fun f' m' μ2 φ2 a' w2 qg j6 zi vo=>?_;refine hK f' m' μ2 φ2 a' w2 qg j6 zi fun hm3=>?_;obtain⟨e1,e2⟩:=WS hm3;obtain⟨e3,e4⟩:=vo hm3;refine⟨by rw[e3,e2],fun t ht=>?_⟩;rw[e4 t fun x hx=>ht x (by simp[hx]),ga (ht (i,o) (by simp)),e1]
   ·cases h
  ·rename_i j C7 hg;split at h
   ·rename_i tj Zg;split at h
    ·rename_i b hb;have ab6:tj<E.fn.ntmps:=by
      simp only[bL]at hb;cases e:Nat.blt tj E.fn.ntmps with
      |true=>rwa[akH]at e
      |false=>rw[e]at hb;cases hb
     have hbf:f tj=.pv (.bool b):=by simp only[bL]at hb;rw[show Nat.blt tj E.fn.ntmps=true by rw[akH];exact ab6]at hb;exact hb
     have hba:a.tmps.getD tj undef=.bool b:=by have:=(an hR (.tmp tj)).1;rw[hb]at this;exact rY this
     generalize ug:C6 A ((i,o)::rest)=sp at h;obtain⟨body,Lc⟩:=sp;have nk:=Fy ug;simp only at h;split at h
     ·rename_i aba;split at h
      ·rename_i hc;simp only[T1,aki,ajF,akm,am9]at hc aba;obtain⟨⟨N7,WT⟩,abb⟩:=hc;have hm0:mode=0:=No aba.1;subst hm0;have cg:∀z∈body,z∈(i,o)::rest:=fun z hz=>by rw[nk];simp[hz]
       have xi:∀z∈Lc,z∈(i,o)::rest:=fun z hz=>by rw[nk];simp[hz]
       by_cases VO:b=C7
       ·have:Hz C7 b=true:=by subst VO;cases b<;>rfl
        rw[this]at h;simp only[cond]at h;have hfs:gO f tj (.pv (.bool C7))=f:=funext fun t=>by
         unfold gO;cases e:Nat.beq t tj with
         |false=>rfl
         |true=>rw[No e];simp only[cond];rw[←VO];exact hbf.symm
        rw[hfs]at h;refine jm hE hY fuel lr h hl (fun z hz g ru t ht=>?_) (fun h=>by cases h) _ _ _ _ Q tail hR (fun g ru=>?_) fun f' m' μ2 φ2 a' w2 qg j6 zi vo=>hK f' m' μ2 φ2 a' w2 qg j6 (fun g ru=>zi g (by simp[ru])) fun h=>by cases h
        ·rcases ah4.1 ru with rfl|ru
         ·simp only[Zg]at ht;cases ht;exact abb z hz
         ·exact FA z hz g ru t ht
        ·rcases ah4.1 ru with rfl|ru
         ·exact⟨tj,Zg,by rw[hba,VO]⟩
         ·exact hA g ru
       ·have:Hz C7 b=false:=by cases b<;>cases C7<;>first|rfl|exact absurd rfl VO
        rw[this]at h;simp only[cond]at h;have hbn:b= !C7:=by cases b<;>cases C7<;>first|rfl|exact absurd rfl VO
        have hfs:gO f tj (.pv (.bool !C7))=f:=funext fun t=>by
         unfold gO;cases e:Nat.beq t tj with
         |false=>rfl
         |true=>rw[No e];simp only[cond];rw[←hbn];exact hbf.symm
        rw[hfs]at h;rw[nk,ajV,ajN];refine xh body f (fun z hz=>hl z (cg z hz)) N7 (A6 Zg WT (fun z hz=>hl z (cg z hz)) (fun z hz=>abb z (cg z hz)) (by rw[hbf,hbn]) (by simp)) hR A hA (fun z hz g ru t ht=>FA z (cg z hz) g ru t ht) fun a' j6 zi=>?_
        ·refine jm hE hY fuel lr h (fun z hz=>hl z (xi z hz)) (fun z hz=>FA z (xi z hz)) (fun h=>by cases h) _ _ _ _ Q tail j6 zi fun f' m' μ2 φ2 a' w2 qg j6 zi vo=>hK f' m' μ2 φ2 a' w2 qg j6 zi fun h=>by cases h
      ·cases h
     ·split at h
      ·rename_i ip p nc;split at h
       ·rename_i c x y WU;split at h
        ·rename_i hc;simp only[T1,aki,ajF,akm,am9]at hc;obtain⟨⟨⟨⟨⟨⟨OX,hpg⟩,Dw⟩,WT⟩,_⟩,hpd⟩,_⟩:=hc;have OX:=No OX;subst OX;have hpg:guardOf p A=none:=by simpa using hpg
         obtain⟨rb,WV,h⟩:=BY.1 h;have cg:∀z∈body,z∈(i,o)::rest:=fun z hz=>by rw[nk];simp[hz]
         have xi:∀z∈nc,z∈(i,o)::rest:=fun z hz=>by rw[nk];simp[hz]
         have LC:(ip,p)∈(i,o)::rest:=by rw[nk];simp
         rw[nk,ajV,ajN];have after:∀(f1:Fr)(μ1:Ro)(φ1:Nat→aH)(a1:Act)(w1:World)(q:Operand),Rel E.P E.aM E.fn.ntmps w0 μ1 φ1 f1 m a1 w1→A5 ops A a1→(∀t,(∀z∈body,z.2.dst≠some t)→f1 t=f t)→bL E f1 q=.pv (.bool rb)→(q=if b then x else y)→wpOpsIn (FR rd) 0 E.P ops Q (((ip,p)::nc).map (·.1)++tail) a1 w1:=by
          intro f1 μ1 φ1 a1 w1 q OY hA1 hf1 hq hqe;have hb1:bL E f1 (.tmp c)=.pv (.bool b):=by simp only[bL];rw[show Nat.blt c E.fn.ntmps=true by rw[akH];exact ab6];show f1 c=_;rw[hf1 c fun z hz=>(Dw z hz).2];exact hbf
          simp only[ajy,akF,wpOpsIn];rw[hl (ip,p) LC];simp only;rw[Ch hpg hA1,BK rfl];have Dv:vB E (Nat.beq mode 1||Nat.beq mode 2) (cU E p.dst) p f1 m (.pv (.bool rb)) f1 m []:=aa9 hE (.inr ⟨_,_,_,WU⟩) fun R' k'=>by rw[LB WU hb1,←hqe,hq]
          refine Dv.zV (fun c h=>by rw[WU]at h;cases h) rd w0 μ1 φ1 a1 w1 _ Q OY fun z w' μ' φ' vo hM hF hv Jj=>?_;have hle:wN (jK (nb f body) p.dst (.pv (.bool rb))) (jK f1 p.dst (.pv (.bool rb))):=wN.put (yQ fun t ht=>.inl (hf1 t ht).symm) _ _;refine jm hE hY fuel lr h (fun z hz=>hl z (xi z hz)) (fun z hz=>FA z (xi z hz)) (fun hm z hz=>VN hm z (xi z hz)) _ _ _ _ Q tail ((OY.put vo (jL hpd) hM hF hv Jj).weaken hle) (hA1.put (fun t ht=>by rw[OY.size];exact jL hpd t ht) fun g ru t ht=>FA (ip,p) LC g ru t ht) fun f' m' μ2 φ2 a' w2 qg j6 zi vo=>?_;refine hK f' m' μ2 φ2 a' w2 qg j6 zi fun hm3=>?_;obtain⟨e3,e4⟩:=vo hm3;refine⟨e3,fun t ht=>?_⟩;rw[e4 t fun z hz=>ht z (xi z hz),ga (ht (ip,p) LC),yP fun z hz=>ht z (cg z hz)]
         have go:∀q,b=C7→(q=if b then x else y)→cB E ops 3 fuel Bool ((j,C7)::A) body f m lg (fun f _=>zd (bL E f q))=some rb→wpOpsIn (FR rd) 0 E.P ops Q (body.map (·.1)++(((ip,p)::nc).map (·.1)++tail)) a w:=by
          intro q VO hq Z2;refine jm hE hY fuel (.inr rfl) Z2 (fun z hz=>hl z (cg z hz)) ?_ (fun _ z hz=>(Dw z hz).1.1) _ _ _ _ Q _ hR ?_ fun f' m' μ2 φ2 a' w2 qg j6 zi vo=>?_
          ·intro z hz g ru t ht;rcases ah4.1 ru with rfl|ru
           ·simp only[Zg]at ht;cases ht;exact(Dw z hz).2
           ·exact FA z (cg z hz) g ru t ht
          ·intro g ru;rcases ah4.1 ru with rfl|ru
           ·exact⟨c,Zg,by rw[hba,VO]⟩
           ·exact hA g ru
          ·obtain⟨e1,e2⟩:=vo rfl;subst e1;exact after f' μ2 φ2 a' w2 q j6 (fun g ru=>zi g (by simp[ru])) e2 (A7 qg) hq
         have no:∀q,b= !C7→(q=if b then x else y)→zd (bL E (nb f body) q)=some rb→wpOpsIn (FR rd) 0 E.P ops Q (body.map (·.1)++(((ip,p)::nc).map (·.1)++tail)) a w:=by
          intro q VO hq Z2;refine xh body f (fun z hz=>hl z (cg z hz)) (fun z hz=>(Dw z hz).1.2) (A6 Zg WT (fun z hz=>hl z (cg z hz)) (fun z hz=>(Dw z hz).2) (by rw[hbf,VO]) (by simp)) hR A hA (fun z hz g ru t ht=>FA z (cg z hz) g ru t ht) fun a' j6 zi=>?_;refine after _ μ φ a' w q j6 zi (fun t ht=>vE ht) ?_ hq;have hv:=A7 Z2;cases q with
          |tmp t=>
           simp only[bL]at hv⊢;have hle:wN (nb f body) (jq f body):=yQ fun t ht=>.inl (vE ht).symm;cases e:Nat.blt t E.fn.ntmps with
           |false=>rw[e]at hv;cases hv
           |true=>
            rw[e]at hv;simp only[cond]at hv⊢;rcases hle t with e|e
            ·rw[←e];exact hv
            ·rw[e]at hv;cases hv
          |_=>exact hv
         have hbm:(bif Nat.beq mode 0 then 3 else mode)=3:=by rcases lr with rfl|rfl<;>rfl
         rw[hbm]at WV;cases C7<;>cases b<;>simp only[cond]at WV
         ·exact go y rfl rfl WV
         ·exact no x rfl rfl WV
         ·exact no y rfl rfl WV
         ·exact go x rfl rfl WV
        ·cases h
       ·cases h
      ·cases h
    ·cases h
   ·cases h
end
structure Rec where
 i:Nat
 o:Oper
 v:V
 wr:List (Nat×bR)
 ft:bG
 kl:Kl
def Rec.fs(r:Rec)(f:Fr):Fr:=jK (kf r.kl f) r.o.dst r.v
def Rec.ms(r:Rec)(m:Mem):Mem:=uf r.wr (km r.kl m)
def Rec.H9(r:Rec)(id:Nat):Prop:=∃b,(b,id)∈r.kl
def mZ(f:Fr):List Rec→Fr
 |[]=>f
 |r::l=>mZ (r.fs f) l
def qZ(m:Mem):List Rec→Mem
 |[]=>m
 |r::l=>qZ (r.ms m) l
def pC(S:Nat→Bool)(f:Fr):List Rec→Fr
 |[]=>f
 |r::l=>pC S (bif S r.i then r.fs f else f) l
def pD(S:Nat→Bool)(m:Mem):List Rec→Mem
 |[]=>m
 |r::l=>pD S (bif S r.i then r.ms m else m) l
theorem Jx:∀{wr:List (Nat×bR)}{m:Mem}{j:Nat},(∀b,(j,b)∉wr)→uf wr m j=m j
 |[],_,_,_=>rfl
 |(id,b)::r,m,j,h=>by rw[uf,Jx fun b' hb=>h b' (by simp[hb])];exact aw fun e=>h b (by simp[e])
theorem WW:∀{wr:List (Nat×bR)}{j:Nat},(∃b,(j,b)∈wr)→∃b',(j,b')∈wr∧∀m:Mem,uf wr m j=some b'
 |[],_,h=>by simp_all
 |(id,b)::r,j,h=>by
  by_cases hr:∃b,(j,b)∈r
  ·obtain⟨b',h1,h2⟩:=WW hr;exact⟨b',by simp[h1],fun m=>h2 _⟩
  ·obtain⟨b0,hb⟩:=h;rcases ah4.1 hb with hb|hb
   ·simp only[ado]at hb;obtain⟨rfl,rfl⟩:=hb;simp_all[uf,Jx]
   simp_all
mutual
theorem LD{id:Nat}:∀{v:V},v.wS id=true→v.has id=true
 |.agg cs,h=>vF (cs:=cs) (by simpa[V.wS]using h)
 |.bu cs,h=>vF (cs:=cs) (by simpa[V.wS]using h)
 |.fn _ cs,h=>vF (cs:=cs) (by simpa[V.wS]using h)
 |.wR _ _ _,h=>h
 |.AM _ _ _ _ _ _,h=>h
 |.pv _,h=>by cases h
 |.iK,h=>by cases h
 |.op _ _,h=>by cases h
 |.oe _ _ _,h=>by cases h
 |.os _,h=>by cases h
 |.fX _ _ _,h=>by cases h
 |.om _,h=>by cases h
 |.yl _,h=>by cases h
 |.it _,h=>by cases h
 |.top,h=>by cases h
theorem vF{id:Nat}:∀{cs:List V},AN id cs=true→cD id cs=true
 |[],h=>by cases h
 |c::r,h=>by
  simp only[AN,ajA]at h;simp only[cD,ajA];rcases h with h|h
  ·exact .inl (LD h)
  ·exact .inr (vF h)
end
variable{id:Nat}
theorem Dx{v:V}(h:v.has id=false):th id v=v:=by unfold th;rw[h];rfl
theorem Dy{id:Nat}:∀{cs:List V},cD id cs=false→cs.map (th id)=cs
 |[],_=>rfl
 |c::r,h=>by simp only[cD,akg]at h;simp only[ajy,Dx h.1,Dy h.2]
theorem LF{b:bR}(h:b.names id=false):gP id b=b:=by
 cases b with
 |box cs=>simp only[gP,Dy (show cD id cs=false from h)]
 |_=>rfl
theorem A8{v:V}(h:v.has id=false):oE id v=v:=by
 unfold oE;cases h2:v.wS id with
 |false=>rfl
 |true=>rw[LD h2]at h;cases h
theorem A9{id:Nat}:∀{cs:List V},cD id cs=false→cs.map (oE id)=cs
 |[],_=>rfl
 |c::r,h=>by simp only[cD,akg]at h;simp only[ajy,A8 h.1,A9 h.2]
theorem Jy{b:bR}(h:b.names id=false):dY id b=b:=by
 cases b with
 |box cs=>simp only[dY,A9 (show cD id cs=false from h)]
 |_=>rfl
theorem FB:∀{kl:Kl}{f:Fr}{t:Nat},(∀id,(∃b,(b,id)∈kl)→(f t).has id=false)→kf kl f t=f t
 |[],_,_,_=>rfl
 |(true,id)::r,f,t,h=>by have h0:fi id f t=f t:=Dx (h id ⟨true,by simp⟩);rw[kf,FB (kl:=r) (f:=fi id f) fun j hj=>by rw[h0];exact h j (let⟨b,hb⟩:=hj;⟨b,by simp[hb]⟩),h0]
 |(false,id)::r,f,t,h=>by have h0:iL id f t=f t:=A8 (h id ⟨false,by simp⟩);rw[kf,FB (kl:=r) (f:=iL id f) fun j hj=>by rw[h0];exact h j (let⟨b,hb⟩:=hj;⟨b,by simp[hb]⟩),h0]
theorem Ba:∀{kl:Kl}{f g:Fr}{t:Nat},f t=g t→kf kl f t=kf kl g t
 |[],_,_,_,h=>h
 |(true,id)::r,f,g,t,h=>Ba (kl:=r) (f:=fi id f) (g:=fi id g) (by simp only[fi,h])
 |(false,id)::r,f,g,t,h=>Ba (kl:=r) (f:=iL id f) (g:=iL id g) (by simp only[iL,h])
theorem FC:∀{kl:Kl}{m:Mem}{j:Nat},(∀id,(∃b,(b,id)∈kl)→j≠id∧∀b,m j=some b→b.names id=false)→km kl m j=m j
 |[],_,_,_=>rfl
 |(true,id)::r,m,j,h=>by
  obtain⟨h1,h2⟩:=h id ⟨true,by simp⟩;have h0:bq (bM id m) id j=m j:=by
   rw[fR h1];unfold bM;cases hm:m j with
   |none=>rfl
   |some b=>simp only[LF (h2 b hm)]
  rw[km,FC (kl:=r) (m:=bq (bM id m) id) fun i hi=>by rw[h0];exact h i (let⟨b,hb⟩:=hi;⟨b,by simp[hb]⟩),h0]
 |(false,id)::r,m,j,h=>by
  obtain⟨h1,h2⟩:=h id ⟨false,by simp⟩;have h0:fo id m j=m j:=by
   unfold fo;cases hm:m j with
   |none=>rfl
   |some b=>simp only[Jy (h2 b hm)]
  rw[km,FC (kl:=r) (m:=fo id m) fun i hi=>by rw[h0];exact h i (let⟨b,hb⟩:=hi;⟨b,by simp[hb]⟩),h0]
theorem FD:∀{kl:Kl}{m n:Mem}{j:Nat},m j=n j→km kl m j=km kl n j
 |[],_,_,_,h=>h
 |(true,id)::r,m,n,j,h=>FD (kl:=r) (m:=bq (bM id m) id) (n:=bq (bM id n) id) (by
  by_cases e:j=id
  ·subst e;simp
  simp_all[fR,bM])
 |(false,id)::r,m,n,j,h=>FD (kl:=r) (m:=fo id m) (n:=fo id n) (by simp only[fo,h])
variable{r:Rec}
theorem Rec.LG{f:Fr}{t:Nat}(h:r.o.dst=some t):r.fs f t=r.v:=by unfold Rec.fs;rw[h,kC]
theorem Rec.SG{f:Fr}{t:Nat}(h:r.o.dst≠some t)(hc:∀id,r.H9 id→(f t).has id=false):r.fs f t=f t:=by unfold Rec.fs;rw[ga h];exact FB hc
theorem Rec.FE{f g:Fr}{t:Nat}(h:f t=g t):r.fs f t=r.fs g t:=by
 by_cases e:r.o.dst=some t
 ·rw[LG e,LG e]
 ·unfold Rec.fs;grind [ga,Ba]
theorem Rec.abc{j:Nat}(h:∃b,(j,b)∈r.wr):∃b',(j,b')∈r.wr∧∀m,r.ms m j=some b':=let⟨b',h1,h2⟩:=WW h;⟨b',h1,fun m=>h2 _⟩
theorem Rec.WX{m:Mem}{j:Nat}(h:∀b,(j,b)∉r.wr)(hc:∀id,r.H9 id→j≠id∧∀b,m j=some b→b.names id=false):r.ms m j=m j:=by unfold Rec.ms;rw[Jx h];exact FC hc
theorem Rec.FF{m n:Mem}{j:Nat}(h:m j=n j):r.ms m j=r.ms n j:=by
 by_cases e:∃b,(j,b)∈r.wr
 ·obtain⟨b,_,e⟩:=Rec.abc e;rw[e,e]
 ·have e':∀b,(j,b)∉r.wr:=fun b hb=>e ⟨b,hb⟩;unfold Rec.ms;grind [Jx,FD]
section
variable {S S':Nat→Bool}
theorem LH{f:Fr}:∀{l l':List Rec},mZ f (l++l')=mZ (mZ f l) l':=by
 intro l;induction l generalizing f with
 |nil=>intro l';rfl
 |cons r l ih=>intro l';exact ih
theorem LI{m:Mem}:∀{l l':List Rec},qZ m (l++l')=qZ (qZ m l) l':=by
 intro l;induction l generalizing m with
 |nil=>intro l';rfl
 |cons r l ih=>intro l';exact ih
theorem xj{f:Fr}:∀{l l':List Rec},pC S f (l++l')=pC S (pC S f l) l':=by
 intro l;induction l generalizing f with
 |nil=>intro l';rfl
 |cons r l ih=>intro l';exact ih
theorem xl{m:Mem}:∀{l l':List Rec},pD S m (l++l')=pD S (pD S m l) l':=by
 intro l;induction l generalizing m with
 |nil=>intro l';rfl
 |cons r l ih=>intro l';exact ih
theorem Ia{t:Nat}:∀{l:List Rec}{f:Fr},(∀q∈l,q.o.dst≠some t∧q.kl=[])→mZ f l t=f t
 |[],_,_=>rfl
 |r::l,f,h=>by rw[mZ,Ia fun q hq=>h q (by simp[hq])];obtain⟨h1,h2⟩:=h r (by simp);exact Rec.SG h1 fun id⟨b,av⟩=>by rw[h2]at av;cases av
theorem ry{t:Nat}:∀{l:List Rec}{f:Fr},(∀q∈l,S q.i=true→q.o.dst≠some t∧∀id,q.H9 id→(f t).has id=false)→pC S f l t=f t
 |[],_,_=>rfl
 |r::l,f,h=>by
  have h0:(bif S r.i then r.fs f else f) t=f t:=by
   cases e:S r.i with
   |false=>rfl
   |true=>simp_all[Rec.SG]
  rw[pC,ry fun q hq hs=>by rw[h0];exact h q (by simp[hq]) hs,h0]
theorem FG{t:Nat}:∀{l:List Rec}{f g:Fr},f t=g t→(∀q∈l,S q.i=false→q.o.dst≠some t∧q.kl=[])→pC S f l t=mZ g l t
 |[],_,_,h,_=>h
 |r::l,f,g,h,hs=>by
  rw[pC,mZ];refine FG ?_ fun q hq=>hs q (by simp[hq]);cases e:S r.i with
  |true=>exact Rec.FE h
  |false=>obtain⟨h1,h2⟩:=hs r (by simp) e;rw[Rec.SG h1 fun id⟨b,av⟩=>by rw[h2]at av;cases av];exact h
theorem zX{t:Nat}:∀{l:List Rec}{f g:Fr},f t=g t→(∀q∈l,S q.i=S' q.i)→pC S f l t=pC S' g l t
 |[],_,_,h,_=>h
 |r::l,f,g,h,hs=>by
  rw[pC,pC];refine zX ?_ fun q hq=>hs q (by simp[hq]);rw[hs r (by simp)];cases S' r.i
  ·exact h
  ·exact Rec.FE h
theorem rz{j:Nat}:∀{l:List Rec}{m:Mem},(∀q∈l,S q.i=true→(∀b,(j,b)∉q.wr)∧∀id,q.H9 id→j≠id∧∀b,m j=some b→b.names id=false)→pD S m l j=m j
 |[],_,_=>rfl
 |r::l,m,h=>by
  have h0:(bif S r.i then r.ms m else m) j=m j:=by
   cases e:S r.i with
   |false=>rfl
   |true=>simp_all[Rec.WX]
  rw[pD,rz fun q hq hs=>by rw[h0];exact h q (by simp[hq]) hs,h0]
theorem FH{j:Nat}:∀{l:List Rec}{m n:Mem},m j=n j→(∀q∈l,S q.i=false→(∀b,(j,b)∉q.wr)∧q.kl=[])→pD S m l j=qZ n l j
 |[],_,_,h,_=>h
 |r::l,m,n,h,hs=>by
  rw[pD,qZ];refine FH ?_ fun q hq=>hs q (by simp[hq]);cases e:S r.i with
  |true=>exact Rec.FF h
  |false=>obtain⟨h1,h2⟩:=hs r (by simp) e;rw[Rec.WX h1 fun id⟨b,av⟩=>by rw[h2]at av;cases av];exact h
theorem zY{j:Nat}:∀{l:List Rec}{m n:Mem},m j=n j→(∀q∈l,S q.i=S' q.i)→pD S m l j=pD S' n l j
 |[],_,_,h,_=>h
 |r::l,m,n,h,hs=>by
  rw[pD,pD];refine zY ?_ fun q hq=>hs q (by simp[hq]);rw[hs r (by simp)];cases S' r.i
  ·exact h
  ·exact Rec.FF h
end
section
variable {E:Env} {ops:Array Oper} {w0:bI}
def Ib(E:Env)(ops:Array Oper)(w0:bI)(r:Rec)(f:Fr)(m:Mem):Prop:=∀(f2:Fr)(m2:Mem),(∀t∈r.o.looksAt ops,f2 t=f t)→(∀x∈r.ft,m2 x.2=m x.2)→∀(μ:Ro)(φ:Nat→aH)(a:Act)(w:World)(K:Act→World→Prop)(Q:Exit→Act→World→Prop),Rel E.P E.aM E.fn.ntmps w0 μ φ f2 m2 a w→(∀μ' φ' a' w',Rel E.P E.aM E.fn.ntmps w0 μ' φ' (r.fs f2) (r.ms m2) a' w'→K a' w')→if Region.wanted r.o (yielded ops a.tmps)then∀rd:Option Nat,r.o.wpIn (FR rd) 0 E.P a w K Q else K (a.put r.o.dst undef) w
def gb(E:Env)(ops:Array Oper)(w0:bI):Fr→Mem→List Rec→Prop
 |_,_,[]=>True
 |f,m,r::l=>Ib E ops w0 r f m∧(∀id b,(id,b)∈r.wr→(true,id)∈r.ft)∧gb E ops w0 (r.fs f) (r.ms m) l
theorem gb.append{f:Fr}{m:Mem}{l l':List Rec}:gb E ops w0 f m (l++l')↔gb E ops w0 f m l∧gb E ops w0 (mZ f l) (qZ m l) l':=by
 induction l generalizing f m with
 |nil=>simp[gb,mZ,qZ]
 |cons r l ih=>simp_all[akF,gb,mZ,qZ,am3]
def Clean(ops:Array Oper)(id:Nat)(r:Rec)(f:Fr)(m:Mem):Prop:=(∀t∈r.o.looksAt ops,(f t).has id=false)∧r.v.has id=false∧(∀x∈r.ft,x.2≠id∧∀b,m x.2=some b→b.names id=false)∧∀j b,(j,b)∈r.wr→(∀m,r.ms m j=some b)→j≠id∧b.names id=false
def po(ops:Array Oper):Fr→Mem→List Rec→Prop
 |_,_,[]=>True
 |f,m,r::l=>(∀q∈l,∀id,q.H9 id→reach ops 4 q.o r.i=true∨Clean ops id r f m)∧po ops (r.fs f) (r.ms m) l
theorem po.append{f:Fr}{m:Mem}{l l':List Rec}(h:po ops f m (l++l')):po ops (mZ f l) (qZ m l) l':=by
 induction l generalizing f m with
 |nil=>exact h
 |cons r l ih=>exact ih h.2
def Ord(ops:Array Oper)(q r:Rec):Prop:=reach ops 4 r.o q.i=true∨(q.o.apart ops r.o=true∧(∀id b,(id,b)∈q.wr→∀x∈r.ft,x.2≠id)∧∀id b,(id,b)∈r.wr→∀x∈q.ft,x.2≠id)
theorem Us{o:Oper}{j:Nat}(h:EL o j=true):∃e∈o.after,Region.binds .any e=true∧e.on=j:=by unfold EL at h;obtain⟨e,he,h⟩:=ak4.1 h;have he:e∈o.after:=ak6.1 he;simp only[T1]at h;grind [Nat.eq_of_beq_eq_true]
abbrev aK(l:Array Bool):Nat→Bool:=fun i=>l.getD i false
def zZ(ops:Array Oper)(ak:Array Bool):Prop:=∀i o,ops[i]?=some o→aK ak i=true→∀e∈o.after,Region.binds .any e=true→aK ak e.on=true
theorem sb(ak:Array Bool)(ux:zZ ops ak):∀(n:Nat)(o:Oper)(j:Nat),(∀e∈o.after,Region.binds .any e=true→aK ak e.on=true)→reach ops n o j=true→aK ak j=true:=by
 have ad2:∀(o:Oper)(j:Nat),(∀e∈o.after,Region.binds .any e=true→aK ak e.on=true)→EL o j=true→aK ak j=true:=fun o j ho h=>by grind [Us]
 intro n;induction n with
 |zero=>exact fun o j ho h=>ad2 o j ho h
 |succ n ihn=>
  intro o j ho h;simp only[reach,ajA]at h;rcases h with h|h
  ·exact ad2 o j ho h
  ·obtain⟨e,he,h⟩:=ak4.1 h;simp only[T1]at h;obtain⟨hb,h⟩:=h;have he:e∈o.after:=ak6.1 he;split at h
   ·rename_i p hp;exact ihn p j (ux e.on p hp (ho e he hb)) h
   ·cases h
theorem WY{rd:Option Nat}{recs:List Rec}{f0:Fr}{m0:Mem}{Q:Exit→Act→World→Prop}{base:Nat→Bool}(cd:recs.Pairwise fun q r=>q.i<r.i)(oq:∀r∈recs,ops[r.i]?=some r.o)(abd:∀r∈recs,base r.i=false)(abe:∀i o,ops[i]?=some o→base i=false→(∀r∈recs,r.i≠i)→(∀r∈recs,reach ops 8 o r.i=true)∨∃j,reach ops 8 o j=true∧base j=false∧∀r∈recs,r.i≠j)(ad3:recs.Pairwise (Ord ops))(hkl:recs.Pairwise fun q r=>q.kl≠[]→reach ops 4 r.o q.i=true)(ahl:po ops f0 m0 recs)(WZ:∀r∈recs,∀e∈r.o.after,Region.binds .any e=true→e.on<r.i∧(base e.on=true∨∃q∈recs,q.i=e.on))(zU:gb E ops w0 f0 m0 recs)(hQ:∀(fuel:Nat)(ak:Array Bool),ak.size=ops.size→ak.toList.countP (fun b=> !b)≤fuel→zZ ops ak→(∀i,aK ak i=true↔base i=true∨∃r∈recs,r.i=i)→∀μ φ a w,Rel E.P E.aM E.fn.ntmps w0 μ φ (mZ f0 recs) (qZ m0 recs) a w→wpAnyIn (FR rd) 0 E.P .any ops Q fuel ak a w):∀(fuel:Nat)(ak:Array Bool),ak.size=ops.size→ak.toList.countP (fun b=> !b)≤fuel→zZ ops ak→(∀i,base i=true→aK ak i=true)→(∀i,aK ak i=true→base i=true∨∃r∈recs,r.i=i)→∀(μ:Ro)(φ:Nat→aH)(a:Act)(w:World),Rel E.P E.aM E.fn.ntmps w0 μ φ (pC (aK ak) f0 recs) (pD (aK ak) m0 recs) a w→wpAnyIn (FR rd) 0 E.P .any ops Q fuel ak a w:=by
 have done:∀(fuel:Nat)(ak:Array Bool),ak.size=ops.size→ak.toList.countP (fun b=> !b)≤fuel→zZ ops ak→(∀i,base i=true→aK ak i=true)→(∀i,aK ak i=true→base i=true∨∃r∈recs,r.i=i)→(∀r∈recs,aK ak r.i=true)→∀(μ:Ro)(φ:Nat→aH)(a:Act)(w:World),Rel E.P E.aM E.fn.ntmps w0 μ φ (pC (aK ak) f0 recs) (pD (aK ak) m0 recs) a w→wpAnyIn (FR rd) 0 E.P .any ops Q fuel ak a w:=by
  intro fuel ak hs hc ux hb vg hl μ φ a w hR;have e1:pC (aK ak) f0 recs=mZ f0 recs:=funext fun t=>FG rfl fun q hq hf=>by rw[hl q hq]at hf;cases hf
  have e2:pD (aK ak) m0 recs=qZ m0 recs:=funext fun t=>FH rfl fun q hq hf=>by rw[hl q hq]at hf;cases hf
  rw[e1,e2]at hR;exact hQ fuel ak hs hc ux (fun i=>⟨vg i,fun h=>h.elim (hb i) fun⟨r,hr,e⟩=>e▸hl r hr⟩) μ φ a w hR
 have Z3:∀(ak:Array Bool),ak.size=ops.size→(∀i,base i=true→aK ak i=true)→(∀r∈recs,r.i∉Region.ready .any ops ak)→∀(n:Nat)(r:Rec),r∈recs→r.i<n→aK ak r.i=true:=by
  intro ak hs hb hr n;induction n with
  |zero=>intro r _ h;omega
  |succ n ih=>
   intro r AL hi;cases hc:aK ak r.i with
   |true=>rfl
   |false=>
    exfalso;have cd:r.i<ak.size:=by rw[hs];exact(adp.1 (oq r AL)).1
    refine hr r AL (mem_ready.2 ⟨by simp only[aK,ajG,T0 cd,akG]at hc⊢;exact hc,r.o,oq r AL,fun e he iv=>?_⟩);obtain⟨h1,h2⟩:=WZ r AL e he iv;rcases h2 with h2|⟨q,hq,hqi⟩
    ·exact hb _ h2
    ·have:=ih q hq (by omega);rwa[hqi]at this
 intro fuel;induction fuel with
 |zero=>
  intro ak hs hc ux hb vg μ φ a w hR;refine done 0 ak hs hc ux hb vg (fun r hr=>?_) μ φ a w hR;have cd:r.i<ak.size:=by rw[hs];exact(adp.1 (oq r hr)).1
  have:=alp.1 (amZ.1 hc) ak[r.i] (by simp);simp only[aK,ajG,T0 cd,akG];simpa using this
 |succ fuel ih=>
  intro ak hs hc ux hb vg μ φ a w hR;by_cases W0:∀r∈recs,aK ak r.i=true
  ·exact done (fuel+1) ak hs hc ux hb vg W0 μ φ a w hR
  have ad4:∃r∈recs,aK ak r.i=false:=by
   refine ak0 fun cY=>W0 fun r hr=>?_;cases hx:aK ak r.i with
   |true=>rfl
   |false=>exact absurd ⟨r,hr,hx⟩ cY
  refine⟨fun h0=>absurd (fun r hr=>Z3 ak hs hb (fun r hr h=>by rw[h0]at h;cases h) (r.i+1) r hr (by omega)) W0,fun i hi=>?_⟩;obtain⟨W2,o,ho,FI⟩:=mem_ready.1 hi;have ad5:aK ak i=false:=by
   have cd:i<ak.size:=by rw[hs];exact(adp.1 ho).1
   simp only[aK,ajG,T0 cd,akG]at W2⊢;exact W2
  have hex:∃r∈recs,r.i=i∧r.o=o:=by
   refine ak0 fun cY=>?_;have N6:∀r∈recs,r.i≠i:=fun r hr e=>cY ⟨r,hr,e,by have:=oq r hr;rw[e,ho]at this;exact(al8 this).symm⟩;have hbi:base i=false:=by
    cases hx:base i with
    |false=>rfl
    |true=>rw[hb i hx]at ad5;cases ad5
   rcases abe i o ho hbi N6 with h|⟨j,h1,h2,h3⟩
   ·obtain⟨r,hr,Z4⟩:=ad4;rw[sb ak ux 8 o r.i FI (h r hr)]at Z4;cases Z4
   ·have:=sb ak ux 8 o j FI h1;rcases vg j this with h|⟨r,hr,e⟩
    ·rw[h]at h2;cases h2
    ·exact h3 r hr e
  obtain⟨r,hr,rfl,rfl⟩:=hex;have W3:r.i<ak.size:=by rw[hs];exact(adp.1 ho).1
  have hSi:aK ak r.i=false:=by simp only[aK,ajG,T0 W3,akG]at W2⊢;exact W2
  obtain⟨pre,post,nk⟩:=List.append_of_mem hr;subst nk;have Hj:∀q∈pre,Ord ops q r:=fun q hq=>(ak7.1 ad3).2.2 q hq r (by simp);have SH:∀q∈post,Ord ops r q:=fun q hq=>(akA.1 (ak7.1 ad3).2.1).1 q hq;have ab7:∀q∈post,q.i≠r.i:=fun q hq=>by have:=(akA.1 (ak7.1 cd).2.1).1 q hq;omega
  have ad6:∀q∈pre,q.i≠r.i:=fun q hq=>by have:=(ak7.1 cd).2.2 q hq r (by simp);omega
  have Ut:∀q:Rec,reach ops 4 r.o q.i=true→aK ak q.i=true:=fun q h=>sb ak ux 4 r.o q.i FI h;have OZ:∀q∈post,reach ops 4 q.o r.i=true→aK ak q.i=false:=fun q hq h=>by
   cases hc':aK ak q.i with
   |false=>rfl
   |true=>have:=sb ak ux 4 q.o r.i (ux q.i q.o (oq q (by simp[hq])) hc') h;rw[hSi]at this;cases this
  have abf:∀(f:Fr),pC (aK ak) f (r::post)=pC (aK ak) f post:=fun f=>by rw[pC,hSi];rfl
  have W4:∀(m:Mem),pD (aK ak) m (r::post)=pD (aK ak) m post:=fun m=>by rw[pD,hSi];rfl
  obtain⟨_,ab8,hrw,_⟩:=gb.append.1 zU;have hc:=ahl.append.1;have abg:∀q∈pre,q.kl≠[]→reach ops 4 r.o q.i=true:=fun q hq=>(ak7.1 hkl).2.2 q hq r (by simp);have W5:r.kl≠[]→∀q∈post,reach ops 4 q.o r.i=true:=fun h q hq=>(akA.1 (ak7.1 hkl).2.1).1 q hq h;unfold wpOpIn;rw[oq r hr];simp only;have hf1:∀t∈r.o.looksAt ops,pC (aK ak) f0 pre t=mZ f0 pre t:=fun t ht=>FG rfl fun q hq hs=>by
   have N6:¬reach ops 4 r.o q.i=true:=fun h=>by rw[Ut q h]at hs;cases hs
   refine⟨fun hd=>?_,?_⟩
   ·rcases Hj q hq with h|⟨h,_⟩
    ·exact N6 h
    ·exact absurd ht ((Oper.apart_spec h).1 t hd)
   ·exact ak0 fun cY=>N6 (abg q hq cY)
  have hm1:∀x∈r.ft,pD (aK ak) m0 pre x.2=qZ m0 pre x.2:=fun x hx=>FH rfl fun q hq hs=>by
   have N6:¬reach ops 4 r.o q.i=true:=fun h=>by rw[Ut q h]at hs;cases hs
   refine⟨fun b hb=>?_,?_⟩
   ·rcases Hj q hq with h|⟨_,h,_⟩
    ·exact N6 h
    ·exact absurd rfl (h _ b hb x hx)
   ·exact ak0 fun cY=>N6 (abg q hq cY)
  have Y9:∀q∈post,aK ak q.i=true→¬reach ops 4 q.o r.i=true:=fun q hq hs h=>by rw[OZ q hq h]at hs;cases hs
  have hf2:∀t∈r.o.looksAt ops,pC (aK ak) f0 (pre++r::post) t=mZ f0 pre t:=fun t ht=>by
   rw[xj,abf,ry fun q hq hs=>⟨fun hd=>?_,fun id av=>?_⟩]
   ·exact hf1 t ht
   ·rcases SH q hq with h|⟨h,_⟩
    ·exact Y9 q hq hs h
    ·exact absurd ht ((Oper.apart_spec h).2.2 t hd)
   ·rw[hf1 t ht];rcases hc q hq id av with h|h
    ·exact absurd h (Y9 q hq hs)
    ·exact h.1 t ht
  have c9:∀x∈r.ft,pD (aK ak) m0 (pre++r::post) x.2=qZ m0 pre x.2:=fun x hx=>by
   rw[xl,W4,rz fun q hq hs=>⟨fun b hb=>?_,fun id av=>?_⟩]
   ·exact hm1 x hx
   ·rcases SH q hq with h|⟨_,_,h⟩
    ·exact Y9 q hq hs h
    ·exact absurd rfl (h _ b hb x hx)
   ·rw[hm1 x hx];rcases hc q hq id av with h|h
    ·exact absurd h (Y9 q hq hs)
    ·exact h.2.2.1 x hx
  have hwp:=ab8 _ _ hf2 c9 μ φ a w (wpAnyIn (FR rd) 0 E.P .any ops Q fuel (ak.setIfInBounds r.i true)) Q hR fun μ' φ' a' w' j6=>by
   have hS':∀j,aK (ak.setIfInBounds r.i true) j=if j=r.i then true else aK ak j:=fun j=>by
    simp only[aK,ajG,akJ];by_cases e:r.i=j
    ·subst e;simp[W3]
    ·have e':¬j=r.i:=fun h=>e h.symm;simp[e,e']
   refine ih (ak.setIfInBounds r.i true) (by simp[hs]) ?_ ?_ ?_ ?_ μ' φ' a' w' ?_
   ·rw[amb,List.countP_set (by simpa using W3)];have:ak.toList[r.i]'(by simpa using W3)=false:=by simp only[aK,ajG,T0 W3,akG]at hSi;simpa using hSi
    rw[this];simp only[ajT,aaV,ajx,By,abG];omega
   ·intro i' o' VP ow e he N7;rw[hS']at ow⊢;split
    ·rfl
    ·split at ow
     ·rename_i hqi;subst hqi;have:o'=r.o:=by rw[oq r hr]at VP;exact(al8 VP).symm
      subst this;exact FI e he N7
     ·exact ux i' o' VP ow e he N7
   ·intro i' ow;rw[hS'];split
    ·rfl
    ·exact hb i' ow
   ·intro i' ow;rw[hS']at ow;split at ow
    ·rename_i hqi;exact Or.inr ⟨r,hr,hqi.symm⟩
    ·exact vg i' ow
   ·have abh:∀q∈pre,aK (ak.setIfInBounds r.i true) q.i=aK ak q.i:=fun q hq=>by rw[hS',IN (ad6 q hq)]
    have xm:∀q∈post,aK (ak.setIfInBounds r.i true) q.i=aK ak q.i:=fun q hq=>by rw[hS',IN (ab7 q hq)]
    have hSr:aK (ak.setIfInBounds r.i true) r.i=true:=by rw[hS',BK rfl]
    have e1:pC (aK (ak.setIfInBounds r.i true)) f0 (pre++r::post)=r.fs (pC (aK ak) f0 (pre++r::post)):=funext fun t=>by
     have hg:pC (aK (ak.setIfInBounds r.i true)) f0 pre=pC (aK ak) f0 pre:=funext fun s=>zX rfl abh;rw[xj,xj,abf,pC,hSr,hg];simp only[cond];by_cases hk:r.kl=[]
     ·by_cases hd:r.o.dst=some t
      ·rw[Rec.LG hd,ry fun q hq hs=>⟨fun hqd=>?_,fun id av=>?_⟩,Rec.LG hd]
       ·rw[xm q hq]at hs;rcases SH q hq with h|⟨h,_⟩
        ·exact Y9 q hq hs h
        ·exact absurd hqd ((Oper.apart_spec h).2.1 t hd)
       ·rw[xm q hq]at hs;rw[Rec.LG hd];rcases hc q hq id av with h|h
        ·exact absurd h (Y9 q hq hs)
        ·exact h.2.1
      ·have Dt:∀(g:Fr),r.fs g t=g t:=fun g=>Rec.SG hd fun id⟨b,av⟩=>by rw[hk]at av;cases av
       rw[Dt];exact zX (Dt _) xm
     ·have W2:∀q∈post,aK ak q.i=false:=fun q hq=>OZ q hq (W5 hk q hq);rw[ry fun q hq hs=>by rw[xm q hq,W2 q hq]at hs;cases hs];exact Rec.FE (ry fun q hq hs=>by rw[W2 q hq]at hs;cases hs).symm
    have e2:pD (aK (ak.setIfInBounds r.i true)) m0 (pre++r::post)=r.ms (pD (aK ak) m0 (pre++r::post)):=funext fun j=>by
     have hg:pD (aK (ak.setIfInBounds r.i true)) m0 pre=pD (aK ak) m0 pre:=funext fun s=>zY rfl abh;rw[xl,xl,W4,pD,hSr,hg];simp only[cond];by_cases hk:r.kl=[]
     ·by_cases hd:∃b,(j,b)∈r.wr
      ·obtain⟨b,hd,wP⟩:=Rec.abc hd;rw[wP,rz fun q hq hs=>⟨fun b' hqd=>?_,fun id av=>?_⟩,wP]
       ·rw[xm q hq]at hs;rcases SH q hq with h|⟨_,_,h⟩
        ·exact Y9 q hq hs h
        ·exact absurd rfl (h j b' hqd (true,j) (hrw j b hd))
       ·rw[xm q hq]at hs;rcases hc q hq id av with h|h
        ·exact absurd h (Y9 q hq hs)
        ·obtain⟨h1,h2⟩:=h.2.2.2 j b hd wP;refine⟨h1,fun b' iv=>?_⟩;rw[wP]at iv;cases iv;exact h2
      ·have hd':∀b,(j,b)∉r.wr:=fun b hb=>hd ⟨b,hb⟩;have Dt:∀(g:Mem),r.ms g j=g j:=fun g=>Rec.WX hd' fun id⟨b,av⟩=>by rw[hk]at av;cases av
       rw[Dt];exact zY (Dt _) xm
     ·have W2:∀q∈post,aK ak q.i=false:=fun q hq=>OZ q hq (W5 hk q hq);rw[rz fun q hq hs=>by rw[xm q hq,W2 q hq]at hs;cases hs];exact Rec.FF (rz fun q hq hs=>by rw[W2 q hq]at hs;cases hs).symm
    rw[e1,e2];exact j6
  split
  ·rename_i hw;rw[BK hw]at hwp;exact hwp rd
  ·rename_i hw;rw[IN hw]at hwp;exact⟨fun _ _=>trivial,hwp⟩
end
section
variable {E:Env} {ops:Array Oper} {w0:bI}
variable{o:Oper}
theorem Uu{t:Nat}(h:.tmp t∈o.op.operands):t∈o.looksAt ops:=by unfold Oper.looksAt;refine ajI.2 (.inl (List.mem_filterMap.2 ⟨.tmp t,by simpa using h,rfl⟩))
theorem xn{g:Nat×Bool}{t:Nat}(hg:o.guard=some g)(h:(ops[g.1]?).bind (·.dst)=some t):t∈o.looksAt ops:=by simp_all[Oper.looksAt]
variable{f F:Fr}
theorem yR(h:∀t∈o.looksAt ops,f t=F t):∀x∈o.op.operands,bL E f x=bL E F x:=by
 intro x hx;cases x with
 |tmp t=>simp_all[bL,Uu]
 |_=>rfl
variable{A:List (Nat×Bool)}{φ:Nat→aH}{a:Act}{w:World}
theorem LJ{f2:Fr}{m2:Mem}{μ:Ro}(hg:guardOf o A=none)(hA:sa E.fn.ntmps ops A f)(hR:Rel E.P E.aM E.fn.ntmps w0 μ φ f2 m2 a w)(hf:∀t∈o.looksAt ops,f2 t=f t):Region.wanted o (yielded ops a.tmps)=true:=by
 unfold guardOf at hg;unfold Region.wanted;split at hg
 ·rename_i hgd;simp[hgd]
 ·rename_i g hgd;split at hg
  ·rename_i cg;obtain⟨t,h1,h0,h2⟩:=hA g (by simpa using cg);have h3:=hR.fr t;grind [rI,xn,vD,rY]
  ·cases hg
variable{i:Nat}{ft:bG}{m:Mem}
theorem FJ(hE:kv E){v:V}{wr:List (Nat×bR)}(hg:guardOf o A=none)(hA:sa E.fn.ntmps ops A f)(hd:wW E o=true)(hn:∀(f2:Fr)(m2:Mem),(∀x∈o.op.operands,bL E f2 x=bL E f x)→(∀x∈ft,m2 x.2=m x.2)→∀(R':Type)(k':V→Fr→Mem→bG→Option R'),La E true (cU E o.dst) o f2 m2 k'=k' v f2 (uf wr m2) ft):Ib E ops w0 ⟨i,o,v,wr,ft,[]⟩ f m:=by
 intro f2 m2 hf hm μ φ a w K Q hR hK;have hw:Region.wanted o (yielded ops a.tmps)=true:=by
  unfold guardOf at hg;unfold Region.wanted;split at hg
  ·rename_i hgd;simp[hgd]
  ·rename_i g hgd;split at hg
   ·rename_i cg;obtain⟨t,h1,h0,h2⟩:=hA g (by simpa using cg);have h3:=hR.fr t;grind [rI,xn,vD,rY]
   ·cases hg
 simp only at hf hm hK⊢;rw[BK hw];exact fun rd=>(aa9 hE (.inl rfl) (hn f2 m2 (yR hf) hm)).zV (Cg (hn f2 m2 (yR hf) hm Unit fun _ _ _ _=>some ())) rd w0 μ φ a w K Q hR fun y w' μ' φ' hle hM hF hv hl=>hK _ _ _ _ (hR.put hle (jL hd) hM hF hv hl)
theorem O0(hd:wW E o=true)(Fz:Uq ops f o):Ib E ops w0 ⟨i,o,.bu [],[],[],[]⟩ f m:=by
 intro f2 m2 hf hm μ φ a w K Q hR hK;simp only at hf hm hK⊢;have ab9:Uq ops f2 o:=by obtain⟨g,hg,ht⟩:=Fz;exact⟨g,hg,fun t h=>by simp_all[xn]⟩
 rw[zu hR ab9];simp only[By,abG];exact hK _ _ _ _ (hR.put (fun _ _ h=>h) (jL hd) hR.toaz hR.kZ Fx (fun id av=>by simp[V.has,cD]at av))
def Bb(x:Nat×Oper):Rec:=⟨x.1,x.2,.bu [],[],[],[]⟩
theorem Ic{m:Mem}:∀(l:List (Nat×Oper))(F:Fr),(∀x∈l,wW E x.2=true)→(∀(pre post:List (Nat×Oper))(x:Nat×Oper),l=pre++x::post→Uq ops (jq F pre) x.2)→gb E ops w0 F m (l.map Bb)∧mZ F (l.map Bb)=jq F l
 |[],F,_,_=>⟨trivial,rfl⟩
 |x::r,F,hd,Fz=>by obtain⟨h1,h2⟩:=Ic (m:=m) r (jK F x.2.dst (.bu [])) (fun y hy=>hd y (by simp[hy])) (fun pre post y h=>by have:=Fz (x::pre) post y (by rw[h];rfl);rwa[jq]at this);exact⟨⟨O0 (hd x (by simp)) (Fz [] r x rfl),by simp[Bb],h1⟩,h2⟩
theorem Ie{m:Mem}:∀{l:List Rec},(∀q∈l,q.wr=[]∧q.kl=[])→qZ m l=m
 |[],_=>rfl
 |r::l,h=>by
  obtain⟨h1,h2⟩:=h r (by simp);have:r.ms m=m:=by unfold Rec.ms;rw[h1,h2];rfl
  simp_all[qZ,Ie]
theorem gb.wr:∀{l:List Rec}{f:Fr}{m:Mem},gb E ops w0 f m l→∀q∈l,∀id b,(id,b)∈q.wr→(true,id)∈q.ft
 |[],_,_,_,q,hq=>by cases hq
 |r::l,f,m,h,q,hq=>by
  rcases ah4.1 hq with rfl|hq
  ·exact h.2.1
  ·exact gb.wr h.2.2 q hq
def W6(q r:Rec):Prop:=reach ops 4 r.o q.i=true∨((∀id b,(id,b)∈q.wr→∀x∈r.ft,x.2≠id)∧∀id b,(id,b)∈r.wr→∀x∈q.ft,x.2≠id)
theorem LK{o:Oper}{w:Bool}{id:Nat}:∀{lg:Log},Sg ops o w id lg=true→∀x∈lg,id≠x.2.2∨(w=false∧x.2.1=false)∨reach ops 4 o x.1=true
 |[],_,x,hx=>by cases hx
 |(j,w',sZ)::lg,h,x,hx=>by
  simp only[Sg,T1]at h;rcases ah4.1 hx with rfl|hx
  ·have h1:=h.1;simp only[ajA,ajF,T1]at h1;grind [Nat.beq_refl]
  ·exact LK h.2 x hx
theorem Cj{o:Oper}{lg:Log}:∀{ft:bG},B3 ops o lg ft=true→∀y∈ft,∀x∈lg,y.2≠x.2.2∨(y.1=false∧x.2.1=false)∨reach ops 4 o x.1=true
 |[],_,y,hy=>by cases hy
 |(w,id)::ft,h,y,hy=>by
  simp only[B3,T1]at h;rcases ah4.1 hy with rfl|hy
  ·exact LK h.1
  ·exact Cj h.2 y hy
theorem FK{o:Oper}{id:Nat}:∀{lg:Log},Ef ops o id lg=true→∀x∈lg,x.2.2=yB id→reach ops 4 o x.1=true
 |[],_,x,hx=>by cases hx
 |(j,w,n)::lg,h,x,hx=>by
  simp only[Ef,T1,ajA,ajF]at h;intro he;rcases ah4.1 hx with rfl|hx
  ·simp_all
  ·exact FK h.2 x hx he
mutual
theorem SI{id:Nat}:∀(v:V),v.has id=true→id∈v.ids
 |.agg cs,h=>uC cs (by simpa only[V.has]using h)
 |.bu cs,h=>uC cs (by simpa only[V.has]using h)
 |.fn _ cs,h=>uC cs (by simpa only[V.has]using h)
 |.os j,h=>by have:=No h;subst this;simp[V.ids]
 |.fX j _ _,h=>by have:=No h;subst this;simp[V.ids]
 |.oe j _ _,h=>by have:=No h;subst this;simp[V.ids]
 |.om j,h=>by have:=No h;subst this;simp[V.ids]
 |.wR j _ _,h=>by have:=No h;subst this;simp[V.ids]
 |.AM j _ _ _ _ _,h=>by have:=No h;subst this;simp[V.ids]
 |.op j _,h=>by have:=No h;subst this;simp[V.ids]
 |.it j,h=>by have:=No h;subst this;simp[V.ids]
 |.yl j,h=>by have:=No h;subst this;simp[V.ids]
 |.pv _,h=>by cases h
 |.iK,h=>by cases h
 |.top,h=>by cases h
theorem uC{id:Nat}:∀(cs:List V),cD id cs=true→id∈Lb cs
 |[],h=>by cases h
 |v::r,h=>by
  simp only[cD,ajA]at h;simp only[Lb,ajI];rcases h with h|h
  ·exact .inl (SI v h)
  ·exact .inr (uC r h)
end
variable{id:Nat}
theorem Bc{b:bR}(h:b.names id=true):id∈EM (some b):=by
 cases b with
 |box cs=>exact uC cs h
 |_=>cases h
theorem Aa{m m':Mem}{id:Nat}:∀{ft:bG}{x:Bool×Nat},x∈ft→(id∈EM (m x.2)∨id∈EM (m' x.2))→id∈Jf m m' ft
 |y::ft,x,hx,h=>by
  simp only[Jf,ajI];rcases ah4.1 hx with rfl|hx
  ·exact .inl h
  ·exact .inr (Aa hx h)
theorem W7{v:V}{wr:List (Nat×bR)}(LL:∀t∈o.looksAt ops,f t=F t)(hwr:∀j b,(j,b)∈wr→(true,j)∈ft)(hn:id∉Ee ops o f m (uf wr m) v ft)(hft:∀x∈ft,x.2≠id):Clean ops id ⟨i,o,v,wr,ft,[]⟩ F m:=by
 simp only[Ee,ajI,amD]at hn;obtain⟨⟨h1,h2⟩,h3⟩:=hn;refine⟨fun t ht=>?_,?_,fun x hx=>⟨hft x hx,fun b hb=>?_⟩,fun j b hb wP=>⟨hft _ (hwr j b hb),?_⟩⟩
 ·cases e:(F t).has id with
  |false=>rfl
  |true=>exact absurd (uC _ (cW.2 ⟨f t,ajJ.2 ⟨t,ht,rfl⟩,by rw[LL t ht];omega⟩)) h1
 ·cases e:v.has id with
  |false=>rfl
  |true=>exact absurd (SI _ e) h2
 ·cases e:b.names id with
  |false=>rfl
  |true=>grind [absurd,Aa,Bc]
 ·cases e:b.names id with
  |false=>rfl
  |true=>exact absurd (Aa (hwr j b hb) (.inr (by have iv:uf wr m j=some b:=wP m;simp_all[Bc]))) h3
variable{R:Type}
theorem O1{site:Nat}{rd:bG}(h:vn E f m o=some (id,rd)){k:V→Fr→Mem→bG→Option R}{r:R}(hx:cT E false site o f m k=some r):(∀x∈rd,x.1=false)∧∃dH,k (.os id) (fi id f) (aq (bq (bM id m) id) id dH) [(true,0)]=some r∧∀(f2:Fr)(m2:Mem),(∀x∈o.op.operands,bL E f2 x=bL E f x)→(∀x∈(true,id)::rd,m2 x.2=m x.2)→∀(R':Type)(k':V→Fr→Mem→bG→Option R'),cT E false site o f2 m2 k'=k' (.os id) (fi id f2) (aq (bq (bM id m2) id) id dH) [(true,0)]:=by
 obtain⟨dst,op,type,pos,after,guard⟩:=o;unfold vn at h;simp only at h;split at h
 ·rename_i c;obtain⟨callee,args,argTypes⟩:=c;simp only at h;split at h
  ·rename_i sZ x t t' rX Un;split at h
   ·rename_i e hu;split at h
    ·rename_i new rd' Ek;split at h
     ·cases h
     ·rename_i hxh;simp only[AT,ado]at h;obtain⟨rfl,rfl⟩:=h;obtain⟨he1,he2,_⟩:=oH Ek;have ajk:∀m2:Mem,bq (bM sZ m2) sZ sZ=none:=fun m2=>by simp_all
      have main:∀(f2:Fr)(m2:Mem),args.toList.map (bL E f2)=[.os sZ,x]→m2 sZ=m sZ→eX m2 (aV E.P e) x=some (new,rd')→∀(R':Type)(k':V→Fr→Mem→bG→Option R'),cT E false site ⟨dst,.call ⟨.builtin .append,args,argTypes⟩,type,pos,after,guard⟩ f2 m2 k'=if !(decide (t'=t))then none else if(dq E e).isNone then none else match m sZ with
       |some (.arr sz et es)=>if et=e∧sz=aV E.P e∧x.has sZ=false then(if(es++new).length*G6 E.P e≤af∧0<G6 E.P e then k' (.os sZ) (fi sZ f2) (aq (bq (bM sZ m2) sZ) sZ (.arr sz e (es++new))) [(true,0)]else none)else none
       |_=>none:=by
       intro f2 m2 h1 h2 h3 R' k'
       simp only[cT,h1,Un,AR,akz,hu,h3,h2]
       split
       ·rfl
       ·split
        ·rfl
        ·split
         ·simp_all[fresh]
         simp
      rw[main f m rX rfl Ek]at hx;refine⟨he2,?_⟩;split at hx
      ·cases hx
      ·rename_i hc1;split at hx
       ·cases hx
       ·rename_i Wf;split at hx
        ·rename_i sz et es hm;split at hx
         ·rename_i hc3;split at hx
          ·rename_i hc4;refine⟨_,hx,fun f2 m2 hf c9 R' k'=>?_⟩;have ha:args.toList.map (bL E f2)=[.os sZ,x]:=by grind [pn,Op.operands,Call.operands]
           rw[main f2 m2 ha (c9 (true,sZ) (by simp)) (he1 m2 fun y hy=>c9 y (by simp[hy])) R' k'];simp_all
          ·cases hx
         ·cases hx
        ·cases hx
    ·cases h
   ·cases h
  ·cases h
 ·cases h
theorem wN.kill(h:wN f F)(id:Nat):wN (fi id f) (fi id F):=fun t=>by
 rcases h t with e|e
 ·exact .inl (by simp only[fi,e])
 ·exact .inr (by simp only[fi,e];rfl)
theorem sa.kill{nt:Nat}(h:sa nt ops A f)(id:Nat):sa nt ops A (fi id f):=by intro g hg;obtain⟨t,h1,h0,h2⟩:=h g hg;exact⟨t,h1,h0,by simp only[fi,h2];rfl⟩
theorem W8{x:Nat×bG}(h:vn E f m o=some x):isApp E o=true:=by
 obtain⟨dst,op,type,pos,after,guard⟩:=o;unfold vn at h;simp only at h;unfold isApp;split at h
 ·rename_i c;obtain⟨callee,args,argTypes⟩:=c;grind
 ·cases h
theorem Jz{rd:bG}(h:vn E f m o=some (id,rd)):∃c x t t',o.op=.call c∧c.callee=.builtin .append∧c.args.toList.map (bL E f)=[.os id,x]∧c.argTypes.toList=[t,t']:=by unfold vn at h;grind
theorem Uv{kl:Kl}(h:Jg E f m o=some (kl,ft)){k:V→Fr→Mem→bG→Option R}{r:R}(hx:La E false (cU E o.dst) o f m k=some r):isApp E o=true∧∃v wr ft1,k v (kf kl f) (uf wr (km kl m)) ft1=some r∧(∀x∈wr,(true,x.1)∈ft)∧(∀x∈kl,(true,x.2)∈ft)∧∀(f2:Fr)(m2:Mem),(∀x∈o.op.operands,bL E f2 x=bL E f x)→(∀x∈ft,m2 x.2=m x.2)→∀(R':Type)(k':V→Fr→Mem→bG→Option R'),La E false (cU E o.dst) o f2 m2 k'=k' v (kf kl f2) (uf wr (km kl m2)) ft1:=by
 unfold Jg at h;unfold La at hx;split at h
 ·rename_i sp ug;simp only[AT]at h;have hn:E.BU (cU E o.dst)=true:=by grind
  rw[hn]at ug hx;simp only[cond]at ug hx;rw[ug]at hx;obtain⟨v,wr,h1,h2,h3,h4,_,_⟩:=OW ug hx;rw[h]at h1 h2 h3 h4;refine⟨by unfold isApp;rw[hn];rfl,v,wr,ft,h1,h2,h3,fun f2 m2 hf hm R' k'=>?_⟩;have:=OT ug hf (by rw[h];exact hm);simp_all[La,cond]
 ·rename_i ug;split at h
  ·rename_i id rd W9;simp only[AT,ado]at h;obtain⟨rfl,rfl⟩:=h;have e0:(bif false then none else bif E.BU (cU E o.dst)then zJ E (cU E o.dst) o f m else none)=(bif E.BU (cU E o.dst)then zJ E (cU E o.dst) o f m else none):=rfl;rw[e0,ug]at hx;simp only at hx;obtain⟨jw,dH,hk,hn⟩:=O1 W9 hx;refine⟨W8 W9,.os id,[(id,dH)],[(true,0)],hk,by simp,by simp,fun f2 m2 hf hm R' k'=>?_⟩;have ad7:(bif E.BU (cU E o.dst)then zJ E (cU E o.dst) o f2 m2 else none)=none:=by
    cases HR:E.BU (cU E o.dst)with
    |false=>rfl
    |true=>
     simp only[cond];obtain⟨c,x,t,t',hc,ad8,rX,Z0⟩:=Jz W9;have ahm:c.args.toList.map (bL E f2)=[.os id,x]:=by simp_all[aj9,Op.operands,Call.operands]
     have c9:m2 id=m id:=hm (true,id) (by simp);have hm3:∃sz et es,m id=some (.arr sz et es):=by obtain⟨dst,op,type,pos,after,guard⟩:=o;simp only at hc;subst hc;obtain⟨callee,args,argTypes⟩:=c;simp only at ad8 rX Z0;subst ad8;simp only[cT,rX,Z0,AR,akz]at hx;grind
     obtain⟨sz,et,es,hm3⟩:=hm3;unfold zJ;simp_all
   unfold La;have e1:(bif false then none else bif E.BU (cU E o.dst)then zJ E (cU E o.dst) o f2 m2 else none)=(bif E.BU (cU E o.dst)then zJ E (cU E o.dst) o f2 m2 else none):=rfl;rw[e1,ad7];exact hn f2 m2 hf hm R' k'
  ·cases h
theorem wN.zg(h:wN f F)(id:Nat):wN (iL id f) (iL id F):=fun t=>by
 rcases h t with e|e
 ·simp_all[iL]
 ·exact .inr (by simp only[iL,e];rfl)
theorem wN.kf:∀{kl:Kl}{f F:Fr},wN f F→wN (Go.Ab.kf kl f) (Go.Ab.kf kl F)
 |[],_,_,h=>h
 |(true,id)::r,f,F,h=>wN.kf (kl:=r) (f:=fi id f) (F:=fi id F) (h.kill id)
 |(false,id)::r,f,F,h=>wN.kf (kl:=r) (f:=iL id f) (F:=iL id F) (h.zg id)
theorem sa.zg{nt:Nat}(h:sa nt ops A f)(id:Nat):sa nt ops A (iL id f):=by intro g hg;obtain⟨t,h1,h0,h2⟩:=h g hg;exact⟨t,h1,h0,by simp only[iL,h2];rfl⟩
theorem sa.kf{nt:Nat}{A:List (Nat×Bool)}:∀{kl:Kl}{f:Fr},sa nt ops A f→sa nt ops A (Go.Ab.kf kl f)
 |[],_,h=>h
 |(true,id)::r,f,h=>sa.kf (kl:=r) (f:=fi id f) (h.kill id)
 |(false,id)::r,f,h=>sa.kf (kl:=r) (f:=iL id f) (h.zg id)
theorem Uw(hE:kv E)(hY:ur E.P E.aM E.fn.ntmps E.yl w0){v:V}{wr:List (Nat×bR)}{kl:Kl}{ft1:bG}(hg:guardOf o A=none)(hA:sa E.fn.ntmps ops A F)(hd:wW E o=true)(Dv:∀x∈o.op.operands,bL E f x=bL E F x)(hn:∀(f2:Fr)(m2:Mem),(∀x∈o.op.operands,bL E f2 x=bL E f x)→(∀x∈ft,m2 x.2=m x.2)→∀(R':Type)(k':V→Fr→Mem→bG→Option R'),La E false (cU E o.dst) o f2 m2 k'=k' v (kf kl f2) (uf wr (km kl m2)) ft1):Ib E ops w0 ⟨i,o,v,wr,ft,kl⟩ F m:=by
 intro f2 m2 hf hm μ φ a w K Q hR hK;have hw:Region.wanted o (yielded ops a.tmps)=true:=LJ hg hA hR hf;simp only at hf hm hK⊢;rw[BK hw];have hx:=hn f2 m2 (fun x hx=>by rw[yR hf x hx,Dv x hx]) hm (V×Fr×Mem) fun v f m _=>some (v,f,m);rcases Jw hE hx with⟨v,f',m',ft,h1,h2⟩|⟨_,h2⟩
 ·simp only[AT,ado]at h1;obtain⟨rfl,rfl,rfl⟩:=h1;exact fun rd=>h2.zV (Cg hx) rd w0 μ φ a w K Q hR fun y w' μ' φ' hle hM hF hv hl=>hK _ _ _ _ (hR.put hle (jL hd) hM hF hv hl)
 ·refine fun rd=>Ft.zV h2 rd w0 μ φ a w K Q hY hR fun v f' m' y w' μ' φ' h1 hle hM hF hv hl=>?_;simp only[AT,ado]at h1;obtain⟨rfl,rfl,rfl⟩:=h1;exact hK _ _ _ _ (hR.put hle (jL hd) hM hF hv hl)
structure JA(ops:Array Oper)(mode:Nat)(F:Fr)(m:Mem)(lg:Log)(recs:List Rec):Prop where
 one:mode=1→∀q∈recs,q.wr=[]∧q.kl=[]
 ord:mode=2→recs.Pairwise (W6 (ops:=ops))
 log:mode=2→∀q∈recs,∀y∈q.ft,∀x∈lg,y.2≠x.2.2∨(y.1=false∧x.2.1=false)∨reach ops 4 q.o x.1=true
 kl:recs.Pairwise fun q r=>q.kl≠[]→reach ops 4 r.o q.i=true
 cln:po ops F m recs
 nam:∀q∈recs,∀id,q.H9 id→mode=2∧ops.toList.any (isApp E)=true∧(true,id)∈q.ft∧∀x∈lg,x.2.2=yB id→reach ops 4 q.o x.1=true
theorem po.none:∀{l:List Rec}{f:Fr}{m:Mem},(∀q∈l,q.kl=[])→po ops f m l
 |[],_,_,_=>trivial
 |r::l,f,m,h=>⟨fun q hq id⟨b,av⟩=>(by simp_all),po.none fun q hq=>h q (by simp[hq])⟩
theorem nm(hE:kv E)(hY:ur E.P E.aM E.fn.ntmps E.yl w0){mode:Nat}(lr:mode=1∨mode=2):∀(fuel:Nat){R:Type}{A:List (Nat×Bool)}{l:List (Nat×Oper)}{f:Fr}{m:Mem}{lg:Log}{k:Fr→Mem→Option R}{r:R},cB E ops mode fuel R A l f m lg k=some r→(∀x∈l,ops[x.1]?=some x.2)→(mode=1→∀x∈l,fx x.2=true)→ab5 ops A l→∀F:Fr,wN f F→sa E.fn.ntmps ops A F→(∀x∈l,∀t∈x.2.looksAt ops,f t=F t)→∃(recs:List Rec)(f':Fr),k f' (qZ m recs)=some r∧wN f' (mZ F recs)∧recs.map (fun r=>(r.i,r.o))=l∧gb E ops w0 F m recs∧JA (E:=E) ops mode F m lg recs
 |0,_,_,_,_,_,_,_,_,h,_,_,_,_,_,_,_=>by simp[cB]at h
 |fuel+1,R,A,[],f,m,lg,k,r,h,_,_,_,F,hF,_,_=>by simp only[cB]at h;exact⟨[],f,h,hF,rfl,trivial,by simp,fun _=>.nil,by simp,.nil,trivial,by simp⟩
 |fuel+1,R,A,(i,o)::rest,f,m,lg,k,r,h,hl,VN,FA,F,hF,hA,LL=>by
  have hm1:(Nat.beq mode 1||Nat.beq mode 2)=true:=by simp_all
  simp only[cB,hm1]at h;split at h
  ·rename_i hg;split at h
   ·rename_i hd;have ad9:∀x∈o.op.operands,bL E f x=bL E F x:=yR (LL (i,o) (by simp));split at h
    ·rename_i kl ft ug;have aca:mode=2:=by
      rcases lr with rfl|rfl
      ·cases ug
      rfl
     subst aca;have ug:Jg E f m o=some (kl,ft):=ug;split at h
     ·rename_i Sr;simp only[T1,aki]at Sr;obtain⟨⟨ahn,aho⟩,ahp⟩:=Sr;obtain⟨W9,v,wr,ft1,hk,hwr,hkl,hn⟩:=Uv ug h;obtain⟨recs,f',c1,c2,c3,c4,c5⟩:=nm hE hY (.inr rfl) fuel hk (fun x hx=>hl x (by simp[hx])) (fun hm=>by omega) (fun x hx=>FA x (by simp[hx])) (jK (kf kl F) o.dst v) ((wN.kf (kl:=kl) hF).put _ _) (sa.put (sa.kf (kl:=kl) hA) fun g ru t ht=>FA (i,o) (by simp) g ru t ht) (fun x hx t ht=>by
       by_cases e:o.dst=some t
       ·rw[e,kC,kC]
       grind [ga,Ba])
      have oq:∀q∈recs,reach ops 4 q.o i=true:=fun q hq=>ahp (q.i,q.o) (by grind);have acb:ops.toList.any (isApp E)=true:=ak4.2 ⟨o,ah3 (by rw[ajL];exact hl (i,o) (by simp)),W9⟩;refine⟨⟨i,o,v,wr,ft,kl⟩::recs,f',c1,c2,by simp[c3],⟨Uw hE hY hg hA hd ad9 hn,fun j b hb=>hwr _ hb,c4⟩,?_⟩;refine⟨fun hm=>(by omega),fun hm=>akA.2 ⟨fun q hq=>.inl (oq q hq),c5.ord hm⟩,fun hm q hq=>?_,akA.2 ⟨fun q hq _=>oq q hq,c5.kl⟩,⟨fun q hq sZ _=>.inl (oq q hq),c5.cln⟩,fun q hq sZ av=>?_⟩
      ·rcases ah4.1 hq with rfl|hq
       ·exact Cj ahn
       ·exact fun y hy x hx=>c5.log hm q hq y hy x (ajI.2 (.inr hx))
      ·rcases ah4.1 hq with rfl|hq
       ·obtain⟨bb,av⟩:=av;exact⟨rfl,acb,hkl _ av,FK (aho _ av)⟩
       ·obtain⟨g1,g2,g3,g4⟩:=c5.nam q hq sZ av;exact⟨g1,g2,g3,fun x hx=>g4 x (ajI.2 (.inr hx))⟩
     ·cases h
    ·rcases Jw hE h with⟨v,f1,m1,ft,hk,Dv⟩|⟨zq,_⟩
     rotate_left
     ·cases zq
     obtain⟨hf1,wr,aea,hwr,hn⟩:=Dv.drawn rfl;subst hf1;have TY:∀(f2:Fr)(m2:Mem),(∀x∈o.op.operands,bL E f2 x=bL E F x)→(∀x∈ft,m2 x.2=m x.2)→∀(R':Type)(k':V→Fr→Mem→bG→Option R'),La E true (cU E o.dst) o f2 m2 k'=k' v f2 (uf wr m2) ft:=fun f2 m2 hf=>hn f2 m2 fun x hx=>by rw[hf x hx,ad9 x hx]
     have step:∀(wr':List (Nat×bR))(lg':Log),uf wr' m=m1→(mode=1→wr'=[])→(∀id b,(id,b)∈wr'→(true,id)∈ft)→Ib E ops w0 ⟨i,o,v,wr',ft,[]⟩ F m→cB E ops mode fuel R A rest (jK f1 o.dst v) m1 lg' k=some r→(mode=2→lg'=(bif ops.toList.any (isApp E)then(Ee ops o f1 m m1 v ft).map (fun n=>(i,false,yB n))else[])++(ft.map (fun x=>(i,x))++lg)∧B3 ops o lg ft=true)→∃(recs:List Rec)(f':Fr),k f' (qZ m recs)=some r∧wN f' (mZ F recs)∧recs.map (fun r=>(r.i,r.o))=(i,o)::rest∧gb E ops w0 F m recs∧JA (E:=E) ops mode F m lg recs:=by
      intro wr' lg' hwm G1 hw2 ab8 Z2 Ob;obtain⟨recs,f',c1,c2,c3,c4,c5⟩:=nm hE hY lr fuel Z2 (fun x hx=>hl x (by simp[hx])) (fun hm x hx=>VN hm x (by simp[hx])) (fun x hx=>FA x (by simp[hx])) (jK F o.dst v) (hF.put _ _) (sa.put hA fun g ru t ht=>FA (i,o) (by simp) g ru t ht) (fun x hx t ht=>by
       by_cases e:o.dst=some t
       ·rw[e,kC,kC]
       grind [ga])
      subst hwm;refine⟨⟨i,o,v,wr',ft,[]⟩::recs,f',c1,c2,by simp[c3],⟨ab8,hw2,c4⟩,?_⟩;have aeb:mode=2→∀x∈lg,x∈lg':=fun hm x hx=>by simp_all
      have abi:mode=2→∀x∈ft,(i,x)∈lg':=fun hm x hx=>by simp_all
      refine⟨fun hm q hq=>?_,fun hm=>akA.2 ⟨fun q hq=>?_,c5.ord hm⟩,fun hm q hq=>?_,akA.2 ⟨fun q hq h=>absurd rfl h,c5.kl⟩,⟨fun q hq id av=>?_,c5.cln⟩,fun q hq id av=>?_⟩
      ·rcases ah4.1 hq with rfl|hq
       ·exact⟨G1 hm,rfl⟩
       ·exact c5.one hm q hq
      ·have d2:=c5.log hm;by_cases he:reach ops 4 q.o i=true
       ·exact .inl he
       ·refine .inr ⟨fun id b hb x hx hxi=>?_,fun id b hb x hx hxi=>?_⟩
        ·grind
        ·rcases d2 q hq (true,id) (gb.wr c4 q hq id b hb) (i,x) (abi hm x hx)with h|h|h
         ·exact h hxi.symm
         ·cases h.1
         ·exact he h
      ·rcases ah4.1 hq with rfl|hq
       ·exact Cj (Ob hm).2
       ·exact fun y hy x hx=>c5.log hm q hq y hy x (aeb hm x hx)
      ·obtain⟨g1,g2,g3,g4⟩:=c5.nam q hq id av;by_cases he:reach ops 4 q.o i=true
       ·exact .inl he
       ·refine .inr (W7 (LL (i,o) (by simp)) hw2 (fun cg=>he (g4 (i,false,yB id) ?_ rfl)) fun x hx hxi=>?_)
        ·grind
        ·rcases c5.log g1 q hq (true,id) g3 (i,x) (abi g1 x hx)with h|h|h
         ·exact h hxi.symm
         ·cases h.1
         ·exact he h
      ·rcases ah4.1 hq with rfl|hq
       ·obtain⟨_,av⟩:=av;cases av
       ·obtain⟨g1,g2,g3,g4⟩:=c5.nam q hq id av;grind
     rcases lr with rfl|rfl
     ·simp only[Nat.beq,By,abG]at hk;split at hk
      ·rename_i hqf;have hwn:wr=[]:=by
        cases wr with
        |nil=>rfl
        |cons x l=>have:=zW hqf _ (hwr x (by simp));cases this
       subst hwn;exact step [] lg aea.symm (fun _=>rfl) (by simp) (FJ hE hg hA hd TY) hk (by simp)
      ·cases hk
     ·simp only[Nat.beq,aaV]at hk;split at hk
      ·rename_i hof;exact step wr _ aea.symm (by simp) (fun id b hb=>hwr _ hb) (FJ hE hg hA hd TY) hk fun _=>⟨rfl,hof⟩
      ·cases hk
   ·cases h
  ·rename_i j C7 hg;split at h
   ·rename_i tj Zg;split at h
    ·rename_i b hb;generalize ug:C6 A ((i,o)::rest)=sp at h;obtain⟨body,Lc⟩:=sp;have nk:=Fy ug;have hm0:Nat.beq mode 0=false:=by rcases lr with rfl|rfl<;>rfl
     simp only[hm0,als,By,abG]at h;split at h
     ·rename_i ip p nc;split at h
      ·rename_i c x y WU;split at h
       ·rename_i hc;simp only[T1,aki,ajF,akm,am9]at hc;obtain⟨⟨⟨⟨⟨⟨OX,hpg⟩,Dw⟩,WT⟩,ahq⟩,hpd⟩,c9⟩:=hc;have acd:mode=1:=by simp_all
        subst acd;have OX:=No OX;subst OX;have hpg:guardOf p A=none:=by simpa using hpg
        obtain⟨rb,WV,h⟩:=BY.1 h;have cg:∀z∈body,z∈(i,o)::rest:=fun z hz=>by rw[nk];simp[hz]
        have xi:∀z∈nc,z∈(i,o)::rest:=fun z hz=>by rw[nk];simp[hz]
        have LC:(ip,p)∈(i,o)::rest:=by rw[nk];simp
        obtain⟨ab6,hb⟩:=Fv hb;have hFc:F c=.pv (.bool b):=by
         rcases hF c with e|e
         ·rw[←e];omega
         simp_all
        have after:∀(tp:List Rec)(q:Operand),tp.map (fun r=>(r.i,r.o))=body→gb E ops w0 F m tp→(∀q∈tp,q.wr=[]∧q.kl=[])→bL E (mZ F tp) q=.pv (.bool rb)→(q=if b then x else y)→∃(recs:List Rec)(f':Fr),k f' (qZ m recs)=some r∧wN f' (mZ F recs)∧recs.map (fun r=>(r.i,r.o))=body++(ip,p)::nc∧gb E ops w0 F m recs∧(∀q∈recs,q.wr=[]∧q.kl=[]):=by
         intro tp q ahr aec hwn hq hqe;have aed:∀t,(∀z∈body,z.2.dst≠some t)→mZ F tp t=F t:=fun t ht=>Ia fun q hq=>⟨ht (q.i,q.o) (by grind),(hwn q hq).2⟩;have hA1:sa E.fn.ntmps ops A (mZ F tp):=fun g ru=>by obtain⟨t,h1,h0,h2⟩:=hA g ru;exact⟨t,h1,h0,by rw[aed t fun z hz=>FA z (cg z hz) g ru t h1];omega⟩
         have hb1:mZ F tp c=.pv (.bool b):=by grind
         have hrp:Ib E ops w0 ⟨ip,p,.pv (.bool rb),[],[],[]⟩ (mZ F tp) m:=FJ hE hpg hA1 hpd fun f2 m2 hf hm R' k'=>by
          have vg:bL E f2 (.tmp c)=.pv (.bool b):=by simp_all[Op.operands,Z1]
          have hq2:bL E f2 q=.pv (.bool rb):=by grind [Op.operands]
          rw[LB WU vg,←hqe,hq2];rfl
         obtain⟨recs,f',c1,c2,c3,c4,c5⟩:=nm hE hY (.inl rfl) fuel h (fun z hz=>hl z (xi z hz)) (fun hm z hz=>VN hm z (xi z hz)) (fun z hz=>FA z (xi z hz)) (jK (mZ F tp) p.dst (.pv (.bool rb))) (wN.put (yQ fun t ht=>by rw[aed t ht];exact hF t) _ _) (sa.put hA1 fun g ru t ht=>FA (ip,p) LC g ru t ht) (fun z hz t ht=>by
          by_cases e:p.dst=some t
          ·rw[e,kC,kC]
          ·have hnb:∀u∈body,u.2.dst≠some t:=fun u hu hud=>by grind [blind,List.all_eq_true,Bool.not_eq_true']
           grind [ga,yP])
         have hmB:qZ m tp=m:=Ie hwn;refine⟨tp++⟨ip,p,.pv (.bool rb),[],[],[]⟩::recs,f',?_,?_,by simp[ahr,c3],?_,fun q hq=>?_⟩
         ·rw[LI,hmB];exact c1
         ·rw[LH];exact c2
         ·refine gb.append.2 ⟨aec,?_⟩;rw[hmB];exact⟨hrp,by simp,c4⟩
         ·rcases ajI.1 hq with h|h
          ·exact hwn q h
          ·rcases ah4.1 h with rfl|h
           ·simp
           ·exact c5.one rfl q h
        have fin:(∃(recs:List Rec)(f':Fr),k f' (qZ m recs)=some r∧wN f' (mZ F recs)∧recs.map (fun r=>(r.i,r.o))=body++(ip,p)::nc∧gb E ops w0 F m recs∧(∀q∈recs,q.wr=[]∧q.kl=[]))→∃(recs:List Rec)(f':Fr),k f' (qZ m recs)=some r∧wN f' (mZ F recs)∧recs.map (fun r=>(r.i,r.o))=(i,o)::rest∧gb E ops w0 F m recs∧JA (E:=E) ops 1 F m lg recs:=by rintro⟨recs,f',c1,c2,c3,c4,c5⟩;exact⟨recs,f',c1,c2,by rw[nk];omega,c4,fun _=>c5,fun h=>(by omega),fun h=>(by omega),amv (R:=fun _ _=>True) (fun{q r}hq hr _ h=>absurd (c5 q hq).2 h) (List.pairwise_of_forall fun _ _=>trivial),po.none fun q hq=>(c5 q hq).2,fun q hq id⟨_,av⟩=>(by simp_all)⟩
        have go:∀q,b=C7→(q=if b then x else y)→cB E ops 1 fuel Bool ((j,C7)::A) body f m lg (fun f _=>zd (bL E f q))=some rb→∃(recs:List Rec)(f':Fr),k f' (qZ m recs)=some r∧wN f' (mZ F recs)∧recs.map (fun r=>(r.i,r.o))=body++(ip,p)::nc∧gb E ops w0 F m recs∧(∀q∈recs,q.wr=[]∧q.kl=[]):=by
         intro q VO hq Z2;obtain⟨tp,f1,c1,c2,c3,c4,c5⟩:=nm hE hY (.inl rfl) fuel Z2 (fun z hz=>hl z (cg z hz)) (fun hm z hz=>VN hm z (cg z hz)) (fun z hz g ru t ht=>by
          rcases ah4.1 ru with rfl|ru
          ·grind
          ·exact FA z (cg z hz) g ru t ht) F hF (fun g ru=>by
          rcases ah4.1 ru with rfl|ru
          ·simp_all
          ·exact hA g ru) (fun z hz=>LL z (cg z hz))
         refine after tp q c3 c4 (c5.one rfl) ?_ hq;grind [A7,WR]
        have no:∀q,b= !C7→(q=if b then x else y)→zd (bL E (nb f body) q)=some rb→∃(recs:List Rec)(f':Fr),k f' (qZ m recs)=some r∧wN f' (mZ F recs)∧recs.map (fun r=>(r.i,r.o))=body++(ip,p)::nc∧gb E ops w0 F m recs∧(∀q∈recs,q.wr=[]∧q.kl=[]):=by intro q VO hq Z2;obtain⟨s1,s2⟩:=Ic (E:=E) (w0:=w0) (m:=m) body F (fun z hz=>(Dw z hz).1.2) (A6 Zg WT (fun z hz=>hl z (cg z hz)) (fun z hz=>(Dw z hz).2) (by rw[hFc,VO]) (by simp));refine after (body.map Bb) q (by simp[Bb,amt]) s1 (fun u hu=>by obtain⟨z,_,rfl⟩:=ajJ.1 hu;exact⟨rfl,rfl⟩) ?_ hq;rw[s2];have hv:=A7 Z2;grind [wN,nb,jq,yQ,vE,WR]
        grind
       ·cases h
      ·cases h
     ·cases h
    ·cases h
   ·cases h
theorem tM{l:List Oper}:(i,o)∈(List.range l.length).zip l↔l[i]?=some o:=by
 rw[akk];constructor
 ·grind
 ·intro h;refine⟨i,List.getElem?_zip_eq_some.2 ⟨?_,h⟩⟩;grind
theorem xp:∀{l done:List (Nat×Oper)},pd ops done l=true→(∀x∈l,∀d∈done,reach ops 4 x.2 d.1=true∨d.2.apart ops x.2=true)∧l.Pairwise (fun q r=>reach ops 4 r.2 q.1=true∨q.2.apart ops r.2=true)∧∀x∈l,∀e∈x.2.after,Region.binds .any e=true→e.on<x.1
 |[],_,_=>⟨by simp,.nil,by simp⟩
 |(i,o)::r,done,h=>by
  simp only[pd,T1]at h;obtain⟨⟨h1,h2⟩,h3⟩:=h;obtain⟨i1,i2,i3⟩:=xp h3;have G0:∀{done:List (Nat×Oper)},yC ops done o=true→∀d∈done,reach ops 4 o d.1=true∨d.2.apart ops o=true:=by
   intro done;induction done with
   |nil=>simp
   |cons x l ih=>intro h d hd;simp only[yC,T1,ajA]at h;grind
  refine⟨fun x hx d hd=>?_,akA.2 ⟨fun x hx=>i1 x hx (i,o) (by simp),i2⟩,fun x hx e he hb=>?_⟩
  ·grind
  ·rcases ah4.1 hx with rfl|hx
   ·have:=aki.1 h1 e (ak6.2 he);simp_all
   ·exact i3 x hx e he hb
variable{rd:Option Nat}{fuel:Nat}{Q:Exit→Act→World→Prop}
theorem xq(hE:kv E)(hY:ur E.P E.aM E.fn.ntmps E.yl w0){mode:Nat}(lr:mode=1∨mode=2){l:List (Nat×Oper)}{base:Nat→Bool}(VN:mode=1→∀x∈l,fx x.2=true){k:Fr→Mem→Option R}{r:R}(hmz:∀x∈l,ops[x.1]?=some x.2)(ai7:(l.map Prod.fst).Pairwise (·<·))(abd:∀x∈l,base x.1=false)(abe:∀i o,ops[i]?=some o→base i=false→(∀x∈l,x.1≠i)→(∀x∈l,reach ops 8 o x.1=true)∨∃j,reach ops 8 o j=true∧base j=false∧∀x∈l,x.1≠j)(ahs:∀x∈l,∀e∈x.2.after,Region.binds .any e=true→base e.on=true∨∃y∈l,y.1=e.on)(hi:pd ops [] l=true)(h:cB E ops mode fuel R [] l f m [] k=some r)(hQ:∀(fuel:Nat)(ak:Array Bool),ak.size=ops.size→ak.toList.countP (fun b=> !b)≤fuel→zZ ops ak→(∀i,aK ak i=true↔base i=true∨∃x∈l,x.1=i)→∀f' m' μ φ a w,k f' m'=some r→Rel E.P E.aM E.fn.ntmps w0 μ φ f' m' a w→wpAnyIn (FR rd) 0 E.P .any ops Q fuel ak a w):∀(fuel:Nat)(ak:Array Bool),ak.size=ops.size→ak.toList.countP (fun b=> !b)≤fuel→zZ ops ak→(∀i,aK ak i=true↔base i=true)→∀(μ:Ro)(φ:Nat→aH)(a:Act)(w:World),Rel E.P E.aM E.fn.ntmps w0 μ φ f m a w→wpAnyIn (FR rd) 0 E.P .any ops Q fuel ak a w:=by
 intro aee ak hs hc ux hb μ φ a w hR;obtain⟨recs,f',c1,c2,c3,c4,c5⟩:=nm (w0:=w0) hE hY lr fuel h hmz VN (by intro x hx g hg;cases hg) f (wN.refl f) (by intro g hg;cases hg) (fun _ _ _ _=>rfl);obtain⟨_,i2,i3⟩:=xp hi;have cg:∀q∈recs,(q.i,q.o)∈l:=fun q hq=>by grind
 have hof:∀x∈l,∃q∈recs,q.i=x.1:=fun x hx=>by grind
 have G0:recs.Pairwise fun q r=>reach ops 4 r.o q.i=true∨q.o.apart ops r.o=true:=by grind
 have hmo:recs.Pairwise (W6 (ops:=ops)):=by
  rcases lr with hm|hm
  ·exact amv (fun{q r}hq hr _=>.inr ⟨fun id b hb=>(by rw[(c5.one hm q hq).1]at hb;cases hb),fun id b hb=>(by rw[(c5.one hm r hr).1]at hb;cases hb)⟩) G0
  ·exact c5.ord hm
 refine WY (E:=E) (w0:=w0) (recs:=recs) (f0:=f) (m0:=m) (base:=base) ?_ (fun q hq=>hmz _ (cg q hq)) (fun q hq=>abd _ (cg q hq)) (fun i o ho hbi cY=>?_) ?_ c5.kl c5.cln (fun q hq e he N7=>⟨i3 _ (cg q hq) e he N7,?_⟩) c4 ?_ aee ak hs hc ux (fun i hi=>(hb i).2 hi) (fun i hi=>Or.inl ((hb i).1 hi)) μ φ a w ?_
 ·grind
 ·grind
 ·refine List.Pairwise.imp (fun{q r}h=>?_) (List.Pairwise.and G0 hmo);obtain⟨h1,h2⟩:=h;rcases h1 with h1|h1
  ·exact .inl h1
  ·rcases h2 with h2|h2
   ·exact .inl h2
   ·exact .inr ⟨h1,h2⟩
 ·rcases ahs _ (cg q hq) e he N7 with h1|⟨y,hy,h1⟩
  ·exact Or.inl h1
  grind
 ·intro abj SJ hs2 Wf aht vg μ2 φ2 a2 w2 H3;refine hQ abj SJ hs2 Wf aht (fun i=>?_) _ _ μ2 φ2 a2 w2 c1 (H3.weaken c2);grind
 ·have hS:∀q∈recs,aK ak q.i=false:=fun q hq=>by grind
  rw[show pC (aK ak) f recs=f from funext fun t=>ry fun q hq hs=>(by simp_all),show pD (aK ak) m recs=m from funext fun t=>rz fun q hq hs=>(by simp_all)];omega
variable{x:Nat×Oper}
theorem Ck(hx:x∈(List.range ops.size).zip ops.toList):ops[x.1]?=some x.2:=by have:=(tM (l:=ops.toList) (i:=x.1) (o:=x.2)).1 (by omega);simp_all
theorem sc(ho:ops[i]?=some o):(i,o)∈(List.range ops.size).zip ops.toList:=by have:=(tM (l:=ops.toList) (i:=i) (o:=o)).2 (by simp_all);omega
theorem JB:((List.range ops.size).zip ops.toList).map Prod.fst=List.range ops.size:=by rw[List.map_fst_zip (by simp)]
variable{P:Program}
theorem FL{F:Fence}{n:Nat}{ak:Array Bool}(hs:ak.size=ops.size)(Hh:∀i o,ops[i]?=some o→aK ak i=true)(hq:Q .normal a w):wpAnyIn F n P .any ops Q fuel ak a w:=by
 have hr:Region.ready .any ops ak=[]:=by apply List.eq_nil_iff_forall_not_mem.2;intro j hj;obtain⟨h0,o,ho,_⟩:=mem_ready.1 hj;grind
 cases fuel with
 |zero=>exact⟨hr,hq⟩
 |succ fuel=>exact⟨fun _=>hq,fun i hi=>by rw[hr]at hi;cases hi⟩
theorem xt(n j:Nat):aK (Array.replicate n false) j=false:=by simp only[aK,ajG,Array.getElem?_replicate];split<;>rfl
theorem count_le(n:Nat):(Array.replicate n false).toList.countP (fun b=> !b)≤n:=by grind [List.countP_le_length,Array.replicate]
theorem Dz:zZ ops (Array.replicate ops.size false):=fun i o _ h=>by rw[xt]at h;cases h
theorem FM(hE:kv E)(hY:ur E.P E.aM E.fn.ntmps E.yl w0){mode:Nat}(lr:mode=1∨mode=2)(VN:mode=1→∀o∈ops,fx o=true){k:Fr→Mem→Option R}{r:R}(hi:pd ops [] ((List.range ops.size).zip ops.toList)=true)(h:cB E ops mode fuel R [] ((List.range ops.size).zip ops.toList) f m [] k=some r){μ:Ro}(hR:Rel E.P E.aM E.fn.ntmps w0 μ φ f m a w)(hQ:∀f' m' μ' φ' a' w',k f' m'=some r→Rel E.P E.aM E.fn.ntmps w0 μ' φ' f' m' a' w'→Q .normal a' w'):wpAnyIn (FR rd) 0 E.P .any ops Q ops.size (Array.replicate ops.size false) a w:=by
 refine xq (w0:=w0) (base:=fun _=>false) hE hY lr (fun hm x hx=>VN hm x.2 (alP (Ck hx))) (fun x hx=>Ck hx) (by rw[JB];exact alL) (fun _ _=>rfl) (fun i o ho _ cY=>absurd rfl (cY _ (sc ho))) (fun x hx e he hb=>Or.inr ?_) hi h ?_ ops.size _ (by simp) (count_le _) Dz (fun i=>by rw[xt]) μ φ a w hR
 ·obtain⟨_,_,i3⟩:=xp hi;have h1:=i3 x hx e he hb;have h2:x.1<ops.size:=(adp.1 (Ck hx)).1;exact⟨_,sc (T0 (show e.on<ops.size by omega)),rfl⟩
 ·intro abj SJ hs2 _ _ vg f' m' μ2 φ2 a2 w2 hk H3;exact FL hs2 (fun i o ho=>(vg i).2 (Or.inr ⟨_,sc ho,rfl⟩)) (hQ _ _ _ _ _ _ hk H3)
theorem Em{j:Nat}(h:((List.range ops.size).zip ops.toList)[j]?=some x):x.1=j:=by grind
theorem pF{p:Nat}:x∈((List.range ops.size).zip ops.toList).take p↔x∈(List.range ops.size).zip ops.toList∧x.1<p:=by
 constructor
 ·grind [List.getElem?_of_mem,List.getElem?_take_of_lt,List.mem_of_getElem?,Em]
 ·rintro⟨h,hx⟩;obtain⟨j,hj⟩:=ajX h;have:=Em hj;exact ah3 (i:=j) (by simp_all)
theorem uD{p:Nat}:x∈((List.range ops.size).zip ops.toList).drop p↔x∈(List.range ops.size).zip ops.toList∧p≤x.1:=by
 constructor
 ·grind [List.getElem?_of_mem,List.mem_of_getElem?,Em]
 ·rintro⟨h,hx⟩;obtain⟨j,hj⟩:=ajX h;have:=Em hj;exact ah3 (i:=j-p) (by simp_all)
variable{K:Act→World→Prop}{Q':Exit→Act→World→Prop}
theorem Oper.O2{F:Fence}{n:Nat}(h:∀e a w,e≠.normal→Q' e a w→Q e a w)(hh:o.wpIn F n P a w K Q'):o.wpIn F n P a w K Q:=by
 unfold Oper.wpIn at*;refine⟨hh.1,?_⟩;have hh:=hh.2;have aef:LetsOut Q'→LetsOut Q:=fun⟨a,w,hq⟩=>⟨a,w,h _ _ _ (by simp) hq⟩;generalize (o.semAt F.round a.eval).run P w=r at*;cases r with
 |ok x w'=>
  cases x<;>simp only[Oper.uponIn]at hh⊢<;>first
   |exact hh
   |exact⟨hh.1,CallsIn.mono hh.2 (fun e w'' he=>by cases e<;>first|exact aef he|exact h _ _ _ (by simp) he|exact he)⟩
   |exact⟨hh.1,RoundIn.mono hh.2 (fun e w'' he=>by cases e<;>first|exact aef he|exact h _ _ _ (by simp) he|exact he)⟩
 |halt x w'=>cases x<;>simp only[Oper.uponIn]at hh⊢<;>simp_all
theorem JC{F:Fence}{n:Nat}(h:∀e a w,e≠.normal→Q' e a w→Q e a w)(hh:wpOpIn F n P ops Q' i K a w):wpOpIn F n P ops Q i K a w:=by
 unfold wpOpIn at*;split
 ·simpa[*]using hh
 ·rename_i o ho;simp only[ho]at hh;split
  ·rename_i hw;simp only[hw,aaV]at hh;exact Oper.O2 h hh
  simp_all
theorem O3(hE:kv E)(hY:ur E.P E.aM E.fn.ntmps E.yl w0){p:Nat}(Z5:V8 ops p=true){k:Fr→Mem→Option R}{r:R}(Z6:pd ops [] (((List.range ops.size).zip ops.toList).take p)=true)(hi3:pd ops [] (((List.range ops.size).zip ops.toList).drop (p+1))=true){n1 n2 n3:Nat}(h:(cB E ops 2 n1 R [] (((List.range ops.size).zip ops.toList).take p) f m [] fun f m=>cB E ops 0 n2 R [] ((((List.range ops.size).zip ops.toList).drop p).take 1) f m [] fun f m=>cB E ops 2 n3 R [] (((List.range ops.size).zip ops.toList).drop (p+1)) f m [] k)=some r){μ:Ro}(hR:Rel E.P E.aM E.fn.ntmps w0 μ φ f m a w)(hQ:∀f' m' μ' φ' a' w',k f' m'=some r→Rel E.P E.aM E.fn.ntmps w0 μ' φ' f' m' a' w'→Q .normal a' w'):wpAnyIn (FR rd) 0 E.P .any ops Q ops.size (Array.replicate ops.size false) a w:=by
 unfold V8 at Z5;cases ho:ops[p]? with
 |none=>simp_all
 |some o=>
  rw[ho]at Z5;simp only[T1]at Z5;obtain⟨⟨_,Hi⟩,hpa⟩:=Z5;have hpn:p<ops.size:=(adp.1 ho).1;have WZ:∀e∈o.after,Region.binds .any e=true→e.on<p:=fun e he hb=>by have:=aki.1 Hi e (ak6.2 he);simp_all
  have ahu:∀i,i<p→reach ops 8 o i=true:=fun i hi=>by have:=aki.1 hpa _ (sc (T0 (show i<ops.size by omega)));simp_all
  have ahv:∀i o',ops[i]?=some o'→p<i→reach ops 8 o' p=true:=fun i o' VP hi=>by
   have:=aki.1 hpa _ (sc VP);simp only at this;have hb:Nat.blt i p=false:=by
    cases hx:Nat.blt i p with
    |false=>rfl
    |true=>have:i<p:=amM hx;omega
   have vg:Nat.beq i p=false:=by
    cases hx:Nat.beq i p with
    |false=>rfl
    |true=>simp_all
   simp_all
  refine xq (w0:=w0) (base:=fun _=>false) hE hY (.inr rfl) (fun h=>by omega) (fun x hx=>Ck (pF.1 hx).1) (by simp[al2,JB,alL,List.take_sublist]) (fun _ _=>rfl) (fun i o' VP _ cY=>?_) (fun x hx e he hb=>Or.inr ?_) Z6 h ?_ ops.size _ (by simp) (count_le _) Dz (fun i=>by rw[xt]) μ φ a w hR
  ·have hip:¬i<p:=fun hc=>cY _ (pF.2 ⟨sc VP,hc⟩) rfl;by_cases hi:i=p
   ·subst hi;rw[ho]at VP;cases VP;exact Or.inl fun x hx=>ahu _ (pF.1 hx).2
   ·exact Or.inr ⟨p,ahv i o' VP (by omega),rfl,fun x hx=>by have:=(pF.1 hx).2;omega⟩
  ·obtain⟨_,_,i3⟩:=xp Z6;have h1:=i3 x hx e he hb;have h2:=(pF.1 hx).2;exact⟨_,pF.2 ⟨sc (T0 (show e.on<ops.size by omega)),by omega⟩,rfl⟩
  ·intro fuel ak hs hc ux hb f1 m1 μ1 φ1 a1 w1 Uh OY;have cd:∀i,aK ak i=true↔i<p:=fun i=>by
    rw[hb i];constructor
    ·rintro(h|⟨x,hx,rfl⟩)
     ·cases h
     ·exact(pF.1 hx).2
    ·intro hi;exact Or.inr ⟨_,pF.2 ⟨sc (T0 (show i<ops.size by omega)),hi⟩,rfl⟩
   have pX:p<ak.size:=by omega
   have hpu:aK ak p=false:=by grind
   have ajl:ak[p]=false:=by simp_all
   cases fuel with
   |zero=>have:=alp.1 (amZ.1 hc) ak[p] (by simp);simp_all
   |succ fuel=>
    have ahw:p∈Region.ready .any ops ak:=mem_ready.2 ⟨by simp_all,o,ho,fun e he N7=>(cd e.on).2 (WZ e he N7)⟩;refine⟨(fun h0=>by simp_all),fun i hi=>?_⟩;obtain⟨W2,o',VP,FI⟩:=mem_ready.1 hi;have oq:i<ak.size:=by grind
    have hiu:aK ak i=false:=by simp_all
    have hip:i=p:=by refine ak0 fun cY=>?_;grind [sb]
    subst hip;have hL:(((List.range ops.size).zip ops.toList).drop i).take 1=[(i,o)]:=by
     have hlen:i<((List.range ops.size).zip ops.toList).length:=by simp;omega
     rw[alg hlen];simp_all
    rw[hL]at Uh;have hS':∀j,aK (ak.setIfInBounds i true) j=if j=i then true else aK ak j:=fun j=>by simp only[aK,ajG,akJ];grind
    have hle:∀j,aK (ak.setIfInBounds i true) j=true↔j≤i:=fun j=>by grind
    have aeg:=jm (rd:=rd) (w0:=w0) hE hY _ (.inl rfl) Uh (by simp_all) (by intro x hx g hg;cases hg) (fun h=>by omega) μ1 φ1 a1 w1 (fun e a w=>(e=.normal∧wpAnyIn (FR rd) 0 E.P .any ops Q fuel (ak.setIfInBounds i true) a w)∨(e≠.normal∧Q e a w)) [] OY (by intro g hg;cases hg) fun f2 m2 μ2 φ2 a2 w2 ZO H3 _ _=>Or.inl ⟨rfl,?_⟩
    ·rw[aj2,ajy,akv,wpOpsIn_cons]at aeg;refine wpOpIn_mono (fun a w hq=>?_) (JC (fun e a w cY hq=>?_) aeg)
     ·rcases hq with⟨_,h⟩|⟨h,_⟩
      ·omega
      ·exact absurd rfl h
     simp_all
    ·refine xq (w0:=w0) (base:=fun j=>decide (j≤i)) hE hY (.inr rfl) (fun h=>by omega) (fun x hx=>Ck (uD.1 hx).1) (by grind [List.map_drop,JB,List.pairwise_lt_range,List.drop_sublist]) (fun x hx=>by have:=(uD.1 hx).2;simp;omega) (fun j oj hj hbj cY=>?_) (fun x hx e he N7=>?_) hi3 ZO ?_ fuel _ (by simp[hs]) ?_ ?_ (fun j=>by rw[hle j];simp) μ2 φ2 a2 w2 H3
     ·simp only[ajK]at hbj;exact absurd rfl (cY _ (uD.2 ⟨sc hj,by omega⟩))
     ·obtain⟨_,_,i3⟩:=xp hi3;have h1:=i3 x hx e he N7;have h2:x.1<ops.size:=(adp.1 (Ck (uD.1 hx).1)).1;by_cases hei:e.on≤i
      ·simp_all
      ·exact Or.inr ⟨_,uD.2 ⟨sc (T0 (show e.on<ops.size by omega)),by omega⟩,rfl⟩
     ·intro ai8 ag1 hs3 _ _ hb3 f3 m3 μ3 φ3 a3 w3 hk3 hR3;refine FL hs3 (fun j oj hj=>(hb3 j).2 ?_) (hQ _ _ _ _ _ _ hk3 hR3);by_cases Ui:j≤i
      ·simp_all
      ·exact Or.inr ⟨_,uD.2 ⟨sc hj,by omega⟩,rfl⟩
     ·grind
     ·intro j oj hj hlj e he N7;rw[hle]at hlj⊢;by_cases Ui:j=i
      ·grind
      ·have h1:=ux j oj hj ((cd j).2 (by omega)) e he N7;grind
end
end Go.Ab
