import Derived.Test.YtcmhmlnkhmefbaaAbP6
import Derived.OrdersIn
set_option linter.unusedVariables false
namespace Go.Ab
open Go.RowKit (Below)
def qt(f F:Fr):Prop:=∀t,f t=F t∨f t=.top
theorem qt.refl(f:Fr):qt f f:=fun _=>.inl rfl
theorem qt.put{f F:Fr}(h:qt f F)(d:Option Nat)(v:V):qt (gk f d v) (gk F d v):=by
 intro t;cases d with
 |none=>exact h t
 |some d=>
  simp only[gk,eS];cases Nat.beq t d
  ·exact h t
  ·exact .inl rfl
theorem dG{f:Fr}{d:Option Nat}{v:V}{t:Nat}(h:d≠some t):gk f d v t=f t:=by
 cases d with
 |none=>rfl
 |some d=>exact mE (fun e=>h (by rw[e]))
theorem gW{f:Fr}{v:V}{t:Nat}:gk f (some t) v t=v:=by simp[gk,eS,Nat.beq_refl]
section
variable {E:Env} {ops:Array Oper} {w0:bg}
variable{nt:Nat}{μ:Ro}{φ:Nat→aw}{f:Fr}{m:Mem}{a:Act}
theorem Rel.weaken{f':Fr}{w:World}(h:Rel E.P E.ax nt w0 μ φ f m a w)(hf:qt f' f):Rel E.P E.ax nt w0 μ φ f' m a w:=
 {h with
  fr:=fun t=>by
   rcases hf t with e|e
   ·rw[e];exact h.fr t
   ·rw[e];exact .top,
  live:=fun t id hid=>by
   rcases hf t with e|e
   ·rw[e]at hid;exact h.live t id hid
   ·rw[e]at hid;cases hid}
variable{t:Nat}
theorem y7{d:Nat}{y:Value}(hd:d<a.tmps.size):(a.put (some d) y).tmps.getD t undef=if t=d then y else a.tmps.getD t undef:=by
 simp only[Act.put,Array.getD_eq_getD_getElem?,Array.getElem?_setIfInBounds];by_cases e:d=t
 ·subst e;simp[hd]
 ·have e':¬t=d:=fun h=>e h.symm;simp[e,e']
theorem Rel.put{nt:Nat}{μ μ':Ro}{φ φ':Nat→aw}{f f':Fr}{m m':Mem}{a:Act}{w w':World}(h:Rel E.P E.ax nt w0 μ φ f m a w)(hle:DY μ μ'){dst:Option Nat}{v:V}{y:Value}(hd:∀d,dst=some d→d<nt)(hM:al E.P E.ax w0 μ' φ' m' w')(hF:bJ E.P μ' φ' m' f' (aG nt w0 a))(hv:ab E.P μ' φ' v y)(hl:∀id,v.has id=true→(m' id).isSome=true):Rel E.P E.ax nt w0 μ' φ' (gk f' dst v) m' (a.put dst y) w':=by
 refine{toal:=hM,size:=?_,defers:=?_,jG:=h.jG,fr:=fun t=>?_,live:=fun t id hid=>?_}
 ·cases dst<;>simp[Act.put,h.size]
 ·cases dst<;>exact h.defers.mono hle
 ·cases dst with
  |none=>exact hF.fr t
  |some d=>
   have ba:d<a.tmps.size:=by rw[h.size];exact hd d rfl
   have hf:=hF.fr t;by_cases e:t=d
   ·subst e;rw[mw (hd t rfl),y7 ba,if_pos rfl,gW];exact hv
   ·rw[dG (by simpa using fun h=>e h.symm)];unfold aG at hf⊢;split
    ·rename_i ht;rw[if_pos ht]at hf;rw[y7 ba,if_neg e];exact hf
    ·rename_i ht;rw[if_neg ht]at hf;exact hf
 ·by_cases e:dst=some t
  ·subst e;rw[gW]at hid;exact hl id hid
  ·rw[dG e]at hid;exact hF.live t id hid
theorem Qm(h:t<E.fn.ntmps):bh E f (.tmp t)=f t:=by simp only[bh];rw[show Nat.blt t E.fn.ntmps=true by rw[Nat.blt_eq];exact h];rfl
theorem y8{p:PV}(h:bh E f (.tmp t)=.pv p):t<E.fn.ntmps∧f t=.pv p:=by
 simp only[bh]at h;cases e:Nat.blt t E.fn.ntmps with
 |true=>rw[e]at h;exact⟨by rwa[Nat.blt_eq]at e,h⟩
 |false=>rw[e]at h;cases h
theorem Na{F:Fr}(h:qt f F)(q:Operand):bh E f q=bh E F q∨bh E f q=.top:=by
 cases q with
 |tmp t=>
  simp only[bh];cases Nat.blt t E.fn.ntmps with
  |true=>exact h t
  |false=>exact .inr rfl
 |_=>exact .inl rfl
def mN(nt:Nat)(ops:Array Oper)(A:List (Nat×Bool))(f:Fr):Prop:=∀g∈A,∃t,(ops[g.1]?).bind (·.dst)=some t∧t<nt∧f t=.pv (.bool g.2)
def uk(ops:Array Oper)(A:List (Nat×Bool))(a:Act):Prop:=∀g∈A,∃t,(ops[g.1]?).bind (·.dst)=some t∧a.tmps.getD t undef=.bool g.2
def Tn(ops:Array Oper)(A:List (Nat×Bool))(l:List (Nat×Oper)):Prop:=∀x∈l,∀g∈A,∀t,(ops[g.1]?).bind (·.dst)=some t→x.2.dst≠some t
variable{d:Option Nat}{A:List (Nat×Bool)}
theorem mN.put(h:mN nt ops A f){v:V}(hd:∀g∈A,∀t,(ops[g.1]?).bind (·.dst)=some t→d≠some t):mN nt ops A (gk f d v):=by intro g hg;obtain⟨t,h1,h0,h2⟩:=h g hg;exact⟨t,h1,h0,by rw[dG (hd g hg t h1)];exact h2⟩
variable{o:Oper}
theorem gm(h:qH E o=true):∀d,o.dst=some d→d<E.fn.ntmps:=by intro d hd;simp only[qH,hd]at h;rw[Nat.blt_eq]at h;exact h
variable{b:Bool}
theorem pD{j:Nat}(h:(ops[j]?).bind (·.dst)=some t)(hb:a.tmps.getD t undef=.bool b):yielded ops a.tmps j=some b:=by
 simp only[yielded,h,Option.bind_some];have:a.tmps[t]?=some (.bool b):=by
  rw[Array.getD_eq_getD_getElem?]at hb;cases e:a.tmps[t]? with
  |none=>rw[e]at hb;simp[undef]at hb
  |some x=>rw[e]at hb;simpa using hb
 rw[this]
theorem vF(ho:guardOf o A=none)(hA:uk ops A a):Region.wanted o (yielded ops a.tmps)=true:=by
 unfold guardOf at ho;unfold Region.wanted;split at ho
 ·rename_i hg;simp[hg]
 ·rename_i g hg;split at ho
  ·rename_i cQ;obtain⟨t,h1,h2⟩:=hA g (by simpa using cQ);simp only[hg];rw[pD h1 h2];simp
  ·cases ho
theorem uk.put(h:uk ops A a){y:Value}(hs:∀t,d=some t→t<a.tmps.size)(hd:∀g∈A,∀t,(ops[g.1]?).bind (·.dst)=some t→d≠some t):uk ops A (a.put d y):=by
 intro g hg;obtain⟨t,h1,h2⟩:=h g hg;refine⟨t,h1,?_⟩;cases d with
 |none=>exact h2
 |some d=>rw[y7 (hs d rfl),if_neg fun e=>hd g hg t h1 (by rw[e])];exact h2
def KM(ops:Array Oper)(f:Fr)(o:Oper):Prop:=∃g,o.guard=some g∧∀t,(ops[g.1]?).bind (·.dst)=some t→f t=.bA []∨f t=.pv (.bool (!g.2))
theorem KN{P:Program}{x:Value}(h:ab P μ φ (.bA []) x):x=undef:=by
 cases h with
 | @bA _ xs h1 _=>have:xs= #[]:=Array.eq_empty_of_size_eq_zero (by simpa using h1.symm);subst this;rfl
theorem y9{P:Program}:ab P μ φ (.bA []) undef:=.bA rfl (by simp)
theorem sR{w:World}(h:Rel E.P E.ax nt w0 μ φ f m a w)(hd:KM ops f o):Region.wanted o (yielded ops a.tmps)=false:=by
 obtain⟨g,hg,ht⟩:=hd;simp only[Region.wanted,hg];cases hs:(ops[g.1]?).bind (·.dst)with
 |none=>simp[yielded,hs]
 |some t=>
  have hy:nt≤t→yielded ops a.tmps g.1=none:=fun hle=>by simp only[yielded,hs,Option.bind_some];rw[Array.getElem?_eq_none (by rw[h.size];exact hle)]
  by_cases Cq:nt≤t
  ·rw[hy Cq];rfl
  have ba:t<nt:=Nat.lt_of_not_le Cq;have h3:=h.fr t;rw[mw ba]at h3;rcases ht t hs with e|e
  ·rw[e]at h3;have h4:=KN h3;have:yielded ops a.tmps g.1=none:=by
    simp only[yielded,hs,Option.bind_some];rw[Array.getD_eq_getD_getElem?]at h4;cases e:a.tmps[t]? with
    |none=>rfl
    |some x=>rw[e]at h4;simp only[Option.getD_some]at h4;subst h4;rfl
   rw[this];rfl
  ·rw[e]at h3;rw[pD hs (mL h3)];cases g.2<;>rfl
theorem pE{t:Nat}:∀{l:List (Nat×Oper)}{f:Fr},(∀x∈l,x.2.dst≠some t)→fU f l t=f t
 |[],_,_=>rfl
 |x::r,f,h=>by rw[fU,pE (fun y hy=>h y (by simp[hy])),dG (h x (by simp))]
theorem se{t:Nat}:∀{l:List (Nat×Oper)}{f:Fr},(∀x∈l,x.2.dst≠some t)→jJ f l t=f t
 |[],_,_=>rfl
 |x::r,f,h=>by rw[jJ,se (fun y hy=>h y (by simp[hy])),dG (h x (by simp))]
theorem vG{t:Nat}:∀{l:List (Nat×Oper)}{f:Fr},(f t=.top∨∃x∈l,x.2.dst=some t)→jJ f l t=.top
 |[],_,h=>by
  rcases h with h|⟨x,hx,_⟩
  ·exact h
  ·cases hx
 |x::r,f,h=>by
  rw[jJ];by_cases e:x.2.dst=some t
  ·exact vG (.inl (by rw[e,gW]))
  ·refine vG ?_;rcases h with h|⟨y,hy,hd⟩
   ·exact .inl (by rw[dG e];exact h)
   ·rcases List.mem_cons.1 hy with rfl|hy
    ·exact absurd hd e
    ·exact .inr ⟨y,hy,hd⟩
theorem sf{l:List (Nat×Oper)}{F:Fr}(h:∀t,(∀x∈l,x.2.dst≠some t)→f t=F t∨f t=.top):qt (jJ f l) F:=by
 intro t;by_cases e:∃x∈l,x.2.dst=some t
 ·exact .inr (vG (.inr e))
 ·have e':∀x∈l,x.2.dst≠some t:=fun x hx hd=>e ⟨x,hx,hd⟩;rw[se e'];exact h t e'
theorem uo{g:Nat×Bool}{tj:Nat}(hj:(ops[g.1]?).bind (·.dst)=some tj):∀{l:List (Nat×Oper)}{done:List Nat}{f:Fr},qG g done l=true→(∀x∈l,ops[x.1]?=some x.2)→(∀x∈l,x.2.dst≠some tj)→f tj=.pv (.bool (!g.2))→(∀j∈done,∀t,(ops[j]?).bind (·.dst)=some t→f t=.bA [])→∀(pre post:List (Nat×Oper))(x:Nat×Oper),l=pre++x::post→KM ops (fU f pre) x.2
 |[],_,_,_,_,_,_,_,pre,post,x,h=>by simp at h
 |y::r,done,f,hg,hl,hd,hb,F7,pre,post,x,h=>by
  simp only[qG,Bool.and_eq_true]at hg;cases pre with
  |nil=>
   simp only[List.nil_append,List.cons.injEq]at h;obtain⟨rfl,rfl⟩:=h;rw[fU];have h1:=hg.1;split at h1
   ·rename_i hh Nb;refine⟨hh,Nb,fun t ht=>?_⟩;rcases Bool.or_eq_true_iff.1 h1 with h2|h2
    ·simp only[Bool.and_eq_true]at h2;have e1:=Nat.eq_of_beq_eq_true h2.1;have e2:hh.2=g.2:=by simpa using h2.2
     rw[e1]at ht;rw[hj]at ht;cases ht;exact .inr (by rw[e2];exact hb)
    ·exact .inl (F7 _ (by simpa using h2) t ht)
   ·cases h1
  |cons z pre=>
   simp only[List.cons_append,List.cons.injEq]at h;obtain⟨rfl,h⟩:=h;rw[fU];refine uo hj hg.2 (fun x hx=>hl x (by simp[hx])) (fun x hx=>hd x (by simp[hx])) (by rw[dG (hd y (by simp))];exact hb) (fun j hjm t ht=>?_) pre post x h;by_cases e:y.2.dst=some t
   ·rw[e,gW]
   ·rw[dG e];rcases List.mem_cons.1 hjm with rfl|hjm
    ·rw[hl y (by simp)]at ht;exact absurd ht e
    ·exact F7 j hjm t ht
theorem za{A:List (Nat×Bool)}:∀{l a b:List (Nat×Oper)},wv A l=(a,b)→l=a++b
 |[],a,b,h=>by simp[wv]at h;obtain⟨rfl,rfl⟩:=h;rfl
 |x::r,a,b,h=>by
  simp only[wv]at h;split at h
  ·cases hs:wv A r with
   |mk a' b'=>rw[hs]at h;simp only[Prod.mk.injEq]at h;obtain⟨rfl,rfl⟩:=h;rw[za hs];rfl
  ·simp only[Prod.mk.injEq]at h;obtain⟨rfl,rfl⟩:=h;rfl
theorem uq{v:V}(h:sD v=some b):v=.pv (.bool b):=by
 unfold sD at h;split at h
 ·cases h;rfl
 ·cases h
theorem RG(hE:gP E){site:Nat}{draw:Bool}{v:V}{f':Fr}{m':Mem}{ft:aY}(hn:draw=true∨∃c x y,o.op=.pick c x y)(h:∀(R':Type)(k':V→Fr→Mem→aY→Option R'),Dv E draw site o f m k'=k' v f' m' ft):pB E draw site o f m v f' m' ft:=by
 have hx:=Cy hE (h (V×Fr×Mem×aY) fun v f m ft=>some (v,f,m,ft));rcases hx with⟨v1,f1,m1,UP,h1,h2⟩|⟨h1,h2,_⟩
 rotate_left
 ·rcases hn with hn|⟨c,x,y,hn⟩
  ·rw[hn]at h1;cases h1
  ·exact absurd hn (h2 c x y)
 simp only[Option.some.injEq,Prod.mk.injEq]at h1;obtain⟨rfl,rfl,rfl,rfl⟩:=h1;exact h2
theorem DZ{R:Type}{site:Nat}{draw:Bool}{p:Oper}{c:Nat}{x y:Operand}{k:V→Fr→Mem→aY→Option R}(hp:p.op=.pick (.tmp c) x y)(hb:bh E f (.tmp c)=.pv (.bool b)):Dv E draw site p f m k=k (bh E f (if b then x else y)) f m []:=by
 have il:s9 E site p f m=none:=by simp only[s9,hp]
 unfold Dv;rw[il];have e:(bif draw then none else bif E.u7 site then(none:Option Sp)else none)=none:=by cases draw<;>cases E.u7 site<;>rfl
 rw[e];simp only[cu,hp,hb];cases b<;>rfl
end
end Go.Ab
set_option linter.unusedVariables false
namespace Go.Ab
open Go.RowKit (Below)
section
variable {E:Env} {ops:Array Oper} {w0:bg}
theorem qU{rd:Option Nat}{Q:Exit→Act→World→Prop}{tail:List Nat}:∀(l:List (Nat×Oper))(f:Fr),(∀x∈l,ops[x.1]?=some x.2)→(∀x∈l,qH E x.2=true)→(∀(pre post:List (Nat×Oper))(x:Nat×Oper),l=pre++x::post→KM ops (fU f pre) x.2)→∀{μ:Ro}{φ:Nat→aw}{m:Mem}{a:Act}{w:World},Rel E.P E.ax E.fn.ntmps w0 μ φ f m a w→∀(A:List (Nat×Bool)),uk ops A a→Tn ops A l→(∀a',Rel E.P E.ax E.fn.ntmps w0 μ φ (fU f l) m a' w→uk ops A a'→wpOpsIn (FR rd) 0 E.P ops Q tail a' w)→wpOpsIn (FR rd) 0 E.P ops Q (l.map (·.1)++tail) a w
 |[],f,_,_,_,_,_,_,a,_,hR,_,hA,_,hK=>hK a hR hA
 |x::r,f,hl,hd,zb,μ,φ,m,a,w,hR,A,hA,zd,hK=>by simp only[List.map_cons,List.cons_append,wpOpsIn];rw[hl x (by simp)];simp only;rw[sR hR (zb [] r x rfl)];simp only[Bool.false_eq_true,if_false];refine And.intro (fun _ _=>trivial) (qU r (gk f x.2.dst (.bA [])) (fun y hy=>hl y (by simp[hy])) (fun y hy=>hd y (by simp[hy])) (fun pre post y h=>?_) (hR.put (fun _ _ h=>h) (gm (hd x (by simp))) hR.toal hR.iq y9 (fun id hid=>by simp[V.has,bO]at hid)) A (hA.put (fun t ht=>by rw[hR.size];exact gm (hd x (by simp)) t ht) fun g ma t ht=>zd x (by simp) g ma t ht) (fun y hy=>zd y (by simp[hy])) hK);have:=zb (x::pre) post y (by rw[h];rfl);rwa[fU]at this
theorem tn:∀{ft:aY},tX ft=true→∀x∈ft,x.1=false
 |[],_,x,hx=>by cases hx
 |(w,id)::r,h,x,hx=>by
  simp only[tX,Bool.and_eq_true,Bool.not_eq_true']at h;rcases List.mem_cons.1 hx with rfl|hx
  ·exact h.1
  ·exact tn h.2 x hx
theorem fR(hE:gP E){rd:Option Nat}(hY:oM E.P E.ax E.fn.ntmps E.yl w0):∀(fuel:Nat){mode:Nat}(gH:mode=0∨mode=3){R:Type}{A:List (Nat×Bool)}{l:List (Nat×Oper)}{f:Fr}{m:Mem}{lg:Log}{k:Fr→Mem→Option R}{r:R},bM E ops mode fuel R A l f m lg k=some r→(∀x∈l,ops[x.1]?=some x.2)→Tn ops A l→(mode=3→∀x∈l,eH x.2=true)→∀(μ:Ro)(φ:Nat→aw)(a:Act)(w:World)(Q:Exit→Act→World→Prop)(tail:List Nat),Rel E.P E.ax E.fn.ntmps w0 μ φ f m a w→uk ops A a→(∀(f':Fr)(m':Mem)(μ':Ro)(φ':Nat→aw)(a':Act)(w':World),k f' m'=some r→Rel E.P E.ax E.fn.ntmps w0 μ' φ' f' m' a' w'→uk ops A a'→(mode=3→m'=m∧∀t,(∀x∈l,x.2.dst≠some t)→f' t=f t)→wpOpsIn (FR rd) 0 E.P ops Q tail a' w')→wpOpsIn (FR rd) 0 E.P ops Q (l.map (·.1)++tail) a w
 |0,_,_,_,_,_,_,_,_,_,_,h,_,_,_,_,_,_,_,_,_,_,_,_=>by simp[bM]at h
 |fuel+1,mode,gH,R,A,[],f,m,lg,k,r,h,_,_,_,μ,φ,a,w,Q,tail,hR,hA,hK=>by simp only[bM]at h;exact hK f m μ φ a w h hR hA fun _=>⟨rfl,fun _ _=>rfl⟩
 |fuel+1,mode,gH,R,A,(i,o)::rest,f,m,lg,k,r,h,hl,zd,L3,μ,φ,a,w,Q,tail,hR,hA,hK=>by
  simp only[bM]at h;split at h
  ·rename_i hg;split at h
   ·rename_i hd;have Jb:Nat.beq mode 2=false:=by rcases gH with rfl|rfl<;>rfl
    simp only[Jb,cond_false]at h;rw[←Jb]at h;have V4:=vE h;rcases Cy hE h with⟨v,f1,m1,ft,hk,KO⟩|⟨_,qA⟩
    rotate_left
    ·simp only[List.map_cons,List.cons_append,wpOpsIn];rw[hl (i,o) (by simp)];simp only;rw[vF hg hA,if_pos rfl];refine y6.tl qA rd w0 μ φ a w _ Q hY hR fun v f1 m1 y w' μ' φ' hk hle hM hF hv Ch=>?_;have bY:Nat.beq mode 2=false:=by rcases gH with rfl|rfl<;>rfl
     rw[bY]at hk;simp only[Bool.false_eq_true,if_false]at hk;rcases gH with rfl|rfl
     ·simp only[Nat.beq,if_true]at hk;exact fR hE hY fuel (.inl rfl) hk (fun x hx=>hl x (by simp[hx])) (fun x hx=>zd x (by simp[hx])) (fun hm x hx=>L3 hm x (by simp[hx])) _ _ _ _ Q tail (hR.put hle (gm hd) hM hF hv Ch) (hA.put (fun t ht=>by rw[hR.size];exact gm hd t ht) fun g ma t ht=>zd (i,o) (by simp) g ma t ht) fun f' m' μ2 φ2 a' w2 sx gE qy kU=>hK f' m' μ2 φ2 a' w2 sx gE qy fun h=>by cases h
     ·simp[Nat.beq,tX]at hk
    have bY:Nat.beq mode 2=false:=by rcases gH with rfl|rfl<;>rfl
    rw[bY]at hk;simp only[Bool.false_eq_true,if_false]at hk;have hq:(mode=3→f1=f∧m1=m)∧bM E ops mode fuel R A rest (gk f1 o.dst v) m1 lg k=some r:=by
     rcases gH with rfl|rfl
     ·simp only[Nat.beq,if_true]at hk;exact⟨fun h=>(by cases h),hk⟩
     ·simp only[Nat.beq,Bool.false_eq_true,if_false]at hk;split at hk
      ·rename_i hqf;exact⟨fun h=>KO.same (L3 rfl (i,o) (by simp)) (tn hqf),hk⟩
      ·cases hk
    obtain⟨Nc,hk⟩:=hq;simp only[List.map_cons,List.cons_append,wpOpsIn];rw[hl (i,o) (by simp)];simp only;rw[vF hg hA,if_pos rfl];refine KO.tl V4 rd w0 μ φ a w _ Q hR fun y w' μ' φ' hle hM hF hv Ch=>?_;refine fR hE hY fuel gH hk (fun x hx=>hl x (by simp[hx])) (fun x hx=>zd x (by simp[hx])) (fun hm x hx=>L3 hm x (by simp[hx])) _ _ _ _ Q tail (hR.put hle (gm hd) hM hF hv Ch) (hA.put (fun t ht=>by rw[hR.size];exact gm hd t ht) fun g ma t ht=>zd (i,o) (by simp) g ma t ht) fun f' m' μ2 φ2 a' w2 sx gE qy kU=>?_;refine hK f' m' μ2 φ2 a' w2 sx gE qy fun RH=>?_;obtain⟨e1,e2⟩:=Nc RH;obtain⟨e3,e4⟩:=kU RH;refine⟨by rw[e3,e2],fun t ht=>?_⟩;rw[e4 t fun x hx=>ht x (by simp[hx]),dG (ht (i,o) (by simp)),e1]
   ·cases h
  ·rename_i j vl hg;split at h
   ·rename_i tj L4;split at h
    ·rename_i b hb;have Nf:tj<E.fn.ntmps:=by
      simp only[bh]at hb;cases e:Nat.blt tj E.fn.ntmps with
      |true=>rwa[Nat.blt_eq]at e
      |false=>rw[e]at hb;cases hb
     have V8:f tj=.pv (.bool b):=by simp only[bh]at hb;rw[show Nat.blt tj E.fn.ntmps=true by rw[Nat.blt_eq];exact Nf]at hb;exact hb
     have hba:a.tmps.getD tj undef=.bool b:=by have:=(ah hR (.tmp tj)).1;rw[hb]at this;exact mL this
     generalize il:wv A ((i,o)::rest)=sp at h;obtain⟨body,Dx⟩:=sp;have jU:=za il;simp only at h;split at h
     ·rename_i RI;split at h
      ·rename_i hc;simp only[Bool.and_eq_true,List.all_eq_true,Bool.not_eq_true',beq_eq_false_iff_ne,ne_eq]at hc RI;obtain⟨⟨Cm,V9⟩,RJ⟩:=hc;have Wa:mode=0:=Nat.eq_of_beq_eq_true RI.1;subst Wa;have cQ:∀z∈body,z∈(i,o)::rest:=fun z hz=>by rw[jU];simp[hz]
       have pZ:∀z∈Dx,z∈(i,o)::rest:=fun z hz=>by rw[jU];simp[hz]
       by_cases KP:b=vl
       ·have:Mk vl b=true:=by subst KP;cases b<;>rfl
        rw[this]at h;simp only[cond]at h;have To:eS f tj (.pv (.bool vl))=f:=funext fun t=>by
         unfold eS;cases e:Nat.beq t tj with
         |false=>rfl
         |true=>rw[Nat.eq_of_beq_eq_true e];simp only[cond];rw[←KP];exact V8.symm
        rw[To]at h;refine fR hE hY fuel gH h hl (fun z hz g ma t ht=>?_) (fun h=>by cases h) _ _ _ _ Q tail hR (fun g ma=>?_) fun f' m' μ2 φ2 a' w2 sx gE qy kU=>hK f' m' μ2 φ2 a' w2 sx gE (fun g ma=>qy g (by simp[ma])) fun h=>by cases h
        ·rcases List.mem_cons.1 ma with rfl|ma
         ·simp only[L4]at ht;cases ht;exact RJ z hz
         ·exact zd z hz g ma t ht
        ·rcases List.mem_cons.1 ma with rfl|ma
         ·exact⟨tj,L4,by rw[hba,KP]⟩
         ·exact hA g ma
       ·have:Mk vl b=false:=by cases b<;>cases vl<;>first|rfl|exact absurd rfl KP
        rw[this]at h;simp only[cond]at h;have hbn:b= !vl:=by cases b<;>cases vl<;>first|rfl|exact absurd rfl KP
        have To:eS f tj (.pv (.bool !vl))=f:=funext fun t=>by
         unfold eS;cases e:Nat.beq t tj with
         |false=>rfl
         |true=>rw[Nat.eq_of_beq_eq_true e];simp only[cond];rw[←hbn];exact V8.symm
        rw[To]at h;rw[jU,List.map_append,List.append_assoc];refine qU body f (fun z hz=>hl z (cQ z hz)) Cm (uo L4 V9 (fun z hz=>hl z (cQ z hz)) (fun z hz=>RJ z (cQ z hz)) (by rw[V8,hbn]) (by simp)) hR A hA (fun z hz g ma t ht=>zd z (cQ z hz) g ma t ht) fun a' gE qy=>?_
        ·refine fR hE hY fuel gH h (fun z hz=>hl z (pZ z hz)) (fun z hz=>zd z (pZ z hz)) (fun h=>by cases h) _ _ _ _ Q tail gE qy fun f' m' μ2 φ2 a' w2 sx gE qy kU=>hK f' m' μ2 φ2 a' w2 sx gE qy fun h=>by cases h
      ·cases h
     ·split at h
      ·rename_i ip p jK;split at h
       ·rename_i c x y Ga;split at h
        ·rename_i hc;simp only[Bool.and_eq_true,List.all_eq_true,Bool.not_eq_true',beq_eq_false_iff_ne,ne_eq]at hc;obtain⟨⟨⟨⟨⟨⟨Gb,Tp⟩,sS⟩,V9⟩,_⟩,Z6⟩,_⟩:=hc;have Gb:=Nat.eq_of_beq_eq_true Gb;subst Gb;have Tp:guardOf p A=none:=by simpa using Tp
         obtain⟨rb,Gc,h⟩:=Option.bind_eq_some_iff.1 h;have cQ:∀z∈body,z∈(i,o)::rest:=fun z hz=>by rw[jU];simp[hz]
         have pZ:∀z∈jK,z∈(i,o)::rest:=fun z hz=>by rw[jU];simp[hz]
         have D2:(ip,p)∈(i,o)::rest:=by rw[jU];simp
         rw[jU,List.map_append,List.append_assoc];have after:∀(f1:Fr)(μ1:Ro)(φ1:Nat→aw)(a1:Act)(w1:World)(q:Operand),Rel E.P E.ax E.fn.ntmps w0 μ1 φ1 f1 m a1 w1→uk ops A a1→(∀t,(∀z∈body,z.2.dst≠some t)→f1 t=f t)→bh E f1 q=.pv (.bool rb)→(q=if b then x else y)→wpOpsIn (FR rd) 0 E.P ops Q (((ip,p)::jK).map (·.1)++tail) a1 w1:=by
          intro f1 μ1 φ1 a1 w1 q Gd Wb Tr hq Z7;have Px:bh E f1 (.tmp c)=.pv (.bool b):=by simp only[bh];rw[show Nat.blt c E.fn.ntmps=true by rw[Nat.blt_eq];exact Nf];show f1 c=_;rw[Tr c fun z hz=>(sS z hz).2];exact V8
          simp only[List.map_cons,List.cons_append,wpOpsIn];rw[hl (ip,p) D2];simp only;rw[vF Tp Wb,if_pos rfl];have KO:pB E (Nat.beq mode 1||Nat.beq mode 2) (cg E p.dst) p f1 m (.pv (.bool rb)) f1 m []:=RG hE (.inr ⟨_,_,_,Ga⟩) fun R' k'=>by rw[DZ Ga Px,←Z7,hq]
          refine KO.tl (fun c h=>by rw[Ga]at h;cases h) rd w0 μ1 φ1 a1 w1 _ Q Gd fun z w' μ' φ' kU hM hF hv Ch=>?_;have hle:qt (gk (jJ f body) p.dst (.pv (.bool rb))) (gk f1 p.dst (.pv (.bool rb))):=qt.put (sf fun t ht=>.inl (Tr t ht).symm) _ _;refine fR hE hY fuel gH h (fun z hz=>hl z (pZ z hz)) (fun z hz=>zd z (pZ z hz)) (fun hm z hz=>L3 hm z (pZ z hz)) _ _ _ _ Q tail ((Gd.put kU (gm Z6) hM hF hv Ch).weaken hle) (Wb.put (fun t ht=>by rw[Gd.size];exact gm Z6 t ht) fun g ma t ht=>zd (ip,p) D2 g ma t ht) fun f' m' μ2 φ2 a' w2 sx gE qy kU=>?_;refine hK f' m' μ2 φ2 a' w2 sx gE qy fun RH=>?_;obtain⟨e3,e4⟩:=kU RH;refine⟨e3,fun t ht=>?_⟩;rw[e4 t fun z hz=>ht z (pZ z hz),dG (ht (ip,p) D2),se fun z hz=>ht z (cQ z hz)]
         have go:∀q,b=vl→(q=if b then x else y)→bM E ops 3 fuel Bool ((j,vl)::A) body f m lg (fun f _=>sD (bh E f q))=some rb→wpOpsIn (FR rd) 0 E.P ops Q (body.map (·.1)++(((ip,p)::jK).map (·.1)++tail)) a w:=by
          intro q KP hq Qn;refine fR hE hY fuel (.inr rfl) Qn (fun z hz=>hl z (cQ z hz)) ?_ (fun _ z hz=>(sS z hz).1.1) _ _ _ _ Q _ hR ?_ fun f' m' μ2 φ2 a' w2 sx gE qy kU=>?_
          ·intro z hz g ma t ht;rcases List.mem_cons.1 ma with rfl|ma
           ·simp only[L4]at ht;cases ht;exact(sS z hz).2
           ·exact zd z (cQ z hz) g ma t ht
          ·intro g ma;rcases List.mem_cons.1 ma with rfl|ma
           ·exact⟨c,L4,by rw[hba,KP]⟩
           ·exact hA g ma
          ·obtain⟨e1,e2⟩:=kU rfl;subst e1;exact after f' μ2 φ2 a' w2 q gE (fun g ma=>qy g (by simp[ma])) e2 (uq sx) hq
         have no:∀q,b= !vl→(q=if b then x else y)→sD (bh E (jJ f body) q)=some rb→wpOpsIn (FR rd) 0 E.P ops Q (body.map (·.1)++(((ip,p)::jK).map (·.1)++tail)) a w:=by
          intro q KP hq Qn;refine qU body f (fun z hz=>hl z (cQ z hz)) (fun z hz=>(sS z hz).1.2) (uo L4 V9 (fun z hz=>hl z (cQ z hz)) (fun z hz=>(sS z hz).2) (by rw[V8,KP]) (by simp)) hR A hA (fun z hz g ma t ht=>zd z (cQ z hz) g ma t ht) fun a' gE qy=>?_;refine after _ μ φ a' w q gE qy (fun t ht=>pE ht) ?_ hq;have hv:=uq Qn;cases q with
          |tmp t=>
           simp only[bh]at hv⊢;have hle:qt (jJ f body) (fU f body):=sf fun t ht=>.inl (pE ht).symm;cases e:Nat.blt t E.fn.ntmps with
           |false=>rw[e]at hv;cases hv
           |true=>
            rw[e]at hv;simp only[cond]at hv⊢;rcases hle t with e|e
            ·rw[←e];exact hv
            ·rw[e]at hv;cases hv
          |_=>exact hv
         have Wc:(bif Nat.beq mode 0 then 3 else mode)=3:=by rcases gH with rfl|rfl<;>rfl
         rw[Wc]at Gc;cases vl<;>cases b<;>simp only[cond]at Gc
         ·exact go y rfl rfl Gc
         ·exact no x rfl rfl Gc
         ·exact no y rfl rfl Gc
         ·exact go x rfl rfl Gc
        ·cases h
       ·cases h
      ·cases h
    ·cases h
   ·cases h
end
end Go.Ab
set_option linter.unusedVariables false
namespace Go.Ab
open Go.RowKit (Below)
structure Rec where
 i:Nat
 o:Oper
 v:V
 wr:List (Nat×bn)
 ft:aY
 kl:Kl
def Rec.fs(r:Rec)(f:Fr):Fr:=gk (kf r.kl f) r.o.dst r.v
def Rec.ms(r:Rec)(m:Mem):Mem:=oG r.wr (km r.kl m)
def Rec.Bm(r:Rec)(id:Nat):Prop:=∃b,(b,id)∈r.kl
def jH(f:Fr):List Rec→Fr
 |[]=>f
 |r::l=>jH (r.fs f) l
def lX(m:Mem):List Rec→Mem
 |[]=>m
 |r::l=>lX (r.ms m) l
def lj(S:Nat→Bool)(f:Fr):List Rec→Fr
 |[]=>f
 |r::l=>lj S (bif S r.i then r.fs f else f) l
def lk(S:Nat→Bool)(m:Mem):List Rec→Mem
 |[]=>m
 |r::l=>lk S (bif S r.i then r.ms m else m) l
theorem ze:∀{wr:List (Nat×bn)}{m:Mem}{j:Nat},(∀b,(j,b)∉wr)→oG wr m j=m j
 |[],_,_,_=>rfl
 |(id,b)::r,m,j,h=>by rw[oG,ze fun b' hb=>h b' (by simp[hb])];exact ak fun e=>h b (by simp[e])
theorem Ng:∀{wr:List (Nat×bn)}{j:Nat},(∃b,(j,b)∈wr)→∃b',(j,b')∈wr∧∀m:Mem,oG wr m j=some b'
 |[],_,h=>by obtain⟨b,hb⟩:=h;cases hb
 |(id,b)::r,j,h=>by
  by_cases hr:∃b,(j,b)∈r
  ·obtain⟨b',h1,h2⟩:=Ng hr;exact⟨b',by simp[h1],fun m=>h2 _⟩
  ·obtain⟨b0,hb⟩:=h;rcases List.mem_cons.1 hb with hb|hb
   ·simp only[Prod.mk.injEq]at hb;obtain⟨rfl,rfl⟩:=hb;refine⟨b0,by simp,fun m=>?_⟩;rw[oG,ze fun b' fl=>hr ⟨b',fl⟩];simp
   ·exact absurd ⟨b0,hb⟩ hr
mutual
theorem D3{id:Nat}:∀{v:V},v.qo id=true→v.has id=true
 |.agg cs,h=>pF (cs:=cs) (by simpa[V.qo]using h)
 |.bA cs,h=>pF (cs:=cs) (by simpa[V.qo]using h)
 |.fn _ cs,h=>pF (cs:=cs) (by simpa[V.qo]using h)
 |.qD _ _ _,h=>h
 |.tP _ _ _ _ _ _,h=>h
 |.pv _,h=>by cases h
 |.aX,h=>by cases h
 |.op _ _,h=>by cases h
 |.oe _ _ _,h=>by cases h
 |.os _,h=>by cases h
 |.eR _ _ _,h=>by cases h
 |.om _,h=>by cases h
 |.yl _,h=>by cases h
 |.it _,h=>by cases h
 |.top,h=>by cases h
theorem pF{id:Nat}:∀{cs:List V},tR id cs=true→bO id cs=true
 |[],h=>by cases h
 |c::r,h=>by
  simp only[tR,Bool.or_eq_true]at h;simp only[bO,Bool.or_eq_true];rcases h with h|h
  ·exact .inl (D3 h)
  ·exact .inr (pF h)
end
variable{id:Nat}
theorem wS{v:V}(h:v.has id=false):nC id v=v:=by unfold nC;rw[h];rfl
theorem wT{id:Nat}:∀{cs:List V},bO id cs=false→cs.map (nC id)=cs
 |[],_=>rfl
 |c::r,h=>by simp only[bO,Bool.or_eq_false_iff]at h;simp only[List.map_cons,wS h.1,wT h.2]
theorem D4{b:bn}(h:b.names id=false):ff id b=b:=by
 cases b with
 |box cs=>simp only[ff,wT (show bO id cs=false from h)]
 |_=>rfl
theorem ur{v:V}(h:v.has id=false):kG id v=v:=by
 unfold kG;cases h2:v.qo id with
 |false=>rfl
 |true=>rw[D3 h2]at h;cases h
theorem uu{id:Nat}:∀{cs:List V},bO id cs=false→cs.map (kG id)=cs
 |[],_=>rfl
 |c::r,h=>by simp only[bO,Bool.or_eq_false_iff]at h;simp only[List.map_cons,ur h.1,uu h.2]
theorem Cz{b:bn}(h:b.names id=false):dE id b=b:=by
 cases b with
 |box cs=>simp only[dE,uu (show bO id cs=false from h)]
 |_=>rfl
theorem zf:∀{kl:Kl}{f:Fr}{t:Nat},(∀id,(∃b,(b,id)∈kl)→(f t).has id=false)→kf kl f t=f t
 |[],_,_,_=>rfl
 |(true,id)::r,f,t,h=>by have h0:eB id f t=f t:=wS (h id ⟨true,by simp⟩);rw[kf,zf (kl:=r) (f:=eB id f) fun j hj=>by rw[h0];exact h j (let⟨b,hb⟩:=hj;⟨b,by simp[hb]⟩),h0]
 |(false,id)::r,f,t,h=>by have h0:fH id f t=f t:=ur (h id ⟨false,by simp⟩);rw[kf,zf (kl:=r) (f:=fH id f) fun j hj=>by rw[h0];exact h j (let⟨b,hb⟩:=hj;⟨b,by simp[hb]⟩),h0]
theorem uv:∀{kl:Kl}{f g:Fr}{t:Nat},f t=g t→kf kl f t=kf kl g t
 |[],_,_,_,h=>h
 |(true,id)::r,f,g,t,h=>uv (kl:=r) (f:=eB id f) (g:=eB id g) (by simp only[eB,h])
 |(false,id)::r,f,g,t,h=>uv (kl:=r) (f:=fH id f) (g:=fH id g) (by simp only[fH,h])
theorem zg:∀{kl:Kl}{m:Mem}{j:Nat},(∀id,(∃b,(b,id)∈kl)→j≠id∧∀b,m j=some b→b.names id=false)→km kl m j=m j
 |[],_,_,_=>rfl
 |(true,id)::r,m,j,h=>by
  obtain⟨h1,h2⟩:=h id ⟨true,by simp⟩;have h0:aQ (bk id m) id j=m j:=by
   rw[eC h1];unfold bk;cases hm:m j with
   |none=>rfl
   |some b=>simp only[D4 (h2 b hm)]
  rw[km,zg (kl:=r) (m:=aQ (bk id m) id) fun i hi=>by rw[h0];exact h i (let⟨b,hb⟩:=hi;⟨b,by simp[hb]⟩),h0]
 |(false,id)::r,m,j,h=>by
  obtain⟨h1,h2⟩:=h id ⟨false,by simp⟩;have h0:eE id m j=m j:=by
   unfold eE;cases hm:m j with
   |none=>rfl
   |some b=>simp only[Cz (h2 b hm)]
  rw[km,zg (kl:=r) (m:=eE id m) fun i hi=>by rw[h0];exact h i (let⟨b,hb⟩:=hi;⟨b,by simp[hb]⟩),h0]
theorem zh:∀{kl:Kl}{m n:Mem}{j:Nat},m j=n j→km kl m j=km kl n j
 |[],_,_,_,h=>h
 |(true,id)::r,m,n,j,h=>zh (kl:=r) (m:=aQ (bk id m) id) (n:=aQ (bk id n) id) (by
  by_cases e:j=id
  ·subst e;simp
  ·rw[eC e,eC e];simp only[bk,h])
 |(false,id)::r,m,n,j,h=>zh (kl:=r) (m:=eE id m) (n:=eE id n) (by simp only[eE,h])
variable{r:Rec}
theorem Rec.D5{f:Fr}{t:Nat}(h:r.o.dst=some t):r.fs f t=r.v:=by unfold Rec.fs;rw[h,gW]
theorem Rec.Jf{f:Fr}{t:Nat}(h:r.o.dst≠some t)(hc:∀id,r.Bm id→(f t).has id=false):r.fs f t=f t:=by unfold Rec.fs;rw[dG h];exact zf hc
theorem Rec.zi{f g:Fr}{t:Nat}(h:f t=g t):r.fs f t=r.fs g t:=by
 by_cases e:r.o.dst=some t
 ·rw[D5 e,D5 e]
 ·unfold Rec.fs;rw[dG e,dG e];exact uv h
theorem Rec.RL{j:Nat}(h:∃b,(j,b)∈r.wr):∃b',(j,b')∈r.wr∧∀m,r.ms m j=some b':=let⟨b',h1,h2⟩:=Ng h;⟨b',h1,fun m=>h2 _⟩
theorem Rec.Nh{m:Mem}{j:Nat}(h:∀b,(j,b)∉r.wr)(hc:∀id,r.Bm id→j≠id∧∀b,m j=some b→b.names id=false):r.ms m j=m j:=by unfold Rec.ms;rw[ze h];exact zg hc
theorem Rec.zj{m n:Mem}{j:Nat}(h:m j=n j):r.ms m j=r.ms n j:=by
 by_cases e:∃b,(j,b)∈r.wr
 ·obtain⟨b,_,e⟩:=Rec.RL e;rw[e,e]
 ·have e':∀b,(j,b)∉r.wr:=fun b hb=>e ⟨b,hb⟩;unfold Rec.ms;rw[ze e',ze e'];exact zh h
section
variable {S S':Nat→Bool}
theorem D6{f:Fr}:∀{l l':List Rec},jH f (l++l')=jH (jH f l) l':=by
 intro l;induction l generalizing f with
 |nil=>intro l';rfl
 |cons r l ih=>intro l';exact ih
theorem D7{m:Mem}:∀{l l':List Rec},lX m (l++l')=lX (lX m l) l':=by
 intro l;induction l generalizing m with
 |nil=>intro l';rfl
 |cons r l ih=>intro l';exact ih
theorem qV{f:Fr}:∀{l l':List Rec},lj S f (l++l')=lj S (lj S f l) l':=by
 intro l;induction l generalizing f with
 |nil=>intro l';rfl
 |cons r l ih=>intro l';exact ih
theorem qW{m:Mem}:∀{l l':List Rec},lk S m (l++l')=lk S (lk S m l) l':=by
 intro l;induction l generalizing m with
 |nil=>intro l';rfl
 |cons r l ih=>intro l';exact ih
theorem Bn{t:Nat}:∀{l:List Rec}{f:Fr},(∀q∈l,q.o.dst≠some t∧q.kl=[])→jH f l t=f t
 |[],_,_=>rfl
 |r::l,f,h=>by rw[jH,Bn fun q hq=>h q (by simp[hq])];obtain⟨h1,h2⟩:=h r (by simp);exact Rec.Jf h1 fun id⟨b,hid⟩=>by rw[h2]at hid;cases hid
theorem mb{t:Nat}:∀{l:List Rec}{f:Fr},(∀q∈l,S q.i=true→q.o.dst≠some t∧∀id,q.Bm id→(f t).has id=false)→lj S f l t=f t
 |[],_,_=>rfl
 |r::l,f,h=>by
  have h0:(bif S r.i then r.fs f else f) t=f t:=by
   cases e:S r.i with
   |false=>rfl
   |true=>obtain⟨h1,h2⟩:=h r (by simp) e;exact Rec.Jf h1 h2
  rw[lj,mb fun q hq hs=>by rw[h0];exact h q (by simp[hq]) hs,h0]
theorem zk{t:Nat}:∀{l:List Rec}{f g:Fr},f t=g t→(∀q∈l,S q.i=false→q.o.dst≠some t∧q.kl=[])→lj S f l t=jH g l t
 |[],_,_,h,_=>h
 |r::l,f,g,h,hs=>by
  rw[lj,jH];refine zk ?_ fun q hq=>hs q (by simp[hq]);cases e:S r.i with
  |true=>exact Rec.zi h
  |false=>obtain⟨h1,h2⟩:=hs r (by simp) e;rw[Rec.Jf h1 fun id⟨b,hid⟩=>by rw[h2]at hid;cases hid];exact h
theorem tp{t:Nat}:∀{l:List Rec}{f g:Fr},f t=g t→(∀q∈l,S q.i=S' q.i)→lj S f l t=lj S' g l t
 |[],_,_,h,_=>h
 |r::l,f,g,h,hs=>by
  rw[lj,lj];refine tp ?_ fun q hq=>hs q (by simp[hq]);rw[hs r (by simp)];cases S' r.i
  ·exact h
  ·exact Rec.zi h
theorem mc{j:Nat}:∀{l:List Rec}{m:Mem},(∀q∈l,S q.i=true→(∀b,(j,b)∉q.wr)∧∀id,q.Bm id→j≠id∧∀b,m j=some b→b.names id=false)→lk S m l j=m j
 |[],_,_=>rfl
 |r::l,m,h=>by
  have h0:(bif S r.i then r.ms m else m) j=m j:=by
   cases e:S r.i with
   |false=>rfl
   |true=>obtain⟨h1,h2⟩:=h r (by simp) e;exact Rec.Nh h1 h2
  rw[lk,mc fun q hq hs=>by rw[h0];exact h q (by simp[hq]) hs,h0]
theorem zl{j:Nat}:∀{l:List Rec}{m n:Mem},m j=n j→(∀q∈l,S q.i=false→(∀b,(j,b)∉q.wr)∧q.kl=[])→lk S m l j=lX n l j
 |[],_,_,h,_=>h
 |r::l,m,n,h,hs=>by
  rw[lk,lX];refine zl ?_ fun q hq=>hs q (by simp[hq]);cases e:S r.i with
  |true=>exact Rec.zj h
  |false=>obtain⟨h1,h2⟩:=hs r (by simp) e;rw[Rec.Nh h1 fun id⟨b,hid⟩=>by rw[h2]at hid;cases hid];exact h
theorem tq{j:Nat}:∀{l:List Rec}{m n:Mem},m j=n j→(∀q∈l,S q.i=S' q.i)→lk S m l j=lk S' n l j
 |[],_,_,h,_=>h
 |r::l,m,n,h,hs=>by
  rw[lk,lk];refine tq ?_ fun q hq=>hs q (by simp[hq]);rw[hs r (by simp)];cases S' r.i
  ·exact h
  ·exact Rec.zj h
end
section
variable {E:Env} {ops:Array Oper} {w0:bg}
def Bo(E:Env)(ops:Array Oper)(w0:bg)(r:Rec)(f:Fr)(m:Mem):Prop:=∀(f2:Fr)(m2:Mem),(∀t∈r.o.looksAt ops,f2 t=f t)→(∀x∈r.ft,m2 x.2=m x.2)→∀(μ:Ro)(φ:Nat→aw)(a:Act)(w:World)(K:Act→World→Prop)(Q:Exit→Act→World→Prop),Rel E.P E.ax E.fn.ntmps w0 μ φ f2 m2 a w→(∀μ' φ' a' w',Rel E.P E.ax E.fn.ntmps w0 μ' φ' (r.fs f2) (r.ms m2) a' w'→K a' w')→if Region.wanted r.o (yielded ops a.tmps)then∀rd:Option Nat,r.o.wpIn (FR rd) 0 E.P a w K Q else K (a.put r.o.dst undef) w
def eV(E:Env)(ops:Array Oper)(w0:bg):Fr→Mem→List Rec→Prop
 |_,_,[]=>True
 |f,m,r::l=>Bo E ops w0 r f m∧(∀id b,(id,b)∈r.wr→(true,id)∈r.ft)∧eV E ops w0 (r.fs f) (r.ms m) l
theorem eV.append{f:Fr}{m:Mem}{l l':List Rec}:eV E ops w0 f m (l++l')↔eV E ops w0 f m l∧eV E ops w0 (jH f l) (lX m l) l':=by
 induction l generalizing f m with
 |nil=>simp[eV,jH,lX]
 |cons r l ih=>simp only[List.cons_append,eV,jH,lX,ih,and_assoc]
def Clean(ops:Array Oper)(id:Nat)(r:Rec)(f:Fr)(m:Mem):Prop:=(∀t∈r.o.looksAt ops,(f t).has id=false)∧r.v.has id=false∧(∀x∈r.ft,x.2≠id∧∀b,m x.2=some b→b.names id=false)∧∀j b,(j,b)∈r.wr→(∀m,r.ms m j=some b)→j≠id∧b.names id=false
def kZ(ops:Array Oper):Fr→Mem→List Rec→Prop
 |_,_,[]=>True
 |f,m,r::l=>(∀q∈l,∀id,q.Bm id→reach ops 4 q.o r.i=true∨Clean ops id r f m)∧kZ ops (r.fs f) (r.ms m) l
theorem kZ.append{f:Fr}{m:Mem}{l l':List Rec}(h:kZ ops f m (l++l')):kZ ops (jH f l) (lX m l) l':=by
 induction l generalizing f m with
 |nil=>exact h
 |cons r l ih=>exact ih h.2
def Ord(ops:Array Oper)(q r:Rec):Prop:=reach ops 4 r.o q.i=true∨(q.o.apart ops r.o=true∧(∀id b,(id,b)∈q.wr→∀x∈r.ft,x.2≠id)∧∀id b,(id,b)∈r.wr→∀x∈q.ft,x.2≠id)
theorem KQ{o:Oper}{j:Nat}(h:yj o j=true):∃e∈o.after,Region.binds .any e=true∧e.on=j:=by unfold yj at h;obtain⟨e,he,h⟩:=List.any_eq_true.1 h;have he:e∈o.after:=Array.mem_toList_iff.1 he;simp only[Bool.and_eq_true]at h;exact⟨e,he,h.1,Nat.eq_of_beq_eq_true h.2⟩
abbrev ar(l:Array Bool):Nat→Bool:=fun i=>l.getD i false
def tr(ops:Array Oper)(listed:Array Bool):Prop:=∀i o,ops[i]?=some o→ar listed i=true→∀e∈o.after,Region.binds .any e=true→ar listed e.on=true
theorem mO(listed:Array Bool)(py:tr ops listed):∀(n:Nat)(o:Oper)(j:Nat),(∀e∈o.after,Region.binds .any e=true→ar listed e.on=true)→reach ops n o j=true→ar listed j=true:=by
 have Wd:∀(o:Oper)(j:Nat),(∀e∈o.after,Region.binds .any e=true→ar listed e.on=true)→yj o j=true→ar listed j=true:=fun o j ho h=>by obtain⟨e,he,hb,hon⟩:=KQ h;have:=ho e he hb;rw[hon]at this;exact this
 intro n;induction n with
 |zero=>exact fun o j ho h=>Wd o j ho h
 |succ n ihn=>
  intro o j ho h;simp only[reach,Bool.or_eq_true]at h;rcases h with h|h
  ·exact Wd o j ho h
  ·obtain⟨e,he,h⟩:=List.any_eq_true.1 h;simp only[Bool.and_eq_true]at h;obtain⟨hb,h⟩:=h;have he:e∈o.after:=Array.mem_toList_iff.1 he;split at h
   ·rename_i p hp;exact ihn p j (py e.on p hp (ho e he hb)) h
   ·cases h
theorem Ni{rd:Option Nat}{recs:List Rec}{f0:Fr}{m0:Mem}{Q:Exit→Act→World→Prop}{base:Nat→Bool}(ba:recs.Pairwise fun q r=>q.i<r.i)(qA:∀r∈recs,ops[r.i]?=some r.o)(Nj:∀r∈recs,base r.i=false)(Nk:∀i o,ops[i]?=some o→base i=false→(∀r∈recs,r.i≠i)→(∀r∈recs,reach ops 8 o r.i=true)∨∃j,reach ops 8 o j=true∧base j=false∧∀r∈recs,r.i≠j)(We:recs.Pairwise (Ord ops))(jI:recs.Pairwise fun q r=>q.kl≠[]→reach ops 4 r.o q.i=true)(aax:kZ ops f0 m0 recs)(Jg:∀r∈recs,∀e∈r.o.after,Region.binds .any e=true→e.on<r.i∧(base e.on=true∨∃q∈recs,q.i=e.on))(tO:eV E ops w0 f0 m0 recs)(hQ:∀(fuel:Nat)(listed:Array Bool),listed.size=ops.size→listed.toList.countP (fun b=> !b)≤fuel→tr ops listed→(∀i,ar listed i=true↔base i=true∨∃r∈recs,r.i=i)→∀μ φ a w,Rel E.P E.ax E.fn.ntmps w0 μ φ (jH f0 recs) (lX m0 recs) a w→wpAnyIn (FR rd) 0 E.P .any ops Q fuel listed a w):∀(fuel:Nat)(listed:Array Bool),listed.size=ops.size→listed.toList.countP (fun b=> !b)≤fuel→tr ops listed→(∀i,base i=true→ar listed i=true)→(∀i,ar listed i=true→base i=true∨∃r∈recs,r.i=i)→∀(μ:Ro)(φ:Nat→aw)(a:Act)(w:World),Rel E.P E.ax E.fn.ntmps w0 μ φ (lj (ar listed) f0 recs) (lk (ar listed) m0 recs) a w→wpAnyIn (FR rd) 0 E.P .any ops Q fuel listed a w:=by
 have done:∀(fuel:Nat)(listed:Array Bool),listed.size=ops.size→listed.toList.countP (fun b=> !b)≤fuel→tr ops listed→(∀i,base i=true→ar listed i=true)→(∀i,ar listed i=true→base i=true∨∃r∈recs,r.i=i)→(∀r∈recs,ar listed r.i=true)→∀(μ:Ro)(φ:Nat→aw)(a:Act)(w:World),Rel E.P E.ax E.fn.ntmps w0 μ φ (lj (ar listed) f0 recs) (lk (ar listed) m0 recs) a w→wpAnyIn (FR rd) 0 E.P .any ops Q fuel listed a w:=by
  intro fuel listed hs hc py hb nq hl μ φ a w hR;have e1:lj (ar listed) f0 recs=jH f0 recs:=funext fun t=>zk rfl fun q hq hf=>by rw[hl q hq]at hf;cases hf
  have e2:lk (ar listed) m0 recs=lX m0 recs:=funext fun t=>zl rfl fun q hq hf=>by rw[hl q hq]at hf;cases hf
  rw[e1,e2]at hR;exact hQ fuel listed hs hc py (fun i=>⟨nq i,fun h=>h.elim (hb i) fun⟨r,hr,e⟩=>e▸hl r hr⟩) μ φ a w hR
 have Qo:∀(listed:Array Bool),listed.size=ops.size→(∀i,base i=true→ar listed i=true)→(∀r∈recs,r.i∉Region.ready .any ops listed)→∀(n:Nat)(r:Rec),r∈recs→r.i<n→ar listed r.i=true:=by
  intro listed hs hb hr n;induction n with
  |zero=>intro r _ h;omega
  |succ n ih=>
   intro r oQ hi;cases hc:ar listed r.i with
   |true=>rfl
   |false=>
    exfalso;have ba:r.i<listed.size:=by rw[hs];exact(Array.getElem?_eq_some_iff.1 (qA r oQ)).1
    refine hr r oQ (mem_ready.2 ⟨by simp only[ar,Array.getD_eq_getD_getElem?,Array.getElem?_eq_getElem ba,Option.getD_some]at hc⊢;exact hc,r.o,qA r oQ,fun e he fl=>?_⟩);obtain⟨h1,h2⟩:=Jg r oQ e he fl;rcases h2 with h2|⟨q,hq,Nl⟩
    ·exact hb _ h2
    ·have:=ih q hq (by omega);rwa[Nl]at this
 intro fuel;induction fuel with
 |zero=>
  intro listed hs hc py hb nq μ φ a w hR;refine done 0 listed hs hc py hb nq (fun r hr=>?_) μ φ a w hR;have ba:r.i<listed.size:=by rw[hs];exact(Array.getElem?_eq_some_iff.1 (qA r hr)).1
  have:=List.countP_eq_zero.1 (Nat.le_zero.1 hc) listed[r.i] (by simp);simp only[ar,Array.getD_eq_getD_getElem?,Array.getElem?_eq_getElem ba,Option.getD_some];simpa using this
 |succ fuel ih=>
  intro listed hs hc py hb nq μ φ a w hR;by_cases Nn:∀r∈recs,ar listed r.i=true
  ·exact done (fuel+1) listed hs hc py hb nq Nn μ φ a w hR
  have Wf:∃r∈recs,ar listed r.i=false:=by
   refine Classical.byContradiction fun cq=>Nn fun r hr=>?_;cases hx:ar listed r.i with
   |true=>rfl
   |false=>exact absurd ⟨r,hr,hx⟩ cq
  refine⟨fun h0=>absurd (fun r hr=>Qo listed hs hb (fun r hr h=>by rw[h0]at h;cases h) (r.i+1) r hr (by omega)) Nn,fun i hi=>?_⟩;obtain⟨KS,o,ho,vH⟩:=mem_ready.1 hi;have Wg:ar listed i=false:=by
   have ba:i<listed.size:=by rw[hs];exact(Array.getElem?_eq_some_iff.1 ho).1
   simp only[ar,Array.getD_eq_getD_getElem?,Array.getElem?_eq_getElem ba,Option.getD_some]at KS⊢;exact KS
  have hex:∃r∈recs,r.i=i∧r.o=o:=by
   refine Classical.byContradiction fun cq=>?_;have DJ:∀r∈recs,r.i≠i:=fun r hr e=>cq ⟨r,hr,e,by have:=qA r hr;rw[e,ho]at this;exact(Option.some.inj this).symm⟩;have hbi:base i=false:=by
    cases hx:base i with
    |false=>rfl
    |true=>rw[hb i hx]at Wg;cases Wg
   rcases Nk i o ho hbi DJ with h|⟨j,h1,h2,h3⟩
   ·obtain⟨r,hr,Ts⟩:=Wf;rw[mO listed py 8 o r.i vH (h r hr)]at Ts;cases Ts
   ·have:=mO listed py 8 o j vH h1;rcases nq j this with h|⟨r,hr,e⟩
    ·rw[h]at h2;cases h2
    ·exact h3 r hr e
  obtain⟨r,hr,rfl,rfl⟩:=hex;have Np:r.i<listed.size:=by rw[hs];exact(Array.getElem?_eq_some_iff.1 ho).1
  have Wh:ar listed r.i=false:=by simp only[ar,Array.getD_eq_getD_getElem?,Array.getElem?_eq_getElem Np,Option.getD_some]at KS⊢;exact KS
  obtain⟨pre,post,jU⟩:=List.append_of_mem hr;subst jU;have D8:∀q∈pre,Ord ops q r:=fun q hq=>(List.pairwise_append.1 We).2.2 q hq r (by simp);have Jh:∀q∈post,Ord ops r q:=fun q hq=>(List.pairwise_cons.1 (List.pairwise_append.1 We).2.1).1 q hq;have Tu:∀q∈post,q.i≠r.i:=fun q hq=>by have:=(List.pairwise_cons.1 (List.pairwise_append.1 ba).2.1).1 q hq;omega
  have Wi:∀q∈pre,q.i≠r.i:=fun q hq=>by have:=(List.pairwise_append.1 ba).2.2 q hq r (by simp);omega
  have Wj:∀q:Rec,reach ops 4 r.o q.i=true→ar listed q.i=true:=fun q h=>mO listed py 4 r.o q.i vH h;have Ge:∀q∈post,reach ops 4 q.o r.i=true→ar listed q.i=false:=fun q hq h=>by
   cases Ms:ar listed q.i with
   |false=>rfl
   |true=>have:=mO listed py 4 q.o r.i (py q.i q.o (qA q (by simp[hq])) Ms) h;rw[Wh]at this;cases this
  have RM:∀(f:Fr),lj (ar listed) f (r::post)=lj (ar listed) f post:=fun f=>by rw[lj,Wh];rfl
  have Nq:∀(m:Mem),lk (ar listed) m (r::post)=lk (ar listed) m post:=fun m=>by rw[lk,Wh];rfl
  obtain⟨_,Tv,VB,_⟩:=eV.append.1 tO;have hc:=aax.append.1;have RN:∀q∈pre,q.kl≠[]→reach ops 4 r.o q.i=true:=fun q hq=>(List.pairwise_append.1 jI).2.2 q hq r (by simp);have Nr:r.kl≠[]→∀q∈post,reach ops 4 q.o r.i=true:=fun h q hq=>(List.pairwise_cons.1 (List.pairwise_append.1 jI).2.1).1 q hq h;unfold wpOpIn;rw[qA r hr];simp only;have Tr:∀t∈r.o.looksAt ops,lj (ar listed) f0 pre t=jH f0 pre t:=fun t ht=>zk rfl fun q hq hs=>by
   have DJ:¬reach ops 4 r.o q.i=true:=fun h=>by rw[Wj q h]at hs;cases hs
   refine⟨fun hd=>?_,?_⟩
   ·rcases D8 q hq with h|⟨h,_⟩
    ·exact DJ h
    ·exact absurd ht ((Oper.apart_spec h).1 t hd)
   ·exact Classical.byContradiction fun cq=>DJ (RN q hq cq)
  have Tw:∀x∈r.ft,lk (ar listed) m0 pre x.2=lX m0 pre x.2:=fun x hx=>zl rfl fun q hq hs=>by
   have DJ:¬reach ops 4 r.o q.i=true:=fun h=>by rw[Wj q h]at hs;cases hs
   refine⟨fun b hb=>?_,?_⟩
   ·rcases D8 q hq with h|⟨_,h,_⟩
    ·exact DJ h
    ·exact absurd rfl (h _ b hb x hx)
   ·exact Classical.byContradiction fun cq=>DJ (RN q hq cq)
  have Pw:∀q∈post,ar listed q.i=true→¬reach ops 4 q.o r.i=true:=fun q hq hs h=>by rw[Ge q hq h]at hs;cases hs
  have hf2:∀t∈r.o.looksAt ops,lj (ar listed) f0 (pre++r::post) t=jH f0 pre t:=fun t ht=>by
   rw[qV,RM,mb fun q hq hs=>⟨fun hd=>?_,fun id hid=>?_⟩]
   ·exact Tr t ht
   ·rcases Jh q hq with h|⟨h,_⟩
    ·exact Pw q hq hs h
    ·exact absurd ht ((Oper.apart_spec h).2.2 t hd)
   ·rw[Tr t ht];rcases hc q hq id hid with h|h
    ·exact absurd h (Pw q hq hs)
    ·exact h.1 t ht
  have bY:∀x∈r.ft,lk (ar listed) m0 (pre++r::post) x.2=lX m0 pre x.2:=fun x hx=>by
   rw[qW,Nq,mc fun q hq hs=>⟨fun b hb=>?_,fun id hid=>?_⟩]
   ·exact Tw x hx
   ·rcases Jh q hq with h|⟨_,_,h⟩
    ·exact Pw q hq hs h
    ·exact absurd rfl (h _ b hb x hx)
   ·rw[Tw x hx];rcases hc q hq id hid with h|h
    ·exact absurd h (Pw q hq hs)
    ·exact h.2.2.1 x hx
  have Z8:=Tv _ _ hf2 bY μ φ a w (wpAnyIn (FR rd) 0 E.P .any ops Q fuel (listed.setIfInBounds r.i true)) Q hR fun μ' φ' a' w' gE=>by
   have RO:∀j,ar (listed.setIfInBounds r.i true) j=if j=r.i then true else ar listed j:=fun j=>by
    simp only[ar,Array.getD_eq_getD_getElem?,Array.getElem?_setIfInBounds];by_cases e:r.i=j
    ·subst e;simp[Np]
    ·have e':¬j=r.i:=fun h=>e h.symm;simp[e,e']
   refine ih (listed.setIfInBounds r.i true) (by simp[hs]) ?_ ?_ ?_ ?_ μ' φ' a' w' ?_
   ·rw[Array.toList_setIfInBounds,List.countP_set (by simpa using Np)];have:listed.toList[r.i]'(by simpa using Np)=false:=by simp only[ar,Array.getD_eq_getD_getElem?,Array.getElem?_eq_getElem Np,Option.getD_some]at Wh;simpa using Wh
    rw[this];simp only[Bool.not_false,if_true,Bool.not_true,Bool.false_eq_true,if_false];omega
   ·intro i' o' KT lD e he Cm;rw[RO]at lD⊢;split
    ·rfl
    ·split at lD
     ·rename_i Nl;subst Nl;have:o'=r.o:=by rw[qA r hr]at KT;exact(Option.some.inj KT).symm
      subst this;exact vH e he Cm
     ·exact py i' o' KT lD e he Cm
   ·intro i' lD;rw[RO];split
    ·rfl
    ·exact hb i' lD
   ·intro i' lD;rw[RO]at lD;split at lD
    ·rename_i Nl;exact Or.inr ⟨r,hr,Nl.symm⟩
    ·exact nq i' lD
   ·have RP:∀q∈pre,ar (listed.setIfInBounds r.i true) q.i=ar listed q.i:=fun q hq=>by rw[RO,if_neg (Wi q hq)]
    have qX:∀q∈post,ar (listed.setIfInBounds r.i true) q.i=ar listed q.i:=fun q hq=>by rw[RO,if_neg (Tu q hq)]
    have hSr:ar (listed.setIfInBounds r.i true) r.i=true:=by rw[RO,if_pos rfl]
    have e1:lj (ar (listed.setIfInBounds r.i true)) f0 (pre++r::post)=r.fs (lj (ar listed) f0 (pre++r::post)):=funext fun t=>by
     have hg:lj (ar (listed.setIfInBounds r.i true)) f0 pre=lj (ar listed) f0 pre:=funext fun s=>tp rfl RP;rw[qV,qV,RM,lj,hSr,hg];simp only[cond];by_cases hk:r.kl=[]
     ·by_cases hd:r.o.dst=some t
      ·rw[Rec.D5 hd,mb fun q hq hs=>⟨fun hqd=>?_,fun id hid=>?_⟩,Rec.D5 hd]
       ·rw[qX q hq]at hs;rcases Jh q hq with h|⟨h,_⟩
        ·exact Pw q hq hs h
        ·exact absurd hqd ((Oper.apart_spec h).2.1 t hd)
       ·rw[qX q hq]at hs;rw[Rec.D5 hd];rcases hc q hq id hid with h|h
        ·exact absurd h (Pw q hq hs)
        ·exact h.2.1
      ·have vB:∀(g:Fr),r.fs g t=g t:=fun g=>Rec.Jf hd fun id⟨b,hid⟩=>by rw[hk]at hid;cases hid
       rw[vB];exact tp (vB _) qX
     ·have KS:∀q∈post,ar listed q.i=false:=fun q hq=>Ge q hq (Nr hk q hq);rw[mb fun q hq hs=>by rw[qX q hq,KS q hq]at hs;cases hs];exact Rec.zi (mb fun q hq hs=>by rw[KS q hq]at hs;cases hs).symm
    have e2:lk (ar (listed.setIfInBounds r.i true)) m0 (pre++r::post)=r.ms (lk (ar listed) m0 (pre++r::post)):=funext fun j=>by
     have hg:lk (ar (listed.setIfInBounds r.i true)) m0 pre=lk (ar listed) m0 pre:=funext fun s=>tq rfl RP;rw[qW,qW,Nq,lk,hSr,hg];simp only[cond];by_cases hk:r.kl=[]
     ·by_cases hd:∃b,(j,b)∈r.wr
      ·obtain⟨b,hd,qz⟩:=Rec.RL hd;rw[qz,mc fun q hq hs=>⟨fun b' hqd=>?_,fun id hid=>?_⟩,qz]
       ·rw[qX q hq]at hs;rcases Jh q hq with h|⟨_,_,h⟩
        ·exact Pw q hq hs h
        ·exact absurd rfl (h j b' hqd (true,j) (VB j b hd))
       ·rw[qX q hq]at hs;rcases hc q hq id hid with h|h
        ·exact absurd h (Pw q hq hs)
        ·obtain⟨h1,h2⟩:=h.2.2.2 j b hd qz;refine⟨h1,fun b' fl=>?_⟩;rw[qz]at fl;cases fl;exact h2
      ·have I3:∀b,(j,b)∉r.wr:=fun b hb=>hd ⟨b,hb⟩;have vB:∀(g:Mem),r.ms g j=g j:=fun g=>Rec.Nh I3 fun id⟨b,hid⟩=>by rw[hk]at hid;cases hid
       rw[vB];exact tq (vB _) qX
     ·have KS:∀q∈post,ar listed q.i=false:=fun q hq=>Ge q hq (Nr hk q hq);rw[mc fun q hq hs=>by rw[qX q hq,KS q hq]at hs;cases hs];exact Rec.zj (mc fun q hq hs=>by rw[KS q hq]at hs;cases hs).symm
    rw[e1,e2];exact gE
  split
  ·rename_i hw;rw[if_pos hw]at Z8;exact Z8 rd
  ·rename_i hw;rw[if_neg hw]at Z8;exact⟨fun _ _=>trivial,Z8⟩
end
end Go.Ab
set_option linter.unusedVariables false
namespace Go.Ab
open Go.RowKit (Below)
section
variable {E:Env} {ops:Array Oper} {w0:bg}
variable{o:Oper}
theorem KU{t:Nat}(h:.tmp t∈o.op.operands):t∈o.looksAt ops:=by unfold Oper.looksAt;refine List.mem_append.2 (.inl (List.mem_filterMap.2 ⟨.tmp t,by simpa using h,rfl⟩))
theorem qY{g:Nat×Bool}{t:Nat}(hg:o.guard=some g)(h:(ops[g.1]?).bind (·.dst)=some t):t∈o.looksAt ops:=by unfold Oper.looksAt;rw[hg];refine List.mem_append.2 (.inr ?_);show t∈((ops[g.1]?).bind (·.dst)).toList;rw[h];simp
variable{f F:Fr}
theorem sg(h:∀t∈o.looksAt ops,f t=F t):∀x∈o.op.operands,bh E f x=bh E F x:=by
 intro x hx;cases x with
 |tmp t=>simp only[bh];rw[h t (KU hx)]
 |_=>rfl
variable{A:List (Nat×Bool)}{φ:Nat→aw}{a:Act}{w:World}
theorem D9{f2:Fr}{m2:Mem}{μ:Ro}(hg:guardOf o A=none)(hA:mN E.fn.ntmps ops A f)(hR:Rel E.P E.ax E.fn.ntmps w0 μ φ f2 m2 a w)(hf:∀t∈o.looksAt ops,f2 t=f t):Region.wanted o (yielded ops a.tmps)=true:=by
 unfold guardOf at hg;unfold Region.wanted;split at hg
 ·rename_i Nb;simp[Nb]
 ·rename_i g Nb;split at hg
  ·rename_i cQ;obtain⟨t,h1,h0,h2⟩:=hA g (by simpa using cQ);have h3:=hR.fr t;rw[mw h0,hf t (qY Nb h1),h2]at h3;simp only[Nb];rw[pD h1 (mL h3)];simp
  ·cases hg
variable{i:Nat}{ft:aY}{m:Mem}
theorem zm(hE:gP E){v:V}{wr:List (Nat×bn)}(hg:guardOf o A=none)(hA:mN E.fn.ntmps ops A f)(hd:qH E o=true)(hn:∀(f2:Fr)(m2:Mem),(∀x∈o.op.operands,bh E f2 x=bh E f x)→(∀x∈ft,m2 x.2=m x.2)→∀(R':Type)(k':V→Fr→Mem→aY→Option R'),Dv E true (cg E o.dst) o f2 m2 k'=k' v f2 (oG wr m2) ft):Bo E ops w0 ⟨i,o,v,wr,ft,[]⟩ f m:=by
 intro f2 m2 hf hm μ φ a w K Q hR hK;have hw:Region.wanted o (yielded ops a.tmps)=true:=by
  unfold guardOf at hg;unfold Region.wanted;split at hg
  ·rename_i Nb;simp[Nb]
  ·rename_i g Nb;split at hg
   ·rename_i cQ;obtain⟨t,h1,h0,h2⟩:=hA g (by simpa using cQ);have h3:=hR.fr t;rw[mw h0,hf t (qY Nb h1),h2]at h3;simp only[Nb];rw[pD h1 (mL h3)];simp
   ·cases hg
 simp only at hf hm hK⊢;rw[if_pos hw];exact fun rd=>(RG hE (.inl rfl) (hn f2 m2 (sg hf) hm)).tl (vE (hn f2 m2 (sg hf) hm Unit fun _ _ _ _=>some ())) rd w0 μ φ a w K Q hR fun y w' μ' φ' hle hM hF hv hl=>hK _ _ _ _ (hR.put hle (gm hd) hM hF hv hl)
theorem Gf(hd:qH E o=true)(zb:KM ops f o):Bo E ops w0 ⟨i,o,.bA [],[],[],[]⟩ f m:=by
 intro f2 m2 hf hm μ φ a w K Q hR hK;simp only at hf hm hK⊢;have Tx:KM ops f2 o:=by obtain⟨g,hg,ht⟩:=zb;exact⟨g,hg,fun t h=>by rw[hf t (qY hg h)];exact ht t h⟩
 rw[sR hR Tx];simp only[Bool.false_eq_true,if_false];exact hK _ _ _ _ (hR.put (fun _ _ h=>h) (gm hd) hR.toal hR.iq y9 (fun id hid=>by simp[V.has,bO]at hid))
def uw(x:Nat×Oper):Rec:=⟨x.1,x.2,.bA [],[],[],[]⟩
theorem Bp{m:Mem}:∀(l:List (Nat×Oper))(F:Fr),(∀x∈l,qH E x.2=true)→(∀(pre post:List (Nat×Oper))(x:Nat×Oper),l=pre++x::post→KM ops (fU F pre) x.2)→eV E ops w0 F m (l.map uw)∧jH F (l.map uw)=fU F l
 |[],F,_,_=>⟨trivial,rfl⟩
 |x::r,F,hd,zb=>by obtain⟨h1,h2⟩:=Bp (m:=m) r (gk F x.2.dst (.bA [])) (fun y hy=>hd y (by simp[hy])) (fun pre post y h=>by have:=zb (x::pre) post y (by rw[h];rfl);rwa[fU]at this);exact⟨⟨Gf (hd x (by simp)) (zb [] r x rfl),by simp[uw],h1⟩,h2⟩
theorem Bq{m:Mem}:∀{l:List Rec},(∀q∈l,q.wr=[]∧q.kl=[])→lX m l=m
 |[],_=>rfl
 |r::l,h=>by
  obtain⟨h1,h2⟩:=h r (by simp);have:r.ms m=m:=by unfold Rec.ms;rw[h1,h2];rfl
  rw[lX,this];exact Bq fun q hq=>h q (by simp[hq])
theorem eV.wr:∀{l:List Rec}{f:Fr}{m:Mem},eV E ops w0 f m l→∀q∈l,∀id b,(id,b)∈q.wr→(true,id)∈q.ft
 |[],_,_,_,q,hq=>by cases hq
 |r::l,f,m,h,q,hq=>by
  rcases List.mem_cons.1 hq with rfl|hq
  ·exact h.2.1
  ·exact eV.wr h.2.2 q hq
def Ns(q r:Rec):Prop:=reach ops 4 r.o q.i=true∨((∀id b,(id,b)∈q.wr→∀x∈r.ft,x.2≠id)∧∀id b,(id,b)∈r.wr→∀x∈q.ft,x.2≠id)
theorem Ea{o:Oper}{w:Bool}{id:Nat}:∀{lg:Log},IJ ops o w id lg=true→∀x∈lg,id≠x.2.2∨(w=false∧x.2.1=false)∨reach ops 4 o x.1=true
 |[],_,x,hx=>by cases hx
 |(j,w',lU)::lg,h,x,hx=>by
  simp only[IJ,Bool.and_eq_true]at h;rcases List.mem_cons.1 hx with rfl|hx
  ·have h1:=h.1;simp only[Bool.or_eq_true,Bool.not_eq_true',Bool.and_eq_true]at h1;rcases h1 with(h1|h1)|h1
   ·exact .inl fun e=>by subst e;simp[Nat.beq_refl]at h1
   ·exact .inr (.inl h1)
   ·exact .inr (.inr h1)
  ·exact Ea h.2 x hx
theorem vI{o:Oper}{lg:Log}:∀{ft:aY},vk ops o lg ft=true→∀y∈ft,∀x∈lg,y.2≠x.2.2∨(y.1=false∧x.2.1=false)∨reach ops 4 o x.1=true
 |[],_,y,hy=>by cases hy
 |(w,id)::ft,h,y,hy=>by
  simp only[vk,Bool.and_eq_true]at h;rcases List.mem_cons.1 hy with rfl|hy
  ·exact Ea h.1
  ·exact vI h.2 y hy
theorem zn{o:Oper}{id:Nat}:∀{lg:Log},xI ops o id lg=true→∀x∈lg,x.2.2=rO id→reach ops 4 o x.1=true
 |[],_,x,hx=>by cases hx
 |(j,w,n)::lg,h,x,hx=>by
  simp only[xI,Bool.and_eq_true,Bool.or_eq_true,Bool.not_eq_true']at h;intro he;rcases List.mem_cons.1 hx with rfl|hx
  ·rcases h.1 with h1|h1
   ·simp only at he;rw[he,Nat.beq_refl]at h1;cases h1
   ·exact h1
  ·exact zn h.2 x hx he
mutual
theorem Ji{id:Nat}:∀(v:V),v.has id=true→id∈v.ids
 |.agg cs,h=>oX cs (by simpa only[V.has]using h)
 |.bA cs,h=>oX cs (by simpa only[V.has]using h)
 |.fn _ cs,h=>oX cs (by simpa only[V.has]using h)
 |.os j,h=>by have:=Nat.eq_of_beq_eq_true h;subst this;simp[V.ids]
 |.eR j _ _,h=>by have:=Nat.eq_of_beq_eq_true h;subst this;simp[V.ids]
 |.oe j _ _,h=>by have:=Nat.eq_of_beq_eq_true h;subst this;simp[V.ids]
 |.om j,h=>by have:=Nat.eq_of_beq_eq_true h;subst this;simp[V.ids]
 |.qD j _ _,h=>by have:=Nat.eq_of_beq_eq_true h;subst this;simp[V.ids]
 |.tP j _ _ _ _ _,h=>by have:=Nat.eq_of_beq_eq_true h;subst this;simp[V.ids]
 |.op j _,h=>by have:=Nat.eq_of_beq_eq_true h;subst this;simp[V.ids]
 |.it j,h=>by have:=Nat.eq_of_beq_eq_true h;subst this;simp[V.ids]
 |.yl j,h=>by have:=Nat.eq_of_beq_eq_true h;subst this;simp[V.ids]
 |.pv _,h=>by cases h
 |.aX,h=>by cases h
 |.top,h=>by cases h
theorem oX{id:Nat}:∀(cs:List V),bO id cs=true→id∈Dw cs
 |[],h=>by cases h
 |v::r,h=>by
  simp only[bO,Bool.or_eq_true]at h;simp only[Dw,List.mem_append];rcases h with h|h
  ·exact .inl (Ji v h)
  ·exact .inr (oX r h)
end
variable{id:Nat}
theorem ux{b:bn}(h:b.names id=true):id∈yn (some b):=by
 cases b with
 |box cs=>exact oX cs h
 |_=>cases h
theorem tt{m m':Mem}{id:Nat}:∀{ft:aY}{x:Bool×Nat},x∈ft→(id∈yn (m x.2)∨id∈yn (m' x.2))→id∈Cd m m' ft
 |y::ft,x,hx,h=>by
  simp only[Cd,List.mem_append];rcases List.mem_cons.1 hx with rfl|hx
  ·exact .inl h
  ·exact .inr (tt hx h)
theorem Nt{v:V}{wr:List (Nat×bn)}(wU:∀t∈o.looksAt ops,f t=F t)(Ty:∀j b,(j,b)∈wr→(true,j)∈ft)(hn:id∉xH ops o f m (oG wr m) v ft)(hft:∀x∈ft,x.2≠id):Clean ops id ⟨i,o,v,wr,ft,[]⟩ F m:=by
 simp only[xH,List.mem_append,not_or]at hn;obtain⟨⟨h1,h2⟩,h3⟩:=hn;refine⟨fun t ht=>?_,?_,fun x hx=>⟨hft x hx,fun b hb=>?_⟩,fun j b hb qz=>⟨hft _ (Ty j b hb),?_⟩⟩
 ·cases e:(F t).has id with
  |false=>rfl
  |true=>exact absurd (oX _ (cw.2 ⟨f t,List.mem_map.2 ⟨t,ht,rfl⟩,by rw[wU t ht];exact e⟩)) h1
 ·cases e:v.has id with
  |false=>rfl
  |true=>exact absurd (Ji _ e) h2
 ·cases e:b.names id with
  |false=>rfl
  |true=>exact absurd (tt hx (.inl (by rw[hb];exact ux e))) h3
 ·cases e:b.names id with
  |false=>rfl
  |true=>exact absurd (tt (Ty j b hb) (.inr (by have fl:oG wr m j=some b:=qz m;simp only;rw[fl];exact ux e))) h3
variable{R:Type}
theorem Gg{site:Nat}{rd:aY}(h:pj E f m o=some (id,rd)){k:V→Fr→Mem→aY→Option R}{r:R}(hx:cu E false site o f m k=some r):(∀x∈rd,x.1=false)∧∃dq,k (.os id) (eB id f) (ai (aQ (bk id m) id) id dq) [(true,0)]=some r∧∀(f2:Fr)(m2:Mem),(∀x∈o.op.operands,bh E f2 x=bh E f x)→(∀x∈(true,id)::rd,m2 x.2=m x.2)→∀(R':Type)(k':V→Fr→Mem→aY→Option R'),cu E false site o f2 m2 k'=k' (.os id) (eB id f2) (ai (aQ (bk id m2) id) id dq) [(true,0)]:=by
 obtain⟨dst,op,type,pos,after,guard⟩:=o;unfold pj at h;simp only at h;split at h
 ·rename_i c;obtain⟨callee,args,argTypes⟩:=c;simp only at h;split at h
  ·rename_i lU x t t' iO Tg;split at h
   ·rename_i e hu;split at h
    ·rename_i new rd' vu;split at h
     ·cases h
     ·rename_i Th;simp only[Option.some.injEq,Prod.mk.injEq]at h;obtain⟨rfl,rfl⟩:=h;obtain⟨V0,he2,_⟩:=kJ vu;have aay:∀m2:Mem,aQ (bk lU m2) lU lU=none:=fun m2=>by simp[aQ,Nat.beq_refl]
      have main:∀(f2:Fr)(m2:Mem),args.toList.map (bh E f2)=[.os lU,x]→m2 lU=m lU→eo m2 (aH E.P e) x=some (new,rd')→∀(R':Type)(k':V→Fr→Mem→aY→Option R'),cu E false site ⟨dst,.call ⟨.builtin .append,args,argTypes⟩,type,pos,after,guard⟩ f2 m2 k'=if !(decide (t'=t))then none else if(cT E e).isNone then none else match m lU with
       |some (.arr sz et es)=>if et=e∧sz=aH E.P e∧x.has lU=false then(if(es++new).length*Au E.P e≤aa∧0<Au E.P e then k' (.os lU) (eB lU f2) (ai (aQ (bk lU m2) lU) lU (.arr sz e (es++new))) [(true,0)]else none)else none
       |_=>none:=by
       intro f2 m2 h1 h2 h3 R' k'
       simp only[cu,h1,Tg,tW,Bool.false_or,hu,h3,h2]
       split
       ·rfl
       ·split
        ·rfl
        ·split
         ·rename_i sz et es Jb;simp only[fresh,aay,Jb]
         ·rename_i cq;split
          ·rename_i sz et es bY;exact absurd bY (cq sz et es)
          ·rfl
      rw[main f m iO rfl vu]at hx;refine⟨he2,?_⟩;split at hx
      ·cases hx
      ·rename_i Ru;split at hx
       ·cases hx
       ·rename_i Ay;split at hx
        ·rename_i sz et es hm;split at hx
         ·rename_i hc3;split at hx
          ·rename_i hc4;refine⟨_,hx,fun f2 m2 hf bY R' k'=>?_⟩;have ha:args.toList.map (bh E f2)=[.os lU,x]:=by rw[←iO];exact kY fun y hy=>hf y (by simp only[Op.operands,Call.operands];simp[Array.mem_toList_iff.1 hy])
           rw[main f2 m2 ha (bY (true,lU) (by simp)) (V0 m2 fun y hy=>bY y (by simp[hy])) R' k'];rw[if_neg Ru,if_neg Ay,hm];simp only;rw[if_pos hc3,if_pos hc4]
          ·cases hx
         ·cases hx
        ·cases hx
    ·cases h
   ·cases h
  ·cases h
 ·cases h
theorem qt.kill(h:qt f F)(id:Nat):qt (eB id f) (eB id F):=fun t=>by
 rcases h t with e|e
 ·exact .inl (by simp only[eB,e])
 ·exact .inr (by simp only[eB,e];rfl)
theorem mN.kill{nt:Nat}(h:mN nt ops A f)(id:Nat):mN nt ops A (eB id f):=by intro g hg;obtain⟨t,h1,h0,h2⟩:=h g hg;exact⟨t,h1,h0,by simp only[eB,h2];rfl⟩
theorem Nu{x:Nat×aY}(h:pj E f m o=some x):isApp E o=true:=by
 obtain⟨dst,op,type,pos,after,guard⟩:=o;unfold pj at h;simp only at h;unfold isApp;split at h
 ·rename_i c;obtain⟨callee,args,argTypes⟩:=c;simp only at h;split at h
  ·simp
  ·cases h
 ·cases h
theorem CA{rd:aY}(h:pj E f m o=some (id,rd)):∃c x t t',o.op=.call c∧c.callee=.builtin .append∧c.args.toList.map (bh E f)=[.os id,x]∧c.argTypes.toList=[t,t']:=by
 unfold pj at h;split at h
 ·rename_i c hc;split at h
  ·rename_i lU x t t' h1 h2 h3;split at h
   ·split at h
    ·split at h
     ·cases h
     ·simp only[Option.some.injEq,Prod.mk.injEq]at h;obtain⟨rfl,_⟩:=h;exact⟨c,x,t,t',hc,h1,h2,h3⟩
    ·cases h
   ·cases h
  ·cases h
 ·cases h
theorem KV{kl:Kl}(h:Ce E f m o=some (kl,ft)){k:V→Fr→Mem→aY→Option R}{r:R}(hx:Dv E false (cg E o.dst) o f m k=some r):isApp E o=true∧∃v wr UP,k v (kf kl f) (oG wr (km kl m)) UP=some r∧(∀x∈wr,(true,x.1)∈ft)∧(∀x∈kl,(true,x.2)∈ft)∧∀(f2:Fr)(m2:Mem),(∀x∈o.op.operands,bh E f2 x=bh E f x)→(∀x∈ft,m2 x.2=m x.2)→∀(R':Type)(k':V→Fr→Mem→aY→Option R'),Dv E false (cg E o.dst) o f2 m2 k'=k' v (kf kl f2) (oG wr (km kl m2)) UP:=by
 unfold Ce at h;unfold Dv at hx;split at h
 ·rename_i sp il;simp only[Option.some.injEq]at h;have hn:E.u7 (cg E o.dst)=true:=by
   cases hn:E.u7 (cg E o.dst)with
   |true=>rfl
   |false=>rw[hn]at il;cases il
  rw[hn]at il hx;simp only[cond]at il hx;rw[il]at hx;obtain⟨v,wr,h1,h2,h3,h4,_,_⟩:=F9 il hx;rw[h]at h1 h2 h3 h4;refine⟨by unfold isApp;rw[hn];rfl,v,wr,ft,h1,h2,h3,fun f2 m2 hf hm R' k'=>?_⟩;have:=F6 il hf (by rw[h];exact hm);unfold Dv;rw[hn];simp only[cond];rw[this];exact h4 f2 m2 R' k'
 ·rename_i il;split at h
  ·rename_i id rd Nv;simp only[Option.some.injEq,Prod.mk.injEq]at h;obtain⟨rfl,rfl⟩:=h;have e0:(bif false then none else bif E.u7 (cg E o.dst)then s9 E (cg E o.dst) o f m else none)=(bif E.u7 (cg E o.dst)then s9 E (cg E o.dst) o f m else none):=rfl;rw[e0,il]at hx;simp only at hx;obtain⟨ug,dq,hk,hn⟩:=Gg Nv hx;refine⟨Nu Nv,.os id,[(id,dq)],[(true,0)],hk,by simp,by simp,fun f2 m2 hf hm R' k'=>?_⟩;have Nx:(bif E.u7 (cg E o.dst)then s9 E (cg E o.dst) o f2 m2 else none)=none:=by
    cases A8:E.u7 (cg E o.dst)with
    |false=>rfl
    |true=>
     simp only[cond];obtain⟨c,x,t,t',hc,Qp,iO,M9⟩:=CA Nv;have Tz:c.args.toList.map (bh E f2)=[.os id,x]:=by rw[←iO];exact List.map_congr_left fun y hy=>hf y (by rw[hc];simp only[Op.operands,Call.operands];rw[Qp];simp[Array.mem_toList_iff.1 hy])
     have bY:m2 id=m id:=hm (true,id) (by simp);have RH:∃sz et es,m id=some (.arr sz et es):=by
      obtain⟨dst,op,type,pos,after,guard⟩:=o;simp only at hc;subst hc;obtain⟨callee,args,argTypes⟩:=c;simp only at Qp iO M9;subst Qp;simp only[cu,iO,M9,tW,Bool.false_or]at hx;split at hx
      ·cases hx
      ·split at hx
       ·split at hx
        ·cases hx
        ·split at hx
         ·split at hx
          ·rename_i sz et es hm;exact⟨sz,et,es,hm⟩
          ·cases hx
         ·cases hx
       ·cases hx
     obtain⟨sz,et,es,RH⟩:=RH;unfold s9;rw[hc];simp only[Qp,Tz,M9,bY,RH];split<;>first|rfl|(rename_i heq;cases heq)
   unfold Dv;have e1:(bif false then none else bif E.u7 (cg E o.dst)then s9 E (cg E o.dst) o f2 m2 else none)=(bif E.u7 (cg E o.dst)then s9 E (cg E o.dst) o f2 m2 else none):=rfl;rw[e1,Nx];exact hn f2 m2 hf hm R' k'
  ·cases h
theorem qt.sG(h:qt f F)(id:Nat):qt (fH id f) (fH id F):=fun t=>by
 rcases h t with e|e
 ·exact .inl (by simp only[fH,e])
 ·exact .inr (by simp only[fH,e];rfl)
theorem qt.kf:∀{kl:Kl}{f F:Fr},qt f F→qt (Go.Ab.kf kl f) (Go.Ab.kf kl F)
 |[],_,_,h=>h
 |(true,id)::r,f,F,h=>qt.kf (kl:=r) (f:=eB id f) (F:=eB id F) (h.kill id)
 |(false,id)::r,f,F,h=>qt.kf (kl:=r) (f:=fH id f) (F:=fH id F) (h.sG id)
theorem mN.sG{nt:Nat}(h:mN nt ops A f)(id:Nat):mN nt ops A (fH id f):=by intro g hg;obtain⟨t,h1,h0,h2⟩:=h g hg;exact⟨t,h1,h0,by simp only[fH,h2];rfl⟩
theorem mN.kf{nt:Nat}{A:List (Nat×Bool)}:∀{kl:Kl}{f:Fr},mN nt ops A f→mN nt ops A (Go.Ab.kf kl f)
 |[],_,h=>h
 |(true,id)::r,f,h=>mN.kf (kl:=r) (f:=eB id f) (h.kill id)
 |(false,id)::r,f,h=>mN.kf (kl:=r) (f:=fH id f) (h.sG id)
theorem KW(hE:gP E)(hY:oM E.P E.ax E.fn.ntmps E.yl w0){v:V}{wr:List (Nat×bn)}{kl:Kl}{UP:aY}(hg:guardOf o A=none)(hA:mN E.fn.ntmps ops A F)(hd:qH E o=true)(KO:∀x∈o.op.operands,bh E f x=bh E F x)(hn:∀(f2:Fr)(m2:Mem),(∀x∈o.op.operands,bh E f2 x=bh E f x)→(∀x∈ft,m2 x.2=m x.2)→∀(R':Type)(k':V→Fr→Mem→aY→Option R'),Dv E false (cg E o.dst) o f2 m2 k'=k' v (kf kl f2) (oG wr (km kl m2)) UP):Bo E ops w0 ⟨i,o,v,wr,ft,kl⟩ F m:=by
 intro f2 m2 hf hm μ φ a w K Q hR hK;have hw:Region.wanted o (yielded ops a.tmps)=true:=D9 hg hA hR hf;simp only at hf hm hK⊢;rw[if_pos hw];have hx:=hn f2 m2 (fun x hx=>by rw[sg hf x hx,KO x hx]) hm (V×Fr×Mem) fun v f m _=>some (v,f,m);rcases Cy hE hx with⟨v,f',m',ft,h1,h2⟩|⟨_,h2⟩
 ·simp only[Option.some.injEq,Prod.mk.injEq]at h1;obtain⟨rfl,rfl,rfl⟩:=h1;exact fun rd=>h2.tl (vE hx) rd w0 μ φ a w K Q hR fun y w' μ' φ' hle hM hF hv hl=>hK _ _ _ _ (hR.put hle (gm hd) hM hF hv hl)
 ·refine fun rd=>y6.tl h2 rd w0 μ φ a w K Q hY hR fun v f' m' y w' μ' φ' h1 hle hM hF hv hl=>?_;simp only[Option.some.injEq,Prod.mk.injEq]at h1;obtain⟨rfl,rfl,rfl⟩:=h1;exact hK _ _ _ _ (hR.put hle (gm hd) hM hF hv hl)
structure CB(ops:Array Oper)(mode:Nat)(F:Fr)(m:Mem)(lg:Log)(recs:List Rec):Prop where
 one:mode=1→∀q∈recs,q.wr=[]∧q.kl=[]
 ord:mode=2→recs.Pairwise (Ns (ops:=ops))
 log:mode=2→∀q∈recs,∀y∈q.ft,∀x∈lg,y.2≠x.2.2∨(y.1=false∧x.2.1=false)∨reach ops 4 q.o x.1=true
 kl:recs.Pairwise fun q r=>q.kl≠[]→reach ops 4 r.o q.i=true
 cln:kZ ops F m recs
 nam:∀q∈recs,∀id,q.Bm id→mode=2∧ops.toList.any (isApp E)=true∧(true,id)∈q.ft∧∀x∈lg,x.2.2=rO id→reach ops 4 q.o x.1=true
theorem kZ.none:∀{l:List Rec}{f:Fr}{m:Mem},(∀q∈l,q.kl=[])→kZ ops f m l
 |[],_,_,_=>trivial
 |r::l,f,m,h=>⟨fun q hq id⟨b,hid⟩=>(by rw[h q (by simp[hq])]at hid;cases hid),kZ.none fun q hq=>h q (by simp[hq])⟩
theorem jV(hE:gP E)(hY:oM E.P E.ax E.fn.ntmps E.yl w0){mode:Nat}(gH:mode=1∨mode=2):∀(fuel:Nat){R:Type}{A:List (Nat×Bool)}{l:List (Nat×Oper)}{f:Fr}{m:Mem}{lg:Log}{k:Fr→Mem→Option R}{r:R},bM E ops mode fuel R A l f m lg k=some r→(∀x∈l,ops[x.1]?=some x.2)→(mode=1→∀x∈l,eH x.2=true)→Tn ops A l→∀F:Fr,qt f F→mN E.fn.ntmps ops A F→(∀x∈l,∀t∈x.2.looksAt ops,f t=F t)→∃(recs:List Rec)(f':Fr),k f' (lX m recs)=some r∧qt f' (jH F recs)∧recs.map (fun r=>(r.i,r.o))=l∧eV E ops w0 F m recs∧CB (E:=E) ops mode F m lg recs
 |0,_,_,_,_,_,_,_,_,h,_,_,_,_,_,_,_=>by simp[bM]at h
 |fuel+1,R,A,[],f,m,lg,k,r,h,_,_,_,F,hF,_,_=>by simp only[bM]at h;exact⟨[],f,h,hF,rfl,trivial,by simp,fun _=>.nil,by simp,.nil,trivial,by simp⟩
 |fuel+1,R,A,(i,o)::rest,f,m,lg,k,r,h,hl,L3,zd,F,hF,hA,wU=>by
  have Tw:(Nat.beq mode 1||Nat.beq mode 2)=true:=by rcases gH with rfl|rfl<;>rfl
  simp only[bM,Tw]at h;split at h
  ·rename_i hg;split at h
   ·rename_i hd;have Wk:∀x∈o.op.operands,bh E f x=bh E F x:=sg (wU (i,o) (by simp));split at h
    ·rename_i kl ft il;have TA:mode=2:=by
      rcases gH with rfl|rfl
      ·cases il
      ·rfl
     subst TA;have il:Ce E f m o=some (kl,ft):=il;split at h
     ·rename_i yE;simp only[Bool.and_eq_true,List.all_eq_true]at yE;obtain⟨⟨aaz,aaA⟩,aaB⟩:=yE;obtain⟨Nv,v,wr,UP,hk,Ty,jI,hn⟩:=KV il h;obtain⟨recs,f',c1,c2,c3,c4,c5⟩:=jV hE hY (.inr rfl) fuel hk (fun x hx=>hl x (by simp[hx])) (fun hm=>by cases hm) (fun x hx=>zd x (by simp[hx])) (gk (kf kl F) o.dst v) ((qt.kf (kl:=kl) hF).put _ _) (mN.put (mN.kf (kl:=kl) hA) fun g ma t ht=>zd (i,o) (by simp) g ma t ht) (fun x hx t ht=>by
       by_cases e:o.dst=some t
       ·rw[e,gW,gW]
       ·rw[dG e,dG e];exact uv (wU x (by simp[hx]) t ht))
      have qA:∀q∈recs,reach ops 4 q.o i=true:=fun q hq=>aaB (q.i,q.o) (by rw[←c3];exact List.mem_map.2 ⟨q,hq,rfl⟩);have aaC:ops.toList.any (isApp E)=true:=List.any_eq_true.2 ⟨o,List.mem_of_getElem? (by rw[Array.getElem?_toList];exact hl (i,o) (by simp)),Nv⟩;refine⟨⟨i,o,v,wr,ft,kl⟩::recs,f',c1,c2,by simp[c3],⟨KW hE hY hg hA hd Wk hn,fun j b hb=>Ty _ hb,c4⟩,?_⟩;refine⟨fun hm=>(by cases hm),fun hm=>List.pairwise_cons.2 ⟨fun q hq=>.inl (qA q hq),c5.ord hm⟩,fun hm q hq=>?_,List.pairwise_cons.2 ⟨fun q hq _=>qA q hq,c5.kl⟩,⟨fun q hq lU _=>.inl (qA q hq),c5.cln⟩,fun q hq lU hid=>?_⟩
      ·rcases List.mem_cons.1 hq with rfl|hq
       ·exact vI aaz
       ·exact fun y hy x hx=>c5.log hm q hq y hy x (List.mem_append.2 (.inr hx))
      ·rcases List.mem_cons.1 hq with rfl|hq
       ·obtain⟨bb,hid⟩:=hid;exact⟨rfl,aaC,jI _ hid,zn (aaA _ hid)⟩
       ·obtain⟨g1,g2,g3,g4⟩:=c5.nam q hq lU hid;exact⟨g1,g2,g3,fun x hx=>g4 x (List.mem_append.2 (.inr hx))⟩
     ·cases h
    ·rcases Cy hE h with⟨v,f1,m1,ft,hk,KO⟩|⟨sw,_⟩
     rotate_left
     ·cases sw
     obtain⟨Tr,wr,Wl,Ty,hn⟩:=KO.drawn rfl;subst Tr;have MF:∀(f2:Fr)(m2:Mem),(∀x∈o.op.operands,bh E f2 x=bh E F x)→(∀x∈ft,m2 x.2=m x.2)→∀(R':Type)(k':V→Fr→Mem→aY→Option R'),Dv E true (cg E o.dst) o f2 m2 k'=k' v f2 (oG wr m2) ft:=fun f2 m2 hf=>hn f2 m2 fun x hx=>by rw[hf x hx,Wk x hx]
     have step:∀(UQ:List (Nat×bn))(Wm:Log),oG UQ m=m1→(mode=1→UQ=[])→(∀id b,(id,b)∈UQ→(true,id)∈ft)→Bo E ops w0 ⟨i,o,v,UQ,ft,[]⟩ F m→bM E ops mode fuel R A rest (gk f1 o.dst v) m1 Wm k=some r→(mode=2→Wm=(bif ops.toList.any (isApp E)then(xH ops o f1 m m1 v ft).map (fun n=>(i,false,rO n))else[])++(ft.map (fun x=>(i,x))++lg)∧vk ops o lg ft=true)→∃(recs:List Rec)(f':Fr),k f' (lX m recs)=some r∧qt f' (jH F recs)∧recs.map (fun r=>(r.i,r.o))=(i,o)::rest∧eV E ops w0 F m recs∧CB (E:=E) ops mode F m lg recs:=by
      intro UQ Wm hwm I7 hw2 Tv Qn Z9;obtain⟨recs,f',c1,c2,c3,c4,c5⟩:=jV hE hY gH fuel Qn (fun x hx=>hl x (by simp[hx])) (fun hm x hx=>L3 hm x (by simp[hx])) (fun x hx=>zd x (by simp[hx])) (gk F o.dst v) (hF.put _ _) (mN.put hA fun g ma t ht=>zd (i,o) (by simp) g ma t ht) (fun x hx t ht=>by
       by_cases e:o.dst=some t
       ·rw[e,gW,gW]
       ·rw[dG e,dG e];exact wU x (by simp[hx]) t ht)
      subst hwm;refine⟨⟨i,o,v,UQ,ft,[]⟩::recs,f',c1,c2,by simp[c3],⟨Tv,hw2,c4⟩,?_⟩;have RQ:mode=2→∀x∈lg,x∈Wm:=fun hm x hx=>by rw[(Z9 hm).1];exact List.mem_append.2 (.inr (List.mem_append.2 (.inr hx)))
      have Ny:mode=2→∀x∈ft,(i,x)∈Wm:=fun hm x hx=>by rw[(Z9 hm).1];exact List.mem_append.2 (.inr (List.mem_append.2 (.inl (List.mem_map.2 ⟨x,hx,rfl⟩))))
      refine⟨fun hm q hq=>?_,fun hm=>List.pairwise_cons.2 ⟨fun q hq=>?_,c5.ord hm⟩,fun hm q hq=>?_,List.pairwise_cons.2 ⟨fun q hq h=>absurd rfl h,c5.kl⟩,⟨fun q hq id hid=>?_,c5.cln⟩,fun q hq id hid=>?_⟩
      ·rcases List.mem_cons.1 hq with rfl|hq
       ·exact⟨I7 hm,rfl⟩
       ·exact c5.one hm q hq
      ·have d2:=c5.log hm;by_cases he:reach ops 4 q.o i=true
       ·exact .inl he
       ·refine .inr ⟨fun id b hb x hx Wn=>?_,fun id b hb x hx Wn=>?_⟩
        ·rcases d2 q hq x hx (i,true,id) (Ny hm (true,id) (hw2 id b hb))with h|h|h
         ·exact h Wn
         ·cases h.2
         ·exact he h
        ·rcases d2 q hq (true,id) (eV.wr c4 q hq id b hb) (i,x) (Ny hm x hx)with h|h|h
         ·exact h Wn.symm
         ·cases h.1
         ·exact he h
      ·rcases List.mem_cons.1 hq with rfl|hq
       ·exact vI (Z9 hm).2
       ·exact fun y hy x hx=>c5.log hm q hq y hy x (RQ hm x hx)
      ·obtain⟨g1,g2,g3,g4⟩:=c5.nam q hq id hid;by_cases he:reach ops 4 q.o i=true
       ·exact .inl he
       ·refine .inr (Nt (wU (i,o) (by simp)) hw2 (fun cQ=>he (g4 (i,false,rO id) ?_ rfl)) fun x hx Wn=>?_)
        ·rw[(Z9 g1).1,g2];exact List.mem_append.2 (.inl (List.mem_map.2 ⟨id,cQ,rfl⟩))
        ·rcases c5.log g1 q hq (true,id) g3 (i,x) (Ny g1 x hx)with h|h|h
         ·exact h Wn.symm
         ·cases h.1
         ·exact he h
      ·rcases List.mem_cons.1 hq with rfl|hq
       ·obtain⟨_,hid⟩:=hid;cases hid
       ·obtain⟨g1,g2,g3,g4⟩:=c5.nam q hq id hid;exact⟨g1,g2,g3,fun x hx=>g4 x (RQ g1 x hx)⟩
     rcases gH with rfl|rfl
     ·simp only[Nat.beq,Bool.false_eq_true,if_false]at hk;split at hk
      ·rename_i hqf;have P3:wr=[]:=by
        cases wr with
        |nil=>rfl
        |cons x l=>have:=tn hqf _ (Ty x (by simp));cases this
       subst P3;exact step [] lg Wl.symm (fun _=>rfl) (by simp) (zm hE hg hA hd MF) hk (by simp)
      ·cases hk
     ·simp only[Nat.beq,if_true]at hk;split at hk
      ·rename_i Wo;exact step wr _ Wl.symm (by simp) (fun id b hb=>Ty _ hb) (zm hE hg hA hd MF) hk fun _=>⟨rfl,Wo⟩
      ·cases hk
   ·cases h
  ·rename_i j vl hg;split at h
   ·rename_i tj L4;split at h
    ·rename_i b hb;generalize il:wv A ((i,o)::rest)=sp at h;obtain⟨body,Dx⟩:=sp;have jU:=za il;have Wa:Nat.beq mode 0=false:=by rcases gH with rfl|rfl<;>rfl
     simp only[Wa,Bool.false_and,Bool.false_eq_true,if_false]at h;split at h
     ·rename_i ip p jK;split at h
      ·rename_i c x y Ga;split at h
       ·rename_i hc;simp only[Bool.and_eq_true,List.all_eq_true,Bool.not_eq_true',beq_eq_false_iff_ne,ne_eq]at hc;obtain⟨⟨⟨⟨⟨⟨Gb,Tp⟩,sS⟩,V9⟩,TB⟩,Z6⟩,bY⟩:=hc;have TC:mode=1:=by
         rcases gH with h|h
         ·exact h
         ·subst h;simp[Nat.beq]at bY
        subst TC;have Gb:=Nat.eq_of_beq_eq_true Gb;subst Gb;have Tp:guardOf p A=none:=by simpa using Tp
        obtain⟨rb,Gc,h⟩:=Option.bind_eq_some_iff.1 h;have cQ:∀z∈body,z∈(i,o)::rest:=fun z hz=>by rw[jU];simp[hz]
        have pZ:∀z∈jK,z∈(i,o)::rest:=fun z hz=>by rw[jU];simp[hz]
        have D2:(ip,p)∈(i,o)::rest:=by rw[jU];simp
        obtain⟨Nf,hb⟩:=y8 hb;have hFc:F c=.pv (.bool b):=by
         rcases hF c with e|e
         ·rw[←e];exact hb
         ·rw[e]at hb;cases hb
        have after:∀(nH:List Rec)(q:Operand),nH.map (fun r=>(r.i,r.o))=body→eV E ops w0 F m nH→(∀q∈nH,q.wr=[]∧q.kl=[])→bh E (jH F nH) q=.pv (.bool rb)→(q=if b then x else y)→∃(recs:List Rec)(f':Fr),k f' (lX m recs)=some r∧qt f' (jH F recs)∧recs.map (fun r=>(r.i,r.o))=body++(ip,p)::jK∧eV E ops w0 F m recs∧(∀q∈recs,q.wr=[]∧q.kl=[]):=by
         intro nH q Wp Wq P3 hq Z7;have Qq:∀t,(∀z∈body,z.2.dst≠some t)→jH F nH t=F t:=fun t ht=>Bn fun q hq=>⟨ht (q.i,q.o) (by rw[←Wp];exact List.mem_map.2 ⟨q,hq,rfl⟩),(P3 q hq).2⟩;have Wb:mN E.fn.ntmps ops A (jH F nH):=fun g ma=>by obtain⟨t,h1,h0,h2⟩:=hA g ma;exact⟨t,h1,h0,by rw[Qq t fun z hz=>zd z (cQ z hz) g ma t h1];exact h2⟩
         have Px:jH F nH c=.pv (.bool b):=by rw[Qq c fun z hz=>(sS z hz).2];exact hFc
         have hrp:Bo E ops w0 ⟨ip,p,.pv (.bool rb),[],[],[]⟩ (jH F nH) m:=zm hE Tp Wb Z6 fun f2 m2 hf hm R' k'=>by
          have nq:bh E f2 (.tmp c)=.pv (.bool b):=by have:=hf (.tmp c) (by rw[Ga];simp[Op.operands]);rw[this,Qm Nf];exact Px
          have Rt:bh E f2 q=.pv (.bool rb):=by rw[hf q (by rw[Ga,Z7];cases b<;>simp[Op.operands])];exact hq
          rw[DZ Ga nq,←Z7,Rt];rfl
         obtain⟨recs,f',c1,c2,c3,c4,c5⟩:=jV hE hY (.inl rfl) fuel h (fun z hz=>hl z (pZ z hz)) (fun hm z hz=>L3 hm z (pZ z hz)) (fun z hz=>zd z (pZ z hz)) (gk (jH F nH) p.dst (.pv (.bool rb))) (qt.put (sf fun t ht=>by rw[Qq t ht];exact hF t) _ _) (mN.put Wb fun g ma t ht=>zd (ip,p) D2 g ma t ht) (fun z hz t ht=>by
          by_cases e:p.dst=some t
          ·rw[e,gW,gW]
          ·have VA:∀u∈body,u.2.dst≠some t:=fun u hu hud=>by
            have h1:=TB z hz;simp only[blind,List.all_eq_true]at h1;have h2:=h1 u hu;rw[hud]at h2;simp only[Bool.not_eq_true']at h2;have:(z.2.looksAt ops).elem t=true:=by simpa using ht
            rw[this]at h2;cases h2
           rw[dG e,dG e,se VA,Qq t VA];exact wU z (pZ z hz) t ht)
         have hmB:lX m nH=m:=Bq P3;refine⟨nH++⟨ip,p,.pv (.bool rb),[],[],[]⟩::recs,f',?_,?_,by simp[Wp,c3],?_,fun q hq=>?_⟩
         ·rw[D7,hmB];exact c1
         ·rw[D6];exact c2
         ·refine eV.append.2 ⟨Wq,?_⟩;rw[hmB];exact⟨hrp,by simp,c4⟩
         ·rcases List.mem_append.1 hq with h|h
          ·exact P3 q h
          ·rcases List.mem_cons.1 h with rfl|h
           ·exact⟨rfl,rfl⟩
           ·exact c5.one rfl q h
        have fin:(∃(recs:List Rec)(f':Fr),k f' (lX m recs)=some r∧qt f' (jH F recs)∧recs.map (fun r=>(r.i,r.o))=body++(ip,p)::jK∧eV E ops w0 F m recs∧(∀q∈recs,q.wr=[]∧q.kl=[]))→∃(recs:List Rec)(f':Fr),k f' (lX m recs)=some r∧qt f' (jH F recs)∧recs.map (fun r=>(r.i,r.o))=(i,o)::rest∧eV E ops w0 F m recs∧CB (E:=E) ops 1 F m lg recs:=by rintro⟨recs,f',c1,c2,c3,c4,c5⟩;exact⟨recs,f',c1,c2,by rw[jU];exact c3,c4,fun _=>c5,fun h=>(by cases h),fun h=>(by cases h),List.Pairwise.imp_of_mem (R:=fun _ _=>True) (fun{q r}hq hr _ h=>absurd (c5 q hq).2 h) (List.pairwise_of_forall fun _ _=>trivial),kZ.none fun q hq=>(c5 q hq).2,fun q hq id⟨_,hid⟩=>(by rw[(c5 q hq).2]at hid;cases hid)⟩
        have go:∀q,b=vl→(q=if b then x else y)→bM E ops 1 fuel Bool ((j,vl)::A) body f m lg (fun f _=>sD (bh E f q))=some rb→∃(recs:List Rec)(f':Fr),k f' (lX m recs)=some r∧qt f' (jH F recs)∧recs.map (fun r=>(r.i,r.o))=body++(ip,p)::jK∧eV E ops w0 F m recs∧(∀q∈recs,q.wr=[]∧q.kl=[]):=by
         intro q KP hq Qn;obtain⟨nH,f1,c1,c2,c3,c4,c5⟩:=jV hE hY (.inl rfl) fuel Qn (fun z hz=>hl z (cQ z hz)) (fun hm z hz=>L3 hm z (cQ z hz)) (fun z hz g ma t ht=>by
          rcases List.mem_cons.1 ma with rfl|ma
          ·simp only[L4]at ht;cases ht;exact(sS z hz).2
          ·exact zd z (cQ z hz) g ma t ht) F hF (fun g ma=>by
          rcases List.mem_cons.1 ma with rfl|ma
          ·exact⟨c,L4,Nf,by rw[hFc,KP]⟩
          ·exact hA g ma) (fun z hz=>wU z (cQ z hz))
         refine after nH q c3 c4 (c5.one rfl) ?_ hq;have hv:=uq c1;rcases Na (E:=E) c2 q with e|e
         ·rw[←e];exact hv
         ·rw[e]at hv;cases hv
        have no:∀q,b= !vl→(q=if b then x else y)→sD (bh E (jJ f body) q)=some rb→∃(recs:List Rec)(f':Fr),k f' (lX m recs)=some r∧qt f' (jH F recs)∧recs.map (fun r=>(r.i,r.o))=body++(ip,p)::jK∧eV E ops w0 F m recs∧(∀q∈recs,q.wr=[]∧q.kl=[]):=by
         intro q KP hq Qn;obtain⟨s1,s2⟩:=Bp (E:=E) (w0:=w0) (m:=m) body F (fun z hz=>(sS z hz).1.2) (uo L4 V9 (fun z hz=>hl z (cQ z hz)) (fun z hz=>(sS z hz).2) (by rw[hFc,KP]) (by simp));refine after (body.map uw) q (by simp[uw,Function.comp_def]) s1 (fun u hu=>by obtain⟨z,_,rfl⟩:=List.mem_map.1 hu;exact⟨rfl,rfl⟩) ?_ hq;rw[s2];have hv:=uq Qn;have hle:qt (jJ f body) (fU F body):=sf fun t ht=>by rw[pE ht];exact hF t
         rcases Na (E:=E) hle q with e|e
         ·rw[←e];exact hv
         ·rw[e]at hv;cases hv
        refine fin ?_;cases vl<;>cases b<;>simp only[cond]at Gc
        ·exact go y rfl rfl Gc
        ·exact no x rfl rfl Gc
        ·exact no y rfl rfl Gc
        ·exact go x rfl rfl Gc
       ·cases h
      ·cases h
     ·cases h
    ·cases h
   ·cases h
theorem od{l:List Oper}:(i,o)∈(List.range l.length).zip l↔l[i]?=some o:=by
 rw[List.mem_iff_getElem?];constructor
 ·rintro⟨n,hn⟩;rw[List.getElem?_zip_eq_some]at hn;obtain⟨h1,h2⟩:=hn;rw[List.getElem?_range (by have:=(List.getElem?_eq_some_iff.1 h2).1;omega)]at h1;simp only[Option.some.injEq]at h1;subst h1;exact h2
 ·intro h;refine⟨i,List.getElem?_zip_eq_some.2 ⟨?_,h⟩⟩;exact List.getElem?_range (by have:=(List.getElem?_eq_some_iff.1 h).1;omega)
theorem qZ:∀{l done:List (Nat×Oper)},kS ops done l=true→(∀x∈l,∀d∈done,reach ops 4 x.2 d.1=true∨d.2.apart ops x.2=true)∧l.Pairwise (fun q r=>reach ops 4 r.2 q.1=true∨q.2.apart ops r.2=true)∧∀x∈l,∀e∈x.2.after,Region.binds .any e=true→e.on<x.1
 |[],_,_=>⟨by simp,.nil,by simp⟩
 |(i,o)::r,done,h=>by
  simp only[kS,Bool.and_eq_true]at h;obtain⟨⟨h1,h2⟩,h3⟩:=h;obtain⟨i1,i2,i3⟩:=qZ h3;have Cl:∀{done:List (Nat×Oper)},rP ops done o=true→∀d∈done,reach ops 4 o d.1=true∨d.2.apart ops o=true:=by
   intro done;induction done with
   |nil=>intro _ d hd;cases hd
   |cons x l ih=>
    intro h d hd;simp only[rP,Bool.and_eq_true,Bool.or_eq_true]at h;rcases List.mem_cons.1 hd with rfl|hd
    ·exact h.1.symm
    ·exact ih h.2 d hd
  refine⟨fun x hx d hd=>?_,List.pairwise_cons.2 ⟨fun x hx=>i1 x hx (i,o) (by simp),i2⟩,fun x hx e he hb=>?_⟩
  ·rcases List.mem_cons.1 hx with rfl|hx
   ·exact Cl h2 d hd
   ·exact i1 x hx d (by simp[hd])
  ·rcases List.mem_cons.1 hx with rfl|hx
   ·have:=List.all_eq_true.1 h1 e (Array.mem_toList_iff.2 he);simp only[hb,Bool.not_true,Bool.false_or]at this;rwa[Nat.blt_eq]at this
   ·exact i3 x hx e he hb
variable{rd:Option Nat}{fuel:Nat}{Q:Exit→Act→World→Prop}
theorem q6(hE:gP E)(hY:oM E.P E.ax E.fn.ntmps E.yl w0){mode:Nat}(gH:mode=1∨mode=2){l:List (Nat×Oper)}{base:Nat→Bool}(L3:mode=1→∀x∈l,eH x.2=true){k:Fr→Mem→Option R}{r:R}(hmz:∀x∈l,ops[x.1]?=some x.2)(RR:(l.map Prod.fst).Pairwise (·<·))(Nj:∀x∈l,base x.1=false)(Nk:∀i o,ops[i]?=some o→base i=false→(∀x∈l,x.1≠i)→(∀x∈l,reach ops 8 o x.1=true)∨∃j,reach ops 8 o j=true∧base j=false∧∀x∈l,x.1≠j)(aaD:∀x∈l,∀e∈x.2.after,Region.binds .any e=true→base e.on=true∨∃y∈l,y.1=e.on)(hi:kS ops [] l=true)(h:bM E ops mode fuel R [] l f m [] k=some r)(hQ:∀(fuel:Nat)(listed:Array Bool),listed.size=ops.size→listed.toList.countP (fun b=> !b)≤fuel→tr ops listed→(∀i,ar listed i=true↔base i=true∨∃x∈l,x.1=i)→∀f' m' μ φ a w,k f' m'=some r→Rel E.P E.ax E.fn.ntmps w0 μ φ f' m' a w→wpAnyIn (FR rd) 0 E.P .any ops Q fuel listed a w):∀(fuel:Nat)(listed:Array Bool),listed.size=ops.size→listed.toList.countP (fun b=> !b)≤fuel→tr ops listed→(∀i,ar listed i=true↔base i=true)→∀(μ:Ro)(φ:Nat→aw)(a:Act)(w:World),Rel E.P E.ax E.fn.ntmps w0 μ φ f m a w→wpAnyIn (FR rd) 0 E.P .any ops Q fuel listed a w:=by
 intro Wr listed hs hc py hb μ φ a w hR;obtain⟨recs,f',c1,c2,c3,c4,c5⟩:=jV (w0:=w0) hE hY gH fuel h hmz L3 (by intro x hx g hg;cases hg) f (qt.refl f) (by intro g hg;cases hg) (fun _ _ _ _=>rfl);obtain⟨_,i2,i3⟩:=qZ hi;have cQ:∀q∈recs,(q.i,q.o)∈l:=fun q hq=>by rw[←c3];exact List.mem_map.2 ⟨q,hq,rfl⟩
 have Wo:∀x∈l,∃q∈recs,q.i=x.1:=fun x hx=>by rw[←c3]at hx;obtain⟨q,hq,rfl⟩:=List.mem_map.1 hx;exact⟨q,hq,rfl⟩
 have Cl:recs.Pairwise fun q r=>reach ops 4 r.o q.i=true∨q.o.apart ops r.o=true:=by rw[←c3,List.pairwise_map]at i2;exact i2
 have RS:recs.Pairwise (Ns (ops:=ops)):=by
  rcases gH with hm|hm
  ·exact List.Pairwise.imp_of_mem (fun{q r}hq hr _=>.inr ⟨fun id b hb=>(by rw[(c5.one hm q hq).1]at hb;cases hb),fun id b hb=>(by rw[(c5.one hm r hr).1]at hb;cases hb)⟩) Cl
  ·exact c5.ord hm
 refine Ni (E:=E) (w0:=w0) (recs:=recs) (f0:=f) (m0:=m) (base:=base) ?_ (fun q hq=>hmz _ (cQ q hq)) (fun q hq=>Nj _ (cQ q hq)) (fun i o ho hbi cq=>?_) ?_ c5.kl c5.cln (fun q hq e he Cm=>⟨i3 _ (cQ q hq) e he Cm,?_⟩) c4 ?_ Wr listed hs hc py (fun i hi=>(hb i).2 hi) (fun i hi=>Or.inl ((hb i).1 hi)) μ φ a w ?_
 ·rw[←c3,List.map_map]at RR;have h2:(recs.map (Prod.fst∘fun r=>(r.i,r.o))).Pairwise (·<·):=RR;rw[List.pairwise_map]at h2;exact h2
 ·have aaE:∀x∈l,x.1≠i:=fun x hx e=>by obtain⟨q,hq,Nl⟩:=Wo x hx;exact cq q hq (by rw[Nl];exact e)
  rcases Nk i o ho hbi aaE with h1|⟨j,h1,h2,h3⟩
  ·exact Or.inl fun q hq=>h1 _ (cQ q hq)
  ·exact Or.inr ⟨j,h1,h2,fun q hq=>h3 _ (cQ q hq)⟩
 ·refine List.Pairwise.imp (fun{q r}h=>?_) (List.Pairwise.and Cl RS);obtain⟨h1,h2⟩:=h;rcases h1 with h1|h1
  ·exact .inl h1
  ·rcases h2 with h2|h2
   ·exact .inl h2
   ·exact .inr ⟨h1,h2⟩
 ·rcases aaD _ (cQ q hq) e he Cm with h1|⟨y,hy,h1⟩
  ·exact Or.inl h1
  ·obtain⟨q',Kp,Nl⟩:=Wo y hy;exact Or.inr ⟨q',Kp,by rw[Nl];exact h1⟩
 ·intro RT Jj Tb Ay aaF nq μ2 φ2 a2 w2 Bg;refine hQ RT Jj Tb Ay aaF (fun i=>?_) _ _ μ2 φ2 a2 w2 c1 (Bg.weaken c2);rw[nq i];constructor
  ·rintro(h1|⟨q,hq,h1⟩)
   ·exact Or.inl h1
   ·exact Or.inr ⟨_,cQ q hq,h1⟩
  ·rintro(h1|⟨x,hx,h1⟩)
   ·exact Or.inl h1
   ·obtain⟨q,hq,Nl⟩:=Wo x hx;exact Or.inr ⟨q,hq,by rw[Nl];exact h1⟩
 ·have hS:∀q∈recs,ar listed q.i=false:=fun q hq=>by
   cases hx:ar listed q.i with
   |false=>rfl
   |true=>have:=(hb q.i).1 hx;rw[Nj _ (cQ q hq)]at this;cases this
  rw[show lj (ar listed) f recs=f from funext fun t=>mb fun q hq hs=>(by rw[hS q hq]at hs;cases hs),show lk (ar listed) m recs=m from funext fun t=>mc fun q hq hs=>(by rw[hS q hq]at hs;cases hs)];exact hR
variable{x:Nat×Oper}
theorem tu(hx:x∈(List.range ops.size).zip ops.toList):ops[x.1]?=some x.2:=by have:=(od (l:=ops.toList) (i:=x.1) (o:=x.2)).1 (by simpa using hx);rwa[Array.getElem?_toList]at this
theorem mP(ho:ops[i]?=some o):(i,o)∈(List.range ops.size).zip ops.toList:=by have:=(od (l:=ops.toList) (i:=i) (o:=o)).2 (by rw[Array.getElem?_toList];exact ho);simpa using this
theorem zip_fst:((List.range ops.size).zip ops.toList).map Prod.fst=List.range ops.size:=by rw[List.map_fst_zip (by simp)]
variable{P:Program}
theorem zo{F:Fence}{n:Nat}{listed:Array Bool}(hs:listed.size=ops.size)(xz:∀i o,ops[i]?=some o→ar listed i=true)(hq:Q .normal a w):wpAnyIn F n P .any ops Q fuel listed a w:=by
 have hr:Region.ready .any ops listed=[]:=by
  apply List.eq_nil_iff_forall_not_mem.2;intro j hj;obtain⟨h0,o,ho,_⟩:=mem_ready.1 hj;have h1:=xz j o ho;have ba:j<listed.size:=by rw[hs];exact(Array.getElem?_eq_some_iff.1 ho).1
  simp only[ar,Array.getD_eq_getD_getElem?,Array.getElem?_eq_getElem ba,Option.getD_some]at h0 h1;rw[h0]at h1;cases h1
 cases fuel with
 |zero=>exact⟨hr,hq⟩
 |succ fuel=>exact⟨fun _=>hq,fun i hi=>by rw[hr]at hi;cases hi⟩
theorem q7(n j:Nat):ar (Array.replicate n false) j=false:=by simp only[ar,Array.getD_eq_getD_getElem?,Array.getElem?_replicate];split<;>rfl
theorem count_le(n:Nat):(Array.replicate n false).toList.countP (fun b=> !b)≤n:=by have:=List.countP_le_length (p:=fun b=> !b) (l:=(Array.replicate n false).toList);simpa using this
theorem wV:tr ops (Array.replicate ops.size false):=fun i o _ h=>by rw[q7]at h;cases h
theorem zp(hE:gP E)(hY:oM E.P E.ax E.fn.ntmps E.yl w0){mode:Nat}(gH:mode=1∨mode=2)(L3:mode=1→∀o∈ops,eH o=true){k:Fr→Mem→Option R}{r:R}(hi:kS ops [] ((List.range ops.size).zip ops.toList)=true)(h:bM E ops mode fuel R [] ((List.range ops.size).zip ops.toList) f m [] k=some r){μ:Ro}(hR:Rel E.P E.ax E.fn.ntmps w0 μ φ f m a w)(hQ:∀f' m' μ' φ' a' w',k f' m'=some r→Rel E.P E.ax E.fn.ntmps w0 μ' φ' f' m' a' w'→Q .normal a' w'):wpAnyIn (FR rd) 0 E.P .any ops Q ops.size (Array.replicate ops.size false) a w:=by
 refine q6 (w0:=w0) (base:=fun _=>false) hE hY gH (fun hm x hx=>L3 hm x.2 (Array.mem_of_getElem? (tu hx))) (fun x hx=>tu hx) (by rw[zip_fst];exact List.pairwise_lt_range) (fun _ _=>rfl) (fun i o ho _ cq=>absurd rfl (cq _ (mP ho))) (fun x hx e he hb=>Or.inr ?_) hi h ?_ ops.size _ (by simp) (count_le _) wV (fun i=>by rw[q7]) μ φ a w hR
 ·obtain⟨_,_,i3⟩:=qZ hi;have h1:=i3 x hx e he hb;have h2:x.1<ops.size:=(Array.getElem?_eq_some_iff.1 (tu hx)).1;exact⟨_,mP (Array.getElem?_eq_getElem (show e.on<ops.size by omega)),rfl⟩
 ·intro RT Jj Tb _ _ nq f' m' μ2 φ2 a2 w2 hk Bg;exact zo Tb (fun i o ho=>(nq i).2 (Or.inr ⟨_,mP ho,rfl⟩)) (hQ _ _ _ _ _ _ hk Bg)
theorem uy{j:Nat}(h:((List.range ops.size).zip ops.toList)[j]?=some x):x.1=j:=by
 have h1:(((List.range ops.size).zip ops.toList).map Prod.fst)[j]?=some x.1:=by rw[List.getElem?_map,h];rfl
 rw[zip_fst]at h1;obtain⟨h2,h3⟩:=List.getElem?_eq_some_iff.1 h1;rw[List.getElem_range]at h3;exact h3.symm
theorem ll{p:Nat}:x∈((List.range ops.size).zip ops.toList).take p↔x∈(List.range ops.size).zip ops.toList∧x.1<p:=by
 constructor
 ·intro h;obtain⟨j,hj⟩:=List.getElem?_of_mem h;have hjp:j<p:=by have:=(List.getElem?_eq_some_iff.1 hj).1;simp at this;omega
  rw[List.getElem?_take_of_lt hjp]at hj;exact⟨List.mem_of_getElem? hj,by rw[uy hj];exact hjp⟩
 ·rintro⟨h,hx⟩;obtain⟨j,hj⟩:=List.getElem?_of_mem h;have:=uy hj;exact List.mem_of_getElem? (i:=j) (by rw[List.getElem?_take_of_lt (by omega)];exact hj)
theorem oY{p:Nat}:x∈((List.range ops.size).zip ops.toList).drop p↔x∈(List.range ops.size).zip ops.toList∧p≤x.1:=by
 constructor
 ·intro h;obtain⟨j,hj⟩:=List.getElem?_of_mem h;rw[List.getElem?_drop]at hj;exact⟨List.mem_of_getElem? hj,by rw[uy hj];omega⟩
 ·rintro⟨h,hx⟩;obtain⟨j,hj⟩:=List.getElem?_of_mem h;have:=uy hj;exact List.mem_of_getElem? (i:=j-p) (by rw[List.getElem?_drop,show p+(j-p)=j by omega];exact hj)
variable{K:Act→World→Prop}{Q':Exit→Act→World→Prop}
theorem Oper.Gh{F:Fence}{n:Nat}(h:∀e a w,e≠.normal→Q' e a w→Q e a w)(hh:o.wpIn F n P a w K Q'):o.wpIn F n P a w K Q:=by
 unfold Oper.wpIn at*;refine⟨hh.1,?_⟩;have hh:=hh.2;have Ws:LetsOut Q'→LetsOut Q:=fun⟨a,w,hq⟩=>⟨a,w,h _ _ _ (by simp) hq⟩;generalize (o.semAt F.round a.eval).run P w=r at*;cases r with
 |ok x w'=>
  cases x<;>simp only[Oper.uponIn]at hh⊢<;>first
   |exact hh
   |exact⟨hh.1,CallsIn.mono hh.2 (fun e w'' he=>by cases e<;>first|exact Ws he|exact h _ _ _ (by simp) he|exact he)⟩
   |exact⟨hh.1,RoundIn.mono hh.2 (fun e w'' he=>by cases e<;>first|exact Ws he|exact h _ _ _ (by simp) he|exact he)⟩
 |halt x w'=>cases x<;>simp only[Oper.uponIn]at hh⊢<;>first|exact h _ _ _ (by simp) hh|exact hh
theorem CC{F:Fence}{n:Nat}(h:∀e a w,e≠.normal→Q' e a w→Q e a w)(hh:wpOpIn F n P ops Q' i K a w):wpOpIn F n P ops Q i K a w:=by
 unfold wpOpIn at*;split
 ·simpa[*]using hh
 ·rename_i o ho;simp only[ho]at hh;split
  ·rename_i hw;simp only[hw,if_true]at hh;exact Oper.Gh h hh
  ·rename_i hw;simp only[hw]at hh;exact hh
theorem Gi(hE:gP E)(hY:oM E.P E.ax E.fn.ntmps E.yl w0){p:Nat}(KX:Mn ops p=true){k:Fr→Mem→Option R}{r:R}(TD:kS ops [] (((List.range ops.size).zip ops.toList).take p)=true)(hi3:kS ops [] (((List.range ops.size).zip ops.toList).drop (p+1))=true){n1 n2 n3:Nat}(h:(bM E ops 2 n1 R [] (((List.range ops.size).zip ops.toList).take p) f m [] fun f m=>bM E ops 0 n2 R [] ((((List.range ops.size).zip ops.toList).drop p).take 1) f m [] fun f m=>bM E ops 2 n3 R [] (((List.range ops.size).zip ops.toList).drop (p+1)) f m [] k)=some r){μ:Ro}(hR:Rel E.P E.ax E.fn.ntmps w0 μ φ f m a w)(hQ:∀f' m' μ' φ' a' w',k f' m'=some r→Rel E.P E.ax E.fn.ntmps w0 μ' φ' f' m' a' w'→Q .normal a' w'):wpAnyIn (FR rd) 0 E.P .any ops Q ops.size (Array.replicate ops.size false) a w:=by
 unfold Mn at KX;cases ho:ops[p]? with
 |none=>rw[ho]at KX;cases KX
 |some o=>
  rw[ho]at KX;simp only[Bool.and_eq_true]at KX;obtain⟨⟨_,AA⟩,hpa⟩:=KX;have hpn:p<ops.size:=(Array.getElem?_eq_some_iff.1 ho).1;have Jg:∀e∈o.after,Region.binds .any e=true→e.on<p:=fun e he hb=>by have:=List.all_eq_true.1 AA e (Array.mem_toList_iff.2 he);rw[hb,Bool.not_true,Bool.false_or]at this;exact Nat.le_of_ble_eq_true this
  have aaG:∀i,i<p→reach ops 8 o i=true:=fun i hi=>by
   have:=List.all_eq_true.1 hpa _ (mP (Array.getElem?_eq_getElem (show i<ops.size by omega)));simp only at this;have hb:Nat.blt i p=true:=by simp[Nat.blt];omega
   rw[hb]at this;exact this
  have Wt:∀i o',ops[i]?=some o'→p<i→reach ops 8 o' p=true:=fun i o' KT hi=>by
   have:=List.all_eq_true.1 hpa _ (mP KT);simp only at this;have hb:Nat.blt i p=false:=by
    cases hx:Nat.blt i p with
    |false=>rfl
    |true=>have:i<p:=Nat.le_of_ble_eq_true hx;omega
   have nq:Nat.beq i p=false:=by
    cases hx:Nat.beq i p with
    |false=>rfl
    |true=>have:=Nat.eq_of_beq_eq_true hx;omega
   rw[hb,nq]at this;simpa using this
  refine q6 (w0:=w0) (base:=fun _=>false) hE hY (.inr rfl) (fun h=>by cases h) (fun x hx=>tu (ll.1 hx).1) (by rw[List.map_take,zip_fst];exact(List.pairwise_lt_range).sublist (List.take_sublist _ _)) (fun _ _=>rfl) (fun i o' KT _ cq=>?_) (fun x hx e he hb=>Or.inr ?_) TD h ?_ ops.size _ (by simp) (count_le _) wV (fun i=>by rw[q7]) μ φ a w hR
  ·have hip:¬i<p:=fun hc=>cq _ (ll.2 ⟨mP KT,hc⟩) rfl;by_cases hi:i=p
   ·subst hi;rw[ho]at KT;cases KT;exact Or.inl fun x hx=>aaG _ (ll.1 hx).2
   ·exact Or.inr ⟨p,Wt i o' KT (by omega),rfl,fun x hx=>by have:=(ll.1 hx).2;omega⟩
  ·obtain⟨_,_,i3⟩:=qZ TD;have h1:=i3 x hx e he hb;have h2:=(ll.1 hx).2;exact⟨_,ll.2 ⟨mP (Array.getElem?_eq_getElem (show e.on<ops.size by omega)),by show e.on<p;omega⟩,rfl⟩
  ·intro fuel listed hs hc py hb f1 m1 μ1 φ1 a1 w1 KC Gd;have ba:∀i,ar listed i=true↔i<p:=fun i=>by
    rw[hb i];constructor
    ·rintro(h|⟨x,hx,rfl⟩)
     ·cases h
     ·exact(ll.1 hx).2
    ·intro hi;exact Or.inr ⟨_,ll.2 ⟨mP (Array.getElem?_eq_getElem (show i<ops.size by omega)),hi⟩,rfl⟩
   have kx:p<listed.size:=by rw[hs];exact hpn
   have hpu:ar listed p=false:=by
    cases hx:ar listed p with
    |false=>rfl
    |true=>have:=(ba p).1 hx;omega
   have TE:listed[p]=false:=by simpa only[ar,Array.getD_eq_getD_getElem?,Array.getElem?_eq_getElem kx,Option.getD_some]using hpu
   cases fuel with
   |zero=>have:=List.countP_eq_zero.1 (Nat.le_zero.1 hc) listed[p] (by simp);rw[TE]at this;simp at this
   |succ fuel=>
    have Nz:p∈Region.ready .any ops listed:=mem_ready.2 ⟨by simp only[Array.getD_eq_getD_getElem?,Array.getElem?_eq_getElem kx,Option.getD_some];exact TE,o,ho,fun e he Cm=>(ba e.on).2 (Jg e he Cm)⟩;refine⟨(fun h0=>by rw[h0]at Nz;cases Nz),fun i hi=>?_⟩;obtain⟨KS,o',KT,vH⟩:=mem_ready.1 hi;have qA:i<listed.size:=by rw[hs];exact(Array.getElem?_eq_some_iff.1 KT).1
    have hiu:ar listed i=false:=by simp only[ar,Array.getD_eq_getD_getElem?,Array.getElem?_eq_getElem qA,Option.getD_some]at KS⊢;exact KS
    have hip:i=p:=by
     refine Classical.byContradiction fun cq=>?_;have h1:¬i<p:=fun hc=>by rw[(ba i).2 hc]at hiu;cases hiu
     have:=mO listed py 8 o' p vH (Wt i o' KT (by omega));rw[hpu]at this;cases this
    subst hip;have hL:(((List.range ops.size).zip ops.toList).drop i).take 1=[(i,o)]:=by
     have hlen:i<((List.range ops.size).zip ops.toList).length:=by simp;exact hpn
     rw[List.drop_eq_getElem_cons hlen];have hg:((List.range ops.size).zip ops.toList)[i]=(i,o):=by have h1:((List.range ops.size).zip ops.toList)[i]?=some ((List.range ops.size).zip ops.toList)[i]:=List.getElem?_eq_getElem hlen;have h2:=uy h1;have h3:=tu (List.mem_of_getElem? h1);rw[h2,ho]at h3;exact Prod.ext h2 (Option.some.inj h3).symm
     rw[hg];rfl
    rw[hL]at KC;have RO:∀j,ar (listed.setIfInBounds i true) j=if j=i then true else ar listed j:=fun j=>by
     simp only[ar,Array.getD_eq_getD_getElem?,Array.getElem?_setIfInBounds];by_cases e:i=j
     ·subst e;simp[kx]
     ·have e':¬j=i:=fun h=>e h.symm;simp[e,e']
    have hle:∀j,ar (listed.setIfInBounds i true) j=true↔j≤i:=fun j=>by
     rw[RO];by_cases e:j=i
     ·simp[e]
     ·rw[if_neg e,ba];omega
    have Wu:=fR (rd:=rd) (w0:=w0) hE hY _ (.inl rfl) KC (by intro x hx;rw[List.mem_singleton]at hx;subst hx;exact ho) (by intro x hx g hg;cases hg) (fun h=>by cases h) μ1 φ1 a1 w1 (fun e a w=>(e=.normal∧wpAnyIn (FR rd) 0 E.P .any ops Q fuel (listed.setIfInBounds i true) a w)∨(e≠.normal∧Q e a w)) [] Gd (by intro g hg;cases hg) fun f2 m2 μ2 φ2 a2 w2 Qb Bg _ _=>Or.inl ⟨rfl,?_⟩
    ·rw[List.append_nil,List.map_cons,List.map_nil,wpOpsIn_cons]at Wu;refine wpOpIn_mono (fun a w hq=>?_) (CC (fun e a w cq hq=>?_) Wu)
     ·rcases hq with⟨_,h⟩|⟨h,_⟩
      ·exact h
      ·exact absurd rfl h
     ·rcases hq with⟨h,_⟩|⟨_,h⟩
      ·exact absurd h cq
      ·exact h
    ·refine q6 (w0:=w0) (base:=fun j=>decide (j≤i)) hE hY (.inr rfl) (fun h=>by cases h) (fun x hx=>tu (oY.1 hx).1) (by rw[List.map_drop,zip_fst];exact(List.pairwise_lt_range).sublist (List.drop_sublist _ _)) (fun x hx=>by have:=(oY.1 hx).2;simp;omega) (fun j oj hj hbj cq=>?_) (fun x hx e he Cm=>?_) hi3 Qb ?_ fuel _ (by simp[hs]) ?_ ?_ (fun j=>by rw[hle j];simp) μ2 φ2 a2 w2 Bg
     ·simp only[decide_eq_false_iff_not]at hbj;exact absurd rfl (cq _ (oY.2 ⟨mP hj,by show i+1≤j;omega⟩))
     ·obtain⟨_,_,i3⟩:=qZ hi3;have h1:=i3 x hx e he Cm;have h2:x.1<ops.size:=(Array.getElem?_eq_some_iff.1 (tu (oY.1 hx).1)).1;by_cases hei:e.on≤i
      ·exact Or.inl (by simpa using hei)
      ·exact Or.inr ⟨_,oY.2 ⟨mP (Array.getElem?_eq_getElem (show e.on<ops.size by omega)),by show i+1≤e.on;omega⟩,rfl⟩
     ·intro acE aaa hs3 _ _ hb3 f3 m3 μ3 φ3 a3 w3 UR Wv;refine zo hs3 (fun j oj hj=>(hb3 j).2 ?_) (hQ _ _ _ _ _ _ UR Wv);by_cases LZ:j≤i
      ·exact Or.inl (by simpa using LZ)
      ·exact Or.inr ⟨_,oY.2 ⟨mP hj,by show i+1≤j;omega⟩,rfl⟩
     ·rw[Array.toList_setIfInBounds,List.countP_set (by simpa using kx)];have:listed.toList[i]'(by simpa using kx)=false:=by simpa using TE
      rw[this];simp only[Bool.not_false,if_true,Bool.not_true,Bool.false_eq_true,if_false];omega
     ·intro j oj hj hlj e he Cm;rw[hle]at hlj⊢;by_cases LZ:j=i
      ·subst LZ;rw[ho]at hj;cases hj;have:=Jg e he Cm;omega
      ·have h1:=py j oj hj ((ba j).2 (by omega)) e he Cm;have:=(ba e.on).1 h1;omega
end
end Go.Ab
