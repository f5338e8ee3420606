import Derived.Test.YtanikidijjaohaaGreatAbP6
import Derived.OrdersIn
set_option linter.unusedVariables false
namespace Go.Ab
open Go.RowKit (Below)
def vj(f F:Fr):Prop:=∀t,f t=F t∨f t=.top
theorem vj.refl(f:Fr):vj f f:=fun _=>.inl rfl
theorem vj.put{f F:Fr}(h:vj f F)(d:Option Nat)(v:V):vj (jc f d v) (jc F d v):=by
 intro t;cases d with
 |none=>exact h t
 |some d=>
  simp only[jc,fI];cases Nat.beq t d
  ·exact h t
  ·exact .inl rfl
theorem dR{f:Fr}{d:Option Nat}{v:V}{t:Nat}(h:d≠some t):jc f d v t=f t:=by
 cases d with
 |none=>rfl
 |some d=>exact qu (fun e=>h (by rw[e]))
theorem jY{f:Fr}{v:V}{t:Nat}:jc f (some t) v t=v:=by simp[jc,fI,Nat.beq_refl]
section
variable {E:Env} {ops:Array Oper} {w0:br}
variable{nt:Nat}{μ:Ro}{φ:Nat→aA}{f:Fr}{m:Mem}{a:Act}
theorem Rel.weaken{f':Fr}{w:World}(h:Rel E.P E.aD nt w0 μ φ f m a w)(hf:vj f' f):Rel E.P E.aD nt w0 μ φ f' m a w:=
 {h with
  fr:=fun t=>by
   rcases hf t with e|e
   ·rw[e];exact h.fr t
   ·rw[e];exact .top,
  live:=fun t id hid=>by
   rcases hf t with e|e
   ·rw[e]at hid;exact h.live t id hid
   ·rw[e]at hid;cases hid}
variable{t:Nat}
theorem DR{d:Nat}{y:Value}(hd:d<a.tmps.size):(a.put (some d) y).tmps.getD t undef=if t=d then y else a.tmps.getD t undef:=by
 simp only[Act.put,Array.getD_eq_getD_getElem?,Array.getElem?_setIfInBounds];by_cases e:d=t
 ·subst e;simp[hd]
 ·have e':¬t=d:=fun h=>e h.symm;simp[e,e']
theorem Rel.put{nt:Nat}{μ μ':Ro}{φ φ':Nat→aA}{f f':Fr}{m m':Mem}{a:Act}{w w':World}(h:Rel E.P E.aD nt w0 μ φ f m a w)(hle:JE μ μ'){dst:Option Nat}{v:V}{y:Value}(hd:∀d,dst=some d→d<nt)(hM:av E.P E.aD w0 μ' φ' m' w')(hF:bZ E.P μ' φ' m' f' (az nt w0 a))(hv:ae E.P μ' φ' v y)(hl:∀id,v.has id=true→(m' id).isSome=true):Rel E.P E.aD nt w0 μ' φ' (jc f' dst v) m' (a.put dst y) w':=by
 refine{toav:=hM,size:=?_,defers:=?_,l5:=h.l5,fr:=fun t=>?_,live:=fun t id hid=>?_}
 ·cases dst<;>simp[Act.put,h.size]
 ·cases dst<;>exact h.defers.mono hle
 ·cases dst with
  |none=>exact hF.fr t
  |some d=>
   have bm:d<a.tmps.size:=by rw[h.size];exact hd d rfl
   have hf:=hF.fr t;by_cases e:t=d
   ·subst e;rw[qm (hd t rfl),DR bm,if_pos rfl,jY];exact hv
   ·rw[dR (by simpa using fun h=>e h.symm)];unfold az at hf⊢;split
    ·rename_i ht;rw[if_pos ht]at hf;rw[DR bm,if_neg e];exact hf
    ·rename_i ht;rw[if_neg ht]at hf;exact hf
 ·by_cases e:dst=some t
  ·subst e;rw[jY]at hid;exact hl id hid
  ·rw[dR e]at hid;exact hF.live t id hid
theorem Xv(h:t<E.fn.ntmps):bw E f (.tmp t)=f t:=by simp only[bw];rw[show Nat.blt t E.fn.ntmps=true by rw[Nat.blt_eq];exact h];rfl
theorem DS{p:PV}(h:bw E f (.tmp t)=.pv p):t<E.fn.ntmps∧f t=.pv p:=by
 simp only[bw]at h;cases e:Nat.blt t E.fn.ntmps with
 |true=>rw[e]at h;exact⟨by rwa[Nat.blt_eq]at e,h⟩
 |false=>rw[e]at h;cases h
theorem Ut{F:Fr}(h:vj f F)(q:Operand):bw E f q=bw E F q∨bw E f q=.top:=by
 cases q with
 |tmp t=>
  simp only[bw];cases Nat.blt t E.fn.ntmps with
  |true=>exact h t
  |false=>exact .inr rfl
 |_=>exact .inl rfl
def qE(nt:Nat)(ops:Array Oper)(A:List (Nat×Bool))(f:Fr):Prop:=∀g∈A,∃t,(ops[g.1]?).bind (·.dst)=some t∧t<nt∧f t=.pv (.bool g.2)
def zr(ops:Array Oper)(A:List (Nat×Bool))(a:Act):Prop:=∀g∈A,∃t,(ops[g.1]?).bind (·.dst)=some t∧a.tmps.getD t undef=.bool g.2
def aan(ops:Array Oper)(A:List (Nat×Bool))(l:List (Nat×Oper)):Prop:=∀x∈l,∀g∈A,∀t,(ops[g.1]?).bind (·.dst)=some t→x.2.dst≠some t
variable{d:Option Nat}{A:List (Nat×Bool)}
theorem qE.put(h:qE nt ops A f){v:V}(hd:∀g∈A,∀t,(ops[g.1]?).bind (·.dst)=some t→d≠some t):qE nt ops A (jc f d v):=by intro g hg;obtain⟨t,h1,h0,h2⟩:=h g hg;exact⟨t,h1,h0,by rw[dR (hd g hg t h1)];exact h2⟩
variable{o:Oper}
theorem jg(h:vv E o=true):∀d,o.dst=some d→d<E.fn.ntmps:=by intro d hd;simp only[vv,hd]at h;rw[Nat.blt_eq]at h;exact h
variable{b:Bool}
theorem uh{j:Nat}(h:(ops[j]?).bind (·.dst)=some t)(hb:a.tmps.getD t undef=.bool b):yielded ops a.tmps j=some b:=by
 simp only[yielded,h,Option.bind_some];have:a.tmps[t]?=some (.bool b):=by
  rw[Array.getD_eq_getD_getElem?]at hb;cases e:a.tmps[t]? with
  |none=>rw[e]at hb;simp[undef]at hb
  |some x=>rw[e]at hb;simpa using hb
 rw[this]
theorem AR(ho:guardOf o A=none)(hA:zr ops A a):Region.wanted o (yielded ops a.tmps)=true:=by
 unfold guardOf at ho;unfold Region.wanted;split at ho
 ·rename_i hg;simp[hg]
 ·rename_i g hg;split at ho
  ·rename_i bJ;obtain⟨t,h1,h2⟩:=hA g (by simpa using bJ);simp only[hg];rw[uh h1 h2];simp
  ·cases ho
theorem zr.put(h:zr ops A a){y:Value}(hs:∀t,d=some t→t<a.tmps.size)(hd:∀g∈A,∀t,(ops[g.1]?).bind (·.dst)=some t→d≠some t):zr ops A (a.put d y):=by
 intro g hg;obtain⟨t,h1,h2⟩:=h g hg;refine⟨t,h1,?_⟩;cases d with
 |none=>exact h2
 |some d=>rw[DR (hs d rfl),if_neg fun e=>hd g hg t h1 (by rw[e])];exact h2
def RY(ops:Array Oper)(f:Fr)(o:Oper):Prop:=∃g,o.guard=some g∧∀t,(ops[g.1]?).bind (·.dst)=some t→f t=.bt []∨f t=.pv (.bool (!g.2))
theorem RZ{P:Program}{x:Value}(h:ae P μ φ (.bt []) x):x=undef:=by
 cases h with
 | @bt _ xs h1 _=>have:xs= #[]:=Array.eq_empty_of_size_eq_zero (by simpa using h1.symm);subst this;rfl
theorem DT{P:Program}:ae P μ φ (.bt []) undef:=.bt rfl (by simp)
theorem xF{w:World}(h:Rel E.P E.aD nt w0 μ φ f m a w)(hd:RY ops f o):Region.wanted o (yielded ops a.tmps)=false:=by
 obtain⟨g,hg,ht⟩:=hd;simp only[Region.wanted,hg];cases hs:(ops[g.1]?).bind (·.dst)with
 |none=>simp[yielded,hs]
 |some t=>
  have hy:nt≤t→yielded ops a.tmps g.1=none:=fun hle=>by simp only[yielded,hs,Option.bind_some];rw[Array.getElem?_eq_none (by rw[h.size];exact hle)]
  by_cases Fo:nt≤t
  ·rw[hy Fo];rfl
  have bm:t<nt:=Nat.lt_of_not_le Fo;have h3:=h.fr t;rw[qm bm]at h3;rcases ht t hs with e|e
  ·rw[e]at h3;have h4:=RZ h3;have:yielded ops a.tmps g.1=none:=by
    simp only[yielded,hs,Option.bind_some];rw[Array.getD_eq_getD_getElem?]at h4;cases e:a.tmps[t]? with
    |none=>rfl
    |some x=>rw[e]at h4;simp only[Option.getD_some]at h4;subst h4;rfl
   rw[this];rfl
  ·rw[e]at h3;rw[uh hs (qC h3)];cases g.2<;>rfl
theorem ui{t:Nat}:∀{l:List (Nat×Oper)}{f:Fr},(∀x∈l,x.2.dst≠some t)→iJ f l t=f t
 |[],_,_=>rfl
 |x::r,f,h=>by rw[iJ,ui (fun y hy=>h y (by simp[hy])),dR (h x (by simp))]
theorem wW{t:Nat}:∀{l:List (Nat×Oper)}{f:Fr},(∀x∈l,x.2.dst≠some t)→mb f l t=f t
 |[],_,_=>rfl
 |x::r,f,h=>by rw[mb,wW (fun y hy=>h y (by simp[hy])),dR (h x (by simp))]
theorem AS{t:Nat}:∀{l:List (Nat×Oper)}{f:Fr},(f t=.top∨∃x∈l,x.2.dst=some t)→mb f l t=.top
 |[],_,h=>by
  rcases h with h|⟨x,hx,_⟩
  ·exact h
  ·cases hx
 |x::r,f,h=>by
  rw[mb];by_cases e:x.2.dst=some t
  ·exact AS (.inl (by rw[e,jY]))
  ·refine AS ?_;rcases h with h|⟨y,hy,hd⟩
   ·exact .inl (by rw[dR e];exact h)
   ·rcases List.mem_cons.1 hy with rfl|hy
    ·exact absurd hd e
    ·exact .inr ⟨y,hy,hd⟩
theorem wX{l:List (Nat×Oper)}{F:Fr}(h:∀t,(∀x∈l,x.2.dst≠some t)→f t=F t∨f t=.top):vj (mb f l) F:=by
 intro t;by_cases e:∃x∈l,x.2.dst=some t
 ·exact .inr (AS (.inr e))
 ·have e':∀x∈l,x.2.dst≠some t:=fun x hx hd=>e ⟨x,hx,hd⟩;rw[wW e'];exact h t e'
theorem zs{g:Nat×Bool}{tj:Nat}(hj:(ops[g.1]?).bind (·.dst)=some tj):∀{l:List (Nat×Oper)}{done:List Nat}{f:Fr},vu g done l=true→(∀x∈l,ops[x.1]?=some x.2)→(∀x∈l,x.2.dst≠some tj)→f tj=.pv (.bool (!g.2))→(∀j∈done,∀t,(ops[j]?).bind (·.dst)=some t→f t=.bt [])→∀(pre post:List (Nat×Oper))(x:Nat×Oper),l=pre++x::post→RY ops (iJ f pre) x.2
 |[],_,_,_,_,_,_,_,pre,post,x,h=>by simp at h
 |y::r,done,f,hg,hl,hd,hb,Mv,pre,post,x,h=>by
  simp only[vu,Bool.and_eq_true]at hg;cases pre with
  |nil=>
   simp only[List.nil_append,List.cons.injEq]at h;obtain⟨rfl,rfl⟩:=h;rw[iJ];have h1:=hg.1;split at h1
   ·rename_i hh Uu;refine⟨hh,Uu,fun t ht=>?_⟩;rcases Bool.or_eq_true_iff.1 h1 with h2|h2
    ·simp only[Bool.and_eq_true]at h2;have e1:=Nat.eq_of_beq_eq_true h2.1;have e2:hh.2=g.2:=by simpa using h2.2
     rw[e1]at ht;rw[hj]at ht;cases ht;exact .inr (by rw[e2];exact hb)
    ·exact .inl (Mv _ (by simpa using h2) t ht)
   ·cases h1
  |cons z pre=>
   simp only[List.cons_append,List.cons.injEq]at h;obtain⟨rfl,h⟩:=h;rw[iJ];refine zs hj hg.2 (fun x hx=>hl x (by simp[hx])) (fun x hx=>hd x (by simp[hx])) (by rw[dR (hd y (by simp))];exact hb) (fun j hjm t ht=>?_) pre post x h;by_cases e:y.2.dst=some t
   ·rw[e,jY]
   ·rw[dR e];rcases List.mem_cons.1 hjm with rfl|hjm
    ·rw[hl y (by simp)]at ht;exact absurd ht e
    ·exact Mv j hjm t ht
theorem DU{A:List (Nat×Bool)}:∀{l a b:List (Nat×Oper)},Bw A l=(a,b)→l=a++b
 |[],a,b,h=>by simp[Bw]at h;obtain⟨rfl,rfl⟩:=h;rfl
 |x::r,a,b,h=>by
  simp only[Bw]at h;split at h
  ·cases hs:Bw A r with
   |mk a' b'=>rw[hs]at h;simp only[Prod.mk.injEq]at h;obtain⟨rfl,rfl⟩:=h;rw[DU hs];rfl
  ·simp only[Prod.mk.injEq]at h;obtain⟨rfl,rfl⟩:=h;rfl
theorem zt{v:V}(h:xp v=some b):v=.pv (.bool b):=by
 unfold xp at h;split at h
 ·cases h;rfl
 ·cases h
theorem Y9(hE:jS E){site:Nat}{draw:Bool}{v:V}{f':Fr}{m':Mem}{ft:bk}(hn:draw=true∨∃c x y,o.op=.pick c x y)(h:∀(R':Type)(k':V→Fr→Mem→bk→Option R'),Jd E draw site o f m k'=k' v f' m' ft):uf E draw site o f m v f' m' ft:=by
 have hx:=HG hE (h (V×Fr×Mem×bk) fun v f m ft=>some (v,f,m,ft));rcases hx with⟨v1,f1,m1,ft1,h1,h2⟩|⟨h1,h2,_⟩
 rotate_left
 ·rcases hn with hn|⟨c,x,y,hn⟩
  ·rw[hn]at h1;cases h1
  ·exact absurd hn (h2 c x y)
 simp only[Option.some.injEq,Prod.mk.injEq]at h1;obtain⟨rfl,rfl,rfl,rfl⟩:=h1;exact h2
theorem JF{R:Type}{site:Nat}{draw:Bool}{p:Oper}{c:Nat}{x y:Operand}{k:V→Fr→Mem→bk→Option R}(hp:p.op=.pick (.tmp c) x y)(hb:bw E f (.tmp c)=.pv (.bool b)):Jd E draw site p f m k=k (bw E f (if b then x else y)) f m []:=by
 have pT:xV E site p f m=none:=by simp only[xV,hp]
 unfold Jd;rw[pT];have e:(bif draw then none else bif E.Ak site then(none:Option Sp)else none)=none:=by cases draw<;>cases E.Ak site<;>rfl
 rw[e];simp only[cJ,hp,hb];cases b<;>rfl
end
end Go.Ab
set_option linter.unusedVariables false
namespace Go.Ab
open Go.RowKit (Below)
section
variable {E:Env} {ops:Array Oper} {w0:br}
theorem vJ{rd:Option Nat}{Q:Exit→Act→World→Prop}{tail:List Nat}:∀(l:List (Nat×Oper))(f:Fr),(∀x∈l,ops[x.1]?=some x.2)→(∀x∈l,vv E x.2=true)→(∀(pre post:List (Nat×Oper))(x:Nat×Oper),l=pre++x::post→RY ops (iJ f pre) x.2)→∀{μ:Ro}{φ:Nat→aA}{m:Mem}{a:Act}{w:World},Rel E.P E.aD E.fn.ntmps w0 μ φ f m a w→∀(A:List (Nat×Bool)),zr ops A a→aan ops A l→(∀a',Rel E.P E.aD E.fn.ntmps w0 μ φ (iJ f l) m a' w→zr ops A a'→wpOpsIn (FR rd) 0 E.P ops Q tail a' w)→wpOpsIn (FR rd) 0 E.P ops Q (l.map (·.1)++tail) a w
 |[],f,_,_,_,_,_,_,a,_,hR,_,hA,_,hK=>hK a hR hA
 |x::r,f,hl,hd,DV,μ,φ,m,a,w,hR,A,hA,DW,hK=>by simp only[List.map_cons,List.cons_append,wpOpsIn];rw[hl x (by simp)];simp only;rw[xF hR (DV [] r x rfl)];simp only[Bool.false_eq_true,if_false];refine And.intro (fun _ _=>trivial) (vJ r (jc f x.2.dst (.bt [])) (fun y hy=>hl y (by simp[hy])) (fun y hy=>hd y (by simp[hy])) (fun pre post y h=>?_) (hR.put (fun _ _ h=>h) (jg (hd x (by simp))) hR.toav hR.kz DT (fun id hid=>by simp[V.has,cm]at hid)) A (hA.put (fun t ht=>by rw[hR.size];exact jg (hd x (by simp)) t ht) fun g pW t ht=>DW x (by simp) g pW t ht) (fun y hy=>DW y (by simp[hy])) hK);have:=DV (x::pre) post y (by rw[h];rfl);rwa[iJ]at this
theorem yq:∀{ft:bk},ze ft=true→∀x∈ft,x.1=false
 |[],_,x,hx=>by cases hx
 |(w,id)::r,h,x,hx=>by
  simp only[ze,Bool.and_eq_true,Bool.not_eq_true']at h;rcases List.mem_cons.1 hx with rfl|hx
  ·exact h.1
  ·exact yq h.2 x hx
theorem iG(hE:jS E){rd:Option Nat}(hY:sV E.P E.aD E.fn.ntmps E.yl w0):∀(fuel:Nat){mode:Nat}(jH:mode=0∨mode=3){R:Type}{A:List (Nat×Bool)}{l:List (Nat×Oper)}{f:Fr}{m:Mem}{lg:Log}{k:Fr→Mem→Option R}{r:R},cj E ops mode fuel R A l f m lg k=some r→(∀x∈l,ops[x.1]?=some x.2)→aan ops A l→(mode=3→∀x∈l,ff x.2=true)→∀(μ:Ro)(φ:Nat→aA)(a:Act)(w:World)(Q:Exit→Act→World→Prop)(tail:List Nat),Rel E.P E.aD E.fn.ntmps w0 μ φ f m a w→zr ops A a→(∀(f':Fr)(m':Mem)(μ':Ro)(φ':Nat→aA)(a':Act)(w':World),k f' m'=some r→Rel E.P E.aD E.fn.ntmps w0 μ' φ' f' m' a' w'→zr ops A a'→(mode=3→m'=m∧∀t,(∀x∈l,x.2.dst≠some t)→f' t=f t)→wpOpsIn (FR rd) 0 E.P ops Q tail a' w')→wpOpsIn (FR rd) 0 E.P ops Q (l.map (·.1)++tail) a w
 |0,_,_,_,_,_,_,_,_,_,_,h,_,_,_,_,_,_,_,_,_,_,_,_=>by simp[cj]at h
 |fuel+1,mode,jH,R,A,[],f,m,lg,k,r,h,_,_,_,μ,φ,a,w,Q,tail,hR,hA,hK=>by simp only[cj]at h;exact hK f m μ φ a w h hR hA fun _=>⟨rfl,fun _ _=>rfl⟩
 |fuel+1,mode,jH,R,A,(i,o)::rest,f,m,lg,k,r,h,hl,DW,Tm,μ,φ,a,w,Q,tail,hR,hA,hK=>by
  simp only[cj]at h;split at h
  ·rename_i hg;split at h
   ·rename_i hd;have Qe:Nat.beq mode 2=false:=by rcases jH with rfl|rfl<;>rfl
    simp only[Qe,cond_false]at h;rw[←Qe]at h;have hdf:=AQ h;rcases HG hE h with⟨v,f1,m1,ft,hk,R0⟩|⟨_,ow⟩
    rotate_left
    ·simp only[List.map_cons,List.cons_append,wpOpsIn];rw[hl (i,o) (by simp)];simp only;rw[AR hg hA,if_pos rfl];refine DQ.yp ow rd w0 μ φ a w _ Q hY hR fun v f1 m1 y w' μ' φ' hk hle hM hF hv Ho=>?_;have cq:Nat.beq mode 2=false:=by rcases jH with rfl|rfl<;>rfl
     rw[cq]at hk;simp only[Bool.false_eq_true,if_false]at hk;rcases jH with rfl|rfl
     ·simp only[Nat.beq,if_true]at hk;exact iG hE hY fuel (.inl rfl) hk (fun x hx=>hl x (by simp[hx])) (fun x hx=>DW x (by simp[hx])) (fun hm x hx=>Tm hm x (by simp[hx])) _ _ _ _ Q tail (hR.put hle (jg hd) hM hF hv Ho) (hA.put (fun t ht=>by rw[hR.size];exact jg hd t ht) fun g pW t ht=>DW (i,o) (by simp) g pW t ht) fun f' m' μ2 φ2 a' w2 qz jC xw sO=>hK f' m' μ2 φ2 a' w2 qz jC xw fun h=>by cases h
     ·simp[Nat.beq,ze]at hk
    have cq:Nat.beq mode 2=false:=by rcases jH with rfl|rfl<;>rfl
    rw[cq]at hk;simp only[Bool.false_eq_true,if_false]at hk;have hq:(mode=3→f1=f∧m1=m)∧cj E ops mode fuel R A rest (jc f1 o.dst v) m1 lg k=some r:=by
     rcases jH with rfl|rfl
     ·simp only[Nat.beq,if_true]at hk;exact⟨fun h=>(by cases h),hk⟩
     ·simp only[Nat.beq,Bool.false_eq_true,if_false]at hk;split at hk
      ·rename_i hqf;exact⟨fun h=>R0.same (Tm rfl (i,o) (by simp)) (yq hqf),hk⟩
      ·cases hk
    obtain⟨Uv,hk⟩:=hq;simp only[List.map_cons,List.cons_append,wpOpsIn];rw[hl (i,o) (by simp)];simp only;rw[AR hg hA,if_pos rfl];refine R0.yp hdf rd w0 μ φ a w _ Q hR fun y w' μ' φ' hle hM hF hv Ho=>?_;refine iG hE hY fuel jH hk (fun x hx=>hl x (by simp[hx])) (fun x hx=>DW x (by simp[hx])) (fun hm x hx=>Tm hm x (by simp[hx])) _ _ _ _ Q tail (hR.put hle (jg hd) hM hF hv Ho) (hA.put (fun t ht=>by rw[hR.size];exact jg hd t ht) fun g pW t ht=>DW (i,o) (by simp) g pW t ht) fun f' m' μ2 φ2 a' w2 qz jC xw sO=>?_;refine hK f' m' μ2 φ2 a' w2 qz jC xw fun Za=>?_;obtain⟨e1,e2⟩:=Uv Za;obtain⟨e3,e4⟩:=sO Za;refine⟨by rw[e3,e2],fun t ht=>?_⟩;rw[e4 t fun x hx=>ht x (by simp[hx]),dR (ht (i,o) (by simp)),e1]
   ·cases h
  ·rename_i j Az hg;split at h
   ·rename_i tj Tn;split at h
    ·rename_i b hb;have Uw:tj<E.fn.ntmps:=by
      simp only[bw]at hb;cases e:Nat.blt tj E.fn.ntmps with
      |true=>rwa[Nat.blt_eq]at e
      |false=>rw[e]at hb;cases hb
     have hbf:f tj=.pv (.bool b):=by simp only[bw]at hb;rw[show Nat.blt tj E.fn.ntmps=true by rw[Nat.blt_eq];exact Uw]at hb;exact hb
     have hba:a.tmps.getD tj undef=.bool b:=by have:=(aj hR (.tmp tj)).1;rw[hb]at this;exact qC this
     generalize pT:Bw A ((i,o)::rest)=sp at h;obtain⟨body,Jf⟩:=sp;have mq:=DU pT;simp only at h;split at h
     ·rename_i Zb;split at h
      ·rename_i hc;simp only[Bool.and_eq_true,List.all_eq_true,Bool.not_eq_true',beq_eq_false_iff_ne,ne_eq]at hc Zb;obtain⟨⟨Ht,Ux⟩,Zc⟩:=hc;have hm0:mode=0:=Nat.eq_of_beq_eq_true Zb.1;subst hm0;have bJ:∀z∈body,z∈(i,o)::rest:=fun z hz=>by rw[mq];simp[hz]
       have uX:∀z∈Jf,z∈(i,o)::rest:=fun z hz=>by rw[mq];simp[hz]
       by_cases R1:b=Az
       ·have:FM Az b=true:=by subst R1;cases b<;>rfl
        rw[this]at h;simp only[cond]at h;have hfs:fI f tj (.pv (.bool Az))=f:=funext fun t=>by
         unfold fI;cases e:Nat.beq t tj with
         |false=>rfl
         |true=>rw[Nat.eq_of_beq_eq_true e];simp only[cond];rw[←R1];exact hbf.symm
        rw[hfs]at h;refine iG hE hY fuel jH h hl (fun z hz g pW t ht=>?_) (fun h=>by cases h) _ _ _ _ Q tail hR (fun g pW=>?_) fun f' m' μ2 φ2 a' w2 qz jC xw sO=>hK f' m' μ2 φ2 a' w2 qz jC (fun g pW=>xw g (by simp[pW])) fun h=>by cases h
        ·rcases List.mem_cons.1 pW with rfl|pW
         ·simp only[Tn]at ht;cases ht;exact Zc z hz
         ·exact DW z hz g pW t ht
        ·rcases List.mem_cons.1 pW with rfl|pW
         ·exact⟨tj,Tn,by rw[hba,R1]⟩
         ·exact hA g pW
       ·have:FM Az b=false:=by cases b<;>cases Az<;>first|rfl|exact absurd rfl R1
        rw[this]at h;simp only[cond]at h;have hbn:b= !Az:=by cases b<;>cases Az<;>first|rfl|exact absurd rfl R1
        have hfs:fI f tj (.pv (.bool !Az))=f:=funext fun t=>by
         unfold fI;cases e:Nat.beq t tj with
         |false=>rfl
         |true=>rw[Nat.eq_of_beq_eq_true e];simp only[cond];rw[←hbn];exact hbf.symm
        rw[hfs]at h;rw[mq,List.map_append,List.append_assoc];refine vJ body f (fun z hz=>hl z (bJ z hz)) Ht (zs Tn Ux (fun z hz=>hl z (bJ z hz)) (fun z hz=>Zc z (bJ z hz)) (by rw[hbf,hbn]) (by simp)) hR A hA (fun z hz g pW t ht=>DW z (bJ z hz) g pW t ht) fun a' jC xw=>?_
        ·refine iG hE hY fuel jH h (fun z hz=>hl z (uX z hz)) (fun z hz=>DW z (uX z hz)) (fun h=>by cases h) _ _ _ _ Q tail jC xw fun f' m' μ2 φ2 a' w2 qz jC xw sO=>hK f' m' μ2 φ2 a' w2 qz jC xw fun h=>by cases h
      ·cases h
     ·split at h
      ·rename_i ip p mc;split at h
       ·rename_i c x y Mz;split at h
        ·rename_i hc;simp only[Bool.and_eq_true,List.all_eq_true,Bool.not_eq_true',beq_eq_false_iff_ne,ne_eq]at hc;obtain⟨⟨⟨⟨⟨⟨MA,hpg⟩,xG⟩,Ux⟩,_⟩,hpd⟩,_⟩:=hc;have MA:=Nat.eq_of_beq_eq_true MA;subst MA;have hpg:guardOf p A=none:=by simpa using hpg
         obtain⟨rb,LO,h⟩:=Option.bind_eq_some_iff.1 h;have bJ:∀z∈body,z∈(i,o)::rest:=fun z hz=>by rw[mq];simp[hz]
         have uX:∀z∈mc,z∈(i,o)::rest:=fun z hz=>by rw[mq];simp[hz]
         have JG:(ip,p)∈(i,o)::rest:=by rw[mq];simp
         rw[mq,List.map_append,List.append_assoc];have after:∀(f1:Fr)(μ1:Ro)(φ1:Nat→aA)(a1:Act)(w1:World)(q:Operand),Rel E.P E.aD E.fn.ntmps w0 μ1 φ1 f1 m a1 w1→zr ops A a1→(∀t,(∀z∈body,z.2.dst≠some t)→f1 t=f t)→bw E f1 q=.pv (.bool rb)→(q=if b then x else y)→wpOpsIn (FR rd) 0 E.P ops Q (((ip,p)::mc).map (·.1)++tail) a1 w1:=by
          intro f1 μ1 φ1 a1 w1 q MB hA1 hf1 hq hqe;have WE:bw E f1 (.tmp c)=.pv (.bool b):=by simp only[bw];rw[show Nat.blt c E.fn.ntmps=true by rw[Nat.blt_eq];exact Uw];show f1 c=_;rw[hf1 c fun z hz=>(xG z hz).2];exact hbf
          simp only[List.map_cons,List.cons_append,wpOpsIn];rw[hl (ip,p) JG];simp only;rw[AR hpg hA1,if_pos rfl];have R0:uf E (Nat.beq mode 1||Nat.beq mode 2) (cC E p.dst) p f1 m (.pv (.bool rb)) f1 m []:=Y9 hE (.inr ⟨_,_,_,Mz⟩) fun R' k'=>by rw[JF Mz WE,←hqe,hq]
          refine R0.yp (fun c h=>by rw[Mz]at h;cases h) rd w0 μ1 φ1 a1 w1 _ Q MB fun z w' μ' φ' sO hM hF hv Ho=>?_;have hle:vj (jc (mb f body) p.dst (.pv (.bool rb))) (jc f1 p.dst (.pv (.bool rb))):=vj.put (wX fun t ht=>.inl (hf1 t ht).symm) _ _;refine iG hE hY fuel jH h (fun z hz=>hl z (uX z hz)) (fun z hz=>DW z (uX z hz)) (fun hm z hz=>Tm hm z (uX z hz)) _ _ _ _ Q tail ((MB.put sO (jg hpd) hM hF hv Ho).weaken hle) (hA1.put (fun t ht=>by rw[MB.size];exact jg hpd t ht) fun g pW t ht=>DW (ip,p) JG g pW t ht) fun f' m' μ2 φ2 a' w2 qz jC xw sO=>?_;refine hK f' m' μ2 φ2 a' w2 qz jC xw fun Za=>?_;obtain⟨e3,e4⟩:=sO Za;refine⟨e3,fun t ht=>?_⟩;rw[e4 t fun z hz=>ht z (uX z hz),dR (ht (ip,p) JG),wW fun z hz=>ht z (bJ z hz)]
         have go:∀q,b=Az→(q=if b then x else y)→cj E ops 3 fuel Bool ((j,Az)::A) body f m lg (fun f _=>xp (bw E f q))=some rb→wpOpsIn (FR rd) 0 E.P ops Q (body.map (·.1)++(((ip,p)::mc).map (·.1)++tail)) a w:=by
          intro q R1 hq Xw;refine iG hE hY fuel (.inr rfl) Xw (fun z hz=>hl z (bJ z hz)) ?_ (fun _ z hz=>(xG z hz).1.1) _ _ _ _ Q _ hR ?_ fun f' m' μ2 φ2 a' w2 qz jC xw sO=>?_
          ·intro z hz g pW t ht;rcases List.mem_cons.1 pW with rfl|pW
           ·simp only[Tn]at ht;cases ht;exact(xG z hz).2
           ·exact DW z (bJ z hz) g pW t ht
          ·intro g pW;rcases List.mem_cons.1 pW with rfl|pW
           ·exact⟨c,Tn,by rw[hba,R1]⟩
           ·exact hA g pW
          ·obtain⟨e1,e2⟩:=sO rfl;subst e1;exact after f' μ2 φ2 a' w2 q jC (fun g pW=>xw g (by simp[pW])) e2 (zt qz) hq
         have no:∀q,b= !Az→(q=if b then x else y)→xp (bw E (mb f body) q)=some rb→wpOpsIn (FR rd) 0 E.P ops Q (body.map (·.1)++(((ip,p)::mc).map (·.1)++tail)) a w:=by
          intro q R1 hq Xw;refine vJ body f (fun z hz=>hl z (bJ z hz)) (fun z hz=>(xG z hz).1.2) (zs Tn Ux (fun z hz=>hl z (bJ z hz)) (fun z hz=>(xG z hz).2) (by rw[hbf,R1]) (by simp)) hR A hA (fun z hz g pW t ht=>DW z (bJ z hz) g pW t ht) fun a' jC xw=>?_;refine after _ μ φ a' w q jC xw (fun t ht=>ui ht) ?_ hq;have hv:=zt Xw;cases q with
          |tmp t=>
           simp only[bw]at hv⊢;have hle:vj (mb f body) (iJ f body):=wX fun t ht=>.inl (ui ht).symm;cases e:Nat.blt t E.fn.ntmps with
           |false=>rw[e]at hv;cases hv
           |true=>
            rw[e]at hv;simp only[cond]at hv⊢;rcases hle t with e|e
            ·rw[←e];exact hv
            ·rw[e]at hv;cases hv
          |_=>exact hv
         have hbm:(bif Nat.beq mode 0 then 3 else mode)=3:=by rcases jH with rfl|rfl<;>rfl
         rw[hbm]at LO;cases Az<;>cases b<;>simp only[cond]at LO
         ·exact go y rfl rfl LO
         ·exact no x rfl rfl LO
         ·exact no y rfl rfl LO
         ·exact go x rfl rfl LO
        ·cases h
       ·cases h
      ·cases h
    ·cases h
   ·cases h
end
end Go.Ab
set_option linter.unusedVariables false
namespace Go.Ab
open Go.RowKit (Below)
structure Rec where
 i:Nat
 o:Oper
 v:V
 wr:List (Nat×bE)
 ft:bk
 kl:Kl
def Rec.fs(r:Rec)(f:Fr):Fr:=jc (kf r.kl f) r.o.dst r.v
def Rec.ms(r:Rec)(m:Mem):Mem:=sN r.wr (km r.kl m)
def Rec.Gm(r:Rec)(id:Nat):Prop:=∃b,(b,id)∈r.kl
def l6(f:Fr):List Rec→Fr
 |[]=>f
 |r::l=>l6 (r.fs f) l
def pL(m:Mem):List Rec→Mem
 |[]=>m
 |r::l=>pL (r.ms m) l
def oz(S:Nat→Bool)(f:Fr):List Rec→Fr
 |[]=>f
 |r::l=>oz S (bif S r.i then r.fs f else f) l
def oA(S:Nat→Bool)(m:Mem):List Rec→Mem
 |[]=>m
 |r::l=>oA S (bif S r.i then r.ms m else m) l
theorem DX:∀{wr:List (Nat×bE)}{m:Mem}{j:Nat},(∀b,(j,b)∉wr)→sN wr m j=m j
 |[],_,_,_=>rfl
 |(id,b)::r,m,j,h=>by rw[sN,DX fun b' hb=>h b' (by simp[hb])];exact al fun e=>h b (by simp[e])
theorem Uy:∀{wr:List (Nat×bE)}{j:Nat},(∃b,(j,b)∈wr)→∃b',(j,b')∈wr∧∀m:Mem,sN wr m j=some b'
 |[],_,h=>by obtain⟨b,hb⟩:=h;cases hb
 |(id,b)::r,j,h=>by
  by_cases hr:∃b,(j,b)∈r
  ·obtain⟨b',h1,h2⟩:=Uy hr;exact⟨b',by simp[h1],fun m=>h2 _⟩
  ·obtain⟨b0,hb⟩:=h;rcases List.mem_cons.1 hb with hb|hb
   ·simp only[Prod.mk.injEq]at hb;obtain⟨rfl,rfl⟩:=hb;refine⟨b0,by simp,fun m=>?_⟩;rw[sN,DX fun b' gB=>hr ⟨b',gB⟩];simp
   ·exact absurd ⟨b0,hb⟩ hr
mutual
theorem JH{id:Nat}:∀{v:V},v.vg id=true→v.has id=true
 |.agg cs,h=>uj (cs:=cs) (by simpa[V.vg]using h)
 |.bt cs,h=>uj (cs:=cs) (by simpa[V.vg]using h)
 |.fn _ cs,h=>uj (cs:=cs) (by simpa[V.vg]using h)
 |.vp _ _ _,h=>h
 |.y7 _ _ _ _ _ _,h=>h
 |.pv _,h=>by cases h
 |.hZ,h=>by cases h
 |.op _ _,h=>by cases h
 |.oe _ _ _,h=>by cases h
 |.os _,h=>by cases h
 |.fH _ _ _,h=>by cases h
 |.om _,h=>by cases h
 |.yl _,h=>by cases h
 |.it _,h=>by cases h
 |.top,h=>by cases h
theorem uj{id:Nat}:∀{cs:List V},y8 id cs=true→cm id cs=true
 |[],h=>by cases h
 |c::r,h=>by
  simp only[y8,Bool.or_eq_true]at h;simp only[cm,Bool.or_eq_true];rcases h with h|h
  ·exact .inl (JH h)
  ·exact .inr (uj h)
end
variable{id:Nat}
theorem BU{v:V}(h:v.has id=false):rS id v=v:=by unfold rS;rw[h];rfl
theorem BV{id:Nat}:∀{cs:List V},cm id cs=false→cs.map (rS id)=cs
 |[],_=>rfl
 |c::r,h=>by simp only[cm,Bool.or_eq_false_iff]at h;simp only[List.map_cons,BU h.1,BV h.2]
theorem JI{b:bE}(h:b.names id=false):gq id b=b:=by
 cases b with
 |box cs=>simp only[gq,BV (show cm id cs=false from h)]
 |_=>rfl
theorem zu{v:V}(h:v.has id=false):nq id v=v:=by
 unfold nq;cases h2:v.vg id with
 |false=>rfl
 |true=>rw[JH h2]at h;cases h
theorem zw{id:Nat}:∀{cs:List V},cm id cs=false→cs.map (nq id)=cs
 |[],_=>rfl
 |c::r,h=>by simp only[cm,Bool.or_eq_false_iff]at h;simp only[List.map_cons,zu h.1,zw h.2]
theorem HH{b:bE}(h:b.names id=false):dO id b=b:=by
 cases b with
 |box cs=>simp only[dO,zw (show cm id cs=false from h)]
 |_=>rfl
theorem DY:∀{kl:Kl}{f:Fr}{t:Nat},(∀id,(∃b,(b,id)∈kl)→(f t).has id=false)→kf kl f t=f t
 |[],_,_,_=>rfl
 |(true,id)::r,f,t,h=>by have h0:eU id f t=f t:=BU (h id ⟨true,by simp⟩);rw[kf,DY (kl:=r) (f:=eU id f) fun j hj=>by rw[h0];exact h j (let⟨b,hb⟩:=hj;⟨b,by simp[hb]⟩),h0]
 |(false,id)::r,f,t,h=>by have h0:ic id f t=f t:=zu (h id ⟨false,by simp⟩);rw[kf,DY (kl:=r) (f:=ic id f) fun j hj=>by rw[h0];exact h j (let⟨b,hb⟩:=hj;⟨b,by simp[hb]⟩),h0]
theorem zx:∀{kl:Kl}{f g:Fr}{t:Nat},f t=g t→kf kl f t=kf kl g t
 |[],_,_,_,h=>h
 |(true,id)::r,f,g,t,h=>zx (kl:=r) (f:=eU id f) (g:=eU id g) (by simp only[eU,h])
 |(false,id)::r,f,g,t,h=>zx (kl:=r) (f:=ic id f) (g:=ic id g) (by simp only[ic,h])
theorem DZ:∀{kl:Kl}{m:Mem}{j:Nat},(∀id,(∃b,(b,id)∈kl)→j≠id∧∀b,m j=some b→b.names id=false)→km kl m j=m j
 |[],_,_,_=>rfl
 |(true,id)::r,m,j,h=>by
  obtain⟨h1,h2⟩:=h id ⟨true,by simp⟩;have h0:bh (bx id m) id j=m j:=by
   rw[eV h1];unfold bx;cases hm:m j with
   |none=>rfl
   |some b=>simp only[JI (h2 b hm)]
  rw[km,DZ (kl:=r) (m:=bh (bx id m) id) fun i hi=>by rw[h0];exact h i (let⟨b,hb⟩:=hi;⟨b,by simp[hb]⟩),h0]
 |(false,id)::r,m,j,h=>by
  obtain⟨h1,h2⟩:=h id ⟨false,by simp⟩;have h0:e8 id m j=m j:=by
   unfold e8;cases hm:m j with
   |none=>rfl
   |some b=>simp only[HH (h2 b hm)]
  rw[km,DZ (kl:=r) (m:=e8 id m) fun i hi=>by rw[h0];exact h i (let⟨b,hb⟩:=hi;⟨b,by simp[hb]⟩),h0]
theorem D2:∀{kl:Kl}{m n:Mem}{j:Nat},m j=n j→km kl m j=km kl n j
 |[],_,_,_,h=>h
 |(true,id)::r,m,n,j,h=>D2 (kl:=r) (m:=bh (bx id m) id) (n:=bh (bx id n) id) (by
  by_cases e:j=id
  ·subst e;simp
  ·rw[eV e,eV e];simp only[bx,h])
 |(false,id)::r,m,n,j,h=>D2 (kl:=r) (m:=e8 id m) (n:=e8 id n) (by simp only[e8,h])
variable{r:Rec}
theorem Rec.JJ{f:Fr}{t:Nat}(h:r.o.dst=some t):r.fs f t=r.v:=by unfold Rec.fs;rw[h,jY]
theorem Rec.Qj{f:Fr}{t:Nat}(h:r.o.dst≠some t)(hc:∀id,r.Gm id→(f t).has id=false):r.fs f t=f t:=by unfold Rec.fs;rw[dR h];exact DY hc
theorem Rec.D3{f g:Fr}{t:Nat}(h:f t=g t):r.fs f t=r.fs g t:=by
 by_cases e:r.o.dst=some t
 ·rw[JJ e,JJ e]
 ·unfold Rec.fs;rw[dR e,dR e];exact zx h
theorem Rec.Zd{j:Nat}(h:∃b,(j,b)∈r.wr):∃b',(j,b')∈r.wr∧∀m,r.ms m j=some b':=let⟨b',h1,h2⟩:=Uy h;⟨b',h1,fun m=>h2 _⟩
theorem Rec.Uz{m:Mem}{j:Nat}(h:∀b,(j,b)∉r.wr)(hc:∀id,r.Gm id→j≠id∧∀b,m j=some b→b.names id=false):r.ms m j=m j:=by unfold Rec.ms;rw[DX h];exact DZ hc
theorem Rec.D4{m n:Mem}{j:Nat}(h:m j=n j):r.ms m j=r.ms n j:=by
 by_cases e:∃b,(j,b)∈r.wr
 ·obtain⟨b,_,e⟩:=Rec.Zd e;rw[e,e]
 ·have e':∀b,(j,b)∉r.wr:=fun b hb=>e ⟨b,hb⟩;unfold Rec.ms;rw[DX e',DX e'];exact D2 h
section
variable {S S':Nat→Bool}
theorem JK{f:Fr}:∀{l l':List Rec},l6 f (l++l')=l6 (l6 f l) l':=by
 intro l;induction l generalizing f with
 |nil=>intro l';rfl
 |cons r l ih=>intro l';exact ih
theorem JL{m:Mem}:∀{l l':List Rec},pL m (l++l')=pL (pL m l) l':=by
 intro l;induction l generalizing m with
 |nil=>intro l';rfl
 |cons r l ih=>intro l';exact ih
theorem vK{f:Fr}:∀{l l':List Rec},oz S f (l++l')=oz S (oz S f l) l':=by
 intro l;induction l generalizing f with
 |nil=>intro l';rfl
 |cons r l ih=>intro l';exact ih
theorem vL{m:Mem}:∀{l l':List Rec},oA S m (l++l')=oA S (oA S m l) l':=by
 intro l;induction l generalizing m with
 |nil=>intro l';rfl
 |cons r l ih=>intro l';exact ih
theorem Gn{t:Nat}:∀{l:List Rec}{f:Fr},(∀q∈l,q.o.dst≠some t∧q.kl=[])→l6 f l t=f t
 |[],_,_=>rfl
 |r::l,f,h=>by rw[l6,Gn fun q hq=>h q (by simp[hq])];obtain⟨h1,h2⟩:=h r (by simp);exact Rec.Qj h1 fun id⟨b,hid⟩=>by rw[h2]at hid;cases hid
theorem pX{t:Nat}:∀{l:List Rec}{f:Fr},(∀q∈l,S q.i=true→q.o.dst≠some t∧∀id,q.Gm id→(f t).has id=false)→oz S f l t=f t
 |[],_,_=>rfl
 |r::l,f,h=>by
  have h0:(bif S r.i then r.fs f else f) t=f t:=by
   cases e:S r.i with
   |false=>rfl
   |true=>obtain⟨h1,h2⟩:=h r (by simp) e;exact Rec.Qj h1 h2
  rw[oz,pX fun q hq hs=>by rw[h0];exact h q (by simp[hq]) hs,h0]
theorem D5{t:Nat}:∀{l:List Rec}{f g:Fr},f t=g t→(∀q∈l,S q.i=false→q.o.dst≠some t∧q.kl=[])→oz S f l t=l6 g l t
 |[],_,_,h,_=>h
 |r::l,f,g,h,hs=>by
  rw[oz,l6];refine D5 ?_ fun q hq=>hs q (by simp[hq]);cases e:S r.i with
  |true=>exact Rec.D3 h
  |false=>obtain⟨h1,h2⟩:=hs r (by simp) e;rw[Rec.Qj h1 fun id⟨b,hid⟩=>by rw[h2]at hid;cases hid];exact h
theorem yr{t:Nat}:∀{l:List Rec}{f g:Fr},f t=g t→(∀q∈l,S q.i=S' q.i)→oz S f l t=oz S' g l t
 |[],_,_,h,_=>h
 |r::l,f,g,h,hs=>by
  rw[oz,oz];refine yr ?_ fun q hq=>hs q (by simp[hq]);rw[hs r (by simp)];cases S' r.i
  ·exact h
  ·exact Rec.D3 h
theorem pY{j:Nat}:∀{l:List Rec}{m:Mem},(∀q∈l,S q.i=true→(∀b,(j,b)∉q.wr)∧∀id,q.Gm id→j≠id∧∀b,m j=some b→b.names id=false)→oA S m l j=m j
 |[],_,_=>rfl
 |r::l,m,h=>by
  have h0:(bif S r.i then r.ms m else m) j=m j:=by
   cases e:S r.i with
   |false=>rfl
   |true=>obtain⟨h1,h2⟩:=h r (by simp) e;exact Rec.Uz h1 h2
  rw[oA,pY fun q hq hs=>by rw[h0];exact h q (by simp[hq]) hs,h0]
theorem D6{j:Nat}:∀{l:List Rec}{m n:Mem},m j=n j→(∀q∈l,S q.i=false→(∀b,(j,b)∉q.wr)∧q.kl=[])→oA S m l j=pL n l j
 |[],_,_,h,_=>h
 |r::l,m,n,h,hs=>by
  rw[oA,pL];refine D6 ?_ fun q hq=>hs q (by simp[hq]);cases e:S r.i with
  |true=>exact Rec.D4 h
  |false=>obtain⟨h1,h2⟩:=hs r (by simp) e;rw[Rec.Uz h1 fun id⟨b,hid⟩=>by rw[h2]at hid;cases hid];exact h
theorem yt{j:Nat}:∀{l:List Rec}{m n:Mem},m j=n j→(∀q∈l,S q.i=S' q.i)→oA S m l j=oA S' n l j
 |[],_,_,h,_=>h
 |r::l,m,n,h,hs=>by
  rw[oA,oA];refine yt ?_ fun q hq=>hs q (by simp[hq]);rw[hs r (by simp)];cases S' r.i
  ·exact h
  ·exact Rec.D4 h
end
section
variable {E:Env} {ops:Array Oper} {w0:br}
def Gp(E:Env)(ops:Array Oper)(w0:br)(r:Rec)(f:Fr)(m:Mem):Prop:=∀(f2:Fr)(m2:Mem),(∀t∈r.o.looksAt ops,f2 t=f t)→(∀x∈r.ft,m2 x.2=m x.2)→∀(μ:Ro)(φ:Nat→aA)(a:Act)(w:World)(K:Act→World→Prop)(Q:Exit→Act→World→Prop),Rel E.P E.aD E.fn.ntmps w0 μ φ f2 m2 a w→(∀μ' φ' a' w',Rel E.P E.aD E.fn.ntmps w0 μ' φ' (r.fs f2) (r.ms m2) a' w'→K a' w')→if Region.wanted r.o (yielded ops a.tmps)then∀rd:Option Nat,r.o.wpIn (FR rd) 0 E.P a w K Q else K (a.put r.o.dst undef) w
def fL(E:Env)(ops:Array Oper)(w0:br):Fr→Mem→List Rec→Prop
 |_,_,[]=>True
 |f,m,r::l=>Gp E ops w0 r f m∧(∀id b,(id,b)∈r.wr→(true,id)∈r.ft)∧fL E ops w0 (r.fs f) (r.ms m) l
theorem fL.append{f:Fr}{m:Mem}{l l':List Rec}:fL E ops w0 f m (l++l')↔fL E ops w0 f m l∧fL E ops w0 (l6 f l) (pL m l) l':=by
 induction l generalizing f m with
 |nil=>simp[fL,l6,pL]
 |cons r l ih=>simp only[List.cons_append,fL,l6,pL,ih,and_assoc]
def Clean(ops:Array Oper)(id:Nat)(r:Rec)(f:Fr)(m:Mem):Prop:=(∀t∈r.o.looksAt ops,(f t).has id=false)∧r.v.has id=false∧(∀x∈r.ft,x.2≠id∧∀b,m x.2=some b→b.names id=false)∧∀j b,(j,b)∈r.wr→(∀m,r.ms m j=some b)→j≠id∧b.names id=false
def oc(ops:Array Oper):Fr→Mem→List Rec→Prop
 |_,_,[]=>True
 |f,m,r::l=>(∀q∈l,∀id,q.Gm id→reach ops 4 q.o r.i=true∨Clean ops id r f m)∧oc ops (r.fs f) (r.ms m) l
theorem oc.append{f:Fr}{m:Mem}{l l':List Rec}(h:oc ops f m (l++l')):oc ops (l6 f l) (pL m l) l':=by
 induction l generalizing f m with
 |nil=>exact h
 |cons r l ih=>exact ih h.2
def Ord(ops:Array Oper)(q r:Rec):Prop:=reach ops 4 r.o q.i=true∨(q.o.apart ops r.o=true∧(∀id b,(id,b)∈q.wr→∀x∈r.ft,x.2≠id)∧∀id b,(id,b)∈r.wr→∀x∈q.ft,x.2≠id)
theorem R2{o:Oper}{j:Nat}(h:C7 o j=true):∃e∈o.after,Region.binds .any e=true∧e.on=j:=by unfold C7 at h;obtain⟨e,he,h⟩:=List.any_eq_true.1 h;have he:e∈o.after:=Array.mem_toList_iff.1 he;simp only[Bool.and_eq_true]at h;exact⟨e,he,h.1,Nat.eq_of_beq_eq_true h.2⟩
abbrev ax(l:Array Bool):Nat→Bool:=fun i=>l.getD i false
def yu(ops:Array Oper)(listed:Array Bool):Prop:=∀i o,ops[i]?=some o→ax listed i=true→∀e∈o.after,Region.binds .any e=true→ax listed e.on=true
theorem qH(listed:Array Bool)(sP:yu ops listed):∀(n:Nat)(o:Oper)(j:Nat),(∀e∈o.after,Region.binds .any e=true→ax listed e.on=true)→reach ops n o j=true→ax listed j=true:=by
 have abS:∀(o:Oper)(j:Nat),(∀e∈o.after,Region.binds .any e=true→ax listed e.on=true)→C7 o j=true→ax listed j=true:=fun o j ho h=>by obtain⟨e,he,hb,hon⟩:=R2 h;have:=ho e he hb;rw[hon]at this;exact this
 intro n;induction n with
 |zero=>exact fun o j ho h=>abS o j ho h
 |succ n ihn=>
  intro o j ho h;simp only[reach,Bool.or_eq_true]at h;rcases h with h|h
  ·exact abS o j ho h
  ·obtain⟨e,he,h⟩:=List.any_eq_true.1 h;simp only[Bool.and_eq_true]at h;obtain⟨hb,h⟩:=h;have he:e∈o.after:=Array.mem_toList_iff.1 he;split at h
   ·rename_i p hp;exact ihn p j (sP e.on p hp (ho e he hb)) h
   ·cases h
theorem UA{rd:Option Nat}{recs:List Rec}{f0:Fr}{m0:Mem}{Q:Exit→Act→World→Prop}{base:Nat→Bool}(bm:recs.Pairwise fun q r=>q.i<r.i)(ow:∀r∈recs,ops[r.i]?=some r.o)(UB:∀r∈recs,base r.i=false)(UC:∀i o,ops[i]?=some o→base i=false→(∀r∈recs,r.i≠i)→(∀r∈recs,reach ops 8 o r.i=true)∨∃j,reach ops 8 o j=true∧base j=false∧∀r∈recs,r.i≠j)(abT:recs.Pairwise (Ord ops))(Ze:recs.Pairwise fun q r=>q.kl≠[]→reach ops 4 r.o q.i=true)(afs:oc ops f0 m0 recs)(Qk:∀r∈recs,∀e∈r.o.after,Region.binds .any e=true→e.on<r.i∧(base e.on=true∨∃q∈recs,q.i=e.on))(AP:fL E ops w0 f0 m0 recs)(hQ:∀(fuel:Nat)(listed:Array Bool),listed.size=ops.size→listed.toList.countP (fun b=> !b)≤fuel→yu ops listed→(∀i,ax listed i=true↔base i=true∨∃r∈recs,r.i=i)→∀μ φ a w,Rel E.P E.aD E.fn.ntmps w0 μ φ (l6 f0 recs) (pL m0 recs) a w→wpAnyIn (FR rd) 0 E.P .any ops Q fuel listed a w):∀(fuel:Nat)(listed:Array Bool),listed.size=ops.size→listed.toList.countP (fun b=> !b)≤fuel→yu ops listed→(∀i,base i=true→ax listed i=true)→(∀i,ax listed i=true→base i=true∨∃r∈recs,r.i=i)→∀(μ:Ro)(φ:Nat→aA)(a:Act)(w:World),Rel E.P E.aD E.fn.ntmps w0 μ φ (oz (ax listed) f0 recs) (oA (ax listed) m0 recs) a w→wpAnyIn (FR rd) 0 E.P .any ops Q fuel listed a w:=by
 have done:∀(fuel:Nat)(listed:Array Bool),listed.size=ops.size→listed.toList.countP (fun b=> !b)≤fuel→yu ops listed→(∀i,base i=true→ax listed i=true)→(∀i,ax listed i=true→base i=true∨∃r∈recs,r.i=i)→(∀r∈recs,ax listed r.i=true)→∀(μ:Ro)(φ:Nat→aA)(a:Act)(w:World),Rel E.P E.aD E.fn.ntmps w0 μ φ (oz (ax listed) f0 recs) (oA (ax listed) m0 recs) a w→wpAnyIn (FR rd) 0 E.P .any ops Q fuel listed a w:=by
  intro fuel listed hs hc sP hb rV hl μ φ a w hR;have e1:oz (ax listed) f0 recs=l6 f0 recs:=funext fun t=>D5 rfl fun q hq hf=>by rw[hl q hq]at hf;cases hf
  have e2:oA (ax listed) m0 recs=pL m0 recs:=funext fun t=>D6 rfl fun q hq hf=>by rw[hl q hq]at hf;cases hf
  rw[e1,e2]at hR;exact hQ fuel listed hs hc sP (fun i=>⟨rV i,fun h=>h.elim (hb i) fun⟨r,hr,e⟩=>e▸hl r hr⟩) μ φ a w hR
 have Xx:∀(listed:Array Bool),listed.size=ops.size→(∀i,base i=true→ax listed i=true)→(∀r∈recs,r.i∉Region.ready .any ops listed)→∀(n:Nat)(r:Rec),r∈recs→r.i<n→ax listed r.i=true:=by
  intro listed hs hb hr n;induction n with
  |zero=>intro r _ h;omega
  |succ n ih=>
   intro r yb hi;cases hc:ax listed r.i with
   |true=>rfl
   |false=>
    exfalso;have bm:r.i<listed.size:=by rw[hs];exact(Array.getElem?_eq_some_iff.1 (ow r yb)).1
    refine hr r yb (mem_ready.2 ⟨by simp only[ax,Array.getD_eq_getD_getElem?,Array.getElem?_eq_getElem bm,Option.getD_some]at hc⊢;exact hc,r.o,ow r yb,fun e he gB=>?_⟩);obtain⟨h1,h2⟩:=Qk r yb e he gB;rcases h2 with h2|⟨q,hq,UD⟩
    ·exact hb _ h2
    ·have:=ih q hq (by omega);rwa[UD]at this
 intro fuel;induction fuel with
 |zero=>
  intro listed hs hc sP hb rV μ φ a w hR;refine done 0 listed hs hc sP hb rV (fun r hr=>?_) μ φ a w hR;have bm:r.i<listed.size:=by rw[hs];exact(Array.getElem?_eq_some_iff.1 (ow r hr)).1
  have:=List.countP_eq_zero.1 (Nat.le_zero.1 hc) listed[r.i] (by simp);simp only[ax,Array.getD_eq_getD_getElem?,Array.getElem?_eq_getElem bm,Option.getD_some];simpa using this
 |succ fuel ih=>
  intro listed hs hc sP hb rV μ φ a w hR;by_cases UE:∀r∈recs,ax listed r.i=true
  ·exact done (fuel+1) listed hs hc sP hb rV UE μ φ a w hR
  have abU:∃r∈recs,ax listed r.i=false:=by
   refine Classical.byContradiction fun cB=>UE fun r hr=>?_;cases hx:ax listed r.i with
   |true=>rfl
   |false=>exact absurd ⟨r,hr,hx⟩ cB
  refine⟨fun h0=>absurd (fun r hr=>Xx listed hs hb (fun r hr h=>by rw[h0]at h;cases h) (r.i+1) r hr (by omega)) UE,fun i hi=>?_⟩;obtain⟨R3,o,ho,AU⟩:=mem_ready.1 hi;have abV:ax listed i=false:=by
   have bm:i<listed.size:=by rw[hs];exact(Array.getElem?_eq_some_iff.1 ho).1
   simp only[ax,Array.getD_eq_getD_getElem?,Array.getElem?_eq_getElem bm,Option.getD_some]at R3⊢;exact R3
  have hex:∃r∈recs,r.i=i∧r.o=o:=by
   refine Classical.byContradiction fun cB=>?_;have Jq:∀r∈recs,r.i≠i:=fun r hr e=>cB ⟨r,hr,e,by have:=ow r hr;rw[e,ho]at this;exact(Option.some.inj this).symm⟩;have hbi:base i=false:=by
    cases hx:base i with
    |false=>rfl
    |true=>rw[hb i hx]at abV;cases abV
   rcases UC i o ho hbi Jq with h|⟨j,h1,h2,h3⟩
   ·obtain⟨r,hr,Zf⟩:=abU;rw[qH listed sP 8 o r.i AU (h r hr)]at Zf;cases Zf
   ·have:=qH listed sP 8 o j AU h1;rcases rV j this with h|⟨r,hr,e⟩
    ·rw[h]at h2;cases h2
    ·exact h3 r hr e
  obtain⟨r,hr,rfl,rfl⟩:=hex;have UF:r.i<listed.size:=by rw[hs];exact(Array.getElem?_eq_some_iff.1 ho).1
  have hSi:ax listed r.i=false:=by simp only[ax,Array.getD_eq_getD_getElem?,Array.getElem?_eq_getElem UF,Option.getD_some]at R3⊢;exact R3
  obtain⟨pre,post,mq⟩:=List.append_of_mem hr;subst mq;have Ft:∀q∈pre,Ord ops q r:=fun q hq=>(List.pairwise_append.1 abT).2.2 q hq r (by simp);have Ql:∀q∈post,Ord ops r q:=fun q hq=>(List.pairwise_cons.1 (List.pairwise_append.1 abT).2.1).1 q hq;have aao:∀q∈post,q.i≠r.i:=fun q hq=>by have:=(List.pairwise_cons.1 (List.pairwise_append.1 bm).2.1).1 q hq;omega
  have abW:∀q∈pre,q.i≠r.i:=fun q hq=>by have:=(List.pairwise_append.1 bm).2.2 q hq r (by simp);omega
  have R4:∀q:Rec,reach ops 4 r.o q.i=true→ax listed q.i=true:=fun q h=>qH listed sP 4 r.o q.i AU h;have MC:∀q∈post,reach ops 4 q.o r.i=true→ax listed q.i=false:=fun q hq h=>by
   cases WZ:ax listed q.i with
   |false=>rfl
   |true=>have:=qH listed sP 4 q.o r.i (sP q.i q.o (ow q (by simp[hq])) WZ) h;rw[hSi]at this;cases this
  have Zg:∀(f:Fr),oz (ax listed) f (r::post)=oz (ax listed) f post:=fun f=>by rw[oz,hSi];rfl
  have UG:∀(m:Mem),oA (ax listed) m (r::post)=oA (ax listed) m post:=fun m=>by rw[oA,hSi];rfl
  obtain⟨_,aap,hrw,_⟩:=fL.append.1 AP;have hc:=afs.append.1;have Zh:∀q∈pre,q.kl≠[]→reach ops 4 r.o q.i=true:=fun q hq=>(List.pairwise_append.1 Ze).2.2 q hq r (by simp);have UH:r.kl≠[]→∀q∈post,reach ops 4 q.o r.i=true:=fun h q hq=>(List.pairwise_cons.1 (List.pairwise_append.1 Ze).2.1).1 q hq h;unfold wpOpIn;rw[ow r hr];simp only;have hf1:∀t∈r.o.looksAt ops,oz (ax listed) f0 pre t=l6 f0 pre t:=fun t ht=>D5 rfl fun q hq hs=>by
   have Jq:¬reach ops 4 r.o q.i=true:=fun h=>by rw[R4 q h]at hs;cases hs
   refine⟨fun hd=>?_,?_⟩
   ·rcases Ft q hq with h|⟨h,_⟩
    ·exact Jq h
    ·exact absurd ht ((Oper.apart_spec h).1 t hd)
   ·exact Classical.byContradiction fun cB=>Jq (Zh q hq cB)
  have hm1:∀x∈r.ft,oA (ax listed) m0 pre x.2=pL m0 pre x.2:=fun x hx=>D6 rfl fun q hq hs=>by
   have Jq:¬reach ops 4 r.o q.i=true:=fun h=>by rw[R4 q h]at hs;cases hs
   refine⟨fun b hb=>?_,?_⟩
   ·rcases Ft q hq with h|⟨_,h,_⟩
    ·exact Jq h
    ·exact absurd rfl (h _ b hb x hx)
   ·exact Classical.byContradiction fun cB=>Jq (Zh q hq cB)
  have WD:∀q∈post,ax listed q.i=true→¬reach ops 4 q.o r.i=true:=fun q hq hs h=>by rw[MC q hq h]at hs;cases hs
  have hf2:∀t∈r.o.looksAt ops,oz (ax listed) f0 (pre++r::post) t=l6 f0 pre t:=fun t ht=>by
   rw[vK,Zg,pX fun q hq hs=>⟨fun hd=>?_,fun id hid=>?_⟩]
   ·exact hf1 t ht
   ·rcases Ql q hq with h|⟨h,_⟩
    ·exact WD q hq hs h
    ·exact absurd ht ((Oper.apart_spec h).2.2 t hd)
   ·rw[hf1 t ht];rcases hc q hq id hid with h|h
    ·exact absurd h (WD q hq hs)
    ·exact h.1 t ht
  have cq:∀x∈r.ft,oA (ax listed) m0 (pre++r::post) x.2=pL m0 pre x.2:=fun x hx=>by
   rw[vL,UG,pY fun q hq hs=>⟨fun b hb=>?_,fun id hid=>?_⟩]
   ·exact hm1 x hx
   ·rcases Ql q hq with h|⟨_,_,h⟩
    ·exact WD q hq hs h
    ·exact absurd rfl (h _ b hb x hx)
   ·rw[hm1 x hx];rcases hc q hq id hid with h|h
    ·exact absurd h (WD q hq hs)
    ·exact h.2.2.1 x hx
  have hwp:=aap _ _ hf2 cq μ φ a w (wpAnyIn (FR rd) 0 E.P .any ops Q fuel (listed.setIfInBounds r.i true)) Q hR fun μ' φ' a' w' jC=>by
   have Zi:∀j,ax (listed.setIfInBounds r.i true) j=if j=r.i then true else ax listed j:=fun j=>by
    simp only[ax,Array.getD_eq_getD_getElem?,Array.getElem?_setIfInBounds];by_cases e:r.i=j
    ·subst e;simp[UF]
    ·have e':¬j=r.i:=fun h=>e h.symm;simp[e,e']
   refine ih (listed.setIfInBounds r.i true) (by simp[hs]) ?_ ?_ ?_ ?_ μ' φ' a' w' ?_
   ·rw[Array.toList_setIfInBounds,List.countP_set (by simpa using UF)];have:listed.toList[r.i]'(by simpa using UF)=false:=by simp only[ax,Array.getD_eq_getD_getElem?,Array.getElem?_eq_getElem UF,Option.getD_some]at hSi;simpa using hSi
    rw[this];simp only[Bool.not_false,if_true,Bool.not_true,Bool.false_eq_true,if_false];omega
   ·intro i' o' R5 ny e he Ht;rw[Zi]at ny⊢;split
    ·rfl
    ·split at ny
     ·rename_i UD;subst UD;have:o'=r.o:=by rw[ow r hr]at R5;exact(Option.some.inj R5).symm
      subst this;exact AU e he Ht
     ·exact sP i' o' R5 ny e he Ht
   ·intro i' ny;rw[Zi];split
    ·rfl
    ·exact hb i' ny
   ·intro i' ny;rw[Zi]at ny;split at ny
    ·rename_i UD;exact Or.inr ⟨r,hr,UD.symm⟩
    ·exact rV i' ny
   ·have Zj:∀q∈pre,ax (listed.setIfInBounds r.i true) q.i=ax listed q.i:=fun q hq=>by rw[Zi,if_neg (abW q hq)]
    have vM:∀q∈post,ax (listed.setIfInBounds r.i true) q.i=ax listed q.i:=fun q hq=>by rw[Zi,if_neg (aao q hq)]
    have hSr:ax (listed.setIfInBounds r.i true) r.i=true:=by rw[Zi,if_pos rfl]
    have e1:oz (ax (listed.setIfInBounds r.i true)) f0 (pre++r::post)=r.fs (oz (ax listed) f0 (pre++r::post)):=funext fun t=>by
     have hg:oz (ax (listed.setIfInBounds r.i true)) f0 pre=oz (ax listed) f0 pre:=funext fun s=>yr rfl Zj;rw[vK,vK,Zg,oz,hSr,hg];simp only[cond];by_cases hk:r.kl=[]
     ·by_cases hd:r.o.dst=some t
      ·rw[Rec.JJ hd,pX fun q hq hs=>⟨fun hqd=>?_,fun id hid=>?_⟩,Rec.JJ hd]
       ·rw[vM q hq]at hs;rcases Ql q hq with h|⟨h,_⟩
        ·exact WD q hq hs h
        ·exact absurd hqd ((Oper.apart_spec h).2.1 t hd)
       ·rw[vM q hq]at hs;rw[Rec.JJ hd];rcases hc q hq id hid with h|h
        ·exact absurd h (WD q hq hs)
        ·exact h.2.1
      ·have AM:∀(g:Fr),r.fs g t=g t:=fun g=>Rec.Qj hd fun id⟨b,hid⟩=>by rw[hk]at hid;cases hid
       rw[AM];exact yr (AM _) vM
     ·have R3:∀q∈post,ax listed q.i=false:=fun q hq=>MC q hq (UH hk q hq);rw[pX fun q hq hs=>by rw[vM q hq,R3 q hq]at hs;cases hs];exact Rec.D3 (pX fun q hq hs=>by rw[R3 q hq]at hs;cases hs).symm
    have e2:oA (ax (listed.setIfInBounds r.i true)) m0 (pre++r::post)=r.ms (oA (ax listed) m0 (pre++r::post)):=funext fun j=>by
     have hg:oA (ax (listed.setIfInBounds r.i true)) m0 pre=oA (ax listed) m0 pre:=funext fun s=>yt rfl Zj;rw[vL,vL,UG,oA,hSr,hg];simp only[cond];by_cases hk:r.kl=[]
     ·by_cases hd:∃b,(j,b)∈r.wr
      ·obtain⟨b,hd,vl⟩:=Rec.Zd hd;rw[vl,pY fun q hq hs=>⟨fun b' hqd=>?_,fun id hid=>?_⟩,vl]
       ·rw[vM q hq]at hs;rcases Ql q hq with h|⟨_,_,h⟩
        ·exact WD q hq hs h
        ·exact absurd rfl (h j b' hqd (true,j) (hrw j b hd))
       ·rw[vM q hq]at hs;rcases hc q hq id hid with h|h
        ·exact absurd h (WD q hq hs)
        ·obtain⟨h1,h2⟩:=h.2.2.2 j b hd vl;refine⟨h1,fun b' gB=>?_⟩;rw[vl]at gB;cases gB;exact h2
      ·have TU:∀b,(j,b)∉r.wr:=fun b hb=>hd ⟨b,hb⟩;have AM:∀(g:Mem),r.ms g j=g j:=fun g=>Rec.Uz TU fun id⟨b,hid⟩=>by rw[hk]at hid;cases hid
       rw[AM];exact yt (AM _) vM
     ·have R3:∀q∈post,ax listed q.i=false:=fun q hq=>MC q hq (UH hk q hq);rw[pY fun q hq hs=>by rw[vM q hq,R3 q hq]at hs;cases hs];exact Rec.D4 (pY fun q hq hs=>by rw[R3 q hq]at hs;cases hs).symm
    rw[e1,e2];exact jC
  split
  ·rename_i hw;rw[if_pos hw]at hwp;exact hwp rd
  ·rename_i hw;rw[if_neg hw]at hwp;exact⟨fun _ _=>trivial,hwp⟩
end
end Go.Ab
set_option linter.unusedVariables false
namespace Go.Ab
open Go.RowKit (Below)
section
variable {E:Env} {ops:Array Oper} {w0:br}
variable{o:Oper}
theorem R6{t:Nat}(h:.tmp t∈o.op.operands):t∈o.looksAt ops:=by unfold Oper.looksAt;refine List.mem_append.2 (.inl (List.mem_filterMap.2 ⟨.tmp t,by simpa using h,rfl⟩))
theorem vN{g:Nat×Bool}{t:Nat}(hg:o.guard=some g)(h:(ops[g.1]?).bind (·.dst)=some t):t∈o.looksAt ops:=by unfold Oper.looksAt;rw[hg];refine List.mem_append.2 (.inr ?_);show t∈((ops[g.1]?).bind (·.dst)).toList;rw[h];simp
variable{f F:Fr}
theorem wY(h:∀t∈o.looksAt ops,f t=F t):∀x∈o.op.operands,bw E f x=bw E F x:=by
 intro x hx;cases x with
 |tmp t=>simp only[bw];rw[h t (R6 hx)]
 |_=>rfl
variable{A:List (Nat×Bool)}{φ:Nat→aA}{a:Act}{w:World}
theorem JM{f2:Fr}{m2:Mem}{μ:Ro}(hg:guardOf o A=none)(hA:qE E.fn.ntmps ops A f)(hR:Rel E.P E.aD E.fn.ntmps w0 μ φ f2 m2 a w)(hf:∀t∈o.looksAt ops,f2 t=f t):Region.wanted o (yielded ops a.tmps)=true:=by
 unfold guardOf at hg;unfold Region.wanted;split at hg
 ·rename_i Uu;simp[Uu]
 ·rename_i g Uu;split at hg
  ·rename_i bJ;obtain⟨t,h1,h0,h2⟩:=hA g (by simpa using bJ);have h3:=hR.fr t;rw[qm h0,hf t (vN Uu h1),h2]at h3;simp only[Uu];rw[uh h1 (qC h3)];simp
  ·cases hg
variable{i:Nat}{ft:bk}{m:Mem}
theorem D7(hE:jS E){v:V}{wr:List (Nat×bE)}(hg:guardOf o A=none)(hA:qE E.fn.ntmps ops A f)(hd:vv E o=true)(hn:∀(f2:Fr)(m2:Mem),(∀x∈o.op.operands,bw E f2 x=bw E f x)→(∀x∈ft,m2 x.2=m x.2)→∀(R':Type)(k':V→Fr→Mem→bk→Option R'),Jd E true (cC E o.dst) o f2 m2 k'=k' v f2 (sN wr m2) ft):Gp E ops w0 ⟨i,o,v,wr,ft,[]⟩ f m:=by
 intro f2 m2 hf hm μ φ a w K Q hR hK;have hw:Region.wanted o (yielded ops a.tmps)=true:=by
  unfold guardOf at hg;unfold Region.wanted;split at hg
  ·rename_i Uu;simp[Uu]
  ·rename_i g Uu;split at hg
   ·rename_i bJ;obtain⟨t,h1,h0,h2⟩:=hA g (by simpa using bJ);have h3:=hR.fr t;rw[qm h0,hf t (vN Uu h1),h2]at h3;simp only[Uu];rw[uh h1 (qC h3)];simp
   ·cases hg
 simp only at hf hm hK⊢;rw[if_pos hw];exact fun rd=>(Y9 hE (.inl rfl) (hn f2 m2 (wY hf) hm)).yp (AQ (hn f2 m2 (wY hf) hm Unit fun _ _ _ _=>some ())) rd w0 μ φ a w K Q hR fun y w' μ' φ' hle hM hF hv hl=>hK _ _ _ _ (hR.put hle (jg hd) hM hF hv hl)
theorem MD(hd:vv E o=true)(DV:RY ops f o):Gp E ops w0 ⟨i,o,.bt [],[],[],[]⟩ f m:=by
 intro f2 m2 hf hm μ φ a w K Q hR hK;simp only at hf hm hK⊢;have aaq:RY ops f2 o:=by obtain⟨g,hg,ht⟩:=DV;exact⟨g,hg,fun t h=>by rw[hf t (vN hg h)];exact ht t h⟩
 rw[xF hR aaq];simp only[Bool.false_eq_true,if_false];exact hK _ _ _ _ (hR.put (fun _ _ h=>h) (jg hd) hR.toav hR.kz DT (fun id hid=>by simp[V.has,cm]at hid))
def zy(x:Nat×Oper):Rec:=⟨x.1,x.2,.bt [],[],[],[]⟩
theorem Gq{m:Mem}:∀(l:List (Nat×Oper))(F:Fr),(∀x∈l,vv E x.2=true)→(∀(pre post:List (Nat×Oper))(x:Nat×Oper),l=pre++x::post→RY ops (iJ F pre) x.2)→fL E ops w0 F m (l.map zy)∧l6 F (l.map zy)=iJ F l
 |[],F,_,_=>⟨trivial,rfl⟩
 |x::r,F,hd,DV=>by obtain⟨h1,h2⟩:=Gq (m:=m) r (jc F x.2.dst (.bt [])) (fun y hy=>hd y (by simp[hy])) (fun pre post y h=>by have:=DV (x::pre) post y (by rw[h];rfl);rwa[iJ]at this);exact⟨⟨MD (hd x (by simp)) (DV [] r x rfl),by simp[zy],h1⟩,h2⟩
theorem Gs{m:Mem}:∀{l:List Rec},(∀q∈l,q.wr=[]∧q.kl=[])→pL m l=m
 |[],_=>rfl
 |r::l,h=>by
  obtain⟨h1,h2⟩:=h r (by simp);have:r.ms m=m:=by unfold Rec.ms;rw[h1,h2];rfl
  rw[pL,this];exact Gs fun q hq=>h q (by simp[hq])
theorem fL.wr:∀{l:List Rec}{f:Fr}{m:Mem},fL E ops w0 f m l→∀q∈l,∀id b,(id,b)∈q.wr→(true,id)∈q.ft
 |[],_,_,_,q,hq=>by cases hq
 |r::l,f,m,h,q,hq=>by
  rcases List.mem_cons.1 hq with rfl|hq
  ·exact h.2.1
  ·exact fL.wr h.2.2 q hq
def UI(q r:Rec):Prop:=reach ops 4 r.o q.i=true∨((∀id b,(id,b)∈q.wr→∀x∈r.ft,x.2≠id)∧∀id b,(id,b)∈r.wr→∀x∈q.ft,x.2≠id)
theorem JN{o:Oper}{w:Bool}{id:Nat}:∀{lg:Log},PQ ops o w id lg=true→∀x∈lg,id≠x.2.2∨(w=false∧x.2.1=false)∨reach ops 4 o x.1=true
 |[],_,x,hx=>by cases hx
 |(j,w',pI)::lg,h,x,hx=>by
  simp only[PQ,Bool.and_eq_true]at h;rcases List.mem_cons.1 hx with rfl|hx
  ·have h1:=h.1;simp only[Bool.or_eq_true,Bool.not_eq_true',Bool.and_eq_true]at h1;rcases h1 with(h1|h1)|h1
   ·exact .inl fun e=>by subst e;simp[Nat.beq_refl]at h1
   ·exact .inr (.inl h1)
   ·exact .inr (.inr h1)
  ·exact JN h.2 x hx
theorem AV{o:Oper}{lg:Log}:∀{ft:bk},Ay ops o lg ft=true→∀y∈ft,∀x∈lg,y.2≠x.2.2∨(y.1=false∧x.2.1=false)∨reach ops 4 o x.1=true
 |[],_,y,hy=>by cases hy
 |(w,id)::ft,h,y,hy=>by
  simp only[Ay,Bool.and_eq_true]at h;rcases List.mem_cons.1 hy with rfl|hy
  ·exact JN h.1
  ·exact AV h.2 y hy
theorem D8{o:Oper}{id:Nat}:∀{lg:Log},CE ops o id lg=true→∀x∈lg,x.2.2=wJ id→reach ops 4 o x.1=true
 |[],_,x,hx=>by cases hx
 |(j,w,n)::lg,h,x,hx=>by
  simp only[CE,Bool.and_eq_true,Bool.or_eq_true,Bool.not_eq_true']at h;intro he;rcases List.mem_cons.1 hx with rfl|hx
  ·rcases h.1 with h1|h1
   ·simp only at he;rw[he,Nat.beq_refl]at h1;cases h1
   ·exact h1
  ·exact D8 h.2 x hx he
mutual
theorem Qm{id:Nat}:∀(v:V),v.has id=true→id∈v.ids
 |.agg cs,h=>tf cs (by simpa only[V.has]using h)
 |.bt cs,h=>tf cs (by simpa only[V.has]using h)
 |.fn _ cs,h=>tf cs (by simpa only[V.has]using h)
 |.os j,h=>by have:=Nat.eq_of_beq_eq_true h;subst this;simp[V.ids]
 |.fH j _ _,h=>by have:=Nat.eq_of_beq_eq_true h;subst this;simp[V.ids]
 |.oe j _ _,h=>by have:=Nat.eq_of_beq_eq_true h;subst this;simp[V.ids]
 |.om j,h=>by have:=Nat.eq_of_beq_eq_true h;subst this;simp[V.ids]
 |.vp j _ _,h=>by have:=Nat.eq_of_beq_eq_true h;subst this;simp[V.ids]
 |.y7 j _ _ _ _ _,h=>by have:=Nat.eq_of_beq_eq_true h;subst this;simp[V.ids]
 |.op j _,h=>by have:=Nat.eq_of_beq_eq_true h;subst this;simp[V.ids]
 |.it j,h=>by have:=Nat.eq_of_beq_eq_true h;subst this;simp[V.ids]
 |.yl j,h=>by have:=Nat.eq_of_beq_eq_true h;subst this;simp[V.ids]
 |.pv _,h=>by cases h
 |.hZ,h=>by cases h
 |.top,h=>by cases h
theorem tf{id:Nat}:∀(cs:List V),cm id cs=true→id∈Je cs
 |[],h=>by cases h
 |v::r,h=>by
  simp only[cm,Bool.or_eq_true]at h;simp only[Je,List.mem_append];rcases h with h|h
  ·exact .inl (Qm v h)
  ·exact .inr (tf r h)
end
variable{id:Nat}
theorem zz{b:bE}(h:b.names id=true):id∈C8 (some b):=by
 cases b with
 |box cs=>exact tf cs h
 |_=>cases h
theorem yw{m m':Mem}{id:Nat}:∀{ft:bk}{x:Bool×Nat},x∈ft→(id∈C8 (m x.2)∨id∈C8 (m' x.2))→id∈Hj m m' ft
 |y::ft,x,hx,h=>by
  simp only[Hj,List.mem_append];rcases List.mem_cons.1 hx with rfl|hx
  ·exact .inl h
  ·exact .inr (yw hx h)
theorem UJ{v:V}{wr:List (Nat×bE)}(BW:∀t∈o.looksAt ops,f t=F t)(hwr:∀j b,(j,b)∈wr→(true,j)∈ft)(hn:id∉CD ops o f m (sN wr m) v ft)(hft:∀x∈ft,x.2≠id):Clean ops id ⟨i,o,v,wr,ft,[]⟩ F m:=by
 simp only[CD,List.mem_append,not_or]at hn;obtain⟨⟨h1,h2⟩,h3⟩:=hn;refine⟨fun t ht=>?_,?_,fun x hx=>⟨hft x hx,fun b hb=>?_⟩,fun j b hb vl=>⟨hft _ (hwr j b hb),?_⟩⟩
 ·cases e:(F t).has id with
  |false=>rfl
  |true=>exact absurd (tf _ (cL.2 ⟨f t,List.mem_map.2 ⟨t,ht,rfl⟩,by rw[BW t ht];exact e⟩)) h1
 ·cases e:v.has id with
  |false=>rfl
  |true=>exact absurd (Qm _ e) h2
 ·cases e:b.names id with
  |false=>rfl
  |true=>exact absurd (yw hx (.inl (by rw[hb];exact zz e))) h3
 ·cases e:b.names id with
  |false=>rfl
  |true=>exact absurd (yw (hwr j b hb) (.inr (by have gB:sN wr m j=some b:=vl m;simp only;rw[gB];exact zz e))) h3
variable{R:Type}
theorem ME{site:Nat}{rd:bk}(h:tV E f m o=some (id,rd)){k:V→Fr→Mem→bk→Option R}{r:R}(hx:cJ E false site o f m k=some r):(∀x∈rd,x.1=false)∧∃dy,k (.os id) (eU id f) (ak (bh (bx id m) id) id dy) [(true,0)]=some r∧∀(f2:Fr)(m2:Mem),(∀x∈o.op.operands,bw E f2 x=bw E f x)→(∀x∈(true,id)::rd,m2 x.2=m x.2)→∀(R':Type)(k':V→Fr→Mem→bk→Option R'),cJ E false site o f2 m2 k'=k' (.os id) (eU id f2) (ak (bh (bx id m2) id) id dy) [(true,0)]:=by
 obtain⟨dst,op,type,pos,after,guard⟩:=o;unfold tV at h;simp only at h;split at h
 ·rename_i c;obtain⟨callee,args,argTypes⟩:=c;simp only at h;split at h
  ·rename_i pI x t t' jf Qf;split at h
   ·rename_i e hu;split at h
    ·rename_i new rd' AG;split at h
     ·cases h
     ·rename_i hxh;simp only[Option.some.injEq,Prod.mk.injEq]at h;obtain⟨rfl,rfl⟩:=h;obtain⟨he1,he2,_⟩:=nA AG;have aft:∀m2:Mem,bh (bx pI m2) pI pI=none:=fun m2=>by simp[bh,Nat.beq_refl]
      have main:∀(f2:Fr)(m2:Mem),args.toList.map (bw E f2)=[.os pI,x]→m2 pI=m pI→eM m2 (aP E.P e) x=some (new,rd')→∀(R':Type)(k':V→Fr→Mem→bk→Option R'),cJ E false site ⟨dst,.call ⟨.builtin .append,args,argTypes⟩,type,pos,after,guard⟩ f2 m2 k'=if !(decide (t'=t))then none else if(c9 E e).isNone then none else match m pI with
       |some (.arr sz et es)=>if et=e∧sz=aP E.P e∧x.has pI=false then(if(es++new).length*Fi E.P e≤an∧0<Fi E.P e then k' (.os pI) (eU pI f2) (ak (bh (bx pI m2) pI) pI (.arr sz e (es++new))) [(true,0)]else none)else none
       |_=>none:=by
       intro f2 m2 h1 h2 h3 R' k'
       simp only[cJ,h1,Qf,zd,Bool.false_or,hu,h3,h2]
       split
       ·rfl
       ·split
        ·rfl
        ·split
         ·rename_i sz et es Qe;simp only[fresh,aft,Qe]
         ·rename_i cB;split
          ·rename_i sz et es cq;exact absurd cq (cB sz et es)
          ·rfl
      rw[main f m jf rfl AG]at hx;refine⟨he2,?_⟩;split at hx
      ·cases hx
      ·rename_i YV;split at hx
       ·cases hx
       ·rename_i Rv;split at hx
        ·rename_i sz et es hm;split at hx
         ·rename_i hc3;split at hx
          ·rename_i hc4;refine⟨_,hx,fun f2 m2 hf cq R' k'=>?_⟩;have ha:args.toList.map (bw E f2)=[.os pI,x]:=by rw[←jf];exact ob fun y hy=>hf y (by simp only[Op.operands,Call.operands];simp[Array.mem_toList_iff.1 hy])
           rw[main f2 m2 ha (cq (true,pI) (by simp)) (he1 m2 fun y hy=>cq y (by simp[hy])) R' k'];rw[if_neg YV,if_neg Rv,hm];simp only;rw[if_pos hc3,if_pos hc4]
          ·cases hx
         ·cases hx
        ·cases hx
    ·cases h
   ·cases h
  ·cases h
 ·cases h
theorem vj.kill(h:vj f F)(id:Nat):vj (eU id f) (eU id F):=fun t=>by
 rcases h t with e|e
 ·exact .inl (by simp only[eU,e])
 ·exact .inr (by simp only[eU,e];rfl)
theorem qE.kill{nt:Nat}(h:qE nt ops A f)(id:Nat):qE nt ops A (eU id f):=by intro g hg;obtain⟨t,h1,h0,h2⟩:=h g hg;exact⟨t,h1,h0,by simp only[eU,h2];rfl⟩
theorem UK{x:Nat×bk}(h:tV E f m o=some x):isApp E o=true:=by
 obtain⟨dst,op,type,pos,after,guard⟩:=o;unfold tV at h;simp only at h;unfold isApp;split at h
 ·rename_i c;obtain⟨callee,args,argTypes⟩:=c;simp only at h;split at h
  ·simp
  ·cases h
 ·cases h
theorem HI{rd:bk}(h:tV E f m o=some (id,rd)):∃c x t t',o.op=.call c∧c.callee=.builtin .append∧c.args.toList.map (bw E f)=[.os id,x]∧c.argTypes.toList=[t,t']:=by
 unfold tV at h;split at h
 ·rename_i c hc;split at h
  ·rename_i pI x t t' h1 h2 h3;split at h
   ·split at h
    ·split at h
     ·cases h
     ·simp only[Option.some.injEq,Prod.mk.injEq]at h;obtain⟨rfl,_⟩:=h;exact⟨c,x,t,t',hc,h1,h2,h3⟩
    ·cases h
   ·cases h
  ·cases h
 ·cases h
theorem R7{kl:Kl}(h:Hk E f m o=some (kl,ft)){k:V→Fr→Mem→bk→Option R}{r:R}(hx:Jd E false (cC E o.dst) o f m k=some r):isApp E o=true∧∃v wr ft1,k v (kf kl f) (sN wr (km kl m)) ft1=some r∧(∀x∈wr,(true,x.1)∈ft)∧(∀x∈kl,(true,x.2)∈ft)∧∀(f2:Fr)(m2:Mem),(∀x∈o.op.operands,bw E f2 x=bw E f x)→(∀x∈ft,m2 x.2=m x.2)→∀(R':Type)(k':V→Fr→Mem→bk→Option R'),Jd E false (cC E o.dst) o f2 m2 k'=k' v (kf kl f2) (sN wr (km kl m2)) ft1:=by
 unfold Hk at h;unfold Jd at hx;split at h
 ·rename_i sp pT;simp only[Option.some.injEq]at h;have hn:E.Ak (cC E o.dst)=true:=by
   cases hn:E.Ak (cC E o.dst)with
   |true=>rfl
   |false=>rw[hn]at pT;cases pT
  rw[hn]at pT hx;simp only[cond]at pT hx;rw[pT]at hx;obtain⟨v,wr,h1,h2,h3,h4,_,_⟩:=My pT hx;rw[h]at h1 h2 h3 h4;refine⟨by unfold isApp;rw[hn];rfl,v,wr,ft,h1,h2,h3,fun f2 m2 hf hm R' k'=>?_⟩;have:=Mu pT hf (by rw[h];exact hm);unfold Jd;rw[hn];simp only[cond];rw[this];exact h4 f2 m2 R' k'
 ·rename_i pT;split at h
  ·rename_i id rd UL;simp only[Option.some.injEq,Prod.mk.injEq]at h;obtain⟨rfl,rfl⟩:=h;have e0:(bif false then none else bif E.Ak (cC E o.dst)then xV E (cC E o.dst) o f m else none)=(bif E.Ak (cC E o.dst)then xV E (cC E o.dst) o f m else none):=rfl;rw[e0,pT]at hx;simp only at hx;obtain⟨je,dy,hk,hn⟩:=ME UL hx;refine⟨UK UL,.os id,[(id,dy)],[(true,0)],hk,by simp,by simp,fun f2 m2 hf hm R' k'=>?_⟩;have abX:(bif E.Ak (cC E o.dst)then xV E (cC E o.dst) o f2 m2 else none)=none:=by
    cases F7:E.Ak (cC E o.dst)with
    |false=>rfl
    |true=>
     simp only[cond];obtain⟨c,x,t,t',hc,Xy,jf,Us⟩:=HI UL;have aar:c.args.toList.map (bw E f2)=[.os id,x]:=by rw[←jf];exact List.map_congr_left fun y hy=>hf y (by rw[hc];simp only[Op.operands,Call.operands];rw[Xy];simp[Array.mem_toList_iff.1 hy])
     have cq:m2 id=m id:=hm (true,id) (by simp);have Za:∃sz et es,m id=some (.arr sz et es):=by
      obtain⟨dst,op,type,pos,after,guard⟩:=o;simp only at hc;subst hc;obtain⟨callee,args,argTypes⟩:=c;simp only at Xy jf Us;subst Xy;simp only[cJ,jf,Us,zd,Bool.false_or]at hx;split at hx
      ·cases hx
      ·split at hx
       ·split at hx
        ·cases hx
        ·split at hx
         ·split at hx
          ·rename_i sz et es hm;exact⟨sz,et,es,hm⟩
          ·cases hx
         ·cases hx
       ·cases hx
     obtain⟨sz,et,es,Za⟩:=Za;unfold xV;rw[hc];simp only[Xy,aar,Us,cq,Za];split<;>first|rfl|(rename_i heq;cases heq)
   unfold Jd;have e1:(bif false then none else bif E.Ak (cC E o.dst)then xV E (cC E o.dst) o f2 m2 else none)=(bif E.Ak (cC E o.dst)then xV E (cC E o.dst) o f2 m2 else none):=rfl;rw[e1,abX];exact hn f2 m2 hf hm R' k'
  ·cases h
theorem vj.xt(h:vj f F)(id:Nat):vj (ic id f) (ic id F):=fun t=>by
 rcases h t with e|e
 ·exact .inl (by simp only[ic,e])
 ·exact .inr (by simp only[ic,e];rfl)
theorem vj.kf:∀{kl:Kl}{f F:Fr},vj f F→vj (Go.Ab.kf kl f) (Go.Ab.kf kl F)
 |[],_,_,h=>h
 |(true,id)::r,f,F,h=>vj.kf (kl:=r) (f:=eU id f) (F:=eU id F) (h.kill id)
 |(false,id)::r,f,F,h=>vj.kf (kl:=r) (f:=ic id f) (F:=ic id F) (h.xt id)
theorem qE.xt{nt:Nat}(h:qE nt ops A f)(id:Nat):qE nt ops A (ic id f):=by intro g hg;obtain⟨t,h1,h0,h2⟩:=h g hg;exact⟨t,h1,h0,by simp only[ic,h2];rfl⟩
theorem qE.kf{nt:Nat}{A:List (Nat×Bool)}:∀{kl:Kl}{f:Fr},qE nt ops A f→qE nt ops A (Go.Ab.kf kl f)
 |[],_,h=>h
 |(true,id)::r,f,h=>qE.kf (kl:=r) (f:=eU id f) (h.kill id)
 |(false,id)::r,f,h=>qE.kf (kl:=r) (f:=ic id f) (h.xt id)
theorem R8(hE:jS E)(hY:sV E.P E.aD E.fn.ntmps E.yl w0){v:V}{wr:List (Nat×bE)}{kl:Kl}{ft1:bk}(hg:guardOf o A=none)(hA:qE E.fn.ntmps ops A F)(hd:vv E o=true)(R0:∀x∈o.op.operands,bw E f x=bw E F x)(hn:∀(f2:Fr)(m2:Mem),(∀x∈o.op.operands,bw E f2 x=bw E f x)→(∀x∈ft,m2 x.2=m x.2)→∀(R':Type)(k':V→Fr→Mem→bk→Option R'),Jd E false (cC E o.dst) o f2 m2 k'=k' v (kf kl f2) (sN wr (km kl m2)) ft1):Gp E ops w0 ⟨i,o,v,wr,ft,kl⟩ F m:=by
 intro f2 m2 hf hm μ φ a w K Q hR hK;have hw:Region.wanted o (yielded ops a.tmps)=true:=JM hg hA hR hf;simp only at hf hm hK⊢;rw[if_pos hw];have hx:=hn f2 m2 (fun x hx=>by rw[wY hf x hx,R0 x hx]) hm (V×Fr×Mem) fun v f m _=>some (v,f,m);rcases HG hE hx with⟨v,f',m',ft,h1,h2⟩|⟨_,h2⟩
 ·simp only[Option.some.injEq,Prod.mk.injEq]at h1;obtain⟨rfl,rfl,rfl⟩:=h1;exact fun rd=>h2.yp (AQ hx) rd w0 μ φ a w K Q hR fun y w' μ' φ' hle hM hF hv hl=>hK _ _ _ _ (hR.put hle (jg hd) hM hF hv hl)
 ·refine fun rd=>DQ.yp h2 rd w0 μ φ a w K Q hY hR fun v f' m' y w' μ' φ' h1 hle hM hF hv hl=>?_;simp only[Option.some.injEq,Prod.mk.injEq]at h1;obtain⟨rfl,rfl,rfl⟩:=h1;exact hK _ _ _ _ (hR.put hle (jg hd) hM hF hv hl)
structure HJ(ops:Array Oper)(mode:Nat)(F:Fr)(m:Mem)(lg:Log)(recs:List Rec):Prop where
 one:mode=1→∀q∈recs,q.wr=[]∧q.kl=[]
 ord:mode=2→recs.Pairwise (UI (ops:=ops))
 log:mode=2→∀q∈recs,∀y∈q.ft,∀x∈lg,y.2≠x.2.2∨(y.1=false∧x.2.1=false)∨reach ops 4 q.o x.1=true
 kl:recs.Pairwise fun q r=>q.kl≠[]→reach ops 4 r.o q.i=true
 cln:oc ops F m recs
 nam:∀q∈recs,∀id,q.Gm id→mode=2∧ops.toList.any (isApp E)=true∧(true,id)∈q.ft∧∀x∈lg,x.2.2=wJ id→reach ops 4 q.o x.1=true
theorem oc.none:∀{l:List Rec}{f:Fr}{m:Mem},(∀q∈l,q.kl=[])→oc ops f m l
 |[],_,_,_=>trivial
 |r::l,f,m,h=>⟨fun q hq id⟨b,hid⟩=>(by rw[h q (by simp[hq])]at hid;cases hid),oc.none fun q hq=>h q (by simp[hq])⟩
theorem mr(hE:jS E)(hY:sV E.P E.aD E.fn.ntmps E.yl w0){mode:Nat}(jH:mode=1∨mode=2):∀(fuel:Nat){R:Type}{A:List (Nat×Bool)}{l:List (Nat×Oper)}{f:Fr}{m:Mem}{lg:Log}{k:Fr→Mem→Option R}{r:R},cj E ops mode fuel R A l f m lg k=some r→(∀x∈l,ops[x.1]?=some x.2)→(mode=1→∀x∈l,ff x.2=true)→aan ops A l→∀F:Fr,vj f F→qE E.fn.ntmps ops A F→(∀x∈l,∀t∈x.2.looksAt ops,f t=F t)→∃(recs:List Rec)(f':Fr),k f' (pL m recs)=some r∧vj f' (l6 F recs)∧recs.map (fun r=>(r.i,r.o))=l∧fL E ops w0 F m recs∧HJ (E:=E) ops mode F m lg recs
 |0,_,_,_,_,_,_,_,_,h,_,_,_,_,_,_,_=>by simp[cj]at h
 |fuel+1,R,A,[],f,m,lg,k,r,h,_,_,_,F,hF,_,_=>by simp only[cj]at h;exact⟨[],f,h,hF,rfl,trivial,by simp,fun _=>.nil,by simp,.nil,trivial,by simp⟩
 |fuel+1,R,A,(i,o)::rest,f,m,lg,k,r,h,hl,Tm,DW,F,hF,hA,BW=>by
  have hm1:(Nat.beq mode 1||Nat.beq mode 2)=true:=by rcases jH with rfl|rfl<;>rfl
  simp only[cj,hm1]at h;split at h
  ·rename_i hg;split at h
   ·rename_i hd;have abY:∀x∈o.op.operands,bw E f x=bw E F x:=wY (BW (i,o) (by simp));split at h
    ·rename_i kl ft pT;have aas:mode=2:=by
      rcases jH with rfl|rfl
      ·cases pT
      ·rfl
     subst aas;have pT:Hk E f m o=some (kl,ft):=pT;split at h
     ·rename_i Fc;simp only[Bool.and_eq_true,List.all_eq_true]at Fc;obtain⟨⟨afu,afv⟩,afw⟩:=Fc;obtain⟨UL,v,wr,ft1,hk,hwr,Ze,hn⟩:=R7 pT h;obtain⟨recs,f',c1,c2,c3,c4,c5⟩:=mr hE hY (.inr rfl) fuel hk (fun x hx=>hl x (by simp[hx])) (fun hm=>by cases hm) (fun x hx=>DW x (by simp[hx])) (jc (kf kl F) o.dst v) ((vj.kf (kl:=kl) hF).put _ _) (qE.put (qE.kf (kl:=kl) hA) fun g pW t ht=>DW (i,o) (by simp) g pW t ht) (fun x hx t ht=>by
       by_cases e:o.dst=some t
       ·rw[e,jY,jY]
       ·rw[dR e,dR e];exact zx (BW x (by simp[hx]) t ht))
      have ow:∀q∈recs,reach ops 4 q.o i=true:=fun q hq=>afw (q.i,q.o) (by rw[←c3];exact List.mem_map.2 ⟨q,hq,rfl⟩);have aat:ops.toList.any (isApp E)=true:=List.any_eq_true.2 ⟨o,List.mem_of_getElem? (by rw[Array.getElem?_toList];exact hl (i,o) (by simp)),UL⟩;refine⟨⟨i,o,v,wr,ft,kl⟩::recs,f',c1,c2,by simp[c3],⟨R8 hE hY hg hA hd abY hn,fun j b hb=>hwr _ hb,c4⟩,?_⟩;refine⟨fun hm=>(by cases hm),fun hm=>List.pairwise_cons.2 ⟨fun q hq=>.inl (ow q hq),c5.ord hm⟩,fun hm q hq=>?_,List.pairwise_cons.2 ⟨fun q hq _=>ow q hq,c5.kl⟩,⟨fun q hq pI _=>.inl (ow q hq),c5.cln⟩,fun q hq pI hid=>?_⟩
      ·rcases List.mem_cons.1 hq with rfl|hq
       ·exact AV afu
       ·exact fun y hy x hx=>c5.log hm q hq y hy x (List.mem_append.2 (.inr hx))
      ·rcases List.mem_cons.1 hq with rfl|hq
       ·obtain⟨bb,hid⟩:=hid;exact⟨rfl,aat,Ze _ hid,D8 (afv _ hid)⟩
       ·obtain⟨g1,g2,g3,g4⟩:=c5.nam q hq pI hid;exact⟨g1,g2,g3,fun x hx=>g4 x (List.mem_append.2 (.inr hx))⟩
     ·cases h
    ·rcases HG hE h with⟨v,f1,m1,ft,hk,R0⟩|⟨xf,_⟩
     rotate_left
     ·cases xf
     obtain⟨hf1,wr,abZ,hwr,hn⟩:=R0.drawn rfl;subst hf1;have RB:∀(f2:Fr)(m2:Mem),(∀x∈o.op.operands,bw E f2 x=bw E F x)→(∀x∈ft,m2 x.2=m x.2)→∀(R':Type)(k':V→Fr→Mem→bk→Option R'),Jd E true (cC E o.dst) o f2 m2 k'=k' v f2 (sN wr m2) ft:=fun f2 m2 hf=>hn f2 m2 fun x hx=>by rw[hf x hx,abY x hx]
     have step:∀(wr':List (Nat×bE))(lg':Log),sN wr' m=m1→(mode=1→wr'=[])→(∀id b,(id,b)∈wr'→(true,id)∈ft)→Gp E ops w0 ⟨i,o,v,wr',ft,[]⟩ F m→cj E ops mode fuel R A rest (jc f1 o.dst v) m1 lg' k=some r→(mode=2→lg'=(bif ops.toList.any (isApp E)then(CD ops o f1 m m1 v ft).map (fun n=>(i,false,wJ n))else[])++(ft.map (fun x=>(i,x))++lg)∧Ay ops o lg ft=true)→∃(recs:List Rec)(f':Fr),k f' (pL m recs)=some r∧vj f' (l6 F recs)∧recs.map (fun r=>(r.i,r.o))=(i,o)::rest∧fL E ops w0 F m recs∧HJ (E:=E) ops mode F m lg recs:=by
      intro wr' lg' hwm DF hw2 aap Xw JO;obtain⟨recs,f',c1,c2,c3,c4,c5⟩:=mr hE hY jH fuel Xw (fun x hx=>hl x (by simp[hx])) (fun hm x hx=>Tm hm x (by simp[hx])) (fun x hx=>DW x (by simp[hx])) (jc F o.dst v) (hF.put _ _) (qE.put hA fun g pW t ht=>DW (i,o) (by simp) g pW t ht) (fun x hx t ht=>by
       by_cases e:o.dst=some t
       ·rw[e,jY,jY]
       ·rw[dR e,dR e];exact BW x (by simp[hx]) t ht)
      subst hwm;refine⟨⟨i,o,v,wr',ft,[]⟩::recs,f',c1,c2,by simp[c3],⟨aap,hw2,c4⟩,?_⟩;have Zk:mode=2→∀x∈lg,x∈lg':=fun hm x hx=>by rw[(JO hm).1];exact List.mem_append.2 (.inr (List.mem_append.2 (.inr hx)))
      have UM:mode=2→∀x∈ft,(i,x)∈lg':=fun hm x hx=>by rw[(JO hm).1];exact List.mem_append.2 (.inr (List.mem_append.2 (.inl (List.mem_map.2 ⟨x,hx,rfl⟩))))
      refine⟨fun hm q hq=>?_,fun hm=>List.pairwise_cons.2 ⟨fun q hq=>?_,c5.ord hm⟩,fun hm q hq=>?_,List.pairwise_cons.2 ⟨fun q hq h=>absurd rfl h,c5.kl⟩,⟨fun q hq id hid=>?_,c5.cln⟩,fun q hq id hid=>?_⟩
      ·rcases List.mem_cons.1 hq with rfl|hq
       ·exact⟨DF hm,rfl⟩
       ·exact c5.one hm q hq
      ·have d2:=c5.log hm;by_cases he:reach ops 4 q.o i=true
       ·exact .inl he
       ·refine .inr ⟨fun id b hb x hx hxi=>?_,fun id b hb x hx hxi=>?_⟩
        ·rcases d2 q hq x hx (i,true,id) (UM hm (true,id) (hw2 id b hb))with h|h|h
         ·exact h hxi
         ·cases h.2
         ·exact he h
        ·rcases d2 q hq (true,id) (fL.wr c4 q hq id b hb) (i,x) (UM hm x hx)with h|h|h
         ·exact h hxi.symm
         ·cases h.1
         ·exact he h
      ·rcases List.mem_cons.1 hq with rfl|hq
       ·exact AV (JO hm).2
       ·exact fun y hy x hx=>c5.log hm q hq y hy x (Zk hm x hx)
      ·obtain⟨g1,g2,g3,g4⟩:=c5.nam q hq id hid;by_cases he:reach ops 4 q.o i=true
       ·exact .inl he
       ·refine .inr (UJ (BW (i,o) (by simp)) hw2 (fun bJ=>he (g4 (i,false,wJ id) ?_ rfl)) fun x hx hxi=>?_)
        ·rw[(JO g1).1,g2];exact List.mem_append.2 (.inl (List.mem_map.2 ⟨id,bJ,rfl⟩))
        ·rcases c5.log g1 q hq (true,id) g3 (i,x) (UM g1 x hx)with h|h|h
         ·exact h hxi.symm
         ·cases h.1
         ·exact he h
      ·rcases List.mem_cons.1 hq with rfl|hq
       ·obtain⟨_,hid⟩:=hid;cases hid
       ·obtain⟨g1,g2,g3,g4⟩:=c5.nam q hq id hid;exact⟨g1,g2,g3,fun x hx=>g4 x (Zk g1 x hx)⟩
     rcases jH with rfl|rfl
     ·simp only[Nat.beq,Bool.false_eq_true,if_false]at hk;split at hk
      ·rename_i hqf;have Xd:wr=[]:=by
        cases wr with
        |nil=>rfl
        |cons x l=>have:=yq hqf _ (hwr x (by simp));cases this
       subst Xd;exact step [] lg abZ.symm (fun _=>rfl) (by simp) (D7 hE hg hA hd RB) hk (by simp)
      ·cases hk
     ·simp only[Nat.beq,if_true]at hk;split at hk
      ·rename_i hof;exact step wr _ abZ.symm (by simp) (fun id b hb=>hwr _ hb) (D7 hE hg hA hd RB) hk fun _=>⟨rfl,hof⟩
      ·cases hk
   ·cases h
  ·rename_i j Az hg;split at h
   ·rename_i tj Tn;split at h
    ·rename_i b hb;generalize pT:Bw A ((i,o)::rest)=sp at h;obtain⟨body,Jf⟩:=sp;have mq:=DU pT;have hm0:Nat.beq mode 0=false:=by rcases jH with rfl|rfl<;>rfl
     simp only[hm0,Bool.false_and,Bool.false_eq_true,if_false]at h;split at h
     ·rename_i ip p mc;split at h
      ·rename_i c x y Mz;split at h
       ·rename_i hc;simp only[Bool.and_eq_true,List.all_eq_true,Bool.not_eq_true',beq_eq_false_iff_ne,ne_eq]at hc;obtain⟨⟨⟨⟨⟨⟨MA,hpg⟩,xG⟩,Ux⟩,aau⟩,hpd⟩,cq⟩:=hc;have aav:mode=1:=by
         rcases jH with h|h
         ·exact h
         ·subst h;simp[Nat.beq]at cq
        subst aav;have MA:=Nat.eq_of_beq_eq_true MA;subst MA;have hpg:guardOf p A=none:=by simpa using hpg
        obtain⟨rb,LO,h⟩:=Option.bind_eq_some_iff.1 h;have bJ:∀z∈body,z∈(i,o)::rest:=fun z hz=>by rw[mq];simp[hz]
        have uX:∀z∈mc,z∈(i,o)::rest:=fun z hz=>by rw[mq];simp[hz]
        have JG:(ip,p)∈(i,o)::rest:=by rw[mq];simp
        obtain⟨Uw,hb⟩:=DS hb;have hFc:F c=.pv (.bool b):=by
         rcases hF c with e|e
         ·rw[←e];exact hb
         ·rw[e]at hb;cases hb
        have after:∀(rY:List Rec)(q:Operand),rY.map (fun r=>(r.i,r.o))=body→fL E ops w0 F m rY→(∀q∈rY,q.wr=[]∧q.kl=[])→bw E (l6 F rY) q=.pv (.bool rb)→(q=if b then x else y)→∃(recs:List Rec)(f':Fr),k f' (pL m recs)=some r∧vj f' (l6 F recs)∧recs.map (fun r=>(r.i,r.o))=body++(ip,p)::mc∧fL E ops w0 F m recs∧(∀q∈recs,q.wr=[]∧q.kl=[]):=by
         intro rY q ab0 ab1 Xd hq hqe;have Xz:∀t,(∀z∈body,z.2.dst≠some t)→l6 F rY t=F t:=fun t ht=>Gn fun q hq=>⟨ht (q.i,q.o) (by rw[←ab0];exact List.mem_map.2 ⟨q,hq,rfl⟩),(Xd q hq).2⟩;have hA1:qE E.fn.ntmps ops A (l6 F rY):=fun g pW=>by obtain⟨t,h1,h0,h2⟩:=hA g pW;exact⟨t,h1,h0,by rw[Xz t fun z hz=>DW z (bJ z hz) g pW t h1];exact h2⟩
         have WE:l6 F rY c=.pv (.bool b):=by rw[Xz c fun z hz=>(xG z hz).2];exact hFc
         have hrp:Gp E ops w0 ⟨ip,p,.pv (.bool rb),[],[],[]⟩ (l6 F rY) m:=D7 hE hpg hA1 hpd fun f2 m2 hf hm R' k'=>by
          have rV:bw E f2 (.tmp c)=.pv (.bool b):=by have:=hf (.tmp c) (by rw[Mz];simp[Op.operands]);rw[this,Xv Uw];exact WE
          have hq2:bw E f2 q=.pv (.bool rb):=by rw[hf q (by rw[Mz,hqe];cases b<;>simp[Op.operands])];exact hq
          rw[JF Mz rV,←hqe,hq2];rfl
         obtain⟨recs,f',c1,c2,c3,c4,c5⟩:=mr hE hY (.inl rfl) fuel h (fun z hz=>hl z (uX z hz)) (fun hm z hz=>Tm hm z (uX z hz)) (fun z hz=>DW z (uX z hz)) (jc (l6 F rY) p.dst (.pv (.bool rb))) (vj.put (wX fun t ht=>by rw[Xz t ht];exact hF t) _ _) (qE.put hA1 fun g pW t ht=>DW (ip,p) JG g pW t ht) (fun z hz t ht=>by
          by_cases e:p.dst=some t
          ·rw[e,jY,jY]
          ·have hnb:∀u∈body,u.2.dst≠some t:=fun u hu hud=>by
            have h1:=aau z hz;simp only[blind,List.all_eq_true]at h1;have h2:=h1 u hu;rw[hud]at h2;simp only[Bool.not_eq_true']at h2;have:(z.2.looksAt ops).elem t=true:=by simpa using ht
            rw[this]at h2;cases h2
           rw[dR e,dR e,wW hnb,Xz t hnb];exact BW z (uX z hz) t ht)
         have hmB:pL m rY=m:=Gs Xd;refine⟨rY++⟨ip,p,.pv (.bool rb),[],[],[]⟩::recs,f',?_,?_,by simp[ab0,c3],?_,fun q hq=>?_⟩
         ·rw[JL,hmB];exact c1
         ·rw[JK];exact c2
         ·refine fL.append.2 ⟨ab1,?_⟩;rw[hmB];exact⟨hrp,by simp,c4⟩
         ·rcases List.mem_append.1 hq with h|h
          ·exact Xd q h
          ·rcases List.mem_cons.1 h with rfl|h
           ·exact⟨rfl,rfl⟩
           ·exact c5.one rfl q h
        have fin:(∃(recs:List Rec)(f':Fr),k f' (pL m recs)=some r∧vj f' (l6 F recs)∧recs.map (fun r=>(r.i,r.o))=body++(ip,p)::mc∧fL E ops w0 F m recs∧(∀q∈recs,q.wr=[]∧q.kl=[]))→∃(recs:List Rec)(f':Fr),k f' (pL m recs)=some r∧vj f' (l6 F recs)∧recs.map (fun r=>(r.i,r.o))=(i,o)::rest∧fL E ops w0 F m recs∧HJ (E:=E) ops 1 F m lg recs:=by rintro⟨recs,f',c1,c2,c3,c4,c5⟩;exact⟨recs,f',c1,c2,by rw[mq];exact c3,c4,fun _=>c5,fun h=>(by cases h),fun h=>(by cases h),List.Pairwise.imp_of_mem (R:=fun _ _=>True) (fun{q r}hq hr _ h=>absurd (c5 q hq).2 h) (List.pairwise_of_forall fun _ _=>trivial),oc.none fun q hq=>(c5 q hq).2,fun q hq id⟨_,hid⟩=>(by rw[(c5 q hq).2]at hid;cases hid)⟩
        have go:∀q,b=Az→(q=if b then x else y)→cj E ops 1 fuel Bool ((j,Az)::A) body f m lg (fun f _=>xp (bw E f q))=some rb→∃(recs:List Rec)(f':Fr),k f' (pL m recs)=some r∧vj f' (l6 F recs)∧recs.map (fun r=>(r.i,r.o))=body++(ip,p)::mc∧fL E ops w0 F m recs∧(∀q∈recs,q.wr=[]∧q.kl=[]):=by
         intro q R1 hq Xw;obtain⟨rY,f1,c1,c2,c3,c4,c5⟩:=mr hE hY (.inl rfl) fuel Xw (fun z hz=>hl z (bJ z hz)) (fun hm z hz=>Tm hm z (bJ z hz)) (fun z hz g pW t ht=>by
          rcases List.mem_cons.1 pW with rfl|pW
          ·simp only[Tn]at ht;cases ht;exact(xG z hz).2
          ·exact DW z (bJ z hz) g pW t ht) F hF (fun g pW=>by
          rcases List.mem_cons.1 pW with rfl|pW
          ·exact⟨c,Tn,Uw,by rw[hFc,R1]⟩
          ·exact hA g pW) (fun z hz=>BW z (bJ z hz))
         refine after rY q c3 c4 (c5.one rfl) ?_ hq;have hv:=zt c1;rcases Ut (E:=E) c2 q with e|e
         ·rw[←e];exact hv
         ·rw[e]at hv;cases hv
        have no:∀q,b= !Az→(q=if b then x else y)→xp (bw E (mb f body) q)=some rb→∃(recs:List Rec)(f':Fr),k f' (pL m recs)=some r∧vj f' (l6 F recs)∧recs.map (fun r=>(r.i,r.o))=body++(ip,p)::mc∧fL E ops w0 F m recs∧(∀q∈recs,q.wr=[]∧q.kl=[]):=by
         intro q R1 hq Xw;obtain⟨s1,s2⟩:=Gq (E:=E) (w0:=w0) (m:=m) body F (fun z hz=>(xG z hz).1.2) (zs Tn Ux (fun z hz=>hl z (bJ z hz)) (fun z hz=>(xG z hz).2) (by rw[hFc,R1]) (by simp));refine after (body.map zy) q (by simp[zy,Function.comp_def]) s1 (fun u hu=>by obtain⟨z,_,rfl⟩:=List.mem_map.1 hu;exact⟨rfl,rfl⟩) ?_ hq;rw[s2];have hv:=zt Xw;have hle:vj (mb f body) (iJ F body):=wX fun t ht=>by rw[ui ht];exact hF t
         rcases Ut (E:=E) hle q with e|e
         ·rw[←e];exact hv
         ·rw[e]at hv;cases hv
        refine fin ?_;cases Az<;>cases b<;>simp only[cond]at LO
        ·exact go y rfl rfl LO
        ·exact no x rfl rfl LO
        ·exact no y rfl rfl LO
        ·exact go x rfl rfl LO
       ·cases h
      ·cases h
     ·cases h
    ·cases h
   ·cases h
theorem sw{l:List Oper}:(i,o)∈(List.range l.length).zip l↔l[i]?=some o:=by
 rw[List.mem_iff_getElem?];constructor
 ·rintro⟨n,hn⟩;rw[List.getElem?_zip_eq_some]at hn;obtain⟨h1,h2⟩:=hn;rw[List.getElem?_range (by have:=(List.getElem?_eq_some_iff.1 h2).1;omega)]at h1;simp only[Option.some.injEq]at h1;subst h1;exact h2
 ·intro h;refine⟨i,List.getElem?_zip_eq_some.2 ⟨?_,h⟩⟩;exact List.getElem?_range (by have:=(List.getElem?_eq_some_iff.1 h).1;omega)
theorem vO:∀{l done:List (Nat×Oper)},nV ops done l=true→(∀x∈l,∀d∈done,reach ops 4 x.2 d.1=true∨d.2.apart ops x.2=true)∧l.Pairwise (fun q r=>reach ops 4 r.2 q.1=true∨q.2.apart ops r.2=true)∧∀x∈l,∀e∈x.2.after,Region.binds .any e=true→e.on<x.1
 |[],_,_=>⟨by simp,.nil,by simp⟩
 |(i,o)::r,done,h=>by
  simp only[nV,Bool.and_eq_true]at h;obtain⟨⟨h1,h2⟩,h3⟩:=h;obtain⟨i1,i2,i3⟩:=vO h3;have Dt:∀{done:List (Nat×Oper)},wK ops done o=true→∀d∈done,reach ops 4 o d.1=true∨d.2.apart ops o=true:=by
   intro done;induction done with
   |nil=>intro _ d hd;cases hd
   |cons x l ih=>
    intro h d hd;simp only[wK,Bool.and_eq_true,Bool.or_eq_true]at h;rcases List.mem_cons.1 hd with rfl|hd
    ·exact h.1.symm
    ·exact ih h.2 d hd
  refine⟨fun x hx d hd=>?_,List.pairwise_cons.2 ⟨fun x hx=>i1 x hx (i,o) (by simp),i2⟩,fun x hx e he hb=>?_⟩
  ·rcases List.mem_cons.1 hx with rfl|hx
   ·exact Dt h2 d hd
   ·exact i1 x hx d (by simp[hd])
  ·rcases List.mem_cons.1 hx with rfl|hx
   ·have:=List.all_eq_true.1 h1 e (Array.mem_toList_iff.2 he);simp only[hb,Bool.not_true,Bool.false_or]at this;rwa[Nat.blt_eq]at this
   ·exact i3 x hx e he hb
variable{rd:Option Nat}{fuel:Nat}{Q:Exit→Act→World→Prop}
theorem vP(hE:jS E)(hY:sV E.P E.aD E.fn.ntmps E.yl w0){mode:Nat}(jH:mode=1∨mode=2){l:List (Nat×Oper)}{base:Nat→Bool}(Tm:mode=1→∀x∈l,ff x.2=true){k:Fr→Mem→Option R}{r:R}(hmz:∀x∈l,ops[x.1]?=some x.2)(Zl:(l.map Prod.fst).Pairwise (·<·))(UB:∀x∈l,base x.1=false)(UC:∀i o,ops[i]?=some o→base i=false→(∀x∈l,x.1≠i)→(∀x∈l,reach ops 8 o x.1=true)∨∃j,reach ops 8 o j=true∧base j=false∧∀x∈l,x.1≠j)(afx:∀x∈l,∀e∈x.2.after,Region.binds .any e=true→base e.on=true∨∃y∈l,y.1=e.on)(hi:nV ops [] l=true)(h:cj E ops mode fuel R [] l f m [] k=some r)(hQ:∀(fuel:Nat)(listed:Array Bool),listed.size=ops.size→listed.toList.countP (fun b=> !b)≤fuel→yu ops listed→(∀i,ax listed i=true↔base i=true∨∃x∈l,x.1=i)→∀f' m' μ φ a w,k f' m'=some r→Rel E.P E.aD E.fn.ntmps w0 μ φ f' m' a w→wpAnyIn (FR rd) 0 E.P .any ops Q fuel listed a w):∀(fuel:Nat)(listed:Array Bool),listed.size=ops.size→listed.toList.countP (fun b=> !b)≤fuel→yu ops listed→(∀i,ax listed i=true↔base i=true)→∀(μ:Ro)(φ:Nat→aA)(a:Act)(w:World),Rel E.P E.aD E.fn.ntmps w0 μ φ f m a w→wpAnyIn (FR rd) 0 E.P .any ops Q fuel listed a w:=by
 intro ab2 listed hs hc sP hb μ φ a w hR;obtain⟨recs,f',c1,c2,c3,c4,c5⟩:=mr (w0:=w0) hE hY jH fuel h hmz Tm (by intro x hx g hg;cases hg) f (vj.refl f) (by intro g hg;cases hg) (fun _ _ _ _=>rfl);obtain⟨_,i2,i3⟩:=vO hi;have bJ:∀q∈recs,(q.i,q.o)∈l:=fun q hq=>by rw[←c3];exact List.mem_map.2 ⟨q,hq,rfl⟩
 have hof:∀x∈l,∃q∈recs,q.i=x.1:=fun x hx=>by rw[←c3]at hx;obtain⟨q,hq,rfl⟩:=List.mem_map.1 hx;exact⟨q,hq,rfl⟩
 have Dt:recs.Pairwise fun q r=>reach ops 4 r.o q.i=true∨q.o.apart ops r.o=true:=by rw[←c3,List.pairwise_map]at i2;exact i2
 have hmo:recs.Pairwise (UI (ops:=ops)):=by
  rcases jH with hm|hm
  ·exact List.Pairwise.imp_of_mem (fun{q r}hq hr _=>.inr ⟨fun id b hb=>(by rw[(c5.one hm q hq).1]at hb;cases hb),fun id b hb=>(by rw[(c5.one hm r hr).1]at hb;cases hb)⟩) Dt
  ·exact c5.ord hm
 refine UA (E:=E) (w0:=w0) (recs:=recs) (f0:=f) (m0:=m) (base:=base) ?_ (fun q hq=>hmz _ (bJ q hq)) (fun q hq=>UB _ (bJ q hq)) (fun i o ho hbi cB=>?_) ?_ c5.kl c5.cln (fun q hq e he Ht=>⟨i3 _ (bJ q hq) e he Ht,?_⟩) c4 ?_ ab2 listed hs hc sP (fun i hi=>(hb i).2 hi) (fun i hi=>Or.inl ((hb i).1 hi)) μ φ a w ?_
 ·rw[←c3,List.map_map]at Zl;have h2:(recs.map (Prod.fst∘fun r=>(r.i,r.o))).Pairwise (·<·):=Zl;rw[List.pairwise_map]at h2;exact h2
 ·have afy:∀x∈l,x.1≠i:=fun x hx e=>by obtain⟨q,hq,UD⟩:=hof x hx;exact cB q hq (by rw[UD];exact e)
  rcases UC i o ho hbi afy with h1|⟨j,h1,h2,h3⟩
  ·exact Or.inl fun q hq=>h1 _ (bJ q hq)
  ·exact Or.inr ⟨j,h1,h2,fun q hq=>h3 _ (bJ q hq)⟩
 ·refine List.Pairwise.imp (fun{q r}h=>?_) (List.Pairwise.and Dt hmo);obtain⟨h1,h2⟩:=h;rcases h1 with h1|h1
  ·exact .inl h1
  ·rcases h2 with h2|h2
   ·exact .inl h2
   ·exact .inr ⟨h1,h2⟩
 ·rcases afx _ (bJ q hq) e he Ht with h1|⟨y,hy,h1⟩
  ·exact Or.inl h1
  ·obtain⟨q',Y1,UD⟩:=hof y hy;exact Or.inr ⟨q',Y1,by rw[UD];exact h1⟩
 ·intro Zm Qn Mh Rv afz rV μ2 φ2 a2 w2 Gg;refine hQ Zm Qn Mh Rv afz (fun i=>?_) _ _ μ2 φ2 a2 w2 c1 (Gg.weaken c2);rw[rV i];constructor
  ·rintro(h1|⟨q,hq,h1⟩)
   ·exact Or.inl h1
   ·exact Or.inr ⟨_,bJ q hq,h1⟩
  ·rintro(h1|⟨x,hx,h1⟩)
   ·exact Or.inl h1
   ·obtain⟨q,hq,UD⟩:=hof x hx;exact Or.inr ⟨q,hq,by rw[UD];exact h1⟩
 ·have hS:∀q∈recs,ax listed q.i=false:=fun q hq=>by
   cases hx:ax listed q.i with
   |false=>rfl
   |true=>have:=(hb q.i).1 hx;rw[UB _ (bJ q hq)]at this;cases this
  rw[show oz (ax listed) f recs=f from funext fun t=>pX fun q hq hs=>(by rw[hS q hq]at hs;cases hs),show oA (ax listed) m recs=m from funext fun t=>pY fun q hq hs=>(by rw[hS q hq]at hs;cases hs)];exact hR
variable{x:Nat×Oper}
theorem yy(hx:x∈(List.range ops.size).zip ops.toList):ops[x.1]?=some x.2:=by have:=(sw (l:=ops.toList) (i:=x.1) (o:=x.2)).1 (by simpa using hx);rwa[Array.getElem?_toList]at this
theorem qI(ho:ops[i]?=some o):(i,o)∈(List.range ops.size).zip ops.toList:=by have:=(sw (l:=ops.toList) (i:=i) (o:=o)).2 (by rw[Array.getElem?_toList];exact ho);simpa using this
theorem zip_fst:((List.range ops.size).zip ops.toList).map Prod.fst=List.range ops.size:=by rw[List.map_fst_zip (by simp)]
variable{P:Program}
theorem D9{F:Fence}{n:Nat}{listed:Array Bool}(hs:listed.size=ops.size)(Cn:∀i o,ops[i]?=some o→ax listed i=true)(hq:Q .normal a w):wpAnyIn F n P .any ops Q fuel listed a w:=by
 have hr:Region.ready .any ops listed=[]:=by
  apply List.eq_nil_iff_forall_not_mem.2;intro j hj;obtain⟨h0,o,ho,_⟩:=mem_ready.1 hj;have h1:=Cn j o ho;have bm:j<listed.size:=by rw[hs];exact(Array.getElem?_eq_some_iff.1 ho).1
  simp only[ax,Array.getD_eq_getD_getElem?,Array.getElem?_eq_getElem bm,Option.getD_some]at h0 h1;rw[h0]at h1;cases h1
 cases fuel with
 |zero=>exact⟨hr,hq⟩
 |succ fuel=>exact⟨fun _=>hq,fun i hi=>by rw[hr]at hi;cases hi⟩
theorem vQ(n j:Nat):ax (Array.replicate n false) j=false:=by simp only[ax,Array.getD_eq_getD_getElem?,Array.getElem?_replicate];split<;>rfl
theorem count_le(n:Nat):(Array.replicate n false).toList.countP (fun b=> !b)≤n:=by have:=List.countP_le_length (p:=fun b=> !b) (l:=(Array.replicate n false).toList);simpa using this
theorem BX:yu ops (Array.replicate ops.size false):=fun i o _ h=>by rw[vQ]at h;cases h
theorem Ea(hE:jS E)(hY:sV E.P E.aD E.fn.ntmps E.yl w0){mode:Nat}(jH:mode=1∨mode=2)(Tm:mode=1→∀o∈ops,ff o=true){k:Fr→Mem→Option R}{r:R}(hi:nV ops [] ((List.range ops.size).zip ops.toList)=true)(h:cj E ops mode fuel R [] ((List.range ops.size).zip ops.toList) f m [] k=some r){μ:Ro}(hR:Rel E.P E.aD E.fn.ntmps w0 μ φ f m a w)(hQ:∀f' m' μ' φ' a' w',k f' m'=some r→Rel E.P E.aD E.fn.ntmps w0 μ' φ' f' m' a' w'→Q .normal a' w'):wpAnyIn (FR rd) 0 E.P .any ops Q ops.size (Array.replicate ops.size false) a w:=by
 refine vP (w0:=w0) (base:=fun _=>false) hE hY jH (fun hm x hx=>Tm hm x.2 (Array.mem_of_getElem? (yy hx))) (fun x hx=>yy hx) (by rw[zip_fst];exact List.pairwise_lt_range) (fun _ _=>rfl) (fun i o ho _ cB=>absurd rfl (cB _ (qI ho))) (fun x hx e he hb=>Or.inr ?_) hi h ?_ ops.size _ (by simp) (count_le _) BX (fun i=>by rw[vQ]) μ φ a w hR
 ·obtain⟨_,_,i3⟩:=vO hi;have h1:=i3 x hx e he hb;have h2:x.1<ops.size:=(Array.getElem?_eq_some_iff.1 (yy hx)).1;exact⟨_,qI (Array.getElem?_eq_getElem (show e.on<ops.size by omega)),rfl⟩
 ·intro Zm Qn Mh _ _ rV f' m' μ2 φ2 a2 w2 hk Gg;exact D9 Mh (fun i o ho=>(rV i).2 (Or.inr ⟨_,qI ho,rfl⟩)) (hQ _ _ _ _ _ _ hk Gg)
theorem zA{j:Nat}(h:((List.range ops.size).zip ops.toList)[j]?=some x):x.1=j:=by
 have h1:(((List.range ops.size).zip ops.toList).map Prod.fst)[j]?=some x.1:=by rw[List.getElem?_map,h];rfl
 rw[zip_fst]at h1;obtain⟨h2,h3⟩:=List.getElem?_eq_some_iff.1 h1;rw[List.getElem_range]at h3;exact h3.symm
theorem oB{p:Nat}:x∈((List.range ops.size).zip ops.toList).take p↔x∈(List.range ops.size).zip ops.toList∧x.1<p:=by
 constructor
 ·intro h;obtain⟨j,hj⟩:=List.getElem?_of_mem h;have hjp:j<p:=by have:=(List.getElem?_eq_some_iff.1 hj).1;simp at this;omega
  rw[List.getElem?_take_of_lt hjp]at hj;exact⟨List.mem_of_getElem? hj,by rw[zA hj];exact hjp⟩
 ·rintro⟨h,hx⟩;obtain⟨j,hj⟩:=List.getElem?_of_mem h;have:=zA hj;exact List.mem_of_getElem? (i:=j) (by rw[List.getElem?_take_of_lt (by omega)];exact hj)
theorem tg{p:Nat}:x∈((List.range ops.size).zip ops.toList).drop p↔x∈(List.range ops.size).zip ops.toList∧p≤x.1:=by
 constructor
 ·intro h;obtain⟨j,hj⟩:=List.getElem?_of_mem h;rw[List.getElem?_drop]at hj;exact⟨List.mem_of_getElem? hj,by rw[zA hj];omega⟩
 ·rintro⟨h,hx⟩;obtain⟨j,hj⟩:=List.getElem?_of_mem h;have:=zA hj;exact List.mem_of_getElem? (i:=j-p) (by rw[List.getElem?_drop,show p+(j-p)=j by omega];exact hj)
variable{K:Act→World→Prop}{Q':Exit→Act→World→Prop}
theorem Oper.MF{F:Fence}{n:Nat}(h:∀e a w,e≠.normal→Q' e a w→Q e a w)(hh:o.wpIn F n P a w K Q'):o.wpIn F n P a w K Q:=by
 unfold Oper.wpIn at*;refine⟨hh.1,?_⟩;have hh:=hh.2;have ab3:LetsOut Q'→LetsOut Q:=fun⟨a,w,hq⟩=>⟨a,w,h _ _ _ (by simp) hq⟩;generalize (o.semAt F.round a.eval).run P w=r at*;cases r with
 |ok x w'=>
  cases x<;>simp only[Oper.uponIn]at hh⊢<;>first
   |exact hh
   |exact⟨hh.1,CallsIn.mono hh.2 (fun e w'' he=>by cases e<;>first|exact ab3 he|exact h _ _ _ (by simp) he|exact he)⟩
   |exact⟨hh.1,RoundIn.mono hh.2 (fun e w'' he=>by cases e<;>first|exact ab3 he|exact h _ _ _ (by simp) he|exact he)⟩
 |halt x w'=>cases x<;>simp only[Oper.uponIn]at hh⊢<;>first|exact h _ _ _ (by simp) hh|exact hh
theorem HK{F:Fence}{n:Nat}(h:∀e a w,e≠.normal→Q' e a w→Q e a w)(hh:wpOpIn F n P ops Q' i K a w):wpOpIn F n P ops Q i K a w:=by
 unfold wpOpIn at*;split
 ·simpa[*]using hh
 ·rename_i o ho;simp only[ho]at hh;split
  ·rename_i hw;simp only[hw,if_true]at hh;exact Oper.MF h hh
  ·rename_i hw;simp only[hw]at hh;exact hh
theorem MG(hE:jS E)(hY:sV E.P E.aD E.fn.ntmps E.yl w0){p:Nat}(R9:TE ops p=true){k:Fr→Mem→Option R}{r:R}(hi1:nV ops [] (((List.range ops.size).zip ops.toList).take p)=true)(hi3:nV ops [] (((List.range ops.size).zip ops.toList).drop (p+1))=true){n1 n2 n3:Nat}(h:(cj E ops 2 n1 R [] (((List.range ops.size).zip ops.toList).take p) f m [] fun f m=>cj E ops 0 n2 R [] ((((List.range ops.size).zip ops.toList).drop p).take 1) f m [] fun f m=>cj E ops 2 n3 R [] (((List.range ops.size).zip ops.toList).drop (p+1)) f m [] k)=some r){μ:Ro}(hR:Rel E.P E.aD E.fn.ntmps w0 μ φ f m a w)(hQ:∀f' m' μ' φ' a' w',k f' m'=some r→Rel E.P E.aD E.fn.ntmps w0 μ' φ' f' m' a' w'→Q .normal a' w'):wpAnyIn (FR rd) 0 E.P .any ops Q ops.size (Array.replicate ops.size false) a w:=by
 unfold TE at R9;cases ho:ops[p]? with
 |none=>rw[ho]at R9;cases R9
 |some o=>
  rw[ho]at R9;simp only[Bool.and_eq_true]at R9;obtain⟨⟨_,Fs⟩,hpa⟩:=R9;have hpn:p<ops.size:=(Array.getElem?_eq_some_iff.1 ho).1;have Qk:∀e∈o.after,Region.binds .any e=true→e.on<p:=fun e he hb=>by have:=List.all_eq_true.1 Fs e (Array.mem_toList_iff.2 he);rw[hb,Bool.not_true,Bool.false_or]at this;exact Nat.le_of_ble_eq_true this
  have afA:∀i,i<p→reach ops 8 o i=true:=fun i hi=>by
   have:=List.all_eq_true.1 hpa _ (qI (Array.getElem?_eq_getElem (show i<ops.size by omega)));simp only at this;have hb:Nat.blt i p=true:=by simp[Nat.blt];omega
   rw[hb]at this;exact this
  have ab4:∀i o',ops[i]?=some o'→p<i→reach ops 8 o' p=true:=fun i o' R5 hi=>by
   have:=List.all_eq_true.1 hpa _ (qI R5);simp only at this;have hb:Nat.blt i p=false:=by
    cases hx:Nat.blt i p with
    |false=>rfl
    |true=>have:i<p:=Nat.le_of_ble_eq_true hx;omega
   have rV:Nat.beq i p=false:=by
    cases hx:Nat.beq i p with
    |false=>rfl
    |true=>have:=Nat.eq_of_beq_eq_true hx;omega
   rw[hb,rV]at this;simpa using this
  refine vP (w0:=w0) (base:=fun _=>false) hE hY (.inr rfl) (fun h=>by cases h) (fun x hx=>yy (oB.1 hx).1) (by rw[List.map_take,zip_fst];exact(List.pairwise_lt_range).sublist (List.take_sublist _ _)) (fun _ _=>rfl) (fun i o' R5 _ cB=>?_) (fun x hx e he hb=>Or.inr ?_) hi1 h ?_ ops.size _ (by simp) (count_le _) BX (fun i=>by rw[vQ]) μ φ a w hR
  ·have hip:¬i<p:=fun hc=>cB _ (oB.2 ⟨qI R5,hc⟩) rfl;by_cases hi:i=p
   ·subst hi;rw[ho]at R5;cases R5;exact Or.inl fun x hx=>afA _ (oB.1 hx).2
   ·exact Or.inr ⟨p,ab4 i o' R5 (by omega),rfl,fun x hx=>by have:=(oB.1 hx).2;omega⟩
  ·obtain⟨_,_,i3⟩:=vO hi1;have h1:=i3 x hx e he hb;have h2:=(oB.1 hx).2;exact⟨_,oB.2 ⟨qI (Array.getElem?_eq_getElem (show e.on<ops.size by omega)),by show e.on<p;omega⟩,rfl⟩
  ·intro fuel listed hs hc sP hb f1 m1 μ1 φ1 a1 w1 RQ MB;have bm:∀i,ax listed i=true↔i<p:=fun i=>by
    rw[hb i];constructor
    ·rintro(h|⟨x,hx,rfl⟩)
     ·cases h
     ·exact(oB.1 hx).2
    ·intro hi;exact Or.inr ⟨_,oB.2 ⟨qI (Array.getElem?_eq_getElem (show i<ops.size by omega)),hi⟩,rfl⟩
   have nd:p<listed.size:=by rw[hs];exact hpn
   have hpu:ax listed p=false:=by
    cases hx:ax listed p with
    |false=>rfl
    |true=>have:=(bm p).1 hx;omega
   have aaw:listed[p]=false:=by simpa only[ax,Array.getD_eq_getD_getElem?,Array.getElem?_eq_getElem nd,Option.getD_some]using hpu
   cases fuel with
   |zero=>have:=List.countP_eq_zero.1 (Nat.le_zero.1 hc) listed[p] (by simp);rw[aaw]at this;simp at this
   |succ fuel=>
    have UN:p∈Region.ready .any ops listed:=mem_ready.2 ⟨by simp only[Array.getD_eq_getD_getElem?,Array.getElem?_eq_getElem nd,Option.getD_some];exact aaw,o,ho,fun e he Ht=>(bm e.on).2 (Qk e he Ht)⟩;refine⟨(fun h0=>by rw[h0]at UN;cases UN),fun i hi=>?_⟩;obtain⟨R3,o',R5,AU⟩:=mem_ready.1 hi;have ow:i<listed.size:=by rw[hs];exact(Array.getElem?_eq_some_iff.1 R5).1
    have hiu:ax listed i=false:=by simp only[ax,Array.getD_eq_getD_getElem?,Array.getElem?_eq_getElem ow,Option.getD_some]at R3⊢;exact R3
    have hip:i=p:=by
     refine Classical.byContradiction fun cB=>?_;have h1:¬i<p:=fun hc=>by rw[(bm i).2 hc]at hiu;cases hiu
     have:=qH listed sP 8 o' p AU (ab4 i o' R5 (by omega));rw[hpu]at this;cases this
    subst hip;have hL:(((List.range ops.size).zip ops.toList).drop i).take 1=[(i,o)]:=by
     have hlen:i<((List.range ops.size).zip ops.toList).length:=by simp;exact hpn
     rw[List.drop_eq_getElem_cons hlen];have hg:((List.range ops.size).zip ops.toList)[i]=(i,o):=by have h1:((List.range ops.size).zip ops.toList)[i]?=some ((List.range ops.size).zip ops.toList)[i]:=List.getElem?_eq_getElem hlen;have h2:=zA h1;have h3:=yy (List.mem_of_getElem? h1);rw[h2,ho]at h3;exact Prod.ext h2 (Option.some.inj h3).symm
     rw[hg];rfl
    rw[hL]at RQ;have Zi:∀j,ax (listed.setIfInBounds i true) j=if j=i then true else ax listed j:=fun j=>by
     simp only[ax,Array.getD_eq_getD_getElem?,Array.getElem?_setIfInBounds];by_cases e:i=j
     ·subst e;simp[nd]
     ·have e':¬j=i:=fun h=>e h.symm;simp[e,e']
    have hle:∀j,ax (listed.setIfInBounds i true) j=true↔j≤i:=fun j=>by
     rw[Zi];by_cases e:j=i
     ·simp[e]
     ·rw[if_neg e,bm];omega
    have ab5:=iG (rd:=rd) (w0:=w0) hE hY _ (.inl rfl) RQ (by intro x hx;rw[List.mem_singleton]at hx;subst hx;exact ho) (by intro x hx g hg;cases hg) (fun h=>by cases h) μ1 φ1 a1 w1 (fun e a w=>(e=.normal∧wpAnyIn (FR rd) 0 E.P .any ops Q fuel (listed.setIfInBounds i true) a w)∨(e≠.normal∧Q e a w)) [] MB (by intro g hg;cases hg) fun f2 m2 μ2 φ2 a2 w2 Xk Gg _ _=>Or.inl ⟨rfl,?_⟩
    ·rw[List.append_nil,List.map_cons,List.map_nil,wpOpsIn_cons]at ab5;refine wpOpIn_mono (fun a w hq=>?_) (HK (fun e a w cB hq=>?_) ab5)
     ·rcases hq with⟨_,h⟩|⟨h,_⟩
      ·exact h
      ·exact absurd rfl h
     ·rcases hq with⟨h,_⟩|⟨_,h⟩
      ·exact absurd h cB
      ·exact h
    ·refine vP (w0:=w0) (base:=fun j=>decide (j≤i)) hE hY (.inr rfl) (fun h=>by cases h) (fun x hx=>yy (tg.1 hx).1) (by rw[List.map_drop,zip_fst];exact(List.pairwise_lt_range).sublist (List.drop_sublist _ _)) (fun x hx=>by have:=(tg.1 hx).2;simp;omega) (fun j oj hj hbj cB=>?_) (fun x hx e he Ht=>?_) hi3 Xk ?_ fuel _ (by simp[hs]) ?_ ?_ (fun j=>by rw[hle j];simp) μ2 φ2 a2 w2 Gg
     ·simp only[decide_eq_false_iff_not]at hbj;exact absurd rfl (cB _ (tg.2 ⟨qI hj,by show i+1≤j;omega⟩))
     ·obtain⟨_,_,i3⟩:=vO hi3;have h1:=i3 x hx e he Ht;have h2:x.1<ops.size:=(Array.getElem?_eq_some_iff.1 (yy (tg.1 hx).1)).1;by_cases hei:e.on≤i
      ·exact Or.inl (by simpa using hei)
      ·exact Or.inr ⟨_,tg.2 ⟨qI (Array.getElem?_eq_getElem (show e.on<ops.size by omega)),by show i+1≤e.on;omega⟩,rfl⟩
     ·intro agA ae5 hs3 _ _ hb3 f3 m3 μ3 φ3 a3 w3 hk3 hR3;refine D9 hs3 (fun j oj hj=>(hb3 j).2 ?_) (hQ _ _ _ _ _ _ hk3 hR3);by_cases Mr:j≤i
      ·exact Or.inl (by simpa using Mr)
      ·exact Or.inr ⟨_,tg.2 ⟨qI hj,by show i+1≤j;omega⟩,rfl⟩
     ·rw[Array.toList_setIfInBounds,List.countP_set (by simpa using nd)];have:listed.toList[i]'(by simpa using nd)=false:=by simpa using aaw
      rw[this];simp only[Bool.not_false,if_true,Bool.not_true,Bool.false_eq_true,if_false];omega
     ·intro j oj hj hlj e he Ht;rw[hle]at hlj⊢;by_cases Mr:j=i
      ·subst Mr;rw[ho]at hj;cases hj;have:=Qk e he Ht;omega
      ·have h1:=sP j oj hj ((bm j).2 (by omega)) e he Ht;have:=(bm e.on).1 h1;omega
end
end Go.Ab
