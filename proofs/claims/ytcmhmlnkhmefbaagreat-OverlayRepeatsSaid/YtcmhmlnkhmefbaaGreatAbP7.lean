import Derived.Test.YtcmhmlnkhmefbaaGreatAbP6
import Derived.OrdersIn
set_option linter.unusedVariables false
namespace Go.Ab
open Go.RowKit (Below)
def sV(f F:Fr):Prop:=∀t,f t=F t∨f t=.top
theorem sV.refl(f:Fr):sV f f:=fun _=>.inl rfl
theorem sV.put{f F:Fr}(h:sV f F)(d:Option Nat)(v:V):sV (gQ f d v) (gQ F d v):=by
 intro t;cases d with
 |none=>exact h t
 |some d=>
  simp only[gQ,fi];cases Nat.beq t d
  ·exact h t
  ·exact .inl rfl
theorem dR{f:Fr}{d:Option Nat}{v:V}{t:Nat}(h:d≠some t):gQ f d v t=f t:=by
 cases d with
 |none=>rfl
 |some d=>exact ow (fun e=>h (by rw[e]))
theorem iR{f:Fr}{v:V}{t:Nat}:gQ f (some t) v t=v:=by simp[gQ,fi,Nat.beq_refl]
section
variable {E:Env} {ops:Array Oper} {w0:bw}
variable{nt:Nat}{μ:Ro}{φ:Nat→aG}{f:Fr}{m:Mem}{a:Act}
theorem Rel.weaken{f':Fr}{w:World}(h:Rel E.P E.aI nt w0 μ φ f m a w)(hf:sV f' f):Rel E.P E.aI nt w0 μ φ f' m a w:=
 {h with
  fr:=fun t=>by
   rcases hf t with e|e
   ·rw[e];exact h.fr t
   ·rw[e];exact .top,
  live:=fun t id hid=>by
   rcases hf t with e|e
   ·rw[e]at hid;exact h.live t id hid
   ·rw[e]at hid;cases hid}
variable{t:Nat}
theorem BG{d:Nat}{y:Value}(hd:d<a.tmps.size):(a.put (some d) y).tmps.getD t undef=if t=d then y else a.tmps.getD t undef:=by
 simp only[Act.put,Array.getD_eq_getD_getElem?,Array.getElem?_setIfInBounds];by_cases e:d=t
 ·subst e;simp[hd]
 ·have e':¬t=d:=fun h=>e h.symm;simp[e,e']
theorem Rel.put{nt:Nat}{μ μ':Ro}{φ φ':Nat→aG}{f f':Fr}{m m':Mem}{a:Act}{w w':World}(h:Rel E.P E.aI nt w0 μ φ f m a w)(hle:GB μ μ'){dst:Option Nat}{v:V}{y:Value}(hd:∀d,dst=some d→d<nt)(hM:ay E.P E.aI w0 μ' φ' m' w')(hF:cm E.P μ' φ' m' f' (aA nt w0 a))(hv:ai E.P μ' φ' v y)(hl:∀id,v.has id=true→(m' id).isSome=true):Rel E.P E.aI nt w0 μ' φ' (gQ f' dst v) m' (a.put dst y) w':=by
 refine{toay:=hM,size:=?_,defers:=?_,kH:=h.kH,fr:=fun t=>?_,live:=fun t id hid=>?_}
 ·cases dst<;>simp[Act.put,h.size]
 ·cases dst<;>exact h.defers.mono hle
 ·cases dst with
  |none=>exact hF.fr t
  |some d=>
   have br:d<a.tmps.size:=by rw[h.size];exact hd d rfl
   have hf:=hF.fr t;by_cases e:t=d
   ·subst e;rw[oi (hd t rfl),BG br,if_pos rfl,iR];exact hv
   ·rw[dR (by simpa using fun h=>e h.symm)];unfold aA at hf⊢;split
    ·rename_i ht;rw[if_pos ht]at hf;rw[BG br,if_neg e];exact hf
    ·rename_i ht;rw[if_neg ht]at hf;exact hf
 ·by_cases e:dst=some t
  ·subst e;rw[iR]at hid;exact hl id hid
  ·rw[dR e]at hid;exact hF.live t id hid
theorem Ug(h:t<E.fn.ntmps):bC E f (.tmp t)=f t:=by simp only[bC];rw[show Nat.blt t E.fn.ntmps=true by rw[Nat.blt_eq];exact h];rfl
theorem BH{p:PV}(h:bC E f (.tmp t)=.pv p):t<E.fn.ntmps∧f t=.pv p:=by
 simp only[bC]at h;cases e:Nat.blt t E.fn.ntmps with
 |true=>rw[e]at h;exact⟨by rwa[Nat.blt_eq]at e,h⟩
 |false=>rw[e]at h;cases h
theorem QZ{F:Fr}(h:sV f F)(q:Operand):bC E f q=bC E F q∨bC E f q=.top:=by
 cases q with
 |tmp t=>
  simp only[bC];cases Nat.blt t E.fn.ntmps with
  |true=>exact h t
  |false=>exact .inr rfl
 |_=>exact .inl rfl
def oI(nt:Nat)(ops:Array Oper)(A:List (Nat×Bool))(f:Fr):Prop:=∀g∈A,∃t,(ops[g.1]?).bind (·.dst)=some t∧t<nt∧f t=.pv (.bool g.2)
def wZ(ops:Array Oper)(A:List (Nat×Bool))(a:Act):Prop:=∀g∈A,∃t,(ops[g.1]?).bind (·.dst)=some t∧a.tmps.getD t undef=.bool g.2
def Xa(ops:Array Oper)(A:List (Nat×Bool))(l:List (Nat×Oper)):Prop:=∀x∈l,∀g∈A,∀t,(ops[g.1]?).bind (·.dst)=some t→x.2.dst≠some t
variable{d:Option Nat}{A:List (Nat×Bool)}
theorem oI.put(h:oI nt ops A f){v:V}(hd:∀g∈A,∀t,(ops[g.1]?).bind (·.dst)=some t→d≠some t):oI nt ops A (gQ f d v):=by intro g hg;obtain⟨t,h1,h0,h2⟩:=h g hg;exact⟨t,h1,h0,by rw[dR (hd g hg t h1)];exact h2⟩
variable{o:Oper}
theorem gT(h:tg E o=true):∀d,o.dst=some d→d<E.fn.ntmps:=by intro d hd;simp only[tg,hd]at h;rw[Nat.blt_eq]at h;exact h
variable{b:Bool}
theorem sj{j:Nat}(h:(ops[j]?).bind (·.dst)=some t)(hb:a.tmps.getD t undef=.bool b):yielded ops a.tmps j=some b:=by
 simp only[yielded,h,Option.bind_some];have:a.tmps[t]?=some (.bool b):=by
  rw[Array.getD_eq_getD_getElem?]at hb;cases e:a.tmps[t]? with
  |none=>rw[e]at hb;simp[undef]at hb
  |some x=>rw[e]at hb;simpa using hb
 rw[this]
theorem yy(ho:guardOf o A=none)(hA:wZ ops A a):Region.wanted o (yielded ops a.tmps)=true:=by
 unfold guardOf at ho;unfold Region.wanted;split at ho
 ·rename_i hg;simp[hg]
 ·rename_i g hg;split at ho
  ·rename_i bO;obtain⟨t,h1,h2⟩:=hA g (by simpa using bO);simp only[hg];rw[sj h1 h2];simp
  ·cases ho
theorem wZ.put(h:wZ ops A a){y:Value}(hs:∀t,d=some t→t<a.tmps.size)(hd:∀g∈A,∀t,(ops[g.1]?).bind (·.dst)=some t→d≠some t):wZ ops A (a.put d y):=by
 intro g hg;obtain⟨t,h1,h2⟩:=h g hg;refine⟨t,h1,?_⟩;cases d with
 |none=>exact h2
 |some d=>rw[BG (hs d rfl),if_neg fun e=>hd g hg t h1 (by rw[e])];exact h2
def Ol(ops:Array Oper)(f:Fr)(o:Oper):Prop:=∃g,o.guard=some g∧∀t,(ops[g.1]?).bind (·.dst)=some t→f t=.bl []∨f t=.pv (.bool (!g.2))
theorem Om{P:Program}{x:Value}(h:ai P μ φ (.bl []) x):x=undef:=by
 cases h with
 | @bl _ xs h1 _=>have:xs= #[]:=Array.eq_empty_of_size_eq_zero (by simpa using h1.symm);subst this;rfl
theorem BI{P:Program}:ai P μ φ (.bl []) undef:=.bl rfl (by simp)
theorem vG{w:World}(h:Rel E.P E.aI nt w0 μ φ f m a w)(hd:Ol ops f o):Region.wanted o (yielded ops a.tmps)=false:=by
 obtain⟨g,hg,ht⟩:=hd;simp only[Region.wanted,hg];cases hs:(ops[g.1]?).bind (·.dst)with
 |none=>simp[yielded,hs]
 |some t=>
  have hy:nt≤t→yielded ops a.tmps g.1=none:=fun hle=>by simp only[yielded,hs,Option.bind_some];rw[Array.getElem?_eq_none (by rw[h.size];exact hle)]
  by_cases CP:nt≤t
  ·rw[hy CP];rfl
  have br:t<nt:=Nat.lt_of_not_le CP;have h3:=h.fr t;rw[oi br]at h3;rcases ht t hs with e|e
  ·rw[e]at h3;have h4:=Om h3;have:yielded ops a.tmps g.1=none:=by
    simp only[yielded,hs,Option.bind_some];rw[Array.getD_eq_getD_getElem?]at h4;cases e:a.tmps[t]? with
    |none=>rfl
    |some x=>rw[e]at h4;simp only[Option.getD_some]at h4;subst h4;rfl
   rw[this];rfl
  ·rw[e]at h3;rw[sj hs (oG h3)];cases g.2<;>rfl
theorem sk{t:Nat}:∀{l:List (Nat×Oper)}{f:Fr},(∀x∈l,x.2.dst≠some t)→gC f l t=f t
 |[],_,_=>rfl
 |x::r,f,h=>by rw[gC,sk (fun y hy=>h y (by simp[hy])),dR (h x (by simp))]
theorem uW{t:Nat}:∀{l:List (Nat×Oper)}{f:Fr},(∀x∈l,x.2.dst≠some t)→kL f l t=f t
 |[],_,_=>rfl
 |x::r,f,h=>by rw[kL,uW (fun y hy=>h y (by simp[hy])),dR (h x (by simp))]
theorem yz{t:Nat}:∀{l:List (Nat×Oper)}{f:Fr},(f t=.top∨∃x∈l,x.2.dst=some t)→kL f l t=.top
 |[],_,h=>by
  rcases h with h|⟨x,hx,_⟩
  ·exact h
  ·cases hx
 |x::r,f,h=>by
  rw[kL];by_cases e:x.2.dst=some t
  ·exact yz (.inl (by rw[e,iR]))
  ·refine yz ?_;rcases h with h|⟨y,hy,hd⟩
   ·exact .inl (by rw[dR e];exact h)
   ·rcases List.mem_cons.1 hy with rfl|hy
    ·exact absurd hd e
    ·exact .inr ⟨y,hy,hd⟩
theorem uX{l:List (Nat×Oper)}{F:Fr}(h:∀t,(∀x∈l,x.2.dst≠some t)→f t=F t∨f t=.top):sV (kL f l) F:=by
 intro t;by_cases e:∃x∈l,x.2.dst=some t
 ·exact .inr (yz (.inr e))
 ·have e':∀x∈l,x.2.dst≠some t:=fun x hx hd=>e ⟨x,hx,hd⟩;rw[uW e'];exact h t e'
theorem w7{g:Nat×Bool}{tj:Nat}(hj:(ops[g.1]?).bind (·.dst)=some tj):∀{l:List (Nat×Oper)}{done:List Nat}{f:Fr},tf g done l=true→(∀x∈l,ops[x.1]?=some x.2)→(∀x∈l,x.2.dst≠some tj)→f tj=.pv (.bool (!g.2))→(∀j∈done,∀t,(ops[j]?).bind (·.dst)=some t→f t=.bl [])→∀(pre post:List (Nat×Oper))(x:Nat×Oper),l=pre++x::post→Ol ops (gC f pre) x.2
 |[],_,_,_,_,_,_,_,pre,post,x,h=>by simp at h
 |y::r,done,f,hg,hl,hd,hb,Jc,pre,post,x,h=>by
  simp only[tf,Bool.and_eq_true]at hg;cases pre with
  |nil=>
   simp only[List.nil_append,List.cons.injEq]at h;obtain⟨rfl,rfl⟩:=h;rw[gC];have h1:=hg.1;split at h1
   ·rename_i hh Q0;refine⟨hh,Q0,fun t ht=>?_⟩;rcases Bool.or_eq_true_iff.1 h1 with h2|h2
    ·simp only[Bool.and_eq_true]at h2;have e1:=Nat.eq_of_beq_eq_true h2.1;have e2:hh.2=g.2:=by simpa using h2.2
     rw[e1]at ht;rw[hj]at ht;cases ht;exact .inr (by rw[e2];exact hb)
    ·exact .inl (Jc _ (by simpa using h2) t ht)
   ·cases h1
  |cons z pre=>
   simp only[List.cons_append,List.cons.injEq]at h;obtain⟨rfl,h⟩:=h;rw[gC];refine w7 hj hg.2 (fun x hx=>hl x (by simp[hx])) (fun x hx=>hd x (by simp[hx])) (by rw[dR (hd y (by simp))];exact hb) (fun j hjm t ht=>?_) pre post x h;by_cases e:y.2.dst=some t
   ·rw[e,iR]
   ·rw[dR e];rcases List.mem_cons.1 hjm with rfl|hjm
    ·rw[hl y (by simp)]at ht;exact absurd ht e
    ·exact Jc j hjm t ht
theorem BJ{A:List (Nat×Bool)}:∀{l a b:List (Nat×Oper)},y7 A l=(a,b)→l=a++b
 |[],a,b,h=>by simp[y7]at h;obtain⟨rfl,rfl⟩:=h;rfl
 |x::r,a,b,h=>by
  simp only[y7]at h;split at h
  ·cases hs:y7 A r with
   |mk a' b'=>rw[hs]at h;simp only[Prod.mk.injEq]at h;obtain⟨rfl,rfl⟩:=h;rw[BJ hs];rfl
  ·simp only[Prod.mk.injEq]at h;obtain⟨rfl,rfl⟩:=h;rfl
theorem w8{v:V}(h:vp v=some b):v=.pv (.bool b):=by
 unfold vp at h;split at h
 ·cases h;rfl
 ·cases h
theorem VE(hE:iK E){site:Nat}{draw:Bool}{v:V}{f':Fr}{m':Mem}{ft:bp}(hn:draw=true∨∃c x y,o.op=.pick c x y)(h:∀(R':Type)(k':V→Fr→Mem→bp→Option R'),F8 E draw site o f m k'=k' v f' m' ft):sg E draw site o f m v f' m' ft:=by
 have hx:=EE hE (h (V×Fr×Mem×bp) fun v f m ft=>some (v,f,m,ft));rcases hx with⟨v1,f1,m1,YZ,h1,h2⟩|⟨h1,h2,_⟩
 rotate_left
 ·rcases hn with hn|⟨c,x,y,hn⟩
  ·rw[hn]at h1;cases h1
  ·exact absurd hn (h2 c x y)
 simp only[Option.some.injEq,Prod.mk.injEq]at h1;obtain⟨rfl,rfl,rfl,rfl⟩:=h1;exact h2
theorem GC{R:Type}{site:Nat}{draw:Bool}{p:Oper}{c:Nat}{x y:Operand}{k:V→Fr→Mem→bp→Option R}(hp:p.op=.pick (.tmp c) x y)(hb:bC E f (.tmp c)=.pv (.bool b)):F8 E draw site p f m k=k (bC E f (if b then x else y)) f m []:=by
 have jd:vN E site p f m=none:=by simp only[vN,hp]
 unfold F8;rw[jd];have e:(bif draw then none else bif E.y0 site then(none:Option Sp)else none)=none:=by cases draw<;>cases E.y0 site<;>rfl
 rw[e];simp only[cY,hp,hb];cases b<;>rfl
end
end Go.Ab
set_option linter.unusedVariables false
namespace Go.Ab
open Go.RowKit (Below)
section
variable {E:Env} {ops:Array Oper} {w0:bw}
theorem tB{rd:Option Nat}{Q:Exit→Act→World→Prop}{tail:List Nat}:∀(l:List (Nat×Oper))(f:Fr),(∀x∈l,ops[x.1]?=some x.2)→(∀x∈l,tg E x.2=true)→(∀(pre post:List (Nat×Oper))(x:Nat×Oper),l=pre++x::post→Ol ops (gC f pre) x.2)→∀{μ:Ro}{φ:Nat→aG}{m:Mem}{a:Act}{w:World},Rel E.P E.aI E.fn.ntmps w0 μ φ f m a w→∀(A:List (Nat×Bool)),wZ ops A a→Xa ops A l→(∀a',Rel E.P E.aI E.fn.ntmps w0 μ φ (gC f l) m a' w→wZ ops A a'→wpOpsIn (FR rd) 0 E.P ops Q tail a' w)→wpOpsIn (FR rd) 0 E.P ops Q (l.map (·.1)++tail) a w
 |[],f,_,_,_,_,_,_,a,_,hR,_,hA,_,hK=>hK a hR hA
 |x::r,f,hl,hd,BK,μ,φ,m,a,w,hR,A,hA,BL,hK=>by simp only[List.map_cons,List.cons_append,wpOpsIn];rw[hl x (by simp)];simp only;rw[vG hR (BK [] r x rfl)];simp only[Bool.false_eq_true,if_false];refine And.intro (fun _ _=>trivial) (tB r (gQ f x.2.dst (.bl [])) (fun y hy=>hl y (by simp[hy])) (fun y hy=>hd y (by simp[hy])) (fun pre post y h=>?_) (hR.put (fun _ _ h=>h) (gT (hd x (by simp))) hR.toay hR.jr BI (fun id hid=>by simp[V.has,cr]at hid)) A (hA.put (fun t ht=>by rw[hR.size];exact gT (hd x (by simp)) t ht) fun g nR t ht=>BL x (by simp) g nR t ht) (fun y hy=>BL y (by simp[hy])) hK);have:=BK (x::pre) post y (by rw[h];rfl);rwa[gC]at this
theorem vX:∀{ft:bp},wP ft=true→∀x∈ft,x.1=false
 |[],_,x,hx=>by cases hx
 |(w,id)::r,h,x,hx=>by
  simp only[wP,Bool.and_eq_true,Bool.not_eq_true']at h;rcases List.mem_cons.1 hx with rfl|hx
  ·exact h.1
  ·exact vX h.2 x hx
theorem gy(hE:iK E){rd:Option Nat}(hY:qS E.P E.aI E.fn.ntmps E.yl w0):∀(fuel:Nat){mode:Nat}(iw:mode=0∨mode=3){R:Type}{A:List (Nat×Bool)}{l:List (Nat×Oper)}{f:Fr}{m:Mem}{lg:Log}{k:Fr→Mem→Option R}{r:R},cq E ops mode fuel R A l f m lg k=some r→(∀x∈l,ops[x.1]?=some x.2)→Xa ops A l→(mode=3→∀x∈l,eV x.2=true)→∀(μ:Ro)(φ:Nat→aG)(a:Act)(w:World)(Q:Exit→Act→World→Prop)(tail:List Nat),Rel E.P E.aI E.fn.ntmps w0 μ φ f m a w→wZ ops A a→(∀(f':Fr)(m':Mem)(μ':Ro)(φ':Nat→aG)(a':Act)(w':World),k f' m'=some r→Rel E.P E.aI E.fn.ntmps w0 μ' φ' f' m' a' w'→wZ ops A a'→(mode=3→m'=m∧∀t,(∀x∈l,x.2.dst≠some t)→f' t=f t)→wpOpsIn (FR rd) 0 E.P ops Q tail a' w')→wpOpsIn (FR rd) 0 E.P ops Q (l.map (·.1)++tail) a w
 |0,_,_,_,_,_,_,_,_,_,_,h,_,_,_,_,_,_,_,_,_,_,_,_=>by simp[cq]at h
 |fuel+1,mode,iw,R,A,[],f,m,lg,k,r,h,_,_,_,μ,φ,a,w,Q,tail,hR,hA,hK=>by simp only[cq]at h;exact hK f m μ φ a w h hR hA fun _=>⟨rfl,fun _ _=>rfl⟩
 |fuel+1,mode,iw,R,A,(i,o)::rest,f,m,lg,k,r,h,hl,BL,PW,μ,φ,a,w,Q,tail,hR,hA,hK=>by
  simp only[cq]at h;split at h
  ·rename_i hg;split at h
   ·rename_i hd;have MB:Nat.beq mode 2=false:=by rcases iw with rfl|rfl<;>rfl
    simp only[MB,cond_false]at h;rw[←MB]at h;have Z6:=yw h;rcases EE hE h with⟨v,f1,m1,ft,hk,On⟩|⟨_,pS⟩
    rotate_left
    ·simp only[List.map_cons,List.cons_append,wpOpsIn];rw[hl (i,o) (by simp)];simp only;rw[yy hg hA,if_pos rfl];refine BF.vW pS rd w0 μ φ a w _ Q hY hR fun v f1 m1 y w' μ' φ' hk hle hM hF hv Eo=>?_;have cO:Nat.beq mode 2=false:=by rcases iw with rfl|rfl<;>rfl
     rw[cO]at hk;simp only[Bool.false_eq_true,if_false]at hk;rcases iw with rfl|rfl
     ·simp only[Nat.beq,if_true]at hk;exact gy hE hY fuel (.inl rfl) hk (fun x hx=>hl x (by simp[hx])) (fun x hx=>BL x (by simp[hx])) (fun hm x hx=>PW hm x (by simp[hx])) _ _ _ _ Q tail (hR.put hle (gT hd) hM hF hv Eo) (hA.put (fun t ht=>by rw[hR.size];exact gT hd t ht) fun g nR t ht=>BL (i,o) (by simp) g nR t ht) fun f' m' μ2 φ2 a' w2 jA ir sY mi=>hK f' m' μ2 φ2 a' w2 jA ir sY fun h=>by cases h
     ·simp[Nat.beq,wP]at hk
    have cO:Nat.beq mode 2=false:=by rcases iw with rfl|rfl<;>rfl
    rw[cO]at hk;simp only[Bool.false_eq_true,if_false]at hk;have hq:(mode=3→f1=f∧m1=m)∧cq E ops mode fuel R A rest (gQ f1 o.dst v) m1 lg k=some r:=by
     rcases iw with rfl|rfl
     ·simp only[Nat.beq,if_true]at hk;exact⟨fun h=>(by cases h),hk⟩
     ·simp only[Nat.beq,Bool.false_eq_true,if_false]at hk;split at hk
      ·rename_i hqf;exact⟨fun h=>On.same (PW rfl (i,o) (by simp)) (vX hqf),hk⟩
      ·cases hk
    obtain⟨Q1,hk⟩:=hq;simp only[List.map_cons,List.cons_append,wpOpsIn];rw[hl (i,o) (by simp)];simp only;rw[yy hg hA,if_pos rfl];refine On.vW Z6 rd w0 μ φ a w _ Q hR fun y w' μ' φ' hle hM hF hv Eo=>?_;refine gy hE hY fuel iw hk (fun x hx=>hl x (by simp[hx])) (fun x hx=>BL x (by simp[hx])) (fun hm x hx=>PW hm x (by simp[hx])) _ _ _ _ Q tail (hR.put hle (gT hd) hM hF hv Eo) (hA.put (fun t ht=>by rw[hR.size];exact gT hd t ht) fun g nR t ht=>BL (i,o) (by simp) g nR t ht) fun f' m' μ2 φ2 a' w2 jA ir sY mi=>?_;refine hK f' m' μ2 φ2 a' w2 jA ir sY fun VF=>?_;obtain⟨e1,e2⟩:=Q1 VF;obtain⟨e3,e4⟩:=mi VF;refine⟨by rw[e3,e2],fun t ht=>?_⟩;rw[e4 t fun x hx=>ht x (by simp[hx]),dR (ht (i,o) (by simp)),e1]
   ·cases h
  ·rename_i j ye hg;split at h
   ·rename_i tj PX;split at h
    ·rename_i b hb;have Q2:tj<E.fn.ntmps:=by
      simp only[bC]at hb;cases e:Nat.blt tj E.fn.ntmps with
      |true=>rwa[Nat.blt_eq]at e
      |false=>rw[e]at hb;cases hb
     have hbf:f tj=.pv (.bool b):=by simp only[bC]at hb;rw[show Nat.blt tj E.fn.ntmps=true by rw[Nat.blt_eq];exact Q2]at hb;exact hb
     have hba:a.tmps.getD tj undef=.bool b:=by have:=(al hR (.tmp tj)).1;rw[hb]at this;exact oG this
     generalize jd:y7 A ((i,o)::rest)=sp at h;obtain⟨body,Ga⟩:=sp;have kX:=BJ jd;simp only at h;split at h
     ·rename_i VG;split at h
      ·rename_i hc;simp only[Bool.and_eq_true,List.all_eq_true,Bool.not_eq_true',beq_eq_false_iff_ne,ne_eq]at hc VG;obtain⟨⟨Et,Q3⟩,VH⟩:=hc;have Oo:mode=0:=Nat.eq_of_beq_eq_true VG.1;subst Oo;have bO:∀z∈body,z∈(i,o)::rest:=fun z hz=>by rw[kX];simp[hz]
       have sK:∀z∈Ga,z∈(i,o)::rest:=fun z hz=>by rw[kX];simp[hz]
       by_cases Oq:b=ye
       ·have:Qf ye b=true:=by subst Oq;cases b<;>rfl
        rw[this]at h;simp only[cond]at h;have Xb:fi f tj (.pv (.bool ye))=f:=funext fun t=>by
         unfold fi;cases e:Nat.beq t tj with
         |false=>rfl
         |true=>rw[Nat.eq_of_beq_eq_true e];simp only[cond];rw[←Oq];exact hbf.symm
        rw[Xb]at h;refine gy hE hY fuel iw h hl (fun z hz g nR t ht=>?_) (fun h=>by cases h) _ _ _ _ Q tail hR (fun g nR=>?_) fun f' m' μ2 φ2 a' w2 jA ir sY mi=>hK f' m' μ2 φ2 a' w2 jA ir (fun g nR=>sY g (by simp[nR])) fun h=>by cases h
        ·rcases List.mem_cons.1 nR with rfl|nR
         ·simp only[PX]at ht;cases ht;exact VH z hz
         ·exact BL z hz g nR t ht
        ·rcases List.mem_cons.1 nR with rfl|nR
         ·exact⟨tj,PX,by rw[hba,Oq]⟩
         ·exact hA g nR
       ·have:Qf ye b=false:=by cases b<;>cases ye<;>first|rfl|exact absurd rfl Oq
        rw[this]at h;simp only[cond]at h;have hbn:b= !ye:=by cases b<;>cases ye<;>first|rfl|exact absurd rfl Oq
        have Xb:fi f tj (.pv (.bool !ye))=f:=funext fun t=>by
         unfold fi;cases e:Nat.beq t tj with
         |false=>rfl
         |true=>rw[Nat.eq_of_beq_eq_true e];simp only[cond];rw[←hbn];exact hbf.symm
        rw[Xb]at h;rw[kX,List.map_append,List.append_assoc];refine tB body f (fun z hz=>hl z (bO z hz)) Et (w7 PX Q3 (fun z hz=>hl z (bO z hz)) (fun z hz=>VH z (bO z hz)) (by rw[hbf,hbn]) (by simp)) hR A hA (fun z hz g nR t ht=>BL z (bO z hz) g nR t ht) fun a' ir sY=>?_
        ·refine gy hE hY fuel iw h (fun z hz=>hl z (sK z hz)) (fun z hz=>BL z (sK z hz)) (fun h=>by cases h) _ _ _ _ Q tail ir sY fun f' m' μ2 φ2 a' w2 jA ir sY mi=>hK f' m' μ2 φ2 a' w2 jA ir sY fun h=>by cases h
      ·cases h
     ·split at h
      ·rename_i ip p kM;split at h
       ·rename_i c x y Jf;split at h
        ·rename_i hc;simp only[Bool.and_eq_true,List.all_eq_true,Bool.not_eq_true',beq_eq_false_iff_ne,ne_eq]at hc;obtain⟨⟨⟨⟨⟨⟨Jg,Xc⟩,vH⟩,Q3⟩,_⟩,hpd⟩,_⟩:=hc;have Jg:=Nat.eq_of_beq_eq_true Jg;subst Jg;have Xc:guardOf p A=none:=by simpa using Xc
         obtain⟨rb,Iy,h⟩:=Option.bind_eq_some_iff.1 h;have bO:∀z∈body,z∈(i,o)::rest:=fun z hz=>by rw[kX];simp[hz]
         have sK:∀z∈kM,z∈(i,o)::rest:=fun z hz=>by rw[kX];simp[hz]
         have GD:(ip,p)∈(i,o)::rest:=by rw[kX];simp
         rw[kX,List.map_append,List.append_assoc];have after:∀(f1:Fr)(μ1:Ro)(φ1:Nat→aG)(a1:Act)(w1:World)(q:Operand),Rel E.P E.aI E.fn.ntmps w0 μ1 φ1 f1 m a1 w1→wZ ops A a1→(∀t,(∀z∈body,z.2.dst≠some t)→f1 t=f t)→bC E f1 q=.pv (.bool rb)→(q=if b then x else y)→wpOpsIn (FR rd) 0 E.P ops Q (((ip,p)::kM).map (·.1)++tail) a1 w1:=by
          intro f1 μ1 φ1 a1 w1 q Jh hA1 Xd hq hqe;have Tm:bC E f1 (.tmp c)=.pv (.bool b):=by simp only[bC];rw[show Nat.blt c E.fn.ntmps=true by rw[Nat.blt_eq];exact Q2];show f1 c=_;rw[Xd c fun z hz=>(vH z hz).2];exact hbf
          simp only[List.map_cons,List.cons_append,wpOpsIn];rw[hl (ip,p) GD];simp only;rw[yy Xc hA1,if_pos rfl];have On:sg E (Nat.beq mode 1||Nat.beq mode 2) (cG E p.dst) p f1 m (.pv (.bool rb)) f1 m []:=VE hE (.inr ⟨_,_,_,Jf⟩) fun R' k'=>by rw[GC Jf Tm,←hqe,hq]
          refine On.vW (fun c h=>by rw[Jf]at h;cases h) rd w0 μ1 φ1 a1 w1 _ Q Jh fun z w' μ' φ' mi hM hF hv Eo=>?_;have hle:sV (gQ (kL f body) p.dst (.pv (.bool rb))) (gQ f1 p.dst (.pv (.bool rb))):=sV.put (uX fun t ht=>.inl (Xd t ht).symm) _ _;refine gy hE hY fuel iw h (fun z hz=>hl z (sK z hz)) (fun z hz=>BL z (sK z hz)) (fun hm z hz=>PW hm z (sK z hz)) _ _ _ _ Q tail ((Jh.put mi (gT hpd) hM hF hv Eo).weaken hle) (hA1.put (fun t ht=>by rw[Jh.size];exact gT hpd t ht) fun g nR t ht=>BL (ip,p) GD g nR t ht) fun f' m' μ2 φ2 a' w2 jA ir sY mi=>?_;refine hK f' m' μ2 φ2 a' w2 jA ir sY fun VF=>?_;obtain⟨e3,e4⟩:=mi VF;refine⟨e3,fun t ht=>?_⟩;rw[e4 t fun z hz=>ht z (sK z hz),dR (ht (ip,p) GD),uW fun z hz=>ht z (bO z hz)]
         have go:∀q,b=ye→(q=if b then x else y)→cq E ops 3 fuel Bool ((j,ye)::A) body f m lg (fun f _=>vp (bC E f q))=some rb→wpOpsIn (FR rd) 0 E.P ops Q (body.map (·.1)++(((ip,p)::kM).map (·.1)++tail)) a w:=by
          intro q Oq hq Uh;refine gy hE hY fuel (.inr rfl) Uh (fun z hz=>hl z (bO z hz)) ?_ (fun _ z hz=>(vH z hz).1.1) _ _ _ _ Q _ hR ?_ fun f' m' μ2 φ2 a' w2 jA ir sY mi=>?_
          ·intro z hz g nR t ht;rcases List.mem_cons.1 nR with rfl|nR
           ·simp only[PX]at ht;cases ht;exact(vH z hz).2
           ·exact BL z (bO z hz) g nR t ht
          ·intro g nR;rcases List.mem_cons.1 nR with rfl|nR
           ·exact⟨c,PX,by rw[hba,Oq]⟩
           ·exact hA g nR
          ·obtain⟨e1,e2⟩:=mi rfl;subst e1;exact after f' μ2 φ2 a' w2 q ir (fun g nR=>sY g (by simp[nR])) e2 (w8 jA) hq
         have no:∀q,b= !ye→(q=if b then x else y)→vp (bC E (kL f body) q)=some rb→wpOpsIn (FR rd) 0 E.P ops Q (body.map (·.1)++(((ip,p)::kM).map (·.1)++tail)) a w:=by
          intro q Oq hq Uh;refine tB body f (fun z hz=>hl z (bO z hz)) (fun z hz=>(vH z hz).1.2) (w7 PX Q3 (fun z hz=>hl z (bO z hz)) (fun z hz=>(vH z hz).2) (by rw[hbf,Oq]) (by simp)) hR A hA (fun z hz g nR t ht=>BL z (bO z hz) g nR t ht) fun a' ir sY=>?_;refine after _ μ φ a' w q ir sY (fun t ht=>sk ht) ?_ hq;have hv:=w8 Uh;cases q with
          |tmp t=>
           simp only[bC]at hv⊢;have hle:sV (kL f body) (gC f body):=uX fun t ht=>.inl (sk ht).symm;cases e:Nat.blt t E.fn.ntmps with
           |false=>rw[e]at hv;cases hv
           |true=>
            rw[e]at hv;simp only[cond]at hv⊢;rcases hle t with e|e
            ·rw[←e];exact hv
            ·rw[e]at hv;cases hv
          |_=>exact hv
         have hbm:(bif Nat.beq mode 0 then 3 else mode)=3:=by rcases iw with rfl|rfl<;>rfl
         rw[hbm]at Iy;cases ye<;>cases b<;>simp only[cond]at Iy
         ·exact go y rfl rfl Iy
         ·exact no x rfl rfl Iy
         ·exact no y rfl rfl Iy
         ·exact go x rfl rfl Iy
        ·cases h
       ·cases h
      ·cases h
    ·cases h
   ·cases h
end
end Go.Ab
set_option linter.unusedVariables false
namespace Go.Ab
open Go.RowKit (Below)
structure Rec where
 i:Nat
 o:Oper
 v:V
 wr:List (Nat×bK)
 ft:bp
 kl:Kl
def Rec.fs(r:Rec)(f:Fr):Fr:=gQ (kf r.kl f) r.o.dst r.v
def Rec.ms(r:Rec)(m:Mem):Mem:=qL r.wr (km r.kl m)
def Rec.DB(r:Rec)(id:Nat):Prop:=∃b,(b,id)∈r.kl
def kJ(f:Fr):List Rec→Fr
 |[]=>f
 |r::l=>kJ (r.fs f) l
def nE(m:Mem):List Rec→Mem
 |[]=>m
 |r::l=>nE (r.ms m) l
def mE(S:Nat→Bool)(f:Fr):List Rec→Fr
 |[]=>f
 |r::l=>mE S (bif S r.i then r.fs f else f) l
def mF(S:Nat→Bool)(m:Mem):List Rec→Mem
 |[]=>m
 |r::l=>mF S (bif S r.i then r.ms m else m) l
theorem BM:∀{wr:List (Nat×bK)}{m:Mem}{j:Nat},(∀b,(j,b)∉wr)→qL wr m j=m j
 |[],_,_,_=>rfl
 |(id,b)::r,m,j,h=>by rw[qL,BM fun b' hb=>h b' (by simp[hb])];exact aq fun e=>h b (by simp[e])
theorem Q4:∀{wr:List (Nat×bK)}{j:Nat},(∃b,(j,b)∈wr)→∃b',(j,b')∈wr∧∀m:Mem,qL wr m j=some b'
 |[],_,h=>by obtain⟨b,hb⟩:=h;cases hb
 |(id,b)::r,j,h=>by
  by_cases hr:∃b,(j,b)∈r
  ·obtain⟨b',h1,h2⟩:=Q4 hr;exact⟨b',by simp[h1],fun m=>h2 _⟩
  ·obtain⟨b0,hb⟩:=h;rcases List.mem_cons.1 hb with hb|hb
   ·simp only[Prod.mk.injEq]at hb;obtain⟨rfl,rfl⟩:=hb;refine⟨b0,by simp,fun m=>?_⟩;rw[qL,BM fun b' fP=>hr ⟨b',fP⟩];simp
   ·exact absurd ⟨b0,hb⟩ hr
mutual
theorem GF{id:Nat}:∀{v:V},v.sT id=true→v.has id=true
 |.agg cs,h=>sl (cs:=cs) (by simpa[V.sT]using h)
 |.bl cs,h=>sl (cs:=cs) (by simpa[V.sT]using h)
 |.fn _ cs,h=>sl (cs:=cs) (by simpa[V.sT]using h)
 |.tc _ _ _,h=>h
 |.wJ _ _ _ _ _ _,h=>h
 |.pv _,h=>by cases h
 |.bj,h=>by cases h
 |.op _ _,h=>by cases h
 |.oe _ _ _,h=>by cases h
 |.os _,h=>by cases h
 |.fh _ _ _,h=>by cases h
 |.om _,h=>by cases h
 |.yl _,h=>by cases h
 |.it _,h=>by cases h
 |.top,h=>by cases h
theorem sl{id:Nat}:∀{cs:List V},wK id cs=true→cr id cs=true
 |[],h=>by cases h
 |c::r,h=>by
  simp only[wK,Bool.or_eq_true]at h;simp only[cr,Bool.or_eq_true];rcases h with h|h
  ·exact .inl (GF h)
  ·exact .inr (sl h)
end
variable{id:Nat}
theorem zs{v:V}(h:v.has id=false):pM id v=v:=by unfold pM;rw[h];rfl
theorem zt{id:Nat}:∀{cs:List V},cr id cs=false→cs.map (pM id)=cs
 |[],_=>rfl
 |c::r,h=>by simp only[cr,Bool.or_eq_false_iff]at h;simp only[List.map_cons,zs h.1,zt h.2]
theorem GG{b:bK}(h:b.names id=false):fH id b=b:=by
 cases b with
 |box cs=>simp only[fH,zt (show cr id cs=false from h)]
 |_=>rfl
theorem w9{v:V}(h:v.has id=false):lX id v=v:=by
 unfold lX;cases h2:v.sT id with
 |false=>rfl
 |true=>rw[GF h2]at h;cases h
theorem xb{id:Nat}:∀{cs:List V},cr id cs=false→cs.map (lX id)=cs
 |[],_=>rfl
 |c::r,h=>by simp only[cr,Bool.or_eq_false_iff]at h;simp only[List.map_cons,w9 h.1,xb h.2]
theorem EF{b:bK}(h:b.names id=false):dP id b=b:=by
 cases b with
 |box cs=>simp only[dP,xb (show cr id cs=false from h)]
 |_=>rfl
theorem BN:∀{kl:Kl}{f:Fr}{t:Nat},(∀id,(∃b,(b,id)∈kl)→(f t).has id=false)→kf kl f t=f t
 |[],_,_,_=>rfl
 |(true,id)::r,f,t,h=>by have h0:eP id f t=f t:=zs (h id ⟨true,by simp⟩);rw[kf,BN (kl:=r) (f:=eP id f) fun j hj=>by rw[h0];exact h j (let⟨b,hb⟩:=hj;⟨b,by simp[hb]⟩),h0]
 |(false,id)::r,f,t,h=>by have h0:gi id f t=f t:=w9 (h id ⟨false,by simp⟩);rw[kf,BN (kl:=r) (f:=gi id f) fun j hj=>by rw[h0];exact h j (let⟨b,hb⟩:=hj;⟨b,by simp[hb]⟩),h0]
theorem xc:∀{kl:Kl}{f g:Fr}{t:Nat},f t=g t→kf kl f t=kf kl g t
 |[],_,_,_,h=>h
 |(true,id)::r,f,g,t,h=>xc (kl:=r) (f:=eP id f) (g:=eP id g) (by simp only[eP,h])
 |(false,id)::r,f,g,t,h=>xc (kl:=r) (f:=gi id f) (g:=gi id g) (by simp only[gi,h])
theorem BO:∀{kl:Kl}{m:Mem}{j:Nat},(∀id,(∃b,(b,id)∈kl)→j≠id∧∀b,m j=some b→b.names id=false)→km kl m j=m j
 |[],_,_,_=>rfl
 |(true,id)::r,m,j,h=>by
  obtain⟨h1,h2⟩:=h id ⟨true,by simp⟩;have h0:bg (bD id m) id j=m j:=by
   rw[eQ h1];unfold bD;cases hm:m j with
   |none=>rfl
   |some b=>simp only[GG (h2 b hm)]
  rw[km,BO (kl:=r) (m:=bg (bD id m) id) fun i hi=>by rw[h0];exact h i (let⟨b,hb⟩:=hi;⟨b,by simp[hb]⟩),h0]
 |(false,id)::r,m,j,h=>by
  obtain⟨h1,h2⟩:=h id ⟨false,by simp⟩;have h0:eS id m j=m j:=by
   unfold eS;cases hm:m j with
   |none=>rfl
   |some b=>simp only[EF (h2 b hm)]
  rw[km,BO (kl:=r) (m:=eS id m) fun i hi=>by rw[h0];exact h i (let⟨b,hb⟩:=hi;⟨b,by simp[hb]⟩),h0]
theorem BP:∀{kl:Kl}{m n:Mem}{j:Nat},m j=n j→km kl m j=km kl n j
 |[],_,_,_,h=>h
 |(true,id)::r,m,n,j,h=>BP (kl:=r) (m:=bg (bD id m) id) (n:=bg (bD id n) id) (by
  by_cases e:j=id
  ·subst e;simp
  ·rw[eQ e,eQ e];simp only[bD,h])
 |(false,id)::r,m,n,j,h=>BP (kl:=r) (m:=eS id m) (n:=eS id n) (by simp only[eS,h])
variable{r:Rec}
theorem Rec.GH{f:Fr}{t:Nat}(h:r.o.dst=some t):r.fs f t=r.v:=by unfold Rec.fs;rw[h,iR]
theorem Rec.MD{f:Fr}{t:Nat}(h:r.o.dst≠some t)(hc:∀id,r.DB id→(f t).has id=false):r.fs f t=f t:=by unfold Rec.fs;rw[dR h];exact BN hc
theorem Rec.BQ{f g:Fr}{t:Nat}(h:f t=g t):r.fs f t=r.fs g t:=by
 by_cases e:r.o.dst=some t
 ·rw[GH e,GH e]
 ·unfold Rec.fs;rw[dR e,dR e];exact xc h
theorem Rec.VI{j:Nat}(h:∃b,(j,b)∈r.wr):∃b',(j,b')∈r.wr∧∀m,r.ms m j=some b':=let⟨b',h1,h2⟩:=Q4 h;⟨b',h1,fun m=>h2 _⟩
theorem Rec.Q5{m:Mem}{j:Nat}(h:∀b,(j,b)∉r.wr)(hc:∀id,r.DB id→j≠id∧∀b,m j=some b→b.names id=false):r.ms m j=m j:=by unfold Rec.ms;rw[BM h];exact BO hc
theorem Rec.BR{m n:Mem}{j:Nat}(h:m j=n j):r.ms m j=r.ms n j:=by
 by_cases e:∃b,(j,b)∈r.wr
 ·obtain⟨b,_,e⟩:=Rec.VI e;rw[e,e]
 ·have e':∀b,(j,b)∉r.wr:=fun b hb=>e ⟨b,hb⟩;unfold Rec.ms;rw[BM e',BM e'];exact BP h
section
variable {S S':Nat→Bool}
theorem GI{f:Fr}:∀{l l':List Rec},kJ f (l++l')=kJ (kJ f l) l':=by
 intro l;induction l generalizing f with
 |nil=>intro l';rfl
 |cons r l ih=>intro l';exact ih
theorem GJ{m:Mem}:∀{l l':List Rec},nE m (l++l')=nE (nE m l) l':=by
 intro l;induction l generalizing m with
 |nil=>intro l';rfl
 |cons r l ih=>intro l';exact ih
theorem tC{f:Fr}:∀{l l':List Rec},mE S f (l++l')=mE S (mE S f l) l':=by
 intro l;induction l generalizing f with
 |nil=>intro l';rfl
 |cons r l ih=>intro l';exact ih
theorem tD{m:Mem}:∀{l l':List Rec},mF S m (l++l')=mF S (mF S m l) l':=by
 intro l;induction l generalizing m with
 |nil=>intro l';rfl
 |cons r l ih=>intro l';exact ih
theorem DC{t:Nat}:∀{l:List Rec}{f:Fr},(∀q∈l,q.o.dst≠some t∧q.kl=[])→kJ f l t=f t
 |[],_,_=>rfl
 |r::l,f,h=>by rw[kJ,DC fun q hq=>h q (by simp[hq])];obtain⟨h1,h2⟩:=h r (by simp);exact Rec.MD h1 fun id⟨b,hid⟩=>by rw[h2]at hid;cases hid
theorem nS{t:Nat}:∀{l:List Rec}{f:Fr},(∀q∈l,S q.i=true→q.o.dst≠some t∧∀id,q.DB id→(f t).has id=false)→mE S f l t=f t
 |[],_,_=>rfl
 |r::l,f,h=>by
  have h0:(bif S r.i then r.fs f else f) t=f t:=by
   cases e:S r.i with
   |false=>rfl
   |true=>obtain⟨h1,h2⟩:=h r (by simp) e;exact Rec.MD h1 h2
  rw[mE,nS fun q hq hs=>by rw[h0];exact h q (by simp[hq]) hs,h0]
theorem BS{t:Nat}:∀{l:List Rec}{f g:Fr},f t=g t→(∀q∈l,S q.i=false→q.o.dst≠some t∧q.kl=[])→mE S f l t=kJ g l t
 |[],_,_,h,_=>h
 |r::l,f,g,h,hs=>by
  rw[mE,kJ];refine BS ?_ fun q hq=>hs q (by simp[hq]);cases e:S r.i with
  |true=>exact Rec.BQ h
  |false=>obtain⟨h1,h2⟩:=hs r (by simp) e;rw[Rec.MD h1 fun id⟨b,hid⟩=>by rw[h2]at hid;cases hid];exact h
theorem vY{t:Nat}:∀{l:List Rec}{f g:Fr},f t=g t→(∀q∈l,S q.i=S' q.i)→mE S f l t=mE S' g l t
 |[],_,_,h,_=>h
 |r::l,f,g,h,hs=>by
  rw[mE,mE];refine vY ?_ fun q hq=>hs q (by simp[hq]);rw[hs r (by simp)];cases S' r.i
  ·exact h
  ·exact Rec.BQ h
theorem nT{j:Nat}:∀{l:List Rec}{m:Mem},(∀q∈l,S q.i=true→(∀b,(j,b)∉q.wr)∧∀id,q.DB id→j≠id∧∀b,m j=some b→b.names id=false)→mF S m l j=m j
 |[],_,_=>rfl
 |r::l,m,h=>by
  have h0:(bif S r.i then r.ms m else m) j=m j:=by
   cases e:S r.i with
   |false=>rfl
   |true=>obtain⟨h1,h2⟩:=h r (by simp) e;exact Rec.Q5 h1 h2
  rw[mF,nT fun q hq hs=>by rw[h0];exact h q (by simp[hq]) hs,h0]
theorem BT{j:Nat}:∀{l:List Rec}{m n:Mem},m j=n j→(∀q∈l,S q.i=false→(∀b,(j,b)∉q.wr)∧q.kl=[])→mF S m l j=nE n l j
 |[],_,_,h,_=>h
 |r::l,m,n,h,hs=>by
  rw[mF,nE];refine BT ?_ fun q hq=>hs q (by simp[hq]);cases e:S r.i with
  |true=>exact Rec.BR h
  |false=>obtain⟨h1,h2⟩:=hs r (by simp) e;rw[Rec.Q5 h1 fun id⟨b,hid⟩=>by rw[h2]at hid;cases hid];exact h
theorem vZ{j:Nat}:∀{l:List Rec}{m n:Mem},m j=n j→(∀q∈l,S q.i=S' q.i)→mF S m l j=mF S' n l j
 |[],_,_,h,_=>h
 |r::l,m,n,h,hs=>by
  rw[mF,mF];refine vZ ?_ fun q hq=>hs q (by simp[hq]);rw[hs r (by simp)];cases S' r.i
  ·exact h
  ·exact Rec.BR h
end
section
variable {E:Env} {ops:Array Oper} {w0:bw}
def DD(E:Env)(ops:Array Oper)(w0:bw)(r:Rec)(f:Fr)(m:Mem):Prop:=∀(f2:Fr)(m2:Mem),(∀t∈r.o.looksAt ops,f2 t=f t)→(∀x∈r.ft,m2 x.2=m x.2)→∀(μ:Ro)(φ:Nat→aG)(a:Act)(w:World)(K:Act→World→Prop)(Q:Exit→Act→World→Prop),Rel E.P E.aI E.fn.ntmps w0 μ φ f2 m2 a w→(∀μ' φ' a' w',Rel E.P E.aI E.fn.ntmps w0 μ' φ' (r.fs f2) (r.ms m2) a' w'→K a' w')→if Region.wanted r.o (yielded ops a.tmps)then∀rd:Option Nat,r.o.wpIn (FR rd) 0 E.P a w K Q else K (a.put r.o.dst undef) w
def fl(E:Env)(ops:Array Oper)(w0:bw):Fr→Mem→List Rec→Prop
 |_,_,[]=>True
 |f,m,r::l=>DD E ops w0 r f m∧(∀id b,(id,b)∈r.wr→(true,id)∈r.ft)∧fl E ops w0 (r.fs f) (r.ms m) l
theorem fl.append{f:Fr}{m:Mem}{l l':List Rec}:fl E ops w0 f m (l++l')↔fl E ops w0 f m l∧fl E ops w0 (kJ f l) (nE m l) l':=by
 induction l generalizing f m with
 |nil=>simp[fl,kJ,nE]
 |cons r l ih=>simp only[List.cons_append,fl,kJ,nE,ih,and_assoc]
def Clean(ops:Array Oper)(id:Nat)(r:Rec)(f:Fr)(m:Mem):Prop:=(∀t∈r.o.looksAt ops,(f t).has id=false)∧r.v.has id=false∧(∀x∈r.ft,x.2≠id∧∀b,m x.2=some b→b.names id=false)∧∀j b,(j,b)∈r.wr→(∀m,r.ms m j=some b)→j≠id∧b.names id=false
def mo(ops:Array Oper):Fr→Mem→List Rec→Prop
 |_,_,[]=>True
 |f,m,r::l=>(∀q∈l,∀id,q.DB id→reach ops 4 q.o r.i=true∨Clean ops id r f m)∧mo ops (r.fs f) (r.ms m) l
theorem mo.append{f:Fr}{m:Mem}{l l':List Rec}(h:mo ops f m (l++l')):mo ops (kJ f l) (nE m l) l':=by
 induction l generalizing f m with
 |nil=>exact h
 |cons r l ih=>exact ih h.2
def Ord(ops:Array Oper)(q r:Rec):Prop:=reach ops 4 r.o q.i=true∨(q.o.apart ops r.o=true∧(∀id b,(id,b)∈q.wr→∀x∈r.ft,x.2≠id)∧∀id b,(id,b)∈r.wr→∀x∈q.ft,x.2≠id)
theorem Ot{o:Oper}{j:Nat}(h:AZ o j=true):∃e∈o.after,Region.binds .any e=true∧e.on=j:=by unfold AZ at h;obtain⟨e,he,h⟩:=List.any_eq_true.1 h;have he:e∈o.after:=Array.mem_toList_iff.1 he;simp only[Bool.and_eq_true]at h;exact⟨e,he,h.1,Nat.eq_of_beq_eq_true h.2⟩
abbrev aB(l:Array Bool):Nat→Bool:=fun i=>l.getD i false
def v7(ops:Array Oper)(aj:Array Bool):Prop:=∀i o,ops[i]?=some o→aB aj i=true→∀e∈o.after,Region.binds .any e=true→aB aj e.on=true
theorem oJ(aj:Array Bool)(sd:v7 ops aj):∀(n:Nat)(o:Oper)(j:Nat),(∀e∈o.after,Region.binds .any e=true→aB aj e.on=true)→reach ops n o j=true→aB aj j=true:=by
 have aab:∀(o:Oper)(j:Nat),(∀e∈o.after,Region.binds .any e=true→aB aj e.on=true)→AZ o j=true→aB aj j=true:=fun o j ho h=>by obtain⟨e,he,hb,hon⟩:=Ot h;have:=ho e he hb;rw[hon]at this;exact this
 intro n;induction n with
 |zero=>exact fun o j ho h=>aab o j ho h
 |succ n ihn=>
  intro o j ho h;simp only[reach,Bool.or_eq_true]at h;rcases h with h|h
  ·exact aab o j ho h
  ·obtain⟨e,he,h⟩:=List.any_eq_true.1 h;simp only[Bool.and_eq_true]at h;obtain⟨hb,h⟩:=h;have he:e∈o.after:=Array.mem_toList_iff.1 he;split at h
   ·rename_i p hp;exact ihn p j (sd e.on p hp (ho e he hb)) h
   ·cases h
theorem Q6{rd:Option Nat}{recs:List Rec}{f0:Fr}{m0:Mem}{Q:Exit→Act→World→Prop}{base:Nat→Bool}(br:recs.Pairwise fun q r=>q.i<r.i)(pS:∀r∈recs,ops[r.i]?=some r.o)(Q7:∀r∈recs,base r.i=false)(Q8:∀i o,ops[i]?=some o→base i=false→(∀r∈recs,r.i≠i)→(∀r∈recs,reach ops 8 o r.i=true)∨∃j,reach ops 8 o j=true∧base j=false∧∀r∈recs,r.i≠j)(aac:recs.Pairwise (Ord ops))(kK:recs.Pairwise fun q r=>q.kl≠[]→reach ops 4 r.o q.i=true)(aeb:mo ops f0 m0 recs)(ME:∀r∈recs,∀e∈r.o.after,Region.binds .any e=true→e.on<r.i∧(base e.on=true∨∃q∈recs,q.i=e.on))(wH:fl E ops w0 f0 m0 recs)(hQ:∀(fuel:Nat)(aj:Array Bool),aj.size=ops.size→aj.toList.countP (fun b=> !b)≤fuel→v7 ops aj→(∀i,aB aj i=true↔base i=true∨∃r∈recs,r.i=i)→∀μ φ a w,Rel E.P E.aI E.fn.ntmps w0 μ φ (kJ f0 recs) (nE m0 recs) a w→wpAnyIn (FR rd) 0 E.P .any ops Q fuel aj a w):∀(fuel:Nat)(aj:Array Bool),aj.size=ops.size→aj.toList.countP (fun b=> !b)≤fuel→v7 ops aj→(∀i,base i=true→aB aj i=true)→(∀i,aB aj i=true→base i=true∨∃r∈recs,r.i=i)→∀(μ:Ro)(φ:Nat→aG)(a:Act)(w:World),Rel E.P E.aI E.fn.ntmps w0 μ φ (mE (aB aj) f0 recs) (mF (aB aj) m0 recs) a w→wpAnyIn (FR rd) 0 E.P .any ops Q fuel aj a w:=by
 have done:∀(fuel:Nat)(aj:Array Bool),aj.size=ops.size→aj.toList.countP (fun b=> !b)≤fuel→v7 ops aj→(∀i,base i=true→aB aj i=true)→(∀i,aB aj i=true→base i=true∨∃r∈recs,r.i=i)→(∀r∈recs,aB aj r.i=true)→∀(μ:Ro)(φ:Nat→aG)(a:Act)(w:World),Rel E.P E.aI E.fn.ntmps w0 μ φ (mE (aB aj) f0 recs) (mF (aB aj) m0 recs) a w→wpAnyIn (FR rd) 0 E.P .any ops Q fuel aj a w:=by
  intro fuel aj hs hc sd hb pB hl μ φ a w hR;have e1:mE (aB aj) f0 recs=kJ f0 recs:=funext fun t=>BS rfl fun q hq hf=>by rw[hl q hq]at hf;cases hf
  have e2:mF (aB aj) m0 recs=nE m0 recs:=funext fun t=>BT rfl fun q hq hf=>by rw[hl q hq]at hf;cases hf
  rw[e1,e2]at hR;exact hQ fuel aj hs hc sd (fun i=>⟨pB i,fun h=>h.elim (hb i) fun⟨r,hr,e⟩=>e▸hl r hr⟩) μ φ a w hR
 have Ui:∀(aj:Array Bool),aj.size=ops.size→(∀i,base i=true→aB aj i=true)→(∀r∈recs,r.i∉Region.ready .any ops aj)→∀(n:Nat)(r:Rec),r∈recs→r.i<n→aB aj r.i=true:=by
  intro aj hs hb hr n;induction n with
  |zero=>intro r _ h;omega
  |succ n ih=>
   intro r qM hi;cases hc:aB aj r.i with
   |true=>rfl
   |false=>
    exfalso;have br:r.i<aj.size:=by rw[hs];exact(Array.getElem?_eq_some_iff.1 (pS r qM)).1
    refine hr r qM (mem_ready.2 ⟨by simp only[aB,Array.getD_eq_getD_getElem?,Array.getElem?_eq_getElem br,Option.getD_some]at hc⊢;exact hc,r.o,pS r qM,fun e he fP=>?_⟩);obtain⟨h1,h2⟩:=ME r qM e he fP;rcases h2 with h2|⟨q,hq,Q9⟩
    ·exact hb _ h2
    ·have:=ih q hq (by omega);rwa[Q9]at this
 intro fuel;induction fuel with
 |zero=>
  intro aj hs hc sd hb pB μ φ a w hR;refine done 0 aj hs hc sd hb pB (fun r hr=>?_) μ φ a w hR;have br:r.i<aj.size:=by rw[hs];exact(Array.getElem?_eq_some_iff.1 (pS r hr)).1
  have:=List.countP_eq_zero.1 (Nat.le_zero.1 hc) aj[r.i] (by simp);simp only[aB,Array.getD_eq_getD_getElem?,Array.getElem?_eq_getElem br,Option.getD_some];simpa using this
 |succ fuel ih=>
  intro aj hs hc sd hb pB μ φ a w hR;by_cases Ra:∀r∈recs,aB aj r.i=true
  ·exact done (fuel+1) aj hs hc sd hb pB Ra μ φ a w hR
  have aad:∃r∈recs,aB aj r.i=false:=by
   refine Classical.byContradiction fun cT=>Ra fun r hr=>?_;cases hx:aB aj r.i with
   |true=>rfl
   |false=>exact absurd ⟨r,hr,hx⟩ cT
  refine⟨fun h0=>absurd (fun r hr=>Ui aj hs hb (fun r hr h=>by rw[h0]at h;cases h) (r.i+1) r hr (by omega)) Ra,fun i hi=>?_⟩;obtain⟨Ou,o,ho,yA⟩:=mem_ready.1 hi;have aae:aB aj i=false:=by
   have br:i<aj.size:=by rw[hs];exact(Array.getElem?_eq_some_iff.1 ho).1
   simp only[aB,Array.getD_eq_getD_getElem?,Array.getElem?_eq_getElem br,Option.getD_some]at Ou⊢;exact Ou
  have hex:∃r∈recs,r.i=i∧r.o=o:=by
   refine Classical.byContradiction fun cT=>?_;have Gk:∀r∈recs,r.i≠i:=fun r hr e=>cT ⟨r,hr,e,by have:=pS r hr;rw[e,ho]at this;exact(Option.some.inj this).symm⟩;have hbi:base i=false:=by
    cases hx:base i with
    |false=>rfl
    |true=>rw[hb i hx]at aae;cases aae
   rcases Q8 i o ho hbi Gk with h|⟨j,h1,h2,h3⟩
   ·obtain⟨r,hr,Uj⟩:=aad;rw[oJ aj sd 8 o r.i yA (h r hr)]at Uj;cases Uj
   ·have:=oJ aj sd 8 o j yA h1;rcases pB j this with h|⟨r,hr,e⟩
    ·rw[h]at h2;cases h2
    ·exact h3 r hr e
  obtain⟨r,hr,rfl,rfl⟩:=hex;have Rb:r.i<aj.size:=by rw[hs];exact(Array.getElem?_eq_some_iff.1 ho).1
  have hSi:aB aj r.i=false:=by simp only[aB,Array.getD_eq_getD_getElem?,Array.getElem?_eq_getElem Rb,Option.getD_some]at Ou⊢;exact Ou
  obtain⟨pre,post,kX⟩:=List.append_of_mem hr;subst kX;have Ai:∀q∈pre,Ord ops q r:=fun q hq=>(List.pairwise_append.1 aac).2.2 q hq r (by simp);have MF:∀q∈post,Ord ops r q:=fun q hq=>(List.pairwise_cons.1 (List.pairwise_append.1 aac).2.1).1 q hq;have Xe:∀q∈post,q.i≠r.i:=fun q hq=>by have:=(List.pairwise_cons.1 (List.pairwise_append.1 br).2.1).1 q hq;omega
  have aaf:∀q∈pre,q.i≠r.i:=fun q hq=>by have:=(List.pairwise_append.1 br).2.2 q hq r (by simp);omega
  have aag:∀q:Rec,reach ops 4 r.o q.i=true→aB aj q.i=true:=fun q h=>oJ aj sd 4 r.o q.i yA h;have Ji:∀q∈post,reach ops 4 q.o r.i=true→aB aj q.i=false:=fun q hq h=>by
   cases PN:aB aj q.i with
   |false=>rfl
   |true=>have:=oJ aj sd 4 q.o r.i (sd q.i q.o (pS q (by simp[hq])) PN) h;rw[hSi]at this;cases this
  have VJ:∀(f:Fr),mE (aB aj) f (r::post)=mE (aB aj) f post:=fun f=>by rw[mE,hSi];rfl
  have Rc:∀(m:Mem),mF (aB aj) m (r::post)=mF (aB aj) m post:=fun m=>by rw[mF,hSi];rfl
  obtain⟨_,Xf,ZG,_⟩:=fl.append.1 wH;have hc:=aeb.append.1;have VK:∀q∈pre,q.kl≠[]→reach ops 4 r.o q.i=true:=fun q hq=>(List.pairwise_append.1 kK).2.2 q hq r (by simp);have Re:r.kl≠[]→∀q∈post,reach ops 4 q.o r.i=true:=fun h q hq=>(List.pairwise_cons.1 (List.pairwise_append.1 kK).2.1).1 q hq h;unfold wpOpIn;rw[pS r hr];simp only;have Xd:∀t∈r.o.looksAt ops,mE (aB aj) f0 pre t=kJ f0 pre t:=fun t ht=>BS rfl fun q hq hs=>by
   have Gk:¬reach ops 4 r.o q.i=true:=fun h=>by rw[aag q h]at hs;cases hs
   refine⟨fun hd=>?_,?_⟩
   ·rcases Ai q hq with h|⟨h,_⟩
    ·exact Gk h
    ·exact absurd ht ((Oper.apart_spec h).1 t hd)
   ·exact Classical.byContradiction fun cT=>Gk (VK q hq cT)
  have Xg:∀x∈r.ft,mF (aB aj) m0 pre x.2=nE m0 pre x.2:=fun x hx=>BT rfl fun q hq hs=>by
   have Gk:¬reach ops 4 r.o q.i=true:=fun h=>by rw[aag q h]at hs;cases hs
   refine⟨fun b hb=>?_,?_⟩
   ·rcases Ai q hq with h|⟨_,h,_⟩
    ·exact Gk h
    ·exact absurd rfl (h _ b hb x hx)
   ·exact Classical.byContradiction fun cT=>Gk (VK q hq cT)
  have Tl:∀q∈post,aB aj q.i=true→¬reach ops 4 q.o r.i=true:=fun q hq hs h=>by rw[Ji q hq h]at hs;cases hs
  have hf2:∀t∈r.o.looksAt ops,mE (aB aj) f0 (pre++r::post) t=kJ f0 pre t:=fun t ht=>by
   rw[tC,VJ,nS fun q hq hs=>⟨fun hd=>?_,fun id hid=>?_⟩]
   ·exact Xd t ht
   ·rcases MF q hq with h|⟨h,_⟩
    ·exact Tl q hq hs h
    ·exact absurd ht ((Oper.apart_spec h).2.2 t hd)
   ·rw[Xd t ht];rcases hc q hq id hid with h|h
    ·exact absurd h (Tl q hq hs)
    ·exact h.1 t ht
  have cO:∀x∈r.ft,mF (aB aj) m0 (pre++r::post) x.2=nE m0 pre x.2:=fun x hx=>by
   rw[tD,Rc,nT fun q hq hs=>⟨fun b hb=>?_,fun id hid=>?_⟩]
   ·exact Xg x hx
   ·rcases MF q hq with h|⟨_,_,h⟩
    ·exact Tl q hq hs h
    ·exact absurd rfl (h _ b hb x hx)
   ·rw[Xg x hx];rcases hc q hq id hid with h|h
    ·exact absurd h (Tl q hq hs)
    ·exact h.2.2.1 x hx
  have hwp:=Xf _ _ hf2 cO μ φ a w (wpAnyIn (FR rd) 0 E.P .any ops Q fuel (aj.setIfInBounds r.i true)) Q hR fun μ' φ' a' w' ir=>by
   have VL:∀j,aB (aj.setIfInBounds r.i true) j=if j=r.i then true else aB aj j:=fun j=>by
    simp only[aB,Array.getD_eq_getD_getElem?,Array.getElem?_setIfInBounds];by_cases e:r.i=j
    ·subst e;simp[Rb]
    ·have e':¬j=r.i:=fun h=>e h.symm;simp[e,e']
   refine ih (aj.setIfInBounds r.i true) (by simp[hs]) ?_ ?_ ?_ ?_ μ' φ' a' w' ?_
   ·rw[Array.toList_setIfInBounds,List.countP_set (by simpa using Rb)];have:aj.toList[r.i]'(by simpa using Rb)=false:=by simp only[aB,Array.getD_eq_getD_getElem?,Array.getElem?_eq_getElem Rb,Option.getD_some]at hSi;simpa using hSi
    rw[this];simp only[Bool.not_false,if_true,Bool.not_true,Bool.false_eq_true,if_false];omega
   ·intro i' o' Ov mV e he Et;rw[VL]at mV⊢;split
    ·rfl
    ·split at mV
     ·rename_i Q9;subst Q9;have:o'=r.o:=by rw[pS r hr]at Ov;exact(Option.some.inj Ov).symm
      subst this;exact yA e he Et
     ·exact sd i' o' Ov mV e he Et
   ·intro i' mV;rw[VL];split
    ·rfl
    ·exact hb i' mV
   ·intro i' mV;rw[VL]at mV;split at mV
    ·rename_i Q9;exact Or.inr ⟨r,hr,Q9.symm⟩
    ·exact pB i' mV
   ·have VM:∀q∈pre,aB (aj.setIfInBounds r.i true) q.i=aB aj q.i:=fun q hq=>by rw[VL,if_neg (aaf q hq)]
    have tE:∀q∈post,aB (aj.setIfInBounds r.i true) q.i=aB aj q.i:=fun q hq=>by rw[VL,if_neg (Xe q hq)]
    have hSr:aB (aj.setIfInBounds r.i true) r.i=true:=by rw[VL,if_pos rfl]
    have e1:mE (aB (aj.setIfInBounds r.i true)) f0 (pre++r::post)=r.fs (mE (aB aj) f0 (pre++r::post)):=funext fun t=>by
     have hg:mE (aB (aj.setIfInBounds r.i true)) f0 pre=mE (aB aj) f0 pre:=funext fun s=>vY rfl VM;rw[tC,tC,VJ,mE,hSr,hg];simp only[cond];by_cases hk:r.kl=[]
     ·by_cases hd:r.o.dst=some t
      ·rw[Rec.GH hd,nS fun q hq hs=>⟨fun hqd=>?_,fun id hid=>?_⟩,Rec.GH hd]
       ·rw[tE q hq]at hs;rcases MF q hq with h|⟨h,_⟩
        ·exact Tl q hq hs h
        ·exact absurd hqd ((Oper.apart_spec h).2.1 t hd)
       ·rw[tE q hq]at hs;rw[Rec.GH hd];rcases hc q hq id hid with h|h
        ·exact absurd h (Tl q hq hs)
        ·exact h.2.1
      ·have yr:∀(g:Fr),r.fs g t=g t:=fun g=>Rec.MD hd fun id⟨b,hid⟩=>by rw[hk]at hid;cases hid
       rw[yr];exact vY (yr _) tE
     ·have Ou:∀q∈post,aB aj q.i=false:=fun q hq=>Ji q hq (Re hk q hq);rw[nS fun q hq hs=>by rw[tE q hq,Ou q hq]at hs;cases hs];exact Rec.BQ (nS fun q hq hs=>by rw[Ou q hq]at hs;cases hs).symm
    have e2:mF (aB (aj.setIfInBounds r.i true)) m0 (pre++r::post)=r.ms (mF (aB aj) m0 (pre++r::post)):=funext fun j=>by
     have hg:mF (aB (aj.setIfInBounds r.i true)) m0 pre=mF (aB aj) m0 pre:=funext fun s=>vZ rfl VM;rw[tD,tD,Rc,mF,hSr,hg];simp only[cond];by_cases hk:r.kl=[]
     ·by_cases hd:∃b,(j,b)∈r.wr
      ·obtain⟨b,hd,uQ⟩:=Rec.VI hd;rw[uQ,nT fun q hq hs=>⟨fun b' hqd=>?_,fun id hid=>?_⟩,uQ]
       ·rw[tE q hq]at hs;rcases MF q hq with h|⟨_,_,h⟩
        ·exact Tl q hq hs h
        ·exact absurd rfl (h j b' hqd (true,j) (ZG j b hd))
       ·rw[tE q hq]at hs;rcases hc q hq id hid with h|h
        ·exact absurd h (Tl q hq hs)
        ·obtain⟨h1,h2⟩:=h.2.2.2 j b hd uQ;refine⟨h1,fun b' fP=>?_⟩;rw[uQ]at fP;cases fP;exact h2
      ·have Ms:∀b,(j,b)∉r.wr:=fun b hb=>hd ⟨b,hb⟩;have yr:∀(g:Mem),r.ms g j=g j:=fun g=>Rec.Q5 Ms fun id⟨b,hid⟩=>by rw[hk]at hid;cases hid
       rw[yr];exact vZ (yr _) tE
     ·have Ou:∀q∈post,aB aj q.i=false:=fun q hq=>Ji q hq (Re hk q hq);rw[nT fun q hq hs=>by rw[tE q hq,Ou q hq]at hs;cases hs];exact Rec.BR (nT fun q hq hs=>by rw[Ou q hq]at hs;cases hs).symm
    rw[e1,e2];exact ir
  split
  ·rename_i hw;rw[if_pos hw]at hwp;exact hwp rd
  ·rename_i hw;rw[if_neg hw]at hwp;exact⟨fun _ _=>trivial,hwp⟩
end
end Go.Ab
set_option linter.unusedVariables false
namespace Go.Ab
open Go.RowKit (Below)
section
variable {E:Env} {ops:Array Oper} {w0:bw}
variable{o:Oper}
theorem Ow{t:Nat}(h:.tmp t∈o.op.operands):t∈o.looksAt ops:=by unfold Oper.looksAt;refine List.mem_append.2 (.inl (List.mem_filterMap.2 ⟨.tmp t,by simpa using h,rfl⟩))
theorem tF{g:Nat×Bool}{t:Nat}(hg:o.guard=some g)(h:(ops[g.1]?).bind (·.dst)=some t):t∈o.looksAt ops:=by unfold Oper.looksAt;rw[hg];refine List.mem_append.2 (.inr ?_);show t∈((ops[g.1]?).bind (·.dst)).toList;rw[h];simp
variable{f F:Fr}
theorem uY(h:∀t∈o.looksAt ops,f t=F t):∀x∈o.op.operands,bC E f x=bC E F x:=by
 intro x hx;cases x with
 |tmp t=>simp only[bC];rw[h t (Ow hx)]
 |_=>rfl
variable{A:List (Nat×Bool)}{φ:Nat→aG}{a:Act}{w:World}
theorem GK{f2:Fr}{m2:Mem}{μ:Ro}(hg:guardOf o A=none)(hA:oI E.fn.ntmps ops A f)(hR:Rel E.P E.aI E.fn.ntmps w0 μ φ f2 m2 a w)(hf:∀t∈o.looksAt ops,f2 t=f t):Region.wanted o (yielded ops a.tmps)=true:=by
 unfold guardOf at hg;unfold Region.wanted;split at hg
 ·rename_i Q0;simp[Q0]
 ·rename_i g Q0;split at hg
  ·rename_i bO;obtain⟨t,h1,h0,h2⟩:=hA g (by simpa using bO);have h3:=hR.fr t;rw[oi h0,hf t (tF Q0 h1),h2]at h3;simp only[Q0];rw[sj h1 (oG h3)];simp
  ·cases hg
variable{i:Nat}{ft:bp}{m:Mem}
theorem BU(hE:iK E){v:V}{wr:List (Nat×bK)}(hg:guardOf o A=none)(hA:oI E.fn.ntmps ops A f)(hd:tg E o=true)(hn:∀(f2:Fr)(m2:Mem),(∀x∈o.op.operands,bC E f2 x=bC E f x)→(∀x∈ft,m2 x.2=m x.2)→∀(R':Type)(k':V→Fr→Mem→bp→Option R'),F8 E true (cG E o.dst) o f2 m2 k'=k' v f2 (qL wr m2) ft):DD E ops w0 ⟨i,o,v,wr,ft,[]⟩ f m:=by
 intro f2 m2 hf hm μ φ a w K Q hR hK;have hw:Region.wanted o (yielded ops a.tmps)=true:=by
  unfold guardOf at hg;unfold Region.wanted;split at hg
  ·rename_i Q0;simp[Q0]
  ·rename_i g Q0;split at hg
   ·rename_i bO;obtain⟨t,h1,h0,h2⟩:=hA g (by simpa using bO);have h3:=hR.fr t;rw[oi h0,hf t (tF Q0 h1),h2]at h3;simp only[Q0];rw[sj h1 (oG h3)];simp
   ·cases hg
 simp only at hf hm hK⊢;rw[if_pos hw];exact fun rd=>(VE hE (.inl rfl) (hn f2 m2 (uY hf) hm)).vW (yw (hn f2 m2 (uY hf) hm Unit fun _ _ _ _=>some ())) rd w0 μ φ a w K Q hR fun y w' μ' φ' hle hM hF hv hl=>hK _ _ _ _ (hR.put hle (gT hd) hM hF hv hl)
theorem Jj(hd:tg E o=true)(BK:Ol ops f o):DD E ops w0 ⟨i,o,.bl [],[],[],[]⟩ f m:=by
 intro f2 m2 hf hm μ φ a w K Q hR hK;simp only at hf hm hK⊢;have Xh:Ol ops f2 o:=by obtain⟨g,hg,ht⟩:=BK;exact⟨g,hg,fun t h=>by rw[hf t (tF hg h)];exact ht t h⟩
 rw[vG hR Xh];simp only[Bool.false_eq_true,if_false];exact hK _ _ _ _ (hR.put (fun _ _ h=>h) (gT hd) hR.toay hR.jr BI (fun id hid=>by simp[V.has,cr]at hid))
def xd(x:Nat×Oper):Rec:=⟨x.1,x.2,.bl [],[],[],[]⟩
theorem DE{m:Mem}:∀(l:List (Nat×Oper))(F:Fr),(∀x∈l,tg E x.2=true)→(∀(pre post:List (Nat×Oper))(x:Nat×Oper),l=pre++x::post→Ol ops (gC F pre) x.2)→fl E ops w0 F m (l.map xd)∧kJ F (l.map xd)=gC F l
 |[],F,_,_=>⟨trivial,rfl⟩
 |x::r,F,hd,BK=>by obtain⟨h1,h2⟩:=DE (m:=m) r (gQ F x.2.dst (.bl [])) (fun y hy=>hd y (by simp[hy])) (fun pre post y h=>by have:=BK (x::pre) post y (by rw[h];rfl);rwa[gC]at this);exact⟨⟨Jj (hd x (by simp)) (BK [] r x rfl),by simp[xd],h1⟩,h2⟩
theorem DF{m:Mem}:∀{l:List Rec},(∀q∈l,q.wr=[]∧q.kl=[])→nE m l=m
 |[],_=>rfl
 |r::l,h=>by
  obtain⟨h1,h2⟩:=h r (by simp);have:r.ms m=m:=by unfold Rec.ms;rw[h1,h2];rfl
  rw[nE,this];exact DF fun q hq=>h q (by simp[hq])
theorem fl.wr:∀{l:List Rec}{f:Fr}{m:Mem},fl E ops w0 f m l→∀q∈l,∀id b,(id,b)∈q.wr→(true,id)∈q.ft
 |[],_,_,_,q,hq=>by cases hq
 |r::l,f,m,h,q,hq=>by
  rcases List.mem_cons.1 hq with rfl|hq
  ·exact h.2.1
  ·exact fl.wr h.2.2 q hq
def Rf(q r:Rec):Prop:=reach ops 4 r.o q.i=true∨((∀id b,(id,b)∈q.wr→∀x∈r.ft,x.2≠id)∧∀id b,(id,b)∈r.wr→∀x∈q.ft,x.2≠id)
theorem GL{o:Oper}{w:Bool}{id:Nat}:∀{lg:Log},Md ops o w id lg=true→∀x∈lg,id≠x.2.2∨(w=false∧x.2.1=false)∨reach ops 4 o x.1=true
 |[],_,x,hx=>by cases hx
 |(j,w',nA)::lg,h,x,hx=>by
  simp only[Md,Bool.and_eq_true]at h;rcases List.mem_cons.1 hx with rfl|hx
  ·have h1:=h.1;simp only[Bool.or_eq_true,Bool.not_eq_true',Bool.and_eq_true]at h1;rcases h1 with(h1|h1)|h1
   ·exact .inl fun e=>by subst e;simp[Nat.beq_refl]at h1
   ·exact .inr (.inl h1)
   ·exact .inr (.inr h1)
  ·exact GL h.2 x hx
theorem yB{o:Oper}{lg:Log}:∀{ft:bp},yb ops o lg ft=true→∀y∈ft,∀x∈lg,y.2≠x.2.2∨(y.1=false∧x.2.1=false)∨reach ops 4 o x.1=true
 |[],_,y,hy=>by cases hy
 |(w,id)::ft,h,y,hy=>by
  simp only[yb,Bool.and_eq_true]at h;rcases List.mem_cons.1 hy with rfl|hy
  ·exact GL h.1
  ·exact yB h.2 y hy
theorem BV{o:Oper}{id:Nat}:∀{lg:Log},Av ops o id lg=true→∀x∈lg,x.2.2=uF id→reach ops 4 o x.1=true
 |[],_,x,hx=>by cases hx
 |(j,w,n)::lg,h,x,hx=>by
  simp only[Av,Bool.and_eq_true,Bool.or_eq_true,Bool.not_eq_true']at h;intro he;rcases List.mem_cons.1 hx with rfl|hx
  ·rcases h.1 with h1|h1
   ·simp only at he;rw[he,Nat.beq_refl]at h1;cases h1
   ·exact h1
  ·exact BV h.2 x hx he
mutual
theorem MG{id:Nat}:∀(v:V),v.has id=true→id∈v.ids
 |.agg cs,h=>q9 cs (by simpa only[V.has]using h)
 |.bl cs,h=>q9 cs (by simpa only[V.has]using h)
 |.fn _ cs,h=>q9 cs (by simpa only[V.has]using h)
 |.os j,h=>by have:=Nat.eq_of_beq_eq_true h;subst this;simp[V.ids]
 |.fh j _ _,h=>by have:=Nat.eq_of_beq_eq_true h;subst this;simp[V.ids]
 |.oe j _ _,h=>by have:=Nat.eq_of_beq_eq_true h;subst this;simp[V.ids]
 |.om j,h=>by have:=Nat.eq_of_beq_eq_true h;subst this;simp[V.ids]
 |.tc j _ _,h=>by have:=Nat.eq_of_beq_eq_true h;subst this;simp[V.ids]
 |.wJ j _ _ _ _ _,h=>by have:=Nat.eq_of_beq_eq_true h;subst this;simp[V.ids]
 |.op j _,h=>by have:=Nat.eq_of_beq_eq_true h;subst this;simp[V.ids]
 |.it j,h=>by have:=Nat.eq_of_beq_eq_true h;subst this;simp[V.ids]
 |.yl j,h=>by have:=Nat.eq_of_beq_eq_true h;subst this;simp[V.ids]
 |.pv _,h=>by cases h
 |.bj,h=>by cases h
 |.top,h=>by cases h
theorem q9{id:Nat}:∀(cs:List V),cr id cs=true→id∈F9 cs
 |[],h=>by cases h
 |v::r,h=>by
  simp only[cr,Bool.or_eq_true]at h;simp only[F9,List.mem_append];rcases h with h|h
  ·exact .inl (MG v h)
  ·exact .inr (q9 r h)
end
variable{id:Nat}
theorem xe{b:bK}(h:b.names id=true):id∈A0 (some b):=by
 cases b with
 |box cs=>exact q9 cs h
 |_=>cases h
theorem v8{m m':Mem}{id:Nat}:∀{ft:bp}{x:Bool×Nat},x∈ft→(id∈A0 (m x.2)∨id∈A0 (m' x.2))→id∈El m m' ft
 |y::ft,x,hx,h=>by
  simp only[El,List.mem_append];rcases List.mem_cons.1 hx with rfl|hx
  ·exact .inl h
  ·exact .inr (v8 hx h)
theorem Rg{v:V}{wr:List (Nat×bK)}(zu:∀t∈o.looksAt ops,f t=F t)(Xi:∀j b,(j,b)∈wr→(true,j)∈ft)(hn:id∉Au ops o f m (qL wr m) v ft)(hft:∀x∈ft,x.2≠id):Clean ops id ⟨i,o,v,wr,ft,[]⟩ F m:=by
 simp only[Au,List.mem_append,not_or]at hn;obtain⟨⟨h1,h2⟩,h3⟩:=hn;refine⟨fun t ht=>?_,?_,fun x hx=>⟨hft x hx,fun b hb=>?_⟩,fun j b hb uQ=>⟨hft _ (Xi j b hb),?_⟩⟩
 ·cases e:(F t).has id with
  |false=>rfl
  |true=>exact absurd (q9 _ (cU.2 ⟨f t,List.mem_map.2 ⟨t,ht,rfl⟩,by rw[zu t ht];exact e⟩)) h1
 ·cases e:v.has id with
  |false=>rfl
  |true=>exact absurd (MG _ e) h2
 ·cases e:b.names id with
  |false=>rfl
  |true=>exact absurd (v8 hx (.inl (by rw[hb];exact xe e))) h3
 ·cases e:b.names id with
  |false=>rfl
  |true=>exact absurd (v8 (Xi j b hb) (.inr (by have fP:qL wr m j=some b:=uQ m;simp only;rw[fP];exact xe e))) h3
variable{R:Type}
theorem Jk{site:Nat}{rd:bp}(h:rT E f m o=some (id,rd)){k:V→Fr→Mem→bp→Option R}{r:R}(hx:cY E false site o f m k=some r):(∀x∈rd,x.1=false)∧∃dJ,k (.os id) (eP id f) (ao (bg (bD id m) id) id dJ) [(true,0)]=some r∧∀(f2:Fr)(m2:Mem),(∀x∈o.op.operands,bC E f2 x=bC E f x)→(∀x∈(true,id)::rd,m2 x.2=m x.2)→∀(R':Type)(k':V→Fr→Mem→bp→Option R'),cY E false site o f2 m2 k'=k' (.os id) (eP id f2) (ao (bg (bD id m2) id) id dJ) [(true,0)]:=by
 obtain⟨dst,op,type,pos,after,guard⟩:=o;unfold rT at h;simp only at h;split at h
 ·rename_i c;obtain⟨callee,args,argTypes⟩:=c;simp only at h;split at h
  ·rename_i nA x t t' jB W4;split at h
   ·rename_i e hu;split at h
    ·rename_i new rd' yo;split at h
     ·cases h
     ·rename_i W5;simp only[Option.some.injEq,Prod.mk.injEq]at h;obtain⟨rfl,rfl⟩:=h;obtain⟨Z2,he2,_⟩:=l5 yo;have aec:∀m2:Mem,bg (bD nA m2) nA nA=none:=fun m2=>by simp[bg,Nat.beq_refl]
      have main:∀(f2:Fr)(m2:Mem),args.toList.map (bC E f2)=[.os nA,x]→m2 nA=m nA→eH m2 (aT E.P e) x=some (new,rd')→∀(R':Type)(k':V→Fr→Mem→bp→Option R'),cY E false site ⟨dst,.call ⟨.builtin .append,args,argTypes⟩,type,pos,after,guard⟩ f2 m2 k'=if !(decide (t'=t))then none else if(dn E e).isNone then none else match m nA with
       |some (.arr sz et es)=>if et=e∧sz=aT E.P e∧x.has nA=false then(if(es++new).length*CK E.P e≤aa∧0<CK E.P e then k' (.os nA) (eP nA f2) (ao (bg (bD nA m2) nA) nA (.arr sz e (es++new))) [(true,0)]else none)else none
       |_=>none:=by
       intro f2 m2 h1 h2 h3 R' k'
       simp only[cY,h1,W4,wO,Bool.false_or,hu,h3,h2]
       split
       ·rfl
       ·split
        ·rfl
        ·split
         ·rename_i sz et es MB;simp only[fresh,aec,MB]
         ·rename_i cT;split
          ·rename_i sz et es cO;exact absurd cO (cT sz et es)
          ·rfl
      rw[main f m jB rfl yo]at hx;refine⟨he2,?_⟩;split at hx
      ·cases hx
      ·rename_i Vq;split at hx
       ·cases hx
       ·rename_i CO;split at hx
        ·rename_i sz et es hm;split at hx
         ·rename_i hc3;split at hx
          ·rename_i hc4;refine⟨_,hx,fun f2 m2 hf cO R' k'=>?_⟩;have ha:args.toList.map (bC E f2)=[.os nA,x]:=by rw[←jB];exact qv fun y hy=>hf y (by simp only[Op.operands,Call.operands];simp[Array.mem_toList_iff.1 hy])
           rw[main f2 m2 ha (cO (true,nA) (by simp)) (Z2 m2 fun y hy=>cO y (by simp[hy])) R' k'];rw[if_neg Vq,if_neg CO,hm];simp only;rw[if_pos hc3,if_pos hc4]
          ·cases hx
         ·cases hx
        ·cases hx
    ·cases h
   ·cases h
  ·cases h
 ·cases h
theorem sV.kill(h:sV f F)(id:Nat):sV (eP id f) (eP id F):=fun t=>by
 rcases h t with e|e
 ·exact .inl (by simp only[eP,e])
 ·exact .inr (by simp only[eP,e];rfl)
theorem oI.kill{nt:Nat}(h:oI nt ops A f)(id:Nat):oI nt ops A (eP id f):=by intro g hg;obtain⟨t,h1,h0,h2⟩:=h g hg;exact⟨t,h1,h0,by simp only[eP,h2];rfl⟩
theorem Rh{x:Nat×bp}(h:rT E f m o=some x):isApp E o=true:=by
 obtain⟨dst,op,type,pos,after,guard⟩:=o;unfold rT at h;simp only at h;unfold isApp;split at h
 ·rename_i c;obtain⟨callee,args,argTypes⟩:=c;simp only at h;split at h
  ·simp
  ·cases h
 ·cases h
theorem EG{rd:bp}(h:rT E f m o=some (id,rd)):∃c x t t',o.op=.call c∧c.callee=.builtin .append∧c.args.toList.map (bC E f)=[.os id,x]∧c.argTypes.toList=[t,t']:=by
 unfold rT at h;split at h
 ·rename_i c hc;split at h
  ·rename_i nA x t t' h1 h2 h3;split at h
   ·split at h
    ·split at h
     ·cases h
     ·simp only[Option.some.injEq,Prod.mk.injEq]at h;obtain⟨rfl,_⟩:=h;exact⟨c,x,t,t',hc,h1,h2,h3⟩
    ·cases h
   ·cases h
  ·cases h
 ·cases h
theorem Ox{kl:Kl}(h:Em E f m o=some (kl,ft)){k:V→Fr→Mem→bp→Option R}{r:R}(hx:F8 E false (cG E o.dst) o f m k=some r):isApp E o=true∧∃v wr YZ,k v (kf kl f) (qL wr (km kl m)) YZ=some r∧(∀x∈wr,(true,x.1)∈ft)∧(∀x∈kl,(true,x.2)∈ft)∧∀(f2:Fr)(m2:Mem),(∀x∈o.op.operands,bC E f2 x=bC E f x)→(∀x∈ft,m2 x.2=m x.2)→∀(R':Type)(k':V→Fr→Mem→bp→Option R'),F8 E false (cG E o.dst) o f2 m2 k'=k' v (kf kl f2) (qL wr (km kl m2)) YZ:=by
 unfold Em at h;unfold F8 at hx;split at h
 ·rename_i sp jd;simp only[Option.some.injEq]at h;have hn:E.y0 (cG E o.dst)=true:=by
   cases hn:E.y0 (cG E o.dst)with
   |true=>rfl
   |false=>rw[hn]at jd;cases jd
  rw[hn]at jd hx;simp only[cond]at jd hx;rw[jd]at hx;obtain⟨v,wr,h1,h2,h3,h4,_,_⟩:=Je jd hx;rw[h]at h1 h2 h3 h4;refine⟨by unfold isApp;rw[hn];rfl,v,wr,ft,h1,h2,h3,fun f2 m2 hf hm R' k'=>?_⟩;have:=Jb jd hf (by rw[h];exact hm);unfold F8;rw[hn];simp only[cond];rw[this];exact h4 f2 m2 R' k'
 ·rename_i jd;split at h
  ·rename_i id rd Ri;simp only[Option.some.injEq,Prod.mk.injEq]at h;obtain⟨rfl,rfl⟩:=h;have e0:(bif false then none else bif E.y0 (cG E o.dst)then vN E (cG E o.dst) o f m else none)=(bif E.y0 (cG E o.dst)then vN E (cG E o.dst) o f m else none):=rfl;rw[e0,jd]at hx;simp only at hx;obtain⟨wW,dJ,hk,hn⟩:=Jk Ri hx;refine⟨Rh Ri,.os id,[(id,dJ)],[(true,0)],hk,by simp,by simp,fun f2 m2 hf hm R' k'=>?_⟩;have Rj:(bif E.y0 (cG E o.dst)then vN E (cG E o.dst) o f2 m2 else none)=none:=by
    cases IP:E.y0 (cG E o.dst)with
    |false=>rfl
    |true=>
     simp only[cond];obtain⟨c,x,t,t',hc,Uk,jB,QY⟩:=EG Ri;have Xj:c.args.toList.map (bC E f2)=[.os id,x]:=by rw[←jB];exact List.map_congr_left fun y hy=>hf y (by rw[hc];simp only[Op.operands,Call.operands];rw[Uk];simp[Array.mem_toList_iff.1 hy])
     have cO:m2 id=m id:=hm (true,id) (by simp);have VF:∃sz et es,m id=some (.arr sz et es):=by
      obtain⟨dst,op,type,pos,after,guard⟩:=o;simp only at hc;subst hc;obtain⟨callee,args,argTypes⟩:=c;simp only at Uk jB QY;subst Uk;simp only[cY,jB,QY,wO,Bool.false_or]at hx;split at hx
      ·cases hx
      ·split at hx
       ·split at hx
        ·cases hx
        ·split at hx
         ·split at hx
          ·rename_i sz et es hm;exact⟨sz,et,es,hm⟩
          ·cases hx
         ·cases hx
       ·cases hx
     obtain⟨sz,et,es,VF⟩:=VF;unfold vN;rw[hc];simp only[Uk,Xj,QY,cO,VF];split<;>first|rfl|(rename_i heq;cases heq)
   unfold F8;have e1:(bif false then none else bif E.y0 (cG E o.dst)then vN E (cG E o.dst) o f2 m2 else none)=(bif E.y0 (cG E o.dst)then vN E (cG E o.dst) o f2 m2 else none):=rfl;rw[e1,Rj];exact hn f2 m2 hf hm R' k'
  ·cases h
theorem sV.vu(h:sV f F)(id:Nat):sV (gi id f) (gi id F):=fun t=>by
 rcases h t with e|e
 ·exact .inl (by simp only[gi,e])
 ·exact .inr (by simp only[gi,e];rfl)
theorem sV.kf:∀{kl:Kl}{f F:Fr},sV f F→sV (Go.Ab.kf kl f) (Go.Ab.kf kl F)
 |[],_,_,h=>h
 |(true,id)::r,f,F,h=>sV.kf (kl:=r) (f:=eP id f) (F:=eP id F) (h.kill id)
 |(false,id)::r,f,F,h=>sV.kf (kl:=r) (f:=gi id f) (F:=gi id F) (h.vu id)
theorem oI.vu{nt:Nat}(h:oI nt ops A f)(id:Nat):oI nt ops A (gi id f):=by intro g hg;obtain⟨t,h1,h0,h2⟩:=h g hg;exact⟨t,h1,h0,by simp only[gi,h2];rfl⟩
theorem oI.kf{nt:Nat}{A:List (Nat×Bool)}:∀{kl:Kl}{f:Fr},oI nt ops A f→oI nt ops A (Go.Ab.kf kl f)
 |[],_,h=>h
 |(true,id)::r,f,h=>oI.kf (kl:=r) (f:=eP id f) (h.kill id)
 |(false,id)::r,f,h=>oI.kf (kl:=r) (f:=gi id f) (h.vu id)
theorem Oy(hE:iK E)(hY:qS E.P E.aI E.fn.ntmps E.yl w0){v:V}{wr:List (Nat×bK)}{kl:Kl}{YZ:bp}(hg:guardOf o A=none)(hA:oI E.fn.ntmps ops A F)(hd:tg E o=true)(On:∀x∈o.op.operands,bC E f x=bC E F x)(hn:∀(f2:Fr)(m2:Mem),(∀x∈o.op.operands,bC E f2 x=bC E f x)→(∀x∈ft,m2 x.2=m x.2)→∀(R':Type)(k':V→Fr→Mem→bp→Option R'),F8 E false (cG E o.dst) o f2 m2 k'=k' v (kf kl f2) (qL wr (km kl m2)) YZ):DD E ops w0 ⟨i,o,v,wr,ft,kl⟩ F m:=by
 intro f2 m2 hf hm μ φ a w K Q hR hK;have hw:Region.wanted o (yielded ops a.tmps)=true:=GK hg hA hR hf;simp only at hf hm hK⊢;rw[if_pos hw];have hx:=hn f2 m2 (fun x hx=>by rw[uY hf x hx,On x hx]) hm (V×Fr×Mem) fun v f m _=>some (v,f,m);rcases EE hE hx with⟨v,f',m',ft,h1,h2⟩|⟨_,h2⟩
 ·simp only[Option.some.injEq,Prod.mk.injEq]at h1;obtain⟨rfl,rfl,rfl⟩:=h1;exact fun rd=>h2.vW (yw hx) rd w0 μ φ a w K Q hR fun y w' μ' φ' hle hM hF hv hl=>hK _ _ _ _ (hR.put hle (gT hd) hM hF hv hl)
 ·refine fun rd=>BF.vW h2 rd w0 μ φ a w K Q hY hR fun v f' m' y w' μ' φ' h1 hle hM hF hv hl=>?_;simp only[Option.some.injEq,Prod.mk.injEq]at h1;obtain⟨rfl,rfl,rfl⟩:=h1;exact hK _ _ _ _ (hR.put hle (gT hd) hM hF hv hl)
structure EH(ops:Array Oper)(mode:Nat)(F:Fr)(m:Mem)(lg:Log)(recs:List Rec):Prop where
 one:mode=1→∀q∈recs,q.wr=[]∧q.kl=[]
 ord:mode=2→recs.Pairwise (Rf (ops:=ops))
 log:mode=2→∀q∈recs,∀y∈q.ft,∀x∈lg,y.2≠x.2.2∨(y.1=false∧x.2.1=false)∨reach ops 4 q.o x.1=true
 kl:recs.Pairwise fun q r=>q.kl≠[]→reach ops 4 r.o q.i=true
 cln:mo ops F m recs
 nam:∀q∈recs,∀id,q.DB id→mode=2∧ops.toList.any (isApp E)=true∧(true,id)∈q.ft∧∀x∈lg,x.2.2=uF id→reach ops 4 q.o x.1=true
theorem mo.none:∀{l:List Rec}{f:Fr}{m:Mem},(∀q∈l,q.kl=[])→mo ops f m l
 |[],_,_,_=>trivial
 |r::l,f,m,h=>⟨fun q hq id⟨b,hid⟩=>(by rw[h q (by simp[hq])]at hid;cases hid),mo.none fun q hq=>h q (by simp[hq])⟩
theorem kY(hE:iK E)(hY:qS E.P E.aI E.fn.ntmps E.yl w0){mode:Nat}(iw:mode=1∨mode=2):∀(fuel:Nat){R:Type}{A:List (Nat×Bool)}{l:List (Nat×Oper)}{f:Fr}{m:Mem}{lg:Log}{k:Fr→Mem→Option R}{r:R},cq E ops mode fuel R A l f m lg k=some r→(∀x∈l,ops[x.1]?=some x.2)→(mode=1→∀x∈l,eV x.2=true)→Xa ops A l→∀F:Fr,sV f F→oI E.fn.ntmps ops A F→(∀x∈l,∀t∈x.2.looksAt ops,f t=F t)→∃(recs:List Rec)(f':Fr),k f' (nE m recs)=some r∧sV f' (kJ F recs)∧recs.map (fun r=>(r.i,r.o))=l∧fl E ops w0 F m recs∧EH (E:=E) ops mode F m lg recs
 |0,_,_,_,_,_,_,_,_,h,_,_,_,_,_,_,_=>by simp[cq]at h
 |fuel+1,R,A,[],f,m,lg,k,r,h,_,_,_,F,hF,_,_=>by simp only[cq]at h;exact⟨[],f,h,hF,rfl,trivial,by simp,fun _=>.nil,by simp,.nil,trivial,by simp⟩
 |fuel+1,R,A,(i,o)::rest,f,m,lg,k,r,h,hl,PW,BL,F,hF,hA,zu=>by
  have Xg:(Nat.beq mode 1||Nat.beq mode 2)=true:=by rcases iw with rfl|rfl<;>rfl
  simp only[cq,Xg]at h;split at h
  ·rename_i hg;split at h
   ·rename_i hd;have aah:∀x∈o.op.operands,bC E f x=bC E F x:=uY (zu (i,o) (by simp));split at h
    ·rename_i kl ft jd;have Xk:mode=2:=by
      rcases iw with rfl|rfl
      ·cases jd
      ·rfl
     subst Xk;have jd:Em E f m o=some (kl,ft):=jd;split at h
     ·rename_i Be;simp only[Bool.and_eq_true,List.all_eq_true]at Be;obtain⟨⟨aed,aee⟩,aef⟩:=Be;obtain⟨Ri,v,wr,YZ,hk,Xi,kK,hn⟩:=Ox jd h;obtain⟨recs,f',c1,c2,c3,c4,c5⟩:=kY hE hY (.inr rfl) fuel hk (fun x hx=>hl x (by simp[hx])) (fun hm=>by cases hm) (fun x hx=>BL x (by simp[hx])) (gQ (kf kl F) o.dst v) ((sV.kf (kl:=kl) hF).put _ _) (oI.put (oI.kf (kl:=kl) hA) fun g nR t ht=>BL (i,o) (by simp) g nR t ht) (fun x hx t ht=>by
       by_cases e:o.dst=some t
       ·rw[e,iR,iR]
       ·rw[dR e,dR e];exact xc (zu x (by simp[hx]) t ht))
      have pS:∀q∈recs,reach ops 4 q.o i=true:=fun q hq=>aef (q.i,q.o) (by rw[←c3];exact List.mem_map.2 ⟨q,hq,rfl⟩);have Xl:ops.toList.any (isApp E)=true:=List.any_eq_true.2 ⟨o,List.mem_of_getElem? (by rw[Array.getElem?_toList];exact hl (i,o) (by simp)),Ri⟩;refine⟨⟨i,o,v,wr,ft,kl⟩::recs,f',c1,c2,by simp[c3],⟨Oy hE hY hg hA hd aah hn,fun j b hb=>Xi _ hb,c4⟩,?_⟩;refine⟨fun hm=>(by cases hm),fun hm=>List.pairwise_cons.2 ⟨fun q hq=>.inl (pS q hq),c5.ord hm⟩,fun hm q hq=>?_,List.pairwise_cons.2 ⟨fun q hq _=>pS q hq,c5.kl⟩,⟨fun q hq nA _=>.inl (pS q hq),c5.cln⟩,fun q hq nA hid=>?_⟩
      ·rcases List.mem_cons.1 hq with rfl|hq
       ·exact yB aed
       ·exact fun y hy x hx=>c5.log hm q hq y hy x (List.mem_append.2 (.inr hx))
      ·rcases List.mem_cons.1 hq with rfl|hq
       ·obtain⟨bb,hid⟩:=hid;exact⟨rfl,Xl,kK _ hid,BV (aee _ hid)⟩
       ·obtain⟨g1,g2,g3,g4⟩:=c5.nam q hq nA hid;exact⟨g1,g2,g3,fun x hx=>g4 x (List.mem_append.2 (.inr hx))⟩
     ·cases h
    ·rcases EE hE h with⟨v,f1,m1,ft,hk,On⟩|⟨vT,_⟩
     rotate_left
     ·cases vT
     obtain⟨Xd,wr,aai,Xi,hn⟩:=On.drawn rfl;subst Xd;have NW:∀(f2:Fr)(m2:Mem),(∀x∈o.op.operands,bC E f2 x=bC E F x)→(∀x∈ft,m2 x.2=m x.2)→∀(R':Type)(k':V→Fr→Mem→bp→Option R'),F8 E true (cG E o.dst) o f2 m2 k'=k' v f2 (qL wr m2) ft:=fun f2 m2 hf=>hn f2 m2 fun x hx=>by rw[hf x hx,aah x hx]
     have step:∀(Y0:List (Nat×bK))(lg':Log),qL Y0 m=m1→(mode=1→Y0=[])→(∀id b,(id,b)∈Y0→(true,id)∈ft)→DD E ops w0 ⟨i,o,v,Y0,ft,[]⟩ F m→cq E ops mode fuel R A rest (gQ f1 o.dst v) m1 lg' k=some r→(mode=2→lg'=(bif ops.toList.any (isApp E)then(Au ops o f1 m m1 v ft).map (fun n=>(i,false,uF n))else[])++(ft.map (fun x=>(i,x))++lg)∧yb ops o lg ft=true)→∃(recs:List Rec)(f':Fr),k f' (nE m recs)=some r∧sV f' (kJ F recs)∧recs.map (fun r=>(r.i,r.o))=(i,o)::rest∧fl E ops w0 F m recs∧EH (E:=E) ops mode F m lg recs:=by
      intro Y0 lg' hwm Mw hw2 Xf Uh hlg;obtain⟨recs,f',c1,c2,c3,c4,c5⟩:=kY hE hY iw fuel Uh (fun x hx=>hl x (by simp[hx])) (fun hm x hx=>PW hm x (by simp[hx])) (fun x hx=>BL x (by simp[hx])) (gQ F o.dst v) (hF.put _ _) (oI.put hA fun g nR t ht=>BL (i,o) (by simp) g nR t ht) (fun x hx t ht=>by
       by_cases e:o.dst=some t
       ·rw[e,iR,iR]
       ·rw[dR e,dR e];exact zu x (by simp[hx]) t ht)
      subst hwm;refine⟨⟨i,o,v,Y0,ft,[]⟩::recs,f',c1,c2,by simp[c3],⟨Xf,hw2,c4⟩,?_⟩;have VN:mode=2→∀x∈lg,x∈lg':=fun hm x hx=>by rw[(hlg hm).1];exact List.mem_append.2 (.inr (List.mem_append.2 (.inr hx)))
      have Rk:mode=2→∀x∈ft,(i,x)∈lg':=fun hm x hx=>by rw[(hlg hm).1];exact List.mem_append.2 (.inr (List.mem_append.2 (.inl (List.mem_map.2 ⟨x,hx,rfl⟩))))
      refine⟨fun hm q hq=>?_,fun hm=>List.pairwise_cons.2 ⟨fun q hq=>?_,c5.ord hm⟩,fun hm q hq=>?_,List.pairwise_cons.2 ⟨fun q hq h=>absurd rfl h,c5.kl⟩,⟨fun q hq id hid=>?_,c5.cln⟩,fun q hq id hid=>?_⟩
      ·rcases List.mem_cons.1 hq with rfl|hq
       ·exact⟨Mw hm,rfl⟩
       ·exact c5.one hm q hq
      ·have d2:=c5.log hm;by_cases he:reach ops 4 q.o i=true
       ·exact .inl he
       ·refine .inr ⟨fun id b hb x hx hxi=>?_,fun id b hb x hx hxi=>?_⟩
        ·rcases d2 q hq x hx (i,true,id) (Rk hm (true,id) (hw2 id b hb))with h|h|h
         ·exact h hxi
         ·cases h.2
         ·exact he h
        ·rcases d2 q hq (true,id) (fl.wr c4 q hq id b hb) (i,x) (Rk hm x hx)with h|h|h
         ·exact h hxi.symm
         ·cases h.1
         ·exact he h
      ·rcases List.mem_cons.1 hq with rfl|hq
       ·exact yB (hlg hm).2
       ·exact fun y hy x hx=>c5.log hm q hq y hy x (VN hm x hx)
      ·obtain⟨g1,g2,g3,g4⟩:=c5.nam q hq id hid;by_cases he:reach ops 4 q.o i=true
       ·exact .inl he
       ·refine .inr (Rg (zu (i,o) (by simp)) hw2 (fun bO=>he (g4 (i,false,uF id) ?_ rfl)) fun x hx hxi=>?_)
        ·rw[(hlg g1).1,g2];exact List.mem_append.2 (.inl (List.mem_map.2 ⟨id,bO,rfl⟩))
        ·rcases c5.log g1 q hq (true,id) g3 (i,x) (Rk g1 x hx)with h|h|h
         ·exact h hxi.symm
         ·cases h.1
         ·exact he h
      ·rcases List.mem_cons.1 hq with rfl|hq
       ·obtain⟨_,hid⟩:=hid;cases hid
       ·obtain⟨g1,g2,g3,g4⟩:=c5.nam q hq id hid;exact⟨g1,g2,g3,fun x hx=>g4 x (VN g1 x hx)⟩
     rcases iw with rfl|rfl
     ·simp only[Nat.beq,Bool.false_eq_true,if_false]at hk;split at hk
      ·rename_i hqf;have hwn:wr=[]:=by
        cases wr with
        |nil=>rfl
        |cons x l=>have:=vX hqf _ (Xi x (by simp));cases this
       subst hwn;exact step [] lg aai.symm (fun _=>rfl) (by simp) (BU hE hg hA hd NW) hk (by simp)
      ·cases hk
     ·simp only[Nat.beq,if_true]at hk;split at hk
      ·rename_i hof;exact step wr _ aai.symm (by simp) (fun id b hb=>Xi _ hb) (BU hE hg hA hd NW) hk fun _=>⟨rfl,hof⟩
      ·cases hk
   ·cases h
  ·rename_i j ye hg;split at h
   ·rename_i tj PX;split at h
    ·rename_i b hb;generalize jd:y7 A ((i,o)::rest)=sp at h;obtain⟨body,Ga⟩:=sp;have kX:=BJ jd;have Oo:Nat.beq mode 0=false:=by rcases iw with rfl|rfl<;>rfl
     simp only[Oo,Bool.false_and,Bool.false_eq_true,if_false]at h;split at h
     ·rename_i ip p kM;split at h
      ·rename_i c x y Jf;split at h
       ·rename_i hc;simp only[Bool.and_eq_true,List.all_eq_true,Bool.not_eq_true',beq_eq_false_iff_ne,ne_eq]at hc;obtain⟨⟨⟨⟨⟨⟨Jg,Xc⟩,vH⟩,Q3⟩,Xm⟩,hpd⟩,cO⟩:=hc;have Xn:mode=1:=by
         rcases iw with h|h
         ·exact h
         ·subst h;simp[Nat.beq]at cO
        subst Xn;have Jg:=Nat.eq_of_beq_eq_true Jg;subst Jg;have Xc:guardOf p A=none:=by simpa using Xc
        obtain⟨rb,Iy,h⟩:=Option.bind_eq_some_iff.1 h;have bO:∀z∈body,z∈(i,o)::rest:=fun z hz=>by rw[kX];simp[hz]
        have sK:∀z∈kM,z∈(i,o)::rest:=fun z hz=>by rw[kX];simp[hz]
        have GD:(ip,p)∈(i,o)::rest:=by rw[kX];simp
        obtain⟨Q2,hb⟩:=BH hb;have hFc:F c=.pv (.bool b):=by
         rcases hF c with e|e
         ·rw[←e];exact hb
         ·rw[e]at hb;cases hb
        have after:∀(pT:List Rec)(q:Operand),pT.map (fun r=>(r.i,r.o))=body→fl E ops w0 F m pT→(∀q∈pT,q.wr=[]∧q.kl=[])→bC E (kJ F pT) q=.pv (.bool rb)→(q=if b then x else y)→∃(recs:List Rec)(f':Fr),k f' (nE m recs)=some r∧sV f' (kJ F recs)∧recs.map (fun r=>(r.i,r.o))=body++(ip,p)::kM∧fl E ops w0 F m recs∧(∀q∈recs,q.wr=[]∧q.kl=[]):=by
         intro pT q aaj aak hwn hq hqe;have Ul:∀t,(∀z∈body,z.2.dst≠some t)→kJ F pT t=F t:=fun t ht=>DC fun q hq=>⟨ht (q.i,q.o) (by rw[←aaj];exact List.mem_map.2 ⟨q,hq,rfl⟩),(hwn q hq).2⟩;have hA1:oI E.fn.ntmps ops A (kJ F pT):=fun g nR=>by obtain⟨t,h1,h0,h2⟩:=hA g nR;exact⟨t,h1,h0,by rw[Ul t fun z hz=>BL z (bO z hz) g nR t h1];exact h2⟩
         have Tm:kJ F pT c=.pv (.bool b):=by rw[Ul c fun z hz=>(vH z hz).2];exact hFc
         have hrp:DD E ops w0 ⟨ip,p,.pv (.bool rb),[],[],[]⟩ (kJ F pT) m:=BU hE Xc hA1 hpd fun f2 m2 hf hm R' k'=>by
          have pB:bC E f2 (.tmp c)=.pv (.bool b):=by have:=hf (.tmp c) (by rw[Jf];simp[Op.operands]);rw[this,Ug Q2];exact Tm
          have Vp:bC E f2 q=.pv (.bool rb):=by rw[hf q (by rw[Jf,hqe];cases b<;>simp[Op.operands])];exact hq
          rw[GC Jf pB,←hqe,Vp];rfl
         obtain⟨recs,f',c1,c2,c3,c4,c5⟩:=kY hE hY (.inl rfl) fuel h (fun z hz=>hl z (sK z hz)) (fun hm z hz=>PW hm z (sK z hz)) (fun z hz=>BL z (sK z hz)) (gQ (kJ F pT) p.dst (.pv (.bool rb))) (sV.put (uX fun t ht=>by rw[Ul t ht];exact hF t) _ _) (oI.put hA1 fun g nR t ht=>BL (ip,p) GD g nR t ht) (fun z hz t ht=>by
          by_cases e:p.dst=some t
          ·rw[e,iR,iR]
          ·have ZF:∀u∈body,u.2.dst≠some t:=fun u hu hud=>by
            have h1:=Xm z hz;simp only[blind,List.all_eq_true]at h1;have h2:=h1 u hu;rw[hud]at h2;simp only[Bool.not_eq_true']at h2;have:(z.2.looksAt ops).elem t=true:=by simpa using ht
            rw[this]at h2;cases h2
           rw[dR e,dR e,uW ZF,Ul t ZF];exact zu z (sK z hz) t ht)
         have hmB:nE m pT=m:=DF hwn;refine⟨pT++⟨ip,p,.pv (.bool rb),[],[],[]⟩::recs,f',?_,?_,by simp[aaj,c3],?_,fun q hq=>?_⟩
         ·rw[GJ,hmB];exact c1
         ·rw[GI];exact c2
         ·refine fl.append.2 ⟨aak,?_⟩;rw[hmB];exact⟨hrp,by simp,c4⟩
         ·rcases List.mem_append.1 hq with h|h
          ·exact hwn q h
          ·rcases List.mem_cons.1 h with rfl|h
           ·exact⟨rfl,rfl⟩
           ·exact c5.one rfl q h
        have fin:(∃(recs:List Rec)(f':Fr),k f' (nE m recs)=some r∧sV f' (kJ F recs)∧recs.map (fun r=>(r.i,r.o))=body++(ip,p)::kM∧fl E ops w0 F m recs∧(∀q∈recs,q.wr=[]∧q.kl=[]))→∃(recs:List Rec)(f':Fr),k f' (nE m recs)=some r∧sV f' (kJ F recs)∧recs.map (fun r=>(r.i,r.o))=(i,o)::rest∧fl E ops w0 F m recs∧EH (E:=E) ops 1 F m lg recs:=by rintro⟨recs,f',c1,c2,c3,c4,c5⟩;exact⟨recs,f',c1,c2,by rw[kX];exact c3,c4,fun _=>c5,fun h=>(by cases h),fun h=>(by cases h),List.Pairwise.imp_of_mem (R:=fun _ _=>True) (fun{q r}hq hr _ h=>absurd (c5 q hq).2 h) (List.pairwise_of_forall fun _ _=>trivial),mo.none fun q hq=>(c5 q hq).2,fun q hq id⟨_,hid⟩=>(by rw[(c5 q hq).2]at hid;cases hid)⟩
        have go:∀q,b=ye→(q=if b then x else y)→cq E ops 1 fuel Bool ((j,ye)::A) body f m lg (fun f _=>vp (bC E f q))=some rb→∃(recs:List Rec)(f':Fr),k f' (nE m recs)=some r∧sV f' (kJ F recs)∧recs.map (fun r=>(r.i,r.o))=body++(ip,p)::kM∧fl E ops w0 F m recs∧(∀q∈recs,q.wr=[]∧q.kl=[]):=by
         intro q Oq hq Uh;obtain⟨pT,f1,c1,c2,c3,c4,c5⟩:=kY hE hY (.inl rfl) fuel Uh (fun z hz=>hl z (bO z hz)) (fun hm z hz=>PW hm z (bO z hz)) (fun z hz g nR t ht=>by
          rcases List.mem_cons.1 nR with rfl|nR
          ·simp only[PX]at ht;cases ht;exact(vH z hz).2
          ·exact BL z (bO z hz) g nR t ht) F hF (fun g nR=>by
          rcases List.mem_cons.1 nR with rfl|nR
          ·exact⟨c,PX,Q2,by rw[hFc,Oq]⟩
          ·exact hA g nR) (fun z hz=>zu z (bO z hz))
         refine after pT q c3 c4 (c5.one rfl) ?_ hq;have hv:=w8 c1;rcases QZ (E:=E) c2 q with e|e
         ·rw[←e];exact hv
         ·rw[e]at hv;cases hv
        have no:∀q,b= !ye→(q=if b then x else y)→vp (bC E (kL f body) q)=some rb→∃(recs:List Rec)(f':Fr),k f' (nE m recs)=some r∧sV f' (kJ F recs)∧recs.map (fun r=>(r.i,r.o))=body++(ip,p)::kM∧fl E ops w0 F m recs∧(∀q∈recs,q.wr=[]∧q.kl=[]):=by
         intro q Oq hq Uh;obtain⟨s1,s2⟩:=DE (E:=E) (w0:=w0) (m:=m) body F (fun z hz=>(vH z hz).1.2) (w7 PX Q3 (fun z hz=>hl z (bO z hz)) (fun z hz=>(vH z hz).2) (by rw[hFc,Oq]) (by simp));refine after (body.map xd) q (by simp[xd,Function.comp_def]) s1 (fun u hu=>by obtain⟨z,_,rfl⟩:=List.mem_map.1 hu;exact⟨rfl,rfl⟩) ?_ hq;rw[s2];have hv:=w8 Uh;have hle:sV (kL f body) (gC F body):=uX fun t ht=>by rw[sk ht];exact hF t
         rcases QZ (E:=E) hle q with e|e
         ·rw[←e];exact hv
         ·rw[e]at hv;cases hv
        refine fin ?_;cases ye<;>cases b<;>simp only[cond]at Iy
        ·exact go y rfl rfl Iy
        ·exact no x rfl rfl Iy
        ·exact no y rfl rfl Iy
        ·exact go x rfl rfl Iy
       ·cases h
      ·cases h
     ·cases h
    ·cases h
   ·cases h
theorem qw{l:List Oper}:(i,o)∈(List.range l.length).zip l↔l[i]?=some o:=by
 rw[List.mem_iff_getElem?];constructor
 ·rintro⟨n,hn⟩;rw[List.getElem?_zip_eq_some]at hn;obtain⟨h1,h2⟩:=hn;rw[List.getElem?_range (by have:=(List.getElem?_eq_some_iff.1 h2).1;omega)]at h1;simp only[Option.some.injEq]at h1;subst h1;exact h2
 ·intro h;refine⟨i,List.getElem?_zip_eq_some.2 ⟨?_,h⟩⟩;exact List.getElem?_range (by have:=(List.getElem?_eq_some_iff.1 h).1;omega)
theorem tG:∀{l done:List (Nat×Oper)},mf ops done l=true→(∀x∈l,∀d∈done,reach ops 4 x.2 d.1=true∨d.2.apart ops x.2=true)∧l.Pairwise (fun q r=>reach ops 4 r.2 q.1=true∨q.2.apart ops r.2=true)∧∀x∈l,∀e∈x.2.after,Region.binds .any e=true→e.on<x.1
 |[],_,_=>⟨by simp,.nil,by simp⟩
 |(i,o)::r,done,h=>by
  simp only[mf,Bool.and_eq_true]at h;obtain⟨⟨h1,h2⟩,h3⟩:=h;obtain⟨i1,i2,i3⟩:=tG h3;have Bj:∀{done:List (Nat×Oper)},uG ops done o=true→∀d∈done,reach ops 4 o d.1=true∨d.2.apart ops o=true:=by
   intro done;induction done with
   |nil=>intro _ d hd;cases hd
   |cons x l ih=>
    intro h d hd;simp only[uG,Bool.and_eq_true,Bool.or_eq_true]at h;rcases List.mem_cons.1 hd with rfl|hd
    ·exact h.1.symm
    ·exact ih h.2 d hd
  refine⟨fun x hx d hd=>?_,List.pairwise_cons.2 ⟨fun x hx=>i1 x hx (i,o) (by simp),i2⟩,fun x hx e he hb=>?_⟩
  ·rcases List.mem_cons.1 hx with rfl|hx
   ·exact Bj h2 d hd
   ·exact i1 x hx d (by simp[hd])
  ·rcases List.mem_cons.1 hx with rfl|hx
   ·have:=List.all_eq_true.1 h1 e (Array.mem_toList_iff.2 he);simp only[hb,Bool.not_true,Bool.false_or]at this;rwa[Nat.blt_eq]at this
   ·exact i3 x hx e he hb
variable{rd:Option Nat}{fuel:Nat}{Q:Exit→Act→World→Prop}
theorem tH(hE:iK E)(hY:qS E.P E.aI E.fn.ntmps E.yl w0){mode:Nat}(iw:mode=1∨mode=2){l:List (Nat×Oper)}{base:Nat→Bool}(PW:mode=1→∀x∈l,eV x.2=true){k:Fr→Mem→Option R}{r:R}(hmz:∀x∈l,ops[x.1]?=some x.2)(VO:(l.map Prod.fst).Pairwise (·<·))(Q7:∀x∈l,base x.1=false)(Q8:∀i o,ops[i]?=some o→base i=false→(∀x∈l,x.1≠i)→(∀x∈l,reach ops 8 o x.1=true)∨∃j,reach ops 8 o j=true∧base j=false∧∀x∈l,x.1≠j)(aeg:∀x∈l,∀e∈x.2.after,Region.binds .any e=true→base e.on=true∨∃y∈l,y.1=e.on)(hi:mf ops [] l=true)(h:cq E ops mode fuel R [] l f m [] k=some r)(hQ:∀(fuel:Nat)(aj:Array Bool),aj.size=ops.size→aj.toList.countP (fun b=> !b)≤fuel→v7 ops aj→(∀i,aB aj i=true↔base i=true∨∃x∈l,x.1=i)→∀f' m' μ φ a w,k f' m'=some r→Rel E.P E.aI E.fn.ntmps w0 μ φ f' m' a w→wpAnyIn (FR rd) 0 E.P .any ops Q fuel aj a w):∀(fuel:Nat)(aj:Array Bool),aj.size=ops.size→aj.toList.countP (fun b=> !b)≤fuel→v7 ops aj→(∀i,aB aj i=true↔base i=true)→∀(μ:Ro)(φ:Nat→aG)(a:Act)(w:World),Rel E.P E.aI E.fn.ntmps w0 μ φ f m a w→wpAnyIn (FR rd) 0 E.P .any ops Q fuel aj a w:=by
 intro aal aj hs hc sd hb μ φ a w hR;obtain⟨recs,f',c1,c2,c3,c4,c5⟩:=kY (w0:=w0) hE hY iw fuel h hmz PW (by intro x hx g hg;cases hg) f (sV.refl f) (by intro g hg;cases hg) (fun _ _ _ _=>rfl);obtain⟨_,i2,i3⟩:=tG hi;have bO:∀q∈recs,(q.i,q.o)∈l:=fun q hq=>by rw[←c3];exact List.mem_map.2 ⟨q,hq,rfl⟩
 have hof:∀x∈l,∃q∈recs,q.i=x.1:=fun x hx=>by rw[←c3]at hx;obtain⟨q,hq,rfl⟩:=List.mem_map.1 hx;exact⟨q,hq,rfl⟩
 have Bj:recs.Pairwise fun q r=>reach ops 4 r.o q.i=true∨q.o.apart ops r.o=true:=by rw[←c3,List.pairwise_map]at i2;exact i2
 have VP:recs.Pairwise (Rf (ops:=ops)):=by
  rcases iw with hm|hm
  ·exact List.Pairwise.imp_of_mem (fun{q r}hq hr _=>.inr ⟨fun id b hb=>(by rw[(c5.one hm q hq).1]at hb;cases hb),fun id b hb=>(by rw[(c5.one hm r hr).1]at hb;cases hb)⟩) Bj
  ·exact c5.ord hm
 refine Q6 (E:=E) (w0:=w0) (recs:=recs) (f0:=f) (m0:=m) (base:=base) ?_ (fun q hq=>hmz _ (bO q hq)) (fun q hq=>Q7 _ (bO q hq)) (fun i o ho hbi cT=>?_) ?_ c5.kl c5.cln (fun q hq e he Et=>⟨i3 _ (bO q hq) e he Et,?_⟩) c4 ?_ aal aj hs hc sd (fun i hi=>(hb i).2 hi) (fun i hi=>Or.inl ((hb i).1 hi)) μ φ a w ?_
 ·rw[←c3,List.map_map]at VO;have h2:(recs.map (Prod.fst∘fun r=>(r.i,r.o))).Pairwise (·<·):=VO;rw[List.pairwise_map]at h2;exact h2
 ·have aeh:∀x∈l,x.1≠i:=fun x hx e=>by obtain⟨q,hq,Q9⟩:=hof x hx;exact cT q hq (by rw[Q9];exact e)
  rcases Q8 i o ho hbi aeh with h1|⟨j,h1,h2,h3⟩
  ·exact Or.inl fun q hq=>h1 _ (bO q hq)
  ·exact Or.inr ⟨j,h1,h2,fun q hq=>h3 _ (bO q hq)⟩
 ·refine List.Pairwise.imp (fun{q r}h=>?_) (List.Pairwise.and Bj VP);obtain⟨h1,h2⟩:=h;rcases h1 with h1|h1
  ·exact .inl h1
  ·rcases h2 with h2|h2
   ·exact .inl h2
   ·exact .inr ⟨h1,h2⟩
 ·rcases aeg _ (bO q hq) e he Et with h1|⟨y,hy,h1⟩
  ·exact Or.inl h1
  ·obtain⟨q',NY,Q9⟩:=hof y hy;exact Or.inr ⟨q',NY,by rw[Q9];exact h1⟩
 ·intro VQ MH WY CO aei pB μ2 φ2 a2 w2 Dv;refine hQ VQ MH WY CO aei (fun i=>?_) _ _ μ2 φ2 a2 w2 c1 (Dv.weaken c2);rw[pB i];constructor
  ·rintro(h1|⟨q,hq,h1⟩)
   ·exact Or.inl h1
   ·exact Or.inr ⟨_,bO q hq,h1⟩
  ·rintro(h1|⟨x,hx,h1⟩)
   ·exact Or.inl h1
   ·obtain⟨q,hq,Q9⟩:=hof x hx;exact Or.inr ⟨q,hq,by rw[Q9];exact h1⟩
 ·have hS:∀q∈recs,aB aj q.i=false:=fun q hq=>by
   cases hx:aB aj q.i with
   |false=>rfl
   |true=>have:=(hb q.i).1 hx;rw[Q7 _ (bO q hq)]at this;cases this
  rw[show mE (aB aj) f recs=f from funext fun t=>nS fun q hq hs=>(by rw[hS q hq]at hs;cases hs),show mF (aB aj) m recs=m from funext fun t=>nT fun q hq hs=>(by rw[hS q hq]at hs;cases hs)];exact hR
variable{x:Nat×Oper}
theorem wa(hx:x∈(List.range ops.size).zip ops.toList):ops[x.1]?=some x.2:=by have:=(qw (l:=ops.toList) (i:=x.1) (o:=x.2)).1 (by simpa using hx);rwa[Array.getElem?_toList]at this
theorem oK(ho:ops[i]?=some o):(i,o)∈(List.range ops.size).zip ops.toList:=by have:=(qw (l:=ops.toList) (i:=i) (o:=o)).2 (by rw[Array.getElem?_toList];exact ho);simpa using this
theorem AB:((List.range ops.size).zip ops.toList).map Prod.fst=List.range ops.size:=by rw[List.map_fst_zip (by simp)]
variable{P:Program}
theorem BW{F:Fence}{n:Nat}{aj:Array Bool}(hs:aj.size=ops.size)(Ag:∀i o,ops[i]?=some o→aB aj i=true)(hq:Q .normal a w):wpAnyIn F n P .any ops Q fuel aj a w:=by
 have hr:Region.ready .any ops aj=[]:=by
  apply List.eq_nil_iff_forall_not_mem.2;intro j hj;obtain⟨h0,o,ho,_⟩:=mem_ready.1 hj;have h1:=Ag j o ho;have br:j<aj.size:=by rw[hs];exact(Array.getElem?_eq_some_iff.1 ho).1
  simp only[aB,Array.getD_eq_getD_getElem?,Array.getElem?_eq_getElem br,Option.getD_some]at h0 h1;rw[h0]at h1;cases h1
 cases fuel with
 |zero=>exact⟨hr,hq⟩
 |succ fuel=>exact⟨fun _=>hq,fun i hi=>by rw[hr]at hi;cases hi⟩
theorem tI(n j:Nat):aB (Array.replicate n false) j=false:=by simp only[aB,Array.getD_eq_getD_getElem?,Array.getElem?_replicate];split<;>rfl
theorem count_le(n:Nat):(Array.replicate n false).toList.countP (fun b=> !b)≤n:=by have:=List.countP_le_length (p:=fun b=> !b) (l:=(Array.replicate n false).toList);simpa using this
theorem zw:v7 ops (Array.replicate ops.size false):=fun i o _ h=>by rw[tI]at h;cases h
theorem BX(hE:iK E)(hY:qS E.P E.aI E.fn.ntmps E.yl w0){mode:Nat}(iw:mode=1∨mode=2)(PW:mode=1→∀o∈ops,eV o=true){k:Fr→Mem→Option R}{r:R}(hi:mf ops [] ((List.range ops.size).zip ops.toList)=true)(h:cq E ops mode fuel R [] ((List.range ops.size).zip ops.toList) f m [] k=some r){μ:Ro}(hR:Rel E.P E.aI E.fn.ntmps w0 μ φ f m a w)(hQ:∀f' m' μ' φ' a' w',k f' m'=some r→Rel E.P E.aI E.fn.ntmps w0 μ' φ' f' m' a' w'→Q .normal a' w'):wpAnyIn (FR rd) 0 E.P .any ops Q ops.size (Array.replicate ops.size false) a w:=by
 refine tH (w0:=w0) (base:=fun _=>false) hE hY iw (fun hm x hx=>PW hm x.2 (Array.mem_of_getElem? (wa hx))) (fun x hx=>wa hx) (by rw[AB];exact List.pairwise_lt_range) (fun _ _=>rfl) (fun i o ho _ cT=>absurd rfl (cT _ (oK ho))) (fun x hx e he hb=>Or.inr ?_) hi h ?_ ops.size _ (by simp) (count_le _) zw (fun i=>by rw[tI]) μ φ a w hR
 ·obtain⟨_,_,i3⟩:=tG hi;have h1:=i3 x hx e he hb;have h2:x.1<ops.size:=(Array.getElem?_eq_some_iff.1 (wa hx)).1;exact⟨_,oK (Array.getElem?_eq_getElem (show e.on<ops.size by omega)),rfl⟩
 ·intro VQ MH WY _ _ pB f' m' μ2 φ2 a2 w2 hk Dv;exact BW WY (fun i o ho=>(pB i).2 (Or.inr ⟨_,oK ho,rfl⟩)) (hQ _ _ _ _ _ _ hk Dv)
theorem xf{j:Nat}(h:((List.range ops.size).zip ops.toList)[j]?=some x):x.1=j:=by
 have h1:(((List.range ops.size).zip ops.toList).map Prod.fst)[j]?=some x.1:=by rw[List.getElem?_map,h];rfl
 rw[AB]at h1;obtain⟨h2,h3⟩:=List.getElem?_eq_some_iff.1 h1;rw[List.getElem_range]at h3;exact h3.symm
theorem mG{p:Nat}:x∈((List.range ops.size).zip ops.toList).take p↔x∈(List.range ops.size).zip ops.toList∧x.1<p:=by
 constructor
 ·intro h;obtain⟨j,hj⟩:=List.getElem?_of_mem h;have hjp:j<p:=by have:=(List.getElem?_eq_some_iff.1 hj).1;simp at this;omega
  rw[List.getElem?_take_of_lt hjp]at hj;exact⟨List.mem_of_getElem? hj,by rw[xf hj];exact hjp⟩
 ·rintro⟨h,hx⟩;obtain⟨j,hj⟩:=List.getElem?_of_mem h;have:=xf hj;exact List.mem_of_getElem? (i:=j) (by rw[List.getElem?_take_of_lt (by omega)];exact hj)
theorem re{p:Nat}:x∈((List.range ops.size).zip ops.toList).drop p↔x∈(List.range ops.size).zip ops.toList∧p≤x.1:=by
 constructor
 ·intro h;obtain⟨j,hj⟩:=List.getElem?_of_mem h;rw[List.getElem?_drop]at hj;exact⟨List.mem_of_getElem? hj,by rw[xf hj];omega⟩
 ·rintro⟨h,hx⟩;obtain⟨j,hj⟩:=List.getElem?_of_mem h;have:=xf hj;exact List.mem_of_getElem? (i:=j-p) (by rw[List.getElem?_drop,show p+(j-p)=j by omega];exact hj)
variable{K:Act→World→Prop}{Q':Exit→Act→World→Prop}
theorem Oper.Jl{F:Fence}{n:Nat}(h:∀e a w,e≠.normal→Q' e a w→Q e a w)(hh:o.wpIn F n P a w K Q'):o.wpIn F n P a w K Q:=by
 unfold Oper.wpIn at*;refine⟨hh.1,?_⟩;have hh:=hh.2;have aam:LetsOut Q'→LetsOut Q:=fun⟨a,w,hq⟩=>⟨a,w,h _ _ _ (by simp) hq⟩;generalize (o.semAt F.round a.eval).run P w=r at*;cases r with
 |ok x w'=>
  cases x<;>simp only[Oper.uponIn]at hh⊢<;>first
   |exact hh
   |exact⟨hh.1,CallsIn.mono hh.2 (fun e w'' he=>by cases e<;>first|exact aam he|exact h _ _ _ (by simp) he|exact he)⟩
   |exact⟨hh.1,RoundIn.mono hh.2 (fun e w'' he=>by cases e<;>first|exact aam he|exact h _ _ _ (by simp) he|exact he)⟩
 |halt x w'=>cases x<;>simp only[Oper.uponIn]at hh⊢<;>first|exact h _ _ _ (by simp) hh|exact hh
theorem EI{F:Fence}{n:Nat}(h:∀e a w,e≠.normal→Q' e a w→Q e a w)(hh:wpOpIn F n P ops Q' i K a w):wpOpIn F n P ops Q i K a w:=by
 unfold wpOpIn at*;split
 ·simpa[*]using hh
 ·rename_i o ho;simp only[ho]at hh;split
  ·rename_i hw;simp only[hw,if_true]at hh;exact Oper.Jl h hh
  ·rename_i hw;simp only[hw]at hh;exact hh
theorem Jm(hE:iK E)(hY:qS E.P E.aI E.fn.ntmps E.yl w0){p:Nat}(Oz:Qi ops p=true){k:Fr→Mem→Option R}{r:R}(Xo:mf ops [] (((List.range ops.size).zip ops.toList).take p)=true)(hi3:mf ops [] (((List.range ops.size).zip ops.toList).drop (p+1))=true){n1 n2 n3:Nat}(h:(cq E ops 2 n1 R [] (((List.range ops.size).zip ops.toList).take p) f m [] fun f m=>cq E ops 0 n2 R [] ((((List.range ops.size).zip ops.toList).drop p).take 1) f m [] fun f m=>cq E ops 2 n3 R [] (((List.range ops.size).zip ops.toList).drop (p+1)) f m [] k)=some r){μ:Ro}(hR:Rel E.P E.aI E.fn.ntmps w0 μ φ f m a w)(hQ:∀f' m' μ' φ' a' w',k f' m'=some r→Rel E.P E.aI E.fn.ntmps w0 μ' φ' f' m' a' w'→Q .normal a' w'):wpAnyIn (FR rd) 0 E.P .any ops Q ops.size (Array.replicate ops.size false) a w:=by
 unfold Qi at Oz;cases ho:ops[p]? with
 |none=>rw[ho]at Oz;cases Oz
 |some o=>
  rw[ho]at Oz;simp only[Bool.and_eq_true]at Oz;obtain⟨⟨_,CR⟩,Y1⟩:=Oz;have hpn:p<ops.size:=(Array.getElem?_eq_some_iff.1 ho).1;have ME:∀e∈o.after,Region.binds .any e=true→e.on<p:=fun e he hb=>by have:=List.all_eq_true.1 CR e (Array.mem_toList_iff.2 he);rw[hb,Bool.not_true,Bool.false_or]at this;exact Nat.le_of_ble_eq_true this
  have aej:∀i,i<p→reach ops 8 o i=true:=fun i hi=>by
   have:=List.all_eq_true.1 Y1 _ (oK (Array.getElem?_eq_getElem (show i<ops.size by omega)));simp only at this;have hb:Nat.blt i p=true:=by simp[Nat.blt];omega
   rw[hb]at this;exact this
  have aan:∀i o',ops[i]?=some o'→p<i→reach ops 8 o' p=true:=fun i o' Ov hi=>by
   have:=List.all_eq_true.1 Y1 _ (oK Ov);simp only at this;have hb:Nat.blt i p=false:=by
    cases hx:Nat.blt i p with
    |false=>rfl
    |true=>have:i<p:=Nat.le_of_ble_eq_true hx;omega
   have pB:Nat.beq i p=false:=by
    cases hx:Nat.beq i p with
    |false=>rfl
    |true=>have:=Nat.eq_of_beq_eq_true hx;omega
   rw[hb,pB]at this;simpa using this
  refine tH (w0:=w0) (base:=fun _=>false) hE hY (.inr rfl) (fun h=>by cases h) (fun x hx=>wa (mG.1 hx).1) (by rw[List.map_take,AB];exact(List.pairwise_lt_range).sublist (List.take_sublist _ _)) (fun _ _=>rfl) (fun i o' Ov _ cT=>?_) (fun x hx e he hb=>Or.inr ?_) Xo h ?_ ops.size _ (by simp) (count_le _) zw (fun i=>by rw[tI]) μ φ a w hR
  ·have hip:¬i<p:=fun hc=>cT _ (mG.2 ⟨oK Ov,hc⟩) rfl;by_cases hi:i=p
   ·subst hi;rw[ho]at Ov;cases Ov;exact Or.inl fun x hx=>aej _ (mG.1 hx).2
   ·exact Or.inr ⟨p,aan i o' Ov (by omega),rfl,fun x hx=>by have:=(mG.1 hx).2;omega⟩
  ·obtain⟨_,_,i3⟩:=tG Xo;have h1:=i3 x hx e he hb;have h2:=(mG.1 hx).2;exact⟨_,mG.2 ⟨oK (Array.getElem?_eq_getElem (show e.on<ops.size by omega)),by show e.on<p;omega⟩,rfl⟩
  ·intro fuel aj hs hc sd hb f1 m1 μ1 φ1 a1 w1 Ob Jh;have br:∀i,aB aj i=true↔i<p:=fun i=>by
    rw[hb i];constructor
    ·rintro(h|⟨x,hx,rfl⟩)
     ·cases h
     ·exact(mG.1 hx).2
    ·intro hi;exact Or.inr ⟨_,mG.2 ⟨oK (Array.getElem?_eq_getElem (show i<ops.size by omega)),hi⟩,rfl⟩
   have l0:p<aj.size:=by rw[hs];exact hpn
   have hpu:aB aj p=false:=by
    cases hx:aB aj p with
    |false=>rfl
    |true=>have:=(br p).1 hx;omega
   have Xp:aj[p]=false:=by simpa only[aB,Array.getD_eq_getD_getElem?,Array.getElem?_eq_getElem l0,Option.getD_some]using hpu
   cases fuel with
   |zero=>have:=List.countP_eq_zero.1 (Nat.le_zero.1 hc) aj[p] (by simp);rw[Xp]at this;simp at this
   |succ fuel=>
    have Rl:p∈Region.ready .any ops aj:=mem_ready.2 ⟨by simp only[Array.getD_eq_getD_getElem?,Array.getElem?_eq_getElem l0,Option.getD_some];exact Xp,o,ho,fun e he Et=>(br e.on).2 (ME e he Et)⟩;refine⟨(fun h0=>by rw[h0]at Rl;cases Rl),fun i hi=>?_⟩;obtain⟨Ou,o',Ov,yA⟩:=mem_ready.1 hi;have pS:i<aj.size:=by rw[hs];exact(Array.getElem?_eq_some_iff.1 Ov).1
    have hiu:aB aj i=false:=by simp only[aB,Array.getD_eq_getD_getElem?,Array.getElem?_eq_getElem pS,Option.getD_some]at Ou⊢;exact Ou
    have hip:i=p:=by
     refine Classical.byContradiction fun cT=>?_;have h1:¬i<p:=fun hc=>by rw[(br i).2 hc]at hiu;cases hiu
     have:=oJ aj sd 8 o' p yA (aan i o' Ov (by omega));rw[hpu]at this;cases this
    subst hip;have hL:(((List.range ops.size).zip ops.toList).drop i).take 1=[(i,o)]:=by
     have hlen:i<((List.range ops.size).zip ops.toList).length:=by simp;exact hpn
     rw[List.drop_eq_getElem_cons hlen];have hg:((List.range ops.size).zip ops.toList)[i]=(i,o):=by have h1:((List.range ops.size).zip ops.toList)[i]?=some ((List.range ops.size).zip ops.toList)[i]:=List.getElem?_eq_getElem hlen;have h2:=xf h1;have h3:=wa (List.mem_of_getElem? h1);rw[h2,ho]at h3;exact Prod.ext h2 (Option.some.inj h3).symm
     rw[hg];rfl
    rw[hL]at Ob;have VL:∀j,aB (aj.setIfInBounds i true) j=if j=i then true else aB aj j:=fun j=>by
     simp only[aB,Array.getD_eq_getD_getElem?,Array.getElem?_setIfInBounds];by_cases e:i=j
     ·subst e;simp[l0]
     ·have e':¬j=i:=fun h=>e h.symm;simp[e,e']
    have hle:∀j,aB (aj.setIfInBounds i true) j=true↔j≤i:=fun j=>by
     rw[VL];by_cases e:j=i
     ·simp[e]
     ·rw[if_neg e,br];omega
    have aao:=gy (rd:=rd) (w0:=w0) hE hY _ (.inl rfl) Ob (by intro x hx;rw[List.mem_singleton]at hx;subst hx;exact ho) (by intro x hx g hg;cases hg) (fun h=>by cases h) μ1 φ1 a1 w1 (fun e a w=>(e=.normal∧wpAnyIn (FR rd) 0 E.P .any ops Q fuel (aj.setIfInBounds i true) a w)∨(e≠.normal∧Q e a w)) [] Jh (by intro g hg;cases hg) fun f2 m2 μ2 φ2 a2 w2 T6 Dv _ _=>Or.inl ⟨rfl,?_⟩
    ·rw[List.append_nil,List.map_cons,List.map_nil,wpOpsIn_cons]at aao;refine wpOpIn_mono (fun a w hq=>?_) (EI (fun e a w cT hq=>?_) aao)
     ·rcases hq with⟨_,h⟩|⟨h,_⟩
      ·exact h
      ·exact absurd rfl h
     ·rcases hq with⟨h,_⟩|⟨_,h⟩
      ·exact absurd h cT
      ·exact h
    ·refine tH (w0:=w0) (base:=fun j=>decide (j≤i)) hE hY (.inr rfl) (fun h=>by cases h) (fun x hx=>wa (re.1 hx).1) (by rw[List.map_drop,AB];exact(List.pairwise_lt_range).sublist (List.drop_sublist _ _)) (fun x hx=>by have:=(re.1 hx).2;simp;omega) (fun j oj hj hbj cT=>?_) (fun x hx e he Et=>?_) hi3 T6 ?_ fuel _ (by simp[hs]) ?_ ?_ (fun j=>by rw[hle j];simp) μ2 φ2 a2 w2 Dv
     ·simp only[decide_eq_false_iff_not]at hbj;exact absurd rfl (cT _ (re.2 ⟨oK hj,by show i+1≤j;omega⟩))
     ·obtain⟨_,_,i3⟩:=tG hi3;have h1:=i3 x hx e he Et;have h2:x.1<ops.size:=(Array.getElem?_eq_some_iff.1 (wa (re.1 hx).1)).1;by_cases hei:e.on≤i
      ·exact Or.inl (by simpa using hei)
      ·exact Or.inr ⟨_,re.2 ⟨oK (Array.getElem?_eq_getElem (show e.on<ops.size by omega)),by show i+1≤e.on;omega⟩,rfl⟩
     ·intro agm adO hs3 _ _ hb3 f3 m3 μ3 φ3 a3 w3 Y2 hR3;refine BW hs3 (fun j oj hj=>(hb3 j).2 ?_) (hQ _ _ _ _ _ _ Y2 hR3);by_cases I9:j≤i
      ·exact Or.inl (by simpa using I9)
      ·exact Or.inr ⟨_,re.2 ⟨oK hj,by show i+1≤j;omega⟩,rfl⟩
     ·rw[Array.toList_setIfInBounds,List.countP_set (by simpa using l0)];have:aj.toList[i]'(by simpa using l0)=false:=by simpa using Xp
      rw[this];simp only[Bool.not_false,if_true,Bool.not_true,Bool.false_eq_true,if_false];omega
     ·intro j oj hj hlj e he Et;rw[hle]at hlj⊢;by_cases I9:j=i
      ·subst I9;rw[ho]at hj;cases hj;have:=ME e he Et;omega
      ·have h1:=sd j oj hj ((br j).2 (by omega)) e he Et;have:=(br e.on).1 h1;omega
end
end Go.Ab
