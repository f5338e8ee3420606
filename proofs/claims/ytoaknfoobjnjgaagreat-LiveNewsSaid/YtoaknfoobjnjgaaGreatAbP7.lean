import Derived.Test.YtoaknfoobjnjgaaGreatAbP6
import Derived.OrdersIn
set_option linter.all false
namespace Go.Ab
open Go.RowKit (Below)
def yO(f F:Fr):Prop:=∀t,f t=F t∨f t=.top
theorem yO.refl(f:Fr):yO f f:=fun _=>.inl rfl
theorem yO.put{f F:Fr}(h:yO f F)(d:Option Nat)(v:V):yO (iQ f d v) (iQ F d v):=by
 intro t;cases d with
 |none=>exact h t
 |some d=>
  simp only[iQ,gJ];cases Nat.beq t d
  ·exact h t
  simp
theorem dI{f:Fr}{d:Option Nat}{v:V}{t:Nat}(h:d≠some t):iQ f d v t=f t:=by
 cases d with
 |none=>rfl
 |some d=>exact ur (fun e=>h (by rw[e]))
theorem iV{f:Fr}{v:V}{t:Nat}:iQ f (some t) v t=v:=by simp[iQ,gJ,Nat.beq_refl]
section
variable {E:Env} {ops:Array Oper} {w0:bu}
variable{nt:Nat}{μ:Ro}{φ:Nat→aH}{f:Fr}{m:Mem}{a:Act}
theorem Rel.weaken{f':Fr}{w:World}(h:Rel E.P E.az nt w0 μ φ f m a w)(hf:yO f' f):Rel E.P E.az nt w0 μ φ f' m a w:=
 {h with
  fr:=fun t=>by
   rcases hf t with e|e
   ·rw[e];exact h.fr t
   ·rw[e];exact .top,
  live:=fun t id hid=>by
   rcases hf t with e|e
   ·rw[e]at hid;exact h.live t id hid
   simp_all}
variable{t:Nat}
theorem Jd{d:Nat}{y:Value}(hd:d<a.tmps.size):(a.put (some d) y).tmps.getD t undef=if t=d then y else a.tmps.getD t undef:=by simp only[Act.put,am8,aor];grind
theorem Rel.put{nt:Nat}{μ μ':Ro}{φ φ':Nat→aH}{f f':Fr}{m m':Mem}{a:Act}{w w':World}(h:Rel E.P E.az nt w0 μ φ f m a w)(hle:Pe μ μ'){dst:Option Nat}{v:V}{y:Value}(hd:∀d,dst=some d→d<nt)(hM:aA E.P E.az w0 μ' φ' m' w')(hF:cd E.P μ' φ' m' f' (bV nt w0 a))(hv:an E.P μ' φ' v y)(hl:∀id,v.has id=true→(m' id).isSome=true):Rel E.P E.az nt w0 μ' φ' (iQ f' dst v) m' (a.put dst y) w':=by
 refine{toaA:=hM,size:=?_,defers:=?_,lj:=h.lj,fr:=fun t=>?_,live:=fun t id hid=>?_}
 ·cases dst<;>simp[Act.put,h.size]
 ·cases dst<;>exact h.defers.mono hle
 ·cases dst with
  |none=>exact hF.fr t
  |some d=>
   have bF:d<a.tmps.size:=by rw[h.size];exact hd d rfl
   have hf:=hF.fr t;by_cases e:t=d
   ·subst e;rw[rI (hd t rfl),Jd bF,No rfl,iV];omega
   ·rw[dI (by grind)];unfold bV at hf⊢;split
    ·rename_i ht;rw[No ht]at hf;rw[Jd bF,QU e];omega
    simp_all
 ·by_cases e:dst=some t
  ·grind [iV,id]
  ·rw[dI e]at hid;exact hF.live t id hid
theorem adL(h:t<E.fn.ntmps):bJ E f (.tmp t)=f t:=by simp only[bJ];rw[show Nat.blt t E.fn.ntmps=true by rw[ao9];omega];rfl
theorem Je{p:PV}(h:bJ E f (.tmp t)=.pv p):t<E.fn.ntmps∧f t=.pv p:=by grind [bJ,Nat.blt,Nat.blt_eq]
theorem ZN{F:Fr}(h:yO f F)(q:Operand):bJ E f q=bJ E F q∨bJ E f q=.top:=by
 cases q with
 |tmp t=>
  simp only[bJ];cases Nat.blt t E.fn.ntmps with
  |true=>exact h t
  |false=>simp
 |_=>exact .inl rfl
def uD(nt:Nat)(ops:Array Oper)(A:List (Nat×Bool))(f:Fr):Prop:=∀g∈A,∃t,(ops[g.1]?).bind (·.dst)=some t∧t<nt∧f t=.pv (.bool g.2)
def EC(ops:Array Oper)(A:List (Nat×Bool))(a:Act):Prop:=∀g∈A,∃t,(ops[g.1]?).bind (·.dst)=some t∧a.tmps.getD t undef=.bool g.2
def afU(ops:Array Oper)(A:List (Nat×Bool))(l:List (Nat×Oper)):Prop:=∀x∈l,∀g∈A,∀t,(ops[g.1]?).bind (·.dst)=some t→x.2.dst≠some t
variable{d:Option Nat}{A:List (Nat×Bool)}
theorem uD.put(h:uD nt ops A f){v:V}(hd:∀g∈A,∀t,(ops[g.1]?).bind (·.dst)=some t→d≠some t):uD nt ops A (iQ f d v):=by intro g hg;obtain⟨t,h1,h0,h2⟩:=h g hg;grind [dI]
variable{o:Oper}
theorem gP(h:Aj E o=true):∀d,o.dst=some d→d<E.fn.ntmps:=by grind [Aj,Nat.blt_eq]
variable{b:Bool}
theorem zf{j:Nat}(h:(ops[j]?).bind (·.dst)=some t)(hb:a.tmps.getD t undef=.bool b):yielded ops a.tmps j=some b:=by
 simp only[yielded,h,aoe];have:a.tmps[t]?=some (.bool b):=by rw[am8]at hb;grind [undef]
 rw[this]
theorem FY(ho:guardOf o A=none)(hA:EC ops A a):Region.wanted o (yielded ops a.tmps)=true:=by
 unfold guardOf at ho;unfold Region.wanted;split at ho
 ·rename_i hg;simp[hg]
 ·rename_i g hg;split at ho
  ·rename_i bk;obtain⟨t,h1,h2⟩:=hA g (by simpa using bk);simp_all[zf]
  ·cases ho
theorem EC.put(h:EC ops A a){y:Value}(hs:∀t,d=some t→t<a.tmps.size)(hd:∀g∈A,∀t,(ops[g.1]?).bind (·.dst)=some t→d≠some t):EC ops A (a.put d y):=by
 intro g hg;obtain⟨t,h1,h2⟩:=h g hg;refine⟨t,h1,?_⟩;cases d with
 |none=>exact h2
 |some d=>rw[Jd (hs d rfl),QU fun e=>hd g hg t h1 (by rw[e])];omega
def WY(ops:Array Oper)(f:Fr)(o:Oper):Prop:=∃g,o.guard=some g∧∀t,(ops[g.1]?).bind (·.dst)=some t→f t=.aI []∨f t=.pv (.bool (!g.2))
theorem WZ{P:Program}{x:Value}(h:an P μ φ (.aI []) x):x=undef:=by
 cases h with
 | @aI _ xs h1 _=>have:xs= #[]:=aqi (by simpa using h1.symm);subst this;rfl
theorem Jf{P:Program}:an P μ φ (.aI []) undef:=.aI rfl (by simp)
theorem C6{w:World}(h:Rel E.P E.az nt w0 μ φ f m a w)(hd:WY ops f o):Region.wanted o (yielded ops a.tmps)=false:=by
 obtain⟨g,hg,ht⟩:=hd;simp only[Region.wanted,hg];cases hs:(ops[g.1]?).bind (·.dst)with
 |none=>simp[yielded,hs]
 |some t=>
  have hy:nt≤t→yielded ops a.tmps g.1=none:=fun hle=>by simp only[yielded,hs,aoe];rw[aqR (by rw[h.size];omega)]
  by_cases G2:nt≤t
  ·rw[hy G2];rfl
  have bF:t<nt:=Nat.lt_of_not_le G2;have h3:=h.fr t;rw[rI bF]at h3;rcases ht t hs with e|e
  ·rw[e]at h3;have h4:=WZ h3;have:yielded ops a.tmps g.1=none:=by
    simp only[yielded,hs,aoe];rw[am8]at h4;cases e:a.tmps[t]? with
    |none=>rfl
    |some x=>rw[e]at h4;simp only[aoD]at h4;subst h4;rfl
   rw[this];rfl
  ·rw[e]at h3;rw[zf hs (uB h3)];simp
theorem zg{t:Nat}:∀{l:List (Nat×Oper)}{f:Fr},(∀x∈l,x.2.dst≠some t)→jt f l t=f t
 |[],_,_=>rfl
 |x::r,f,h=>by rw[jt,zg (fun y hy=>h y (by simp[hy])),dI (h x (by simp))]
theorem iW{t:Nat}:∀{l:List (Nat×Oper)}{f:Fr},(∀x∈l,x.2.dst≠some t)→b8 f l t=f t
 |[],_,_=>rfl
 |x::r,f,h=>by rw[b8,iW (fun y hy=>h y (by simp[hy])),dI (h x (by simp))]
theorem nW{t:Nat}:∀{l:List (Nat×Oper)}{f:Fr},(f t=.top∨∃x∈l,x.2.dst=some t)→b8 f l t=.top
 |[],_,h=>by
  rcases h with h|⟨x,hx,_⟩
  ·exact h
  ·cases hx
 |x::r,f,h=>by
  rw[b8];by_cases e:x.2.dst=some t
  ·simp_all[nW,iV]
  ·refine nW ?_;rcases h with h|⟨y,hy,hd⟩
   ·simp_all[dI]
   grind
theorem Cu{l:List (Nat×Oper)}{F:Fr}(h:∀t,(∀x∈l,x.2.dst≠some t)→f t=F t∨f t=.top):yO (b8 f l) F:=by intro t;grind [nW,iW]
theorem ED{g:Nat×Bool}{tj:Nat}(hj:(ops[g.1]?).bind (·.dst)=some tj):∀{l:List (Nat×Oper)}{done:List Nat}{f:Fr},AM g done l=true→(∀x∈l,ops[x.1]?=some x.2)→(∀x∈l,x.2.dst≠some tj)→f tj=.pv (.bool (!g.2))→(∀j∈done,∀t,(ops[j]?).bind (·.dst)=some t→f t=.aI [])→∀(pre post:List (Nat×Oper))(x:Nat×Oper),l=pre++x::post→WY ops (jt f pre) x.2
 |[],_,_,_,_,_,_,_,pre,post,x,h=>by simp at h
 |y::r,done,f,hg,hl,hd,hb,ZI,pre,post,x,h=>by
  simp only[AM,aeu]at hg;cases pre with
  |nil=>
   simp only[apA,ao6]at h;obtain⟨rfl,rfl⟩:=h;rw[jt];have h1:=hg.1;split at h1
   ·rename_i hh W0;refine⟨hh,W0,fun t ht=>?_⟩;rcases Bool.or_eq_true_iff.1 h1 with h2|h2
    ·simp_all
    grind
   ·cases h1
  |cons z pre=>
   simp only[apt,ao6]at h;obtain⟨rfl,h⟩:=h;rw[jt];refine ED hj hg.2 (fun x hx=>hl x (by simp[hx])) (fun x hx=>hd x (by simp[hx])) (by simp_all[dI]) (fun j hjm t ht=>?_) pre post x h;by_cases e:y.2.dst=some t
   ·rw[e,iV]
   ·rw[dI e];grind
theorem Jg{A:List (Nat×Bool)}:∀{l a b:List (Nat×Oper)},GM A l=(a,b)→l=a++b
 |[],a,b,h=>by simp[GM]at h;simp_all
 |x::r,a,b,h=>by
  simp only[GM]at h;split at h
  ·cases hs:GM A r with
   |mk a' b'=>rw[hs]at h;simp only[afu]at h;obtain⟨rfl,rfl⟩:=h;rw[Jg hs];rfl
  simp_all
theorem EE{v:V}(h:CS v=some b):v=.pv (.bool b):=by unfold CS at h;grind
theorem ae0(hE:jM E){site:Nat}{draw:Bool}{v:V}{f':Fr}{m':Mem}{ft:bB}(hn:draw=true∨∃c x y,o.op=.pick c x y)(h:∀(R':Type)(k':V→Fr→Mem→bB→Option R'),Ov E draw site o f m k'=k' v f' m' ft):zd E draw site o f m v f' m' ft:=by
 have hx:=Na hE (h (V×Fr×Mem×bB) fun v f m ft=>some (v,f,m,ft));rcases hx with⟨v1,f1,m1,ft1,h1,h2⟩|⟨h1,h2,_⟩
 rotate_left
 ·simp_all
 simp_all
theorem Pf{R:Type}{site:Nat}{draw:Bool}{p:Oper}{c:Nat}{x y:Operand}{k:V→Fr→Mem→bB→Option R}(hp:p.op=.pick (.tmp c) x y)(hb:bJ E f (.tmp c)=.pv (.bool b)):Ov E draw site p f m k=k (bJ E f (if b then x else y)) f m []:=by
 have wW:Dj E site p f m=none:=by simp only[Dj,hp]
 unfold Ov;rw[wW];have e:(bif draw then none else bif E.Fs site then(none:Option Sp)else none)=none:=by simp
 rw[e];simp only[cg,hp,hb];cases b<;>rfl
end
section
variable {E:Env} {ops:Array Oper} {w0:bu}
theorem A3{rd:Option Nat}{Q:Exit→Act→World→Prop}{tail:List Nat}:∀(l:List (Nat×Oper))(f:Fr),(∀x∈l,ops[x.1]?=some x.2)→(∀x∈l,Aj E x.2=true)→(∀(pre post:List (Nat×Oper))(x:Nat×Oper),l=pre++x::post→WY ops (jt f pre) x.2)→∀{μ:Ro}{φ:Nat→aH}{m:Mem}{a:Act}{w:World},Rel E.P E.az E.fn.ntmps w0 μ φ f m a w→∀(A:List (Nat×Bool)),EC ops A a→afU ops A l→(∀a',Rel E.P E.az E.fn.ntmps w0 μ φ (jt f l) m a' w→EC ops A a'→wpOpsIn (FR rd) 0 E.P ops Q tail a' w)→wpOpsIn (FR rd) 0 E.P ops Q (l.map (·.1)++tail) a w
 |[],f,_,_,_,_,_,_,a,_,hR,_,hA,_,hK=>hK a hR hA
 |x::r,f,hl,hd,EF,μ,φ,m,a,w,hR,A,hA,Jh,hK=>by simp only[aog,apt,wpOpsIn];rw[hl x (by simp)];simp only;rw[C6 hR (EF [] r x rfl)];simp only[AI,OF];refine And.intro (fun _ _=>trivial) (A3 r (iQ f x.2.dst (.aI [])) (fun y hy=>hl y (by simp[hy])) (fun y hy=>hd y (by simp[hy])) (fun pre post y h=>?_) (hR.put (fun _ _ h=>h) (gP (hd x (by simp))) hR.toaA hR.kO Jf (fun id hid=>by simp[V.has,cp]at hid)) A (hA.put (fun t ht=>by rw[hR.size];exact gP (hd x (by simp)) t ht) fun g th t ht=>Jh x (by simp) g th t ht) (fun y hy=>Jh y (by simp[hy])) hK);have:=EF (x::pre) post y (by rw[h];rfl);rwa[jt]at this
theorem Dz:∀{ft:bB},Em ft=true→∀x∈ft,x.1=false
 |[],_,x,hx=>by cases hx
 |(w,id)::r,h,x,hx=>by
  simp only[Em,aeu,aou]at h;rcases aoc.1 hx with rfl|hx
  ·exact h.1
  ·exact Dz h.2 x hx
theorem jq(hE:jM E){rd:Option Nat}(hY:tA E.P E.az E.fn.ntmps E.yl w0):∀(fuel:Nat){mode:Nat}(nX:mode=0∨mode=3){R:Type}{A:List (Nat×Bool)}{l:List (Nat×Oper)}{f:Fr}{m:Mem}{lg:Log}{k:Fr→Mem→Option R}{r:R},cA E ops mode fuel R A l f m lg k=some r→(∀x∈l,ops[x.1]?=some x.2)→afU ops A l→(mode=3→∀x∈l,fH x.2=true)→∀(μ:Ro)(φ:Nat→aH)(a:Act)(w:World)(Q:Exit→Act→World→Prop)(tail:List Nat),Rel E.P E.az E.fn.ntmps w0 μ φ f m a w→EC ops A a→(∀(f':Fr)(m':Mem)(μ':Ro)(φ':Nat→aH)(a':Act)(w':World),k f' m'=some r→Rel E.P E.az E.fn.ntmps w0 μ' φ' f' m' a' w'→EC ops A a'→(mode=3→m'=m∧∀t,(∀x∈l,x.2.dst≠some t)→f' t=f t)→wpOpsIn (FR rd) 0 E.P ops Q tail a' w')→wpOpsIn (FR rd) 0 E.P ops Q (l.map (·.1)++tail) a w
 |0,_,_,_,_,_,_,_,_,_,_,h,_,_,_,_,_,_,_,_,_,_,_,_=>by simp[cA]at h
 |fuel+1,mode,nX,R,A,[],f,m,lg,k,r,h,_,_,_,μ,φ,a,w,Q,tail,hR,hA,hK=>by simp only[cA]at h;grind
 |fuel+1,mode,nX,R,A,(i,o)::rest,f,m,lg,k,r,h,hl,Jh,YM,μ,φ,a,w,Q,tail,hR,hA,hK=>by
  simp only[cA]at h;split at h
  ·rename_i hg;split at h
   ·rename_i hd;have hmm:Nat.beq mode 2=false:=by rcases nX with rfl|rfl<;>rfl
    simp only[hmm,cond_false]at h;rw[←hmm]at h;have hdf:=FX h;rcases Na hE h with⟨v,f1,m1,ft,hk,LN⟩|⟨_,k8⟩
    rotate_left
    ·simp only[aog,apt,wpOpsIn];rw[hl (i,o) (by simp)];simp only;rw[FY hg hA,No rfl];refine Jc.Dy k8 rd w0 μ φ a w _ Q hY hR fun v f1 m1 y w' μ' φ' hk hle hM hF hv MU=>?_;have cG:Nat.beq mode 2=false:=by omega
     rw[cG]at hk;simp only[AI,OF]at hk;rcases nX with rfl|rfl
     ·simp only[Nat.beq,BY]at hk;exact jq hE hY fuel (.inl rfl) hk (fun x hx=>hl x (by simp[hx])) (fun x hx=>Jh x (by simp[hx])) (fun hm x hx=>YM hm x (by omega)) _ _ _ _ Q tail (hR.put hle (gP hd) hM hF hv MU) (hA.put (fun t ht=>by rw[hR.size];exact gP hd t ht) fun g th t ht=>Jh (i,o) (by simp) g th t ht) fun f' m' μ2 φ2 a' w2 qo jN Dq yN=>hK f' m' μ2 φ2 a' w2 qo jN Dq fun h=>by omega
     ·simp[Nat.beq,Em]at hk
    have cG:Nat.beq mode 2=false:=by omega
    rw[cG]at hk;simp only[AI,OF]at hk;have hq:(mode=3→f1=f∧m1=m)∧cA E ops mode fuel R A rest (iQ f1 o.dst v) m1 lg k=some r:=by
     rcases nX with rfl|rfl
     ·simp_all
     ·simp only[Nat.beq,AI,OF]at hk;split at hk
      ·rename_i hqf;exact⟨fun h=>LN.same (YM rfl (i,o) (by simp)) (Dz hqf),hk⟩
      ·cases hk
    obtain⟨ae1,hk⟩:=hq;simp only[aog,apt,wpOpsIn];rw[hl (i,o) (by simp)];simp only;rw[FY hg hA,No rfl];refine LN.Dy hdf rd w0 μ φ a w _ Q hR fun y w' μ' φ' hle hM hF hv MU=>?_;refine jq hE hY fuel nX hk (fun x hx=>hl x (by simp[hx])) (fun x hx=>Jh x (by simp[hx])) (fun hm x hx=>YM hm x (by simp[hx])) _ _ _ _ Q tail (hR.put hle (gP hd) hM hF hv MU) (hA.put (fun t ht=>by rw[hR.size];exact gP hd t ht) fun g th t ht=>Jh (i,o) (by simp) g th t ht) fun f' m' μ2 φ2 a' w2 qo jN Dq yN=>?_;refine hK f' m' μ2 φ2 a' w2 qo jN Dq fun hm3=>?_;obtain⟨e1,e2⟩:=ae1 hm3;obtain⟨e3,e4⟩:=yN hm3;refine⟨by rw[e3,e2],fun t ht=>?_⟩;rw[e4 t fun x hx=>ht x (by simp[hx]),dI (ht (i,o) (by simp)),e1]
   ·cases h
  ·rename_i j HB hg;split at h
   ·rename_i tj htj;split at h
    ·rename_i b hb;have amk:tj<E.fn.ntmps:=by grind [bJ,Nat.blt,Nat.blt_eq]
     have hbf:f tj=.pv (.bool b):=by grind [bJ,Nat.blt,Nat.blt_eq]
     have hba:a.tmps.getD tj undef=.bool b:=by have:=(au hR (.tmp tj)).1;rw[hb]at this;exact uB this
     generalize wW:GM A ((i,o)::rest)=sp at h;obtain⟨body,OQ⟩:=sp;have oL:=Jg wW;simp only at h;split at h
     ·rename_i ae2;split at h
      ·rename_i hc;simp only[aeu,aoN,aou,ap8,arn]at hc ae2;obtain⟨⟨yo,hgi⟩,aiF⟩:=hc;have hm0:mode=0:=IT ae2.1;subst hm0;have bk:∀z∈body,z∈(i,o)::rest:=fun z hz=>by rw[oL];simp[hz]
       have C7:∀z∈OQ,z∈(i,o)::rest:=fun z hz=>by rw[oL];simp[hz]
       by_cases hbp:b=HB
       ·have:Y1 HB b=true:=by subst hbp;cases b<;>rfl
        rw[this]at h;simp only[cond]at h;have hfs:gJ f tj (.pv (.bool HB))=f:=funext fun t=>by
         unfold gJ;cases e:Nat.beq t tj with
         |false=>rfl
         |true=>simp_all
        rw[hfs]at h;refine jq hE hY fuel nX h hl (fun z hz g th t ht=>?_) (fun h=>by omega) _ _ _ _ Q tail hR (fun g th=>?_) fun f' m' μ2 φ2 a' w2 qo jN Dq yN=>hK f' m' μ2 φ2 a' w2 qo jN (fun g th=>Dq g (by simp[th])) fun h=>by omega
        ·rcases aoc.1 th with rfl|th
         ·grind
         ·exact Jh z hz g th t ht
        ·rcases aoc.1 th with rfl|th
         ·simp_all
         ·exact hA g th
       ·have:Y1 HB b=false:=by cases b<;>cases HB<;>first|rfl|exact absurd rfl hbp
        rw[this]at h;simp only[cond]at h;have hbn:b= !HB:=by cases b<;>cases HB<;>simp_all
        have hfs:gJ f tj (.pv (.bool !HB))=f:=funext fun t=>by
         unfold gJ;cases e:Nat.beq t tj with
         |false=>rfl
         |true=>simp_all
        rw[hfs]at h;rw[oL,aos,aow];refine A3 body f (fun z hz=>hl z (bk z hz)) yo (ED htj hgi (fun z hz=>hl z (bk z hz)) (fun z hz=>aiF z (bk z hz)) (by rw[hbf,hbn]) (by simp)) hR A hA (fun z hz g th t ht=>Jh z (bk z hz) g th t ht) fun a' jN Dq=>?_
        ·refine jq hE hY fuel nX h (fun z hz=>hl z (C7 z hz)) (fun z hz=>Jh z (C7 z hz)) (fun h=>by omega) _ _ _ _ Q tail jN Dq fun f' m' μ2 φ2 a' w2 qo jN Dq yN=>hK f' m' μ2 φ2 a' w2 qo jN Dq fun h=>by omega
      ·cases h
     ·split at h
      ·rename_i ip p oD;split at h
       ·rename_i c x y ZO;split at h
        ·rename_i hc;simp only[aeu,aoN,aou,ap8,arn]at hc;obtain⟨⟨⟨⟨⟨⟨RY,hpg⟩,LO⟩,hgi⟩,_⟩,hpd⟩,_⟩:=hc;have RY:=IT RY;subst RY;have hpg:guardOf p A=none:=by simpa using hpg
         obtain⟨rb,hrb,h⟩:=By.1 h;have bk:∀z∈body,z∈(i,o)::rest:=fun z hz=>by rw[oL];simp[hz]
         have C7:∀z∈oD,z∈(i,o)::rest:=fun z hz=>by rw[oL];simp[hz]
         have Uf:(ip,p)∈(i,o)::rest:=by rw[oL];simp
         rw[oL,aos,aow];have after:∀(f1:Fr)(μ1:Ro)(φ1:Nat→aH)(a1:Act)(w1:World)(q:Operand),Rel E.P E.az E.fn.ntmps w0 μ1 φ1 f1 m a1 w1→EC ops A a1→(∀t,(∀z∈body,z.2.dst≠some t)→f1 t=f t)→bJ E f1 q=.pv (.bool rb)→(q=if b then x else y)→wpOpsIn (FR rd) 0 E.P ops Q (((ip,p)::oD).map (·.1)++tail) a1 w1:=by
          intro f1 μ1 φ1 a1 w1 q Fx hA1 OE hq hqe;have Rb:bJ E f1 (.tmp c)=.pv (.bool b):=by grind [bJ,Nat.blt,Nat.blt_eq]
          simp only[aog,apt,wpOpsIn];rw[hl (ip,p) Uf];simp only;rw[FY hpg hA1,No rfl];have LN:zd E (Nat.beq mode 1||Nat.beq mode 2) (cy E p.dst) p f1 m (.pv (.bool rb)) f1 m []:=ae0 hE (.inr ⟨_,_,_,ZO⟩) fun R' k'=>by rw[Pf ZO Rb,←hqe,hq]
          refine LN.Dy (fun c h=>by rw[ZO]at h;cases h) rd w0 μ1 φ1 a1 w1 _ Q Fx fun z w' μ' φ' yN hM hF hv MU=>?_;have hle:yO (iQ (b8 f body) p.dst (.pv (.bool rb))) (iQ f1 p.dst (.pv (.bool rb))):=yO.put (Cu fun t ht=>.inl (OE t ht).symm) _ _;refine jq hE hY fuel nX h (fun z hz=>hl z (C7 z hz)) (fun z hz=>Jh z (C7 z hz)) (fun hm z hz=>YM hm z (C7 z hz)) _ _ _ _ Q tail ((Fx.put yN (gP hpd) hM hF hv MU).weaken hle) (hA1.put (fun t ht=>by rw[Fx.size];exact gP hpd t ht) fun g th t ht=>Jh (ip,p) Uf g th t ht) fun f' m' μ2 φ2 a' w2 qo jN Dq yN=>?_;grind [dI,iW]
         have go:∀q,b=HB→(q=if b then x else y)→cA E ops 3 fuel Bool ((j,HB)::A) body f m lg (fun f _=>CS (bJ E f q))=some rb→wpOpsIn (FR rd) 0 E.P ops Q (body.map (·.1)++(((ip,p)::oD).map (·.1)++tail)) a w:=by
          intro q hbp hq hev;refine jq hE hY fuel (.inr rfl) hev (fun z hz=>hl z (bk z hz)) ?_ (fun _ z hz=>(LO z hz).1.1) _ _ _ _ Q _ hR ?_ fun f' m' μ2 φ2 a' w2 qo jN Dq yN=>?_
          ·intro z hz g th t ht;rcases aoc.1 th with rfl|th
           ·grind
           ·exact Jh z (bk z hz) g th t ht
          ·intro g th;rcases aoc.1 th with rfl|th
           ·simp_all
           ·exact hA g th
          ·obtain⟨e1,e2⟩:=yN rfl;subst e1;exact after f' μ2 φ2 a' w2 q jN (fun g th=>Dq g (by simp[th])) e2 (EE qo) hq
         have no:∀q,b= !HB→(q=if b then x else y)→CS (bJ E (b8 f body) q)=some rb→wpOpsIn (FR rd) 0 E.P ops Q (body.map (·.1)++(((ip,p)::oD).map (·.1)++tail)) a w:=by
          intro q hbp hq hev;refine A3 body f (fun z hz=>hl z (bk z hz)) (fun z hz=>(LO z hz).1.2) (ED htj hgi (fun z hz=>hl z (bk z hz)) (fun z hz=>(LO z hz).2) (by rw[hbf,hbp]) (by simp)) hR A hA (fun z hz g th t ht=>Jh z (bk z hz) g th t ht) fun a' jN Dq=>?_;refine after _ μ φ a' w q jN Dq (fun t ht=>zg ht) ?_ hq;have hv:=EE hev;cases q with
          |tmp t=>
           simp only[bJ]at hv⊢;have hle:yO (b8 f body) (jt f body):=Cu fun t ht=>.inl (zg ht).symm;cases e:Nat.blt t E.fn.ntmps with
           |false=>rw[e]at hv;cases hv
           |true=>
            rw[e]at hv;simp only[cond]at hv⊢;rcases hle t with e|e
            ·rw[←e];omega
            simp_all
          |_=>exact hv
         have hbm:(bif Nat.beq mode 0 then 3 else mode)=3:=by rcases nX with rfl|rfl<;>rfl
         grind
        ·cases h
       ·cases h
      ·cases h
    ·cases h
   ·cases h
end
structure Rec where
 i:Nat
 o:Oper
 v:V
 wr:List (Nat×bL)
 ft:bB
 kl:Kl
def Rec.fs(r:Rec)(f:Fr):Fr:=iQ (kf r.kl f) r.o.dst r.v
def Rec.ms(r:Rec)(m:Mem):Mem:=vT r.wr (km r.kl m)
def Rec.LP(r:Rec)(id:Nat):Prop:=∃b,(b,id)∈r.kl
def iX(f:Fr):List Rec→Fr
 |[]=>f
 |r::l=>iX (r.fs f) l
def oM(m:Mem):List Rec→Mem
 |[]=>m
 |r::l=>oM (r.ms m) l
def fp(S:Nat→Bool)(f:Fr):List Rec→Fr
 |[]=>f
 |r::l=>fp S (bif S r.i then r.fs f else f) l
def gm(S:Nat→Bool)(m:Mem):List Rec→Mem
 |[]=>m
 |r::l=>gm S (bif S r.i then r.ms m else m) l
theorem Nb:∀{wr:List (Nat×bL)}{m:Mem}{j:Nat},(∀b,(j,b)∉wr)→vT wr m j=m j
 |[],_,_,_=>rfl
 |(id,b)::r,m,j,h=>by rw[vT,Nb fun b' hb=>h b' (by simp[hb])];exact av fun e=>h b (by simp[e])
theorem ZP:∀{wr:List (Nat×bL)}{j:Nat},(∃b,(j,b)∈wr)→∃b',(j,b')∈wr∧∀m:Mem,vT wr m j=some b'
 |[],_,h=>by simp_all
 |(id,b)::r,j,h=>by
  by_cases hr:∃b,(j,b)∈r
  ·obtain⟨b',h1,h2⟩:=ZP hr;exact⟨b',by simp[h1],fun m=>h2 _⟩
  ·obtain⟨b0,hb⟩:=h;rcases aoc.1 hb with hb|hb
   ·simp only[afu]at hb;obtain⟨rfl,rfl⟩:=hb;simp_all[vT,Nb]
   simp_all
mutual
theorem Pg{id:Nat}:∀{v:V},v.Aw id=true→v.has id=true
 |.agg cs,h=>zh (cs:=cs) (by simpa[V.Aw]using h)
 |.aI cs,h=>zh (cs:=cs) (by simpa[V.Aw]using h)
 |.fn _ cs,h=>zh (cs:=cs) (by simpa[V.Aw]using h)
 |.AJ _ _ _,h=>h
 |.Ef _ _ _ _ _ _,h=>h
 |.pv _,h=>by cases h
 |.fM,h=>by cases h
 |.op _ _,h=>by cases h
 |.oe _ _ _,h=>by cases h
 |.os _,h=>by cases h
 |.gh _ _ _,h=>by cases h
 |.om _,h=>by cases h
 |.yl _,h=>by cases h
 |.it _,h=>by cases h
 |.top,h=>by cases h
theorem zh{id:Nat}:∀{cs:List V},Eh id cs=true→cp id cs=true
 |[],h=>by cases h
 |c::r,h=>by
  simp only[Eh,aon]at h;simp only[cp,aon];rcases h with h|h
  ·exact .inl (Pg h)
  ·exact .inr (zh h)
end
variable{id:Nat}
theorem Hb{v:V}(h:v.has id=false):uf id v=v:=by unfold uf;rw[h];rfl
theorem Hc{id:Nat}:∀{cs:List V},cp id cs=false→cs.map (uf id)=cs
 |[],_=>rfl
 |c::r,h=>by simp only[cp,aoC]at h;simp only[aog,Hb h.1,Hc h.2]
theorem Ph{b:bL}(h:b.names id=false):gK id b=b:=by
 cases b with
 |box cs=>simp only[gK,Hc (show cp id cs=false from h)]
 |_=>rfl
theorem EG{v:V}(h:v.has id=false):oC id v=v:=by
 unfold oC;cases h2:v.Aw id with
 |false=>rfl
 |true=>rw[Pg h2]at h;cases h
theorem EH{id:Nat}:∀{cs:List V},cp id cs=false→cs.map (oC id)=cs
 |[],_=>rfl
 |c::r,h=>by simp only[cp,aoC]at h;simp only[aog,EG h.1,EH h.2]
theorem Nc{b:bL}(h:b.names id=false):dR id b=b:=by
 cases b with
 |box cs=>simp only[dR,EH (show cp id cs=false from h)]
 |_=>rfl
theorem Ji:∀{kl:Kl}{f:Fr}{t:Nat},(∀id,(∃b,(b,id)∈kl)→(f t).has id=false)→kf kl f t=f t
 |[],_,_,_=>rfl
 |(true,id)::r,f,t,h=>by have h0:eP id f t=f t:=Hb (h id ⟨true,by simp⟩);rw[kf,Ji (kl:=r) (f:=eP id f) fun j hj=>by rw[h0];exact h j (let⟨b,hb⟩:=hj;⟨b,by simp[hb]⟩),h0]
 |(false,id)::r,f,t,h=>by have h0:gA id f t=f t:=EG (h id ⟨false,by simp⟩);rw[kf,Ji (kl:=r) (f:=gA id f) fun j hj=>by rw[h0];exact h j (let⟨b,hb⟩:=hj;⟨b,by simp[hb]⟩),h0]
theorem EI:∀{kl:Kl}{f g:Fr}{t:Nat},f t=g t→kf kl f t=kf kl g t
 |[],_,_,_,h=>h
 |(true,id)::r,f,g,t,h=>EI (kl:=r) (f:=eP id f) (g:=eP id g) (by simp only[eP,h])
 |(false,id)::r,f,g,t,h=>EI (kl:=r) (f:=gA id f) (g:=gA id g) (by simp only[gA,h])
theorem Jj:∀{kl:Kl}{m:Mem}{j:Nat},(∀id,(∃b,(b,id)∈kl)→j≠id∧∀b,m j=some b→b.names id=false)→km kl m j=m j
 |[],_,_,_=>rfl
 |(true,id)::r,m,j,h=>by
  obtain⟨h1,h2⟩:=h id ⟨true,by simp⟩;have h0:bq (bK id m) id j=m j:=by
   rw[gE h1];unfold bK;cases hm:m j with
   |none=>rfl
   |some b=>simp only[Ph (h2 b hm)]
  rw[km,Jj (kl:=r) (m:=bq (bK id m) id) fun i hi=>by rw[h0];exact h i (let⟨b,hb⟩:=hi;⟨b,by simp[hb]⟩),h0]
 |(false,id)::r,m,j,h=>by
  obtain⟨h1,h2⟩:=h id ⟨false,by simp⟩;have h0:fE id m j=m j:=by
   unfold fE;cases hm:m j with
   |none=>rfl
   |some b=>simp only[Nc (h2 b hm)]
  rw[km,Jj (kl:=r) (m:=fE id m) fun i hi=>by rw[h0];exact h i (let⟨b,hb⟩:=hi;⟨b,by simp[hb]⟩),h0]
theorem Jk:∀{kl:Kl}{m n:Mem}{j:Nat},m j=n j→km kl m j=km kl n j
 |[],_,_,_,h=>h
 |(true,id)::r,m,n,j,h=>Jk (kl:=r) (m:=bq (bK id m) id) (n:=bq (bK id n) id) (by
  by_cases e:j=id
  ·subst e;simp
  simp_all[gE,bK])
 |(false,id)::r,m,n,j,h=>Jk (kl:=r) (m:=fE id m) (n:=fE id n) (by simp only[fE,h])
variable{r:Rec}
theorem Rec.Jl{f:Fr}{t:Nat}(h:r.o.dst=some t):r.fs f t=r.v:=by unfold Rec.fs;rw[h,iV]
theorem Rec.Ug{f:Fr}{t:Nat}(h:r.o.dst≠some t)(hc:∀id,r.LP id→(f t).has id=false):r.fs f t=f t:=by unfold Rec.fs;rw[dI h];exact Ji hc
theorem Rec.Jm{f g:Fr}{t:Nat}(h:f t=g t):r.fs f t=r.fs g t:=by
 by_cases e:r.o.dst=some t
 ·rw[Jl e,Jl e]
 ·unfold Rec.fs;grind [dI,EI]
theorem Rec.ae3{j:Nat}(h:∃b,(j,b)∈r.wr):∃b',(j,b')∈r.wr∧∀m,r.ms m j=some b':=let⟨b',h1,h2⟩:=ZP h;⟨b',h1,fun m=>h2 _⟩
theorem Rec.ZQ{m:Mem}{j:Nat}(h:∀b,(j,b)∉r.wr)(hc:∀id,r.LP id→j≠id∧∀b,m j=some b→b.names id=false):r.ms m j=m j:=by unfold Rec.ms;rw[Nb h];exact Jj hc
theorem Rec.Jn{m n:Mem}{j:Nat}(h:m j=n j):r.ms m j=r.ms n j:=by
 by_cases e:∃b,(j,b)∈r.wr
 ·obtain⟨b,_,e⟩:=Rec.ae3 e;rw[e,e]
 ·have e':∀b,(j,b)∉r.wr:=fun b hb=>e ⟨b,hb⟩;unfold Rec.ms;grind [Nb,Jk]
section
variable {S S':Nat→Bool}
theorem Hd{f:Fr}:∀{l l':List Rec},iX f (l++l')=iX (iX f l) l':=by
 intro l;induction l generalizing f with
 |nil=>intro l';rfl
 |cons r l ih=>intro l';exact ih
theorem Pj{m:Mem}:∀{l l':List Rec},oM m (l++l')=oM (oM m l) l':=by
 intro l;induction l generalizing m with
 |nil=>intro l';rfl
 |cons r l ih=>intro l';exact ih
theorem vZ{f:Fr}:∀{l l':List Rec},fp S f (l++l')=fp S (fp S f l) l':=by
 intro l;induction l generalizing f with
 |nil=>intro l';rfl
 |cons r l ih=>intro l';exact ih
theorem A4{m:Mem}:∀{l l':List Rec},gm S m (l++l')=gm S (gm S m l) l':=by
 intro l;induction l generalizing m with
 |nil=>intro l';rfl
 |cons r l ih=>intro l';exact ih
theorem LQ{t:Nat}:∀{l:List Rec}{f:Fr},(∀q∈l,q.o.dst≠some t∧q.kl=[])→iX f l t=f t
 |[],_,_=>rfl
 |r::l,f,h=>by rw[iX,LQ fun q hq=>h q (by simp[hq])];obtain⟨h1,h2⟩:=h r (by simp);exact Rec.Ug h1 fun id⟨b,hid⟩=>by rw[h2]at hid;cases hid
theorem nY{t:Nat}:∀{l:List Rec}{f:Fr},(∀q∈l,S q.i=true→q.o.dst≠some t∧∀id,q.LP id→(f t).has id=false)→fp S f l t=f t
 |[],_,_=>rfl
 |r::l,f,h=>by
  have h0:(bif S r.i then r.fs f else f) t=f t:=by
   cases e:S r.i with
   |false=>rfl
   |true=>simp_all[Rec.Ug]
  rw[fp,nY fun q hq hs=>by rw[h0];exact h q (by simp[hq]) hs,h0]
theorem yu{t:Nat}:∀{l:List Rec}{f g:Fr},f t=g t→(∀q∈l,S q.i=false→q.o.dst≠some t∧q.kl=[])→fp S f l t=iX g l t
 |[],_,_,h,_=>h
 |r::l,f,g,h,hs=>by
  rw[fp,iX];refine yu ?_ fun q hq=>hs q (by simp[hq]);cases e:S r.i with
  |true=>exact Rec.Jm h
  |false=>obtain⟨h1,h2⟩:=hs r (by simp) e;rw[Rec.Ug h1 fun id⟨b,hid⟩=>by rw[h2]at hid;cases hid];exact h
theorem zi{t:Nat}:∀{l:List Rec}{f g:Fr},f t=g t→(∀q∈l,S q.i=S' q.i)→fp S f l t=fp S' g l t
 |[],_,_,h,_=>h
 |r::l,f,g,h,hs=>by
  rw[fp,fp];refine zi ?_ fun q hq=>hs q (by simp[hq]);rw[hs r (by simp)];cases S' r.i
  ·exact h
  ·exact Rec.Jm h
theorem qG{j:Nat}:∀{l:List Rec}{m:Mem},(∀q∈l,S q.i=true→(∀b,(j,b)∉q.wr)∧∀id,q.LP id→j≠id∧∀b,m j=some b→b.names id=false)→gm S m l j=m j
 |[],_,_=>rfl
 |r::l,m,h=>by
  have h0:(bif S r.i then r.ms m else m) j=m j:=by
   cases e:S r.i with
   |false=>rfl
   |true=>simp_all[Rec.ZQ]
  rw[gm,qG fun q hq hs=>by rw[h0];exact h q (by simp[hq]) hs,h0]
theorem yw{j:Nat}:∀{l:List Rec}{m n:Mem},m j=n j→(∀q∈l,S q.i=false→(∀b,(j,b)∉q.wr)∧q.kl=[])→gm S m l j=oM n l j
 |[],_,_,h,_=>h
 |r::l,m,n,h,hs=>by
  rw[gm,oM];refine yw ?_ fun q hq=>hs q (by simp[hq]);cases e:S r.i with
  |true=>exact Rec.Jn h
  |false=>obtain⟨h1,h2⟩:=hs r (by simp) e;rw[Rec.ZQ h1 fun id⟨b,hid⟩=>by rw[h2]at hid;cases hid];exact h
theorem zj{j:Nat}:∀{l:List Rec}{m n:Mem},m j=n j→(∀q∈l,S q.i=S' q.i)→gm S m l j=gm S' n l j
 |[],_,_,h,_=>h
 |r::l,m,n,h,hs=>by
  rw[gm,gm];refine zj ?_ fun q hq=>hs q (by simp[hq]);rw[hs r (by simp)];cases S' r.i
  ·exact h
  ·exact Rec.Jn h
end
section
variable {E:Env} {ops:Array Oper} {w0:bu}
abbrev hB(w0:bu)(H:Ro):bu:={w0 with hid:=H}
def Nf(H:Ro)(g:Nat):Ro:=fun k=>if k=g then none else H k
def ZR(E:Env)(t:TypeId)(c:Array Value):Prop:=∃i zv,E.P.info? t=some i∧i.zero=some zv∧c=zv.cells
def Still(E:Env)(ops:Array Oper)(w0:bu)(r:Rec)(f:Fr)(m:Mem):Prop:=mZ r.o=true→isApp E r.o=false→(r.wr=[]∧r.kl=[])∧∀(f2:Fr)(m2:Mem),(∀t∈r.o.looksAt ops,f2 t=f t)→(∀x∈r.ft,m2 x.2=m x.2)→∀(H:Ro)(μ:Ro)(φ:Nat→aH)(a:Act)(w:World),Rel E.P E.az E.fn.ntmps (hB w0 H) μ φ f2 m2 a w→∃y,(execOp a.eval r.o).run E.P w=.ok (.value y) w
def aiG(E:Env)(ops:Array Oper)(w0:bu)(r:Rec)(f:Fr)(m:Mem):Prop:=oj E r.o=true→r.kl=[]∧∀(f2:Fr)(m2:Mem),(∀t∈r.o.looksAt ops,f2 t=f t)→(∀x∈r.ft,m2 x.2=m x.2)→∀(H:Ro)(μ:Ro)(φ:Nat→aH)(a:Act)(w:World)(d:Nat)(t:TypeId)(c:Array Value)(g:Nat),Rel E.P E.az E.fn.ntmps (hB w0 H) μ φ f2 m2 a w→r.o.op=.alloc t→r.o.dst=some d→ZR E t c→a.tmps.getD d undef=.pointer (some ⟨g,0,none⟩)→H g=some (.cells c t)→∃φ',Rel E.P E.az E.fn.ntmps (hB w0 (Nf H g)) μ φ' (r.fs f2) (r.ms m2) a w
def Jo(E:Env)(ops:Array Oper)(w0:bu)(r:Rec)(f:Fr)(m:Mem):Prop:=Still E ops w0 r f m∧aiG E ops w0 r f m∧∀(f2:Fr)(m2:Mem),(∀t∈r.o.looksAt ops,f2 t=f t)→(∀x∈r.ft,m2 x.2=m x.2)→∀(H:Ro)(μ:Ro)(φ:Nat→aH)(a:Act)(w:World)(K:Act→World→Prop)(Q:Exit→Act→World→Prop),Rel E.P E.az E.fn.ntmps (hB w0 H) μ φ f2 m2 a w→(∀μ' φ' a' w',Rel E.P E.az E.fn.ntmps (hB w0 H) μ' φ' (r.fs f2) (r.ms m2) a' w'→K a' w')→if Region.wanted r.o (yielded ops a.tmps)then∀rd:Option Nat,r.o.wpIn (FR rd) 0 E.P a w K Q else K (a.put r.o.dst undef) w
def dw(E:Env)(ops:Array Oper)(w0:bu):Fr→Mem→List Rec→Prop
 |_,_,[]=>True
 |f,m,r::l=>Jo E ops w0 r f m∧(∀id b,(id,b)∈r.wr→(true,id)∈r.ft)∧dw E ops w0 (r.fs f) (r.ms m) l
theorem dw.append{f:Fr}{m:Mem}{l l':List Rec}:dw E ops w0 f m (l++l')↔dw E ops w0 f m l∧dw E ops w0 (iX f l) (oM m l) l':=by
 induction l generalizing f m with
 |nil=>simp[dw,iX,oM]
 |cons r l ih=>simp_all[apt,dw,iX,oM,aq9]
def Clean(ops:Array Oper)(id:Nat)(r:Rec)(f:Fr)(m:Mem):Prop:=(∀t∈r.o.looksAt ops,(f t).has id=false)∧r.v.has id=false∧(∀x∈r.ft,x.2≠id∧∀b,m x.2=some b→b.names id=false)∧∀j b,(j,b)∈r.wr→(∀m,r.ms m j=some b)→j≠id∧b.names id=false
def jz(ops:Array Oper):Fr→Mem→List Rec→Prop
 |_,_,[]=>True
 |f,m,r::l=>(∀q∈l,∀id,q.LP id→reach ops 4 q.o r.i=true∨Clean ops id r f m)∧jz ops (r.fs f) (r.ms m) l
theorem jz.append{f:Fr}{m:Mem}{l l':List Rec}(h:jz ops f m (l++l')):jz ops (iX f l) (oM m l) l':=by
 induction l generalizing f m with
 |nil=>exact h
 |cons r l ih=>exact ih h.2
def Ord(ops:Array Oper)(q r:Rec):Prop:=reach ops 4 r.o q.i=true∨(q.o.apart ops r.o=true∧(∀id b,(id,b)∈q.wr→∀x∈r.ft,x.2≠id)∧∀id b,(id,b)∈r.wr→∀x∈q.ft,x.2≠id)
theorem LR{o:Oper}{j:Nat}(h:Dl o j=true):∃e∈o.after,Region.binds .any e=true∧e.on=j:=by unfold Dl at h;obtain⟨e,he,h⟩:=ao7.1 h;have he:e∈o.after:=apu.1 he;simp only[aeu]at h;grind [Nat.eq_of_beq_eq_true]
abbrev ak(l:Array Bool):Nat→Bool:=fun i=>l.getD i false
def uE(ops:Array Oper)(listed:Array Bool):Prop:=∀i o,ops[i]?=some o→ak listed i=true→∀e∈o.after,Region.binds .any e=true→ak listed e.on=true
theorem ng(listed:Array Bool)(qn:uE ops listed):∀(n:Nat)(o:Oper)(j:Nat),(∀e∈o.after,Region.binds .any e=true→ak listed e.on=true)→reach ops n o j=true→ak listed j=true:=by
 have ZS:∀(o:Oper)(j:Nat),(∀e∈o.after,Region.binds .any e=true→ak listed e.on=true)→Dl o j=true→ak listed j=true:=fun o j ho h=>by grind [LR]
 intro n;induction n with
 |zero=>exact fun o j ho h=>ZS o j ho h
 |succ n ihn=>
  intro o j ho h;simp only[reach,aon]at h;rcases h with h|h
  ·exact ZS o j ho h
  ·obtain⟨e,he,h⟩:=ao7.1 h;simp only[aeu]at h;obtain⟨hb,h⟩:=h;have he:e∈o.after:=apu.1 he;split at h
   ·rename_i p hp;exact ihn p j (qn e.on p hp (ho e he hb)) h
   ·cases h
variable{recs:List Rec}{m0:Mem}
theorem LS{f0:Fr}(bF:recs.Pairwise fun q r=>q.i≠r.i)(KN:recs.Pairwise (Ord ops))(uF:recs.Pairwise fun q r=>q.kl≠[]→reach ops 4 r.o q.i=true)(Ng:jz ops f0 m0 recs)(gg:dw E ops w0 f0 m0 recs){S:Nat→Bool}{r:Rec}(hr:r∈recs)(W2:S r.i=false)(aml:∀q∈recs,reach ops 4 r.o q.i=true→S q.i=true)(amm:∀q∈recs,reach ops 4 q.o r.i=true→S q.i=false):∃f1 m1,Jo E ops w0 r f1 m1∧(∀t∈r.o.looksAt ops,fp S f0 recs t=f1 t)∧(∀x∈r.ft,gm S m0 recs x.2=m1 x.2)∧∀S':Nat→Bool,(∀j,S' j=if j=r.i then true else S j)→fp S' f0 recs=r.fs (fp S f0 recs)∧gm S' m0 recs=r.ms (gm S m0 recs):=by
 obtain⟨pre,post,oL⟩:=List.append_of_mem hr;subst oL;have W3:∀q∈pre,Ord ops q r:=fun q hq=>(ao2.1 KN).2.2 q hq r (by simp);have Uh:∀q∈post,Ord ops r q:=fun q hq=>(aoX.1 (ao2.1 KN).2.1).1 q hq;have afV:∀q∈post,q.i≠r.i:=fun q hq=>((aoX.1 (ao2.1 bF).2.1).1 q hq).symm;have aiH:∀q∈pre,q.i≠r.i:=fun q hq=>(ao2.1 bF).2.2 q hq r (by simp);have aiI:∀q:Rec,q∈pre→reach ops 4 r.o q.i=true→S q.i=true:=fun q hq h=>aml q (by simp[hq]) h;have RZ:∀q∈post,reach ops 4 q.o r.i=true→S q.i=false:=fun q hq h=>amm q (by simp[hq]) h;have ae4:∀(f:Fr),fp S f (r::post)=fp S f post:=fun f=>by rw[fp,W2];rfl
 have ZT:∀(m:Mem),gm S m (r::post)=gm S m post:=fun m=>by rw[gm,W2];rfl
 obtain⟨_,Pk,hrw,_⟩:=dw.append.1 gg;have hc:=Ng.append.1;have ae5:∀q∈pre,q.kl≠[]→reach ops 4 r.o q.i=true:=fun q hq=>(ao2.1 uF).2.2 q hq r (by simp);have ZU:r.kl≠[]→∀q∈post,reach ops 4 q.o r.i=true:=fun h q hq=>(aoX.1 (ao2.1 uF).2.1).1 q hq h;have OE:∀t∈r.o.looksAt ops,fp S f0 pre t=iX f0 pre t:=fun t ht=>yu rfl fun q hq hs=>by
  have IG:¬reach ops 4 r.o q.i=true:=fun h=>by rw[aiI q hq h]at hs;cases hs
  refine⟨fun hd=>?_,?_⟩
  ·rcases W3 q hq with h|⟨h,_⟩
   ·exact IG h
   ·exact absurd ht ((Oper.apart_spec h).1 t hd)
  ·exact ao1 fun bU=>IG (ae5 q hq bU)
 have hm1:∀x∈r.ft,gm S m0 pre x.2=oM m0 pre x.2:=fun x hx=>yw rfl fun q hq hs=>by
  have IG:¬reach ops 4 r.o q.i=true:=fun h=>by rw[aiI q hq h]at hs;cases hs
  refine⟨fun b hb=>?_,?_⟩
  ·rcases W3 q hq with h|⟨_,h,_⟩
   ·exact IG h
   ·exact absurd rfl (h _ b hb x hx)
  ·exact ao1 fun bU=>IG (ae5 q hq bU)
 have hnp:∀q∈post,S q.i=true→¬reach ops 4 q.o r.i=true:=fun q hq hs h=>by rw[RZ q hq h]at hs;cases hs
 have ZV:∀t∈r.o.looksAt ops,fp S f0 (pre++r::post) t=iX f0 pre t:=fun t ht=>by
  rw[vZ,ae4,nY fun q hq hs=>⟨fun hd=>?_,fun id hid=>?_⟩]
  ·exact OE t ht
  ·rcases Uh q hq with h|⟨h,_⟩
   ·exact hnp q hq hs h
   ·exact absurd ht ((Oper.apart_spec h).2.2 t hd)
  ·rw[OE t ht];rcases hc q hq id hid with h|h
   ·exact absurd h (hnp q hq hs)
   ·exact h.1 t ht
 have cG:∀x∈r.ft,gm S m0 (pre++r::post) x.2=oM m0 pre x.2:=fun x hx=>by
  rw[A4,ZT,qG fun q hq hs=>⟨fun b hb=>?_,fun id hid=>?_⟩]
  ·exact hm1 x hx
  ·rcases Uh q hq with h|⟨_,_,h⟩
   ·exact hnp q hq hs h
   ·exact absurd rfl (h _ b hb x hx)
  ·rw[hm1 x hx];rcases hc q hq id hid with h|h
   ·exact absurd h (hnp q hq hs)
   ·exact h.2.2.1 x hx
 refine⟨_,_,Pk,ZV,cG,fun S' OG=>?_⟩;have ae6:∀q∈pre,S' q.i=S q.i:=fun q hq=>by rw[OG,QU (aiH q hq)]
 have A5:∀q∈post,S' q.i=S q.i:=fun q hq=>by rw[OG,QU (afV q hq)]
 have hSr:S' r.i=true:=by rw[OG,No rfl]
 have e1:fp S' f0 (pre++r::post)=r.fs (fp S f0 (pre++r::post)):=funext fun t=>by
  have hg:fp S' f0 pre=fp S f0 pre:=funext fun s=>zi rfl ae6;rw[vZ,vZ,ae4,fp,hSr,hg];simp only[cond];by_cases hk:r.kl=[]
  ·by_cases hd:r.o.dst=some t
   ·rw[Rec.Jl hd,nY fun q hq hs=>⟨fun hqd=>?_,fun id hid=>?_⟩,Rec.Jl hd]
    ·rw[A5 q hq]at hs;rcases Uh q hq with h|⟨h,_⟩
     ·exact hnp q hq hs h
     ·exact absurd hqd ((Oper.apart_spec h).2.1 t hd)
    ·rw[A5 q hq]at hs;rw[Rec.Jl hd];rcases hc q hq id hid with h|h
     ·exact absurd h (hnp q hq hs)
     ·exact h.2.1
   ·have A1:∀(g:Fr),r.fs g t=g t:=fun g=>Rec.Ug hd fun id⟨b,hid⟩=>by rw[hk]at hid;cases hid
    rw[A1];exact zi (A1 _) A5
  ·have Pl:∀q∈post,S q.i=false:=fun q hq=>RZ q hq (ZU hk q hq);rw[nY fun q hq hs=>by rw[A5 q hq,Pl q hq]at hs;cases hs];exact Rec.Jm (nY fun q hq hs=>by rw[Pl q hq]at hs;cases hs).symm
 have e2:gm S' m0 (pre++r::post)=r.ms (gm S m0 (pre++r::post)):=funext fun j=>by
  have hg:gm S' m0 pre=gm S m0 pre:=funext fun s=>zj rfl ae6;rw[A4,A4,ZT,gm,hSr,hg];simp only[cond];by_cases hk:r.kl=[]
  ·by_cases hd:∃b,(j,b)∈r.wr
   ·obtain⟨b,hd,Ak⟩:=Rec.ae3 hd;rw[Ak,qG fun q hq hs=>⟨fun b' hqd=>?_,fun id hid=>?_⟩,Ak]
    ·rw[A5 q hq]at hs;rcases Uh q hq with h|⟨_,_,h⟩
     ·exact hnp q hq hs h
     ·exact absurd rfl (h j b' hqd (true,j) (hrw j b hd))
    ·rw[A5 q hq]at hs;rcases hc q hq id hid with h|h
     ·exact absurd h (hnp q hq hs)
     ·obtain⟨h1,h2⟩:=h.2.2.2 j b hd Ak;refine⟨h1,fun b' jn=>?_⟩;rw[Ak]at jn;cases jn;exact h2
   ·have hd':∀b,(j,b)∉r.wr:=fun b hb=>hd ⟨b,hb⟩;have A1:∀(g:Mem),r.ms g j=g j:=fun g=>Rec.ZQ hd' fun id⟨b,hid⟩=>by rw[hk]at hid;cases hid
    rw[A1];exact zj (A1 _) A5
  ·have Pl:∀q∈post,S q.i=false:=fun q hq=>RZ q hq (ZU hk q hq);rw[qG fun q hq hs=>by rw[A5 q hq,Pl q hq]at hs;cases hs];exact Rec.Jn (qG fun q hq hs=>by rw[Pl q hq]at hs;cases hs).symm
 exact⟨e1,e2⟩
variable{rd:Option Nat}{Q:Exit→Act→World→Prop}
theorem Jp{f0:Fr}(H:Ro)(bF:recs.Pairwise fun q r=>q.i≠r.i)(k8:∀r∈recs,ops[r.i]?=some r.o)(KN:recs.Pairwise (Ord ops))(uF:recs.Pairwise fun q r=>q.kl≠[]→reach ops 4 r.o q.i=true)(Ng:jz ops f0 m0 recs)(gg:dw E ops w0 f0 m0 recs){listed:Array Bool}(qn:uE ops listed){r:Rec}(hr:r∈recs)(nh:∀e∈r.o.after,Region.binds .any e=true→ak listed e.on=true)(tE:r.i<listed.size)(W2:ak listed r.i=false){μ:Ro}{φ:Nat→aH}{a:Act}{w:World}(hR:Rel E.P E.az E.fn.ntmps (hB w0 H) μ φ (fp (ak listed) f0 recs) (gm (ak listed) m0 recs) a w){K:Act→World→Prop}(hK:∀μ' φ' a' w',Rel E.P E.az E.fn.ntmps (hB w0 H) μ' φ' (fp (ak (listed.setIfInBounds r.i true)) f0 recs) (gm (ak (listed.setIfInBounds r.i true)) m0 recs) a' w'→K a' w'):wpOpIn (FR rd) 0 E.P ops Q r.i K a w∧(mZ r.o=true→isApp E r.o=false→∃y,(execOp a.eval r.o).run E.P w=.ok (.value y) w):=by
 obtain⟨f1,m1,Pk,ZV,cG,hS⟩:=LS bF KN uF Ng gg (S:=ak listed) hr W2 (fun q _ h=>ng listed qn 4 r.o q.i nh h) (fun q hq h=>by
  cases hc':ak listed q.i with
  |false=>rfl
  |true=>have:=ng listed qn 4 q.o r.i (qn q.i q.o (k8 q hq) hc') h;rw[W2]at this;cases this)
 obtain⟨e1,e2⟩:=hS (ak (listed.setIfInBounds r.i true)) fun j=>by
  simp only[ak,am8,aor];by_cases e:r.i=j
  ·subst e;simp[tE]
  ·have e':¬j=r.i:=fun h=>e h.symm;simp[e,e']
 refine⟨?_,fun hf hf'=>(Pk.1 hf hf').2 _ _ ZV cG H μ φ a w hR⟩;have R0:=Pk.2.2 _ _ ZV cG H μ φ a w K Q hR fun μ' φ' a' w' jN=>hK _ _ _ _ (by rw[e1,e2];exact jN);unfold wpOpIn;rw[k8 r hr];simp only;split
 ·rename_i hw;rw[No hw]at R0;exact R0 rd
 ·rename_i hw;rw[QU hw]at R0;exact⟨fun _ _=>trivial,R0⟩
theorem ZW{f0:Fr}{base:Nat→Bool}(bF:recs.Pairwise fun q r=>q.i≠r.i)(k8:∀r∈recs,ops[r.i]?=some r.o)(Ui:∀r∈recs,base r.i=false)(ZX:∀i o,ops[i]?=some o→base i=false→(∀r∈recs,r.i≠i)→(∀r∈recs,reach ops 8 o r.i=true)∨∃j,reach ops 8 o j=true∧base j=false∧∀r∈recs,r.i≠j)(KN:recs.Pairwise (Ord ops))(uF:recs.Pairwise fun q r=>q.kl≠[]→reach ops 4 r.o q.i=true)(Ng:jz ops f0 m0 recs)(ZY:∀r∈recs,∀e∈r.o.after,Region.binds .any e=true→e.on<r.i∧(base e.on=true∨∃q∈recs,q.i=e.on))(gg:dw E ops w0 f0 m0 recs)(hQ:∀(fuel:Nat)(listed:Array Bool),listed.size=ops.size→listed.toList.countP (fun b=> !b)≤fuel→uE ops listed→(∀i,ak listed i=true↔base i=true∨∃r∈recs,r.i=i)→∀μ φ a w,Rel E.P E.az E.fn.ntmps w0 μ φ (iX f0 recs) (oM m0 recs) a w→wpAnyIn (FR rd) 0 E.P .any ops Q fuel listed a w):∀(fuel:Nat)(listed:Array Bool),listed.size=ops.size→listed.toList.countP (fun b=> !b)≤fuel→uE ops listed→(∀i,base i=true→ak listed i=true)→(∀i,ak listed i=true→base i=true∨∃r∈recs,r.i=i)→∀(μ:Ro)(φ:Nat→aH)(a:Act)(w:World),Rel E.P E.az E.fn.ntmps w0 μ φ (fp (ak listed) f0 recs) (gm (ak listed) m0 recs) a w→wpAnyIn (FR rd) 0 E.P .any ops Q fuel listed a w:=by
 have done:∀(fuel:Nat)(listed:Array Bool),listed.size=ops.size→listed.toList.countP (fun b=> !b)≤fuel→uE ops listed→(∀i,base i=true→ak listed i=true)→(∀i,ak listed i=true→base i=true∨∃r∈recs,r.i=i)→(∀r∈recs,ak listed r.i=true)→∀(μ:Ro)(φ:Nat→aH)(a:Act)(w:World),Rel E.P E.az E.fn.ntmps w0 μ φ (fp (ak listed) f0 recs) (gm (ak listed) m0 recs) a w→wpAnyIn (FR rd) 0 E.P .any ops Q fuel listed a w:=by
  intro fuel listed hs hc qn hb td hl μ φ a w hR;have e1:fp (ak listed) f0 recs=iX f0 recs:=funext fun t=>yu rfl fun q hq hf=>by rw[hl q hq]at hf;cases hf
  have e2:gm (ak listed) m0 recs=oM m0 recs:=funext fun t=>yw rfl fun q hq hf=>by rw[hl q hq]at hf;cases hf
  rw[e1,e2]at hR;exact hQ fuel listed hs hc qn (fun i=>⟨td i,fun h=>h.elim (hb i) fun⟨r,hr,e⟩=>e▸hl r hr⟩) μ φ a w hR
 have adM:∀(listed:Array Bool),listed.size=ops.size→(∀i,base i=true→ak listed i=true)→(∀r∈recs,r.i∉Region.ready .any ops listed)→∀(n:Nat)(r:Rec),r∈recs→r.i<n→ak listed r.i=true:=by
  intro listed hs hb hr n;induction n with
  |zero=>intro r _ h;omega
  |succ n ih=>
   intro r Fu hi;cases hc:ak listed r.i with
   |true=>rfl
   |false=>
    exfalso;have bF:r.i<listed.size:=by rw[hs];exact(T0.1 (k8 r Fu)).1
    refine hr r Fu (mem_ready.2 ⟨by simp only[ak,am8,Yh bF,aoD]at hc⊢;exact hc,r.o,k8 r Fu,fun e he jn=>?_⟩);obtain⟨h1,h2⟩:=ZY r Fu e he jn;rcases h2 with h2|⟨q,hq,ZZ⟩
    ·exact hb _ h2
    ·have:=ih q hq (by omega);rwa[ZZ]at this
 intro fuel;induction fuel with
 |zero=>
  intro listed hs hc qn hb td μ φ a w hR;refine done 0 listed hs hc qn hb td (fun r hr=>?_) μ φ a w hR;have bF:r.i<listed.size:=by rw[hs];exact(T0.1 (k8 r hr)).1
  have:=aqt.1 (arl.1 hc) listed[r.i] (by simp);simp only[ak,am8,Yh bF,aoD];simpa using this
 |succ fuel ih=>
  intro listed hs hc qn hb td μ φ a w hR;by_cases Z0:∀r∈recs,ak listed r.i=true
  ·exact done (fuel+1) listed hs hc qn hb td Z0 μ φ a w hR
  have aiJ:∃r∈recs,ak listed r.i=false:=by
   refine ao1 fun bU=>Z0 fun r hr=>?_;cases hx:ak listed r.i with
   |true=>rfl
   |false=>exact absurd ⟨r,hr,hx⟩ bU
  refine⟨fun h0=>absurd (fun r hr=>adM listed hs hb (fun r hr h=>by rw[h0]at h;cases h) (r.i+1) r hr (by omega)) Z0,fun i hi=>?_⟩;obtain⟨Pl,o,ho,nh⟩:=mem_ready.1 hi;have aiK:ak listed i=false:=by
   have bF:i<listed.size:=by rw[hs];exact(T0.1 ho).1
   simp only[ak,am8,Yh bF,aoD]at Pl⊢;exact Pl
  by_cases IG:∀r∈recs,r.i≠i
  ·have hbi:base i=false:=by
    cases hx:base i with
    |false=>rfl
    |true=>rw[hb i hx]at aiK;cases aiK
   rcases ZX i o ho hbi IG with h|⟨j,h1,h2,h3⟩
   ·obtain⟨r,hr,W4⟩:=aiJ;rw[ng listed qn 8 o r.i nh (h r hr)]at W4;cases W4
   ·have:=ng listed qn 8 o j nh h1;rcases td j this with h|⟨r,hr,e⟩
    ·rw[h]at h2;cases h2
    ·exact absurd e (h3 r hr)
  have hex:∃r∈recs,r.i=i∧r.o=o:=by refine ao1 fun bU=>IG fun r hr e=>bU ⟨r,hr,e,by have:=k8 r hr;rw[e,ho]at this;exact(aoq this).symm⟩
  obtain⟨r,hr,rfl,rfl⟩:=hex;have tE:r.i<listed.size:=by rw[hs];exact(T0.1 ho).1
  have W2:ak listed r.i=false:=by simp only[ak,am8,Yh tE,aoD]at Pl⊢;exact Pl
  refine(Jp w0.hid bF k8 KN uF Ng gg qn hr nh tE W2 hR fun μ' φ' a' w' jN=>?_).1;have OG:∀j,ak (listed.setIfInBounds r.i true) j=if j=r.i then true else ak listed j:=fun j=>by
   simp only[ak,am8,aor];by_cases e:r.i=j
   ·subst e;simp[tE]
   ·have e':¬j=r.i:=fun h=>e h.symm;simp[e,e']
  refine ih (listed.setIfInBounds r.i true) (by simp[hs]) ?_ ?_ ?_ ?_ μ' φ' a' w' jN
  ·rw[apk,aqx (by simpa using tE)];have:listed.toList[r.i]'(by simpa using tE)=false:=by simp only[ak,am8,Yh tE,aoD]at W2;simpa using W2
   rw[this];simp only[aoj,BY,alk,AI,OF];omega
  ·intro i' o' R1 l8 e he yo;rw[OG]at l8⊢;split
   ·rfl
   ·split at l8
    ·rename_i ZZ;subst ZZ;have:o'=r.o:=by rw[k8 r hr]at R1;exact(aoq R1).symm
     subst this;exact nh e he yo
    ·exact qn i' o' R1 l8 e he yo
  ·intro i' l8;rw[OG];split
   ·rfl
   ·exact hb i' l8
  ·intro i' l8;rw[OG]at l8;split at l8
   ·rename_i ZZ;exact Or.inr ⟨r,hr,ZZ.symm⟩
   ·exact td i' l8
end
section
variable {E:Env} {ops:Array Oper} {w0:bu}
variable{o:Oper}
theorem LU{t:Nat}(h:.tmp t∈o.op.operands):t∈o.looksAt ops:=by unfold Oper.looksAt;refine aol.2 (.inl (apT.2 ⟨.tmp t,by simpa using h,rfl⟩))
theorem A6{g:Nat×Bool}{t:Nat}(hg:o.guard=some g)(h:(ops[g.1]?).bind (·.dst)=some t):t∈o.looksAt ops:=by simp_all[Oper.looksAt]
variable{f:Fr}
theorem ub{F:Fr}(h:∀t∈o.looksAt ops,f t=F t):∀x∈o.op.operands,bJ E f x=bJ E F x:=by
 intro x hx;cases x with
 |tmp t=>simp_all[bJ,LU]
 |_=>rfl
variable{A:List (Nat×Bool)}{μ:Ro}{φ:Nat→aH}{a:Act}{w:World}
theorem Pm{f2:Fr}{m2:Mem}(hg:guardOf o A=none)(hA:uD E.fn.ntmps ops A f)(hR:Rel E.P E.az E.fn.ntmps w0 μ φ f2 m2 a w)(hf:∀t∈o.looksAt ops,f2 t=f t):Region.wanted o (yielded ops a.tmps)=true:=by
 unfold guardOf at hg;unfold Region.wanted;split at hg
 ·rename_i W0;simp[W0]
 ·rename_i g W0;split at hg
  ·rename_i bk;obtain⟨t,h1,h0,h2⟩:=hA g (by simpa using bk);have h3:=hR.fr t;grind [rI,A6,zf,uB]
  ·cases hg
variable{m:Mem}{R:Type}
theorem LV(hk:mZ o=true){site:Nat}{k:V→Fr→Mem→bB→Option R}{r:R}(h:cg E true site o f m k=some r):(∃v ft,k v f m ft=some r∧∀x∈ft,x.1=false)∧∀{w0:bu}{μ:Ro}{φ:Nat→aH}{a:Act}{w:World},Rel E.P E.az E.fn.ntmps w0 μ φ f m a w→∃y,(execOp a.eval o).run E.P w=.ok (.value y) w:=by
 obtain⟨dst,op,type,pos,after,guard⟩:=o;cases op<;>simp only[mZ,Bool.and_false,AI]at hk;case move x=>simp only[cg]at h;exact⟨⟨_,_,h,by simp⟩,fun hR=>⟨_,rfl⟩⟩
 case load t x=>simp only[cg]at h;obtain⟨v,ft,h1,h2,h3,h4⟩:=Iw h;refine⟨⟨v,ft,h2,h3⟩,fun hR=>?_⟩;obtain⟨y,hy,_⟩:=h4 _ _ _ _ _ _ hR.toaA (au hR x).1;exact⟨y,by simp[execOp,hy]⟩
 case nilCheck x=>
  simp only[cg]at h;have key:∀{v},bJ E f x=v→(∀(μ:Ro)(φ:Nat→aH)y,an E.P μ φ v y→(∃ad,y=.pointer (some ad))∨∃g xs ys,y=.func (.func g) xs ys)→k v f m []=some r→(∃v ft,k v f m ft=some r∧∀x∈ft,x.1=false)∧∀{w0:bu}{μ:Ro}{φ:Nat→aH}{a:Act}{w:World},Rel E.P E.az E.fn.ntmps w0 μ φ f m a w→∃y,(execOp a.eval ⟨dst,.nilCheck x,type,pos,after,guard⟩).run E.P w=.ok (.value y) w:=by
   intro v hv hp hk;refine⟨⟨v,[],hk,by simp⟩,fun{w0 μ φ a w}hR=>?_⟩;obtain⟨h1,h2⟩:=au hR x;rw[hv]at h1;refine⟨a.eval x,?_⟩;rcases hp μ φ _ h1 with⟨ad,e⟩|⟨g,xs,ys,e⟩
   ·simp only[execOp,e];rfl
   ·simp only[execOp,e];rfl
  split at h
  ·rename_i cs hx;exact key hx (fun μ φ y hy=>by cases hy with|pv hy=>cases hy;exact .inl ⟨_,rfl⟩) h
  ·rename_i hx;exact key hx (fun μ φ y hy=>by cases hy;exact .inl ⟨_,rfl⟩) h
  ·rename_i hx;exact key hx (fun μ φ y hy=>by cases hy;exact .inl ⟨_,rfl⟩) h
  ·rename_i hx;exact key hx (fun μ φ y hy=>by cases hy;exact .inl ⟨_,rfl⟩) h
  ·rename_i hx;exact key hx (fun μ φ y hy=>by cases hy;exact .inr (oF _ _)) h
  ·rename_i hx;exact key hx (fun μ φ y hy=>by cases hy with|pv hy=>cases hy;exact .inr (oF _ _)) h
  ·cases h
 case fieldAddr s x j=>simp only[cg]at h;obtain⟨v,v1,v2,v3,v4⟩:=CY h;refine⟨⟨v,[],v2,by simp⟩,fun{w0 μ φ a w}hR=>?_⟩;obtain⟨y,hy,_⟩:=v4 μ φ w _ (au hR x).1;exact⟨y,by simp[execOp,hy]⟩
variable{P:Program}{G:Nat→Option (List PV)}{nt:Nat}
theorem tA.hid{yl:YL}(h:tA P G nt yl w0)(H:Ro):tA P G nt yl (hB w0 H):=fun H'=>h H'
variable{H:Ro}
theorem aA.Nh{H':Ro}(h:aA P G (hB w0 H) μ φ m w)(hle:∀g o,H' g=some o→H g=some o):aA P G (hB w0 H') μ φ m w:=⟨h.below,h.ro,h.az,h.dB,h.own,h.inj,h.apart,h.fI,h.base,h.dC,h.Ft,fun g o hg=>h.hid g o (hle g o hg)⟩
theorem Rel.Nh{nt:Nat}{H H':Ro}{μ:Ro}{φ:Nat→aH}{f:Fr}{m:Mem}{a:Act}{w:World}(h:Rel E.P E.az nt (hB w0 H) μ φ f m a w)(hle:∀g o,H' g=some o→H g=some o):Rel E.P E.az nt (hB w0 H') μ φ f m a w:={toaA:=h.toaA.Nh hle,size:=h.size,defers:=h.defers,lj:=h.lj,fr:=h.fr,live:=h.live}
def hAdd(H:Ro)(g:Nat)(o:Obj):Ro:=fun k=>if k=g then some o else H k
theorem Rel.Z1(h:Rel E.P E.az nt (hB w0 H) μ φ f m a w)(o:Obj):Rel E.P E.az nt (hB w0 (hAdd H w.heap.size o)) μ φ f m a (w.alloc o):=by
 have hold:∀k,k<w.heap.size→(w.alloc o).heap[k]?=w.heap[k]?:=fun k hk=>lh.heap_alloc w o k hk;refine{toaA:=⟨h.below.alloc h.below.size o,fun b o' hb=>?_,h.az,fun id b hid=>?_,h.own,h.inj,h.apart,h.fI,h.base,h.dC,fun id st hid=>?_,fun g o' hg=>?_⟩,size:=h.size,defers:=h.defers,lj:=h.lj,fr:=h.fr,live:=h.live}
 ·have:=h.ro b o' hb;rw[hold b (T0.1 this).1];exact this
 ·have hR:=h.dB id b hid;exact hR.cv (fun _ _=>rfl) rfl (fun _ _ h=>h) (fun g hg=>hold g (hR.HE hg))
 ·obtain⟨g,rc,h1,h2,h3⟩:=h.Ft id st hid;exact⟨g,rc,h1,h2,by rw[hold g (T0.1 h3).1];exact h3⟩
 ·simp only[hB,hAdd]at hg;split at hg
  ·rename_i e;subst e;simp only[tb]at hg;subst hg;refine⟨heap_alloc_new w o,h.below.size,?_,fun id b hb hg=>?_⟩
   ·cases hq:μ w.heap.size with
    |none=>rfl
    |some o'=>have:=(T0.1 (h.ro _ _ hq)).1;omega
   ·have:=(h.dB id b hb).HE hg;omega
  ·obtain⟨h1,h2⟩:=h.hid g o' hg;exact⟨by rw[hold g (T0.1 h1).1];exact h1,h2⟩
variable{v:V}{ft:bB}{i:Nat}
theorem W5{f2:Fr}{m2:Mem}{wr:List (Nat×bL)}(hn:∀(R':Type)(k':V→Fr→Mem→bB→Option R'),cg E true (cy E o.dst) o f2 m2 k'=k' v f2 (vT wr m2) ft)(hk:oj E o=true){d:Nat}{t:TypeId}{c:Array Value}{g:Nat}(hR:Rel E.P E.az E.fn.ntmps (hB w0 H) μ φ f2 m2 a w)(LN:o.op=.alloc t)(Z2:o.dst=some d)(hc:ZR E t c)(hp:a.tmps.getD d undef=.pointer (some ⟨g,0,none⟩))(hH:H g=some (.cells c t)):∃φ',Rel E.P E.az E.fn.ntmps (hB w0 (Nf H g)) μ φ' ((⟨i,o,v,wr,ft,[]⟩:Rec).fs f2) ((⟨i,o,v,wr,ft,[]⟩:Rec).ms m2) a w:=by
 obtain⟨dst,op,type,pos,after,guard⟩:=o;simp only at LN Z2;subst LN;subst Z2;simp only[oj,aeu,aou,isApp,ao5]at hk;obtain⟨⟨⟨_,KL⟩,hdo⟩,hz⟩:=hk;obtain⟨cs,hz⟩:=aop.1 hz;obtain⟨inf,zv,z1,z2,z3,z4,z5,z6,z7,z8⟩:=du hz;obtain⟨anR,zv',y1,y2,rfl⟩:=hc;rw[z1]at y1;cases y1;rw[z2]at y2;cases y2;have h0:=hn (V×Fr×Mem×bB) fun v f m ft=>some (v,f,m,ft);simp only[cg,hz,KL,cond_false,alk,apF,AI,OF]at h0;obtain⟨f',m',_,qo,Ak,AH,yW⟩:=cj h0;simp only[tb,afu]at qo;obtain⟨rfl,rfl,rfl,rfl⟩:=qo;have hM:=hR.toaA;obtain⟨q1,q2,q3,q4⟩:=hM.hid g _ hH;have hdl:d<E.fn.ntmps:=gP hdo d rfl;have hle:∀k o,Nf H g k=some o→H k=some o∧k≠g:=fun k o hk=>by
  unfold Nf at hk;split at hk
  ·cases hk
  ·rename_i e;exact⟨hk,e⟩
 obtain⟨φ',a1,a2,a3⟩:=yW E.P E.az (hB w0 (Nf H g)) μ φ w w (bV E.fn.ntmps w0 a) (GU (some g) 0 cs.length 0) (hM.Nh fun k o hk=>(hle k o hk).1) ⟨hR.fr,hR.live⟩ ⟨lh.refl _ _,hM.ro,fun _ _ _ _ _=>rfl,fun g' cL=>by simp only[tb]at cL;subst cL;exact⟨q2,q3,q4⟩,fun φ' hφ _=>⟨g,zv.cells,t,by rw[hφ],q1,by omega,fun i u y hu hy=>z7 μ φ' i u y hu hy,z8,by rw[hφ]⟩,fun id hid=>(by have hid:cp id cs=true:=hid;rw[z6]at hid;cases hid),fun k o hk=>⟨(hM.hid k o (hle k o hk).1).1,fun e=>(hle k o hk).2 (by simp only[tb]at e;exact e.symm)⟩,fun st h=>by cases h⟩;refine⟨φ',{toaA:=a2,size:=hR.size,defers:=hR.defers,lj:=hR.lj,fr:=fun s=>?_,live:=fun s id hid=>?_}⟩
 ·show an E.P μ φ' (iQ f' (some d) _ s) _;by_cases e:s=d
  ·subst e;rw[iV,rI hdl,hp];exact .op (by rw[a1])
  ·rw[dI fun h=>e (aoq h).symm];exact a3.fr s
 ·have hid:(iQ f' (some d) _ s).has id=true:=hid;show(vT wr m2 id).isSome=true;by_cases e:s=d
  ·subst e;rw[iV]at hid;have hid:=IT hid;subst hid;rw[Ak];rfl
  ·rw[dI fun h=>e (aoq h).symm]at hid;exact a3.live s id hid
theorem Jq(hE:jM E){wr:List (Nat×bL)}(hg:guardOf o A=none)(hA:uD E.fn.ntmps ops A f)(hd:Aj E o=true)(W6:∀x∈wr,(true,x.1)∈ft)(hn:∀(f2:Fr)(m2:Mem),(∀x∈o.op.operands,bJ E f2 x=bJ E f x)→(∀x∈ft,m2 x.2=m x.2)→∀(R':Type)(k':V→Fr→Mem→bB→Option R'),Ov E true (cy E o.dst) o f2 m2 k'=k' v f2 (vT wr m2) ft):Jo E ops w0 ⟨i,o,v,wr,ft,[]⟩ f m:=by
 refine⟨fun hk _=>⟨⟨?_,rfl⟩,fun f2 m2 hf hm H μ φ a w hR=>?_⟩,fun hk=>⟨rfl,fun f2 m2 hf hm H μ φ a w d t c g hR LN Z2 hc hp hH=>W5 (fun R' k'=>by rw[←Io];exact hn f2 m2 (ub hf) hm R' k') hk hR LN Z2 hc hp hH⟩,?_⟩
 ·obtain⟨⟨v1,ft1,h1,h2⟩,_⟩:=LV (E:=E) hk (k:=fun _ _ _ ft=>some ft) (r:=ft) (by rw[←Io,hn f m (fun _ _=>rfl) (fun _ _=>rfl)]);simp only[tb]at h1;subst h1;cases wr with
  |nil=>rfl
  |cons x l=>have:=h2 _ (W6 x (by simp));cases this
 ·exact(LV (E:=E) hk (k:=fun _ _ _ ft=>some ft) (r:=ft) (by rw[←Io,hn f2 m2 (ub hf) hm])).2 hR
 intro f2 m2 hf hm H μ φ a w K Q hR hK;have hw:Region.wanted o (yielded ops a.tmps)=true:=by
  unfold guardOf at hg;unfold Region.wanted;split at hg
  ·rename_i W0;simp[W0]
  ·rename_i g W0;split at hg
   ·rename_i bk;obtain⟨t,h1,h0,h2⟩:=hA g (by simpa using bk);have h3:=hR.fr t;grind [rI,A6,zf,uB]
   ·cases hg
 simp only at hf hm hK⊢;rw[No hw];exact fun rd=>(ae0 hE (.inl rfl) (hn f2 m2 (ub hf) hm)).Dy (FX (hn f2 m2 (ub hf) hm Unit fun _ _ _ _=>some ())) rd (hB w0 H) μ φ a w K Q hR fun y w' μ' φ' hle hM hF hv hl=>hK _ _ _ _ (hR.put hle (gP hd) hM hF hv hl)
theorem R2(hd:Aj E o=true)(EF:WY ops f o):Jo E ops w0 ⟨i,o,.aI [],[],[],[]⟩ f m:=by
 refine⟨fun hk _=>?_,fun hk=>?_,?_⟩
 ·obtain⟨g,hg,_⟩:=EF;simp[mZ,hg]at hk
 ·obtain⟨g,hg,_⟩:=EF;simp[oj,hg]at hk
 intro f2 m2 hf hm H μ φ a w K Q hR hK;simp only at hf hm hK⊢;have afW:WY ops f2 o:=by obtain⟨g,hg,ht⟩:=EF;exact⟨g,hg,fun t h=>by simp_all[A6]⟩
 rw[C6 hR afW];simp only[AI,OF];exact hK _ _ _ _ (hR.put (fun _ _ h=>h) (gP hd) hR.toaA hR.kO Jf (fun id hid=>by simp[V.has,cp]at hid))
def EJ(x:Nat×Oper):Rec:=⟨x.1,x.2,.aI [],[],[],[]⟩
theorem LW{m:Mem}:∀(l:List (Nat×Oper))(F:Fr),(∀x∈l,Aj E x.2=true)→(∀(pre post:List (Nat×Oper))(x:Nat×Oper),l=pre++x::post→WY ops (jt F pre) x.2)→dw E ops w0 F m (l.map EJ)∧iX F (l.map EJ)=jt F l
 |[],F,_,_=>⟨trivial,rfl⟩
 |x::r,F,hd,EF=>by obtain⟨h1,h2⟩:=LW (m:=m) r (iQ F x.2.dst (.aI [])) (fun y hy=>hd y (by simp[hy])) (fun pre post y h=>by have:=EF (x::pre) post y (by rw[h];rfl);rwa[jt]at this);exact⟨⟨R2 (hd x (by simp)) (EF [] r x rfl),by simp[EJ],h1⟩,h2⟩
theorem LX{m:Mem}:∀{l:List Rec},(∀q∈l,q.wr=[]∧q.kl=[])→oM m l=m
 |[],_=>rfl
 |r::l,h=>by
  obtain⟨h1,h2⟩:=h r (by simp);have:r.ms m=m:=by unfold Rec.ms;rw[h1,h2];rfl
  simp_all[oM,LX]
theorem dw.wr:∀{l:List Rec}{f:Fr}{m:Mem},dw E ops w0 f m l→∀q∈l,∀id b,(id,b)∈q.wr→(true,id)∈q.ft
 |[],_,_,_,q,hq=>by cases hq
 |r::l,f,m,h,q,hq=>by
  rcases aoc.1 hq with rfl|hq
  ·exact h.2.1
  ·exact dw.wr h.2.2 q hq
def R3(q r:Rec):Prop:=reach ops 4 r.o q.i=true∨((∀id b,(id,b)∈q.wr→∀x∈r.ft,x.2≠id)∧∀id b,(id,b)∈r.wr→∀x∈q.ft,x.2≠id)
theorem Pn{o:Oper}{w:Bool}{id:Nat}:∀{lg:Log},TQ ops o w id lg=true→∀x∈lg,id≠x.2.2∨(w=false∧x.2.1=false)∨reach ops 4 o x.1=true
 |[],_,x,hx=>by cases hx
 |(j,w',vM)::lg,h,x,hx=>by
  simp only[TQ,aeu]at h;rcases aoc.1 hx with rfl|hx
  ·have h1:=h.1;simp only[aon,aou,aeu]at h1;grind [Nat.beq_refl]
  ·exact Pn h.2 x hx
theorem FZ{o:Oper}{lg:Log}:∀{ft:bB},FJ ops o lg ft=true→∀y∈ft,∀x∈lg,y.2≠x.2.2∨(y.1=false∧x.2.1=false)∨reach ops 4 o x.1=true
 |[],_,y,hy=>by cases hy
 |(w,id)::ft,h,y,hy=>by
  simp only[FJ,aeu]at h;rcases aoc.1 hy with rfl|hy
  ·exact Pn h.1
  ·exact FZ h.2 y hy
theorem Jr{o:Oper}{id:Nat}:∀{lg:Log},HS ops o id lg=true→∀x∈lg,x.2.2=Cf id→reach ops 4 o x.1=true
 |[],_,x,hx=>by cases hx
 |(j,w,n)::lg,h,x,hx=>by
  simp only[HS,aeu,aon,aou]at h;intro he;rcases aoc.1 hx with rfl|hx
  ·simp_all
  ·exact Jr h.2 x hx he
mutual
theorem Uj{id:Nat}:∀(v:V),v.has id=true→id∈v.ids
 |.agg cs,h=>yy cs (by simpa only[V.has]using h)
 |.aI cs,h=>yy cs (by simpa only[V.has]using h)
 |.fn _ cs,h=>yy cs (by simpa only[V.has]using h)
 |.os j,h=>by have:=IT h;subst this;simp[V.ids]
 |.gh j _ _,h=>by have:=IT h;subst this;simp[V.ids]
 |.oe j _ _,h=>by have:=IT h;subst this;simp[V.ids]
 |.om j,h=>by have:=IT h;subst this;simp[V.ids]
 |.AJ j _ _,h=>by have:=IT h;subst this;simp[V.ids]
 |.Ef j _ _ _ _ _,h=>by have:=IT h;subst this;simp[V.ids]
 |.op j _,h=>by have:=IT h;subst this;simp[V.ids]
 |.it j,h=>by have:=IT h;subst this;simp[V.ids]
 |.yl j,h=>by have:=IT h;subst this;simp[V.ids]
 |.pv _,h=>by cases h
 |.fM,h=>by cases h
 |.top,h=>by cases h
theorem yy{id:Nat}:∀(cs:List V),cp id cs=true→id∈OP cs
 |[],h=>by cases h
 |v::r,h=>by
  simp only[cp,aon]at h;simp only[OP,aol];rcases h with h|h
  ·exact .inl (Uj v h)
  ·exact .inr (yy r h)
end
variable{id:Nat}
theorem EK{b:bL}(h:b.names id=true):id∈Ip (some b):=by
 cases b with
 |box cs=>exact yy cs h
 |_=>cases h
theorem DA{m m':Mem}{id:Nat}:∀{ft:bB}{x:Bool×Nat},x∈ft→(id∈Ip (m x.2)∨id∈Ip (m' x.2))→id∈MP m m' ft
 |y::ft,x,hx,h=>by
  simp only[MP,aol];rcases aoc.1 hx with rfl|hx
  ·exact .inl h
  ·exact .inr (DA hx h)
theorem Z3{wr:List (Nat×bL)}{F:Fr}(Po:∀t∈o.looksAt ops,f t=F t)(W6:∀j b,(j,b)∈wr→(true,j)∈ft)(hn:id∉HR ops o f m (vT wr m) v ft)(hft:∀x∈ft,x.2≠id):Clean ops id ⟨i,o,v,wr,ft,[]⟩ F m:=by
 simp only[HR,aol,aq5]at hn;obtain⟨⟨h1,h2⟩,h3⟩:=hn;refine⟨fun t ht=>?_,?_,fun x hx=>⟨hft x hx,fun b hb=>?_⟩,fun j b hb Ak=>⟨hft _ (W6 j b hb),?_⟩⟩
 ·cases e:(F t).has id with
  |false=>rfl
  |true=>exact absurd (yy _ (cK.2 ⟨f t,aoi.2 ⟨t,ht,rfl⟩,by rw[Po t ht];omega⟩)) h1
 ·cases e:v.has id with
  |false=>rfl
  |true=>exact absurd (Uj _ e) h2
 ·cases e:b.names id with
  |false=>rfl
  |true=>grind [absurd,DA,EK]
 ·cases e:b.names id with
  |false=>rfl
  |true=>exact absurd (DA (W6 j b hb) (.inr (by have jn:vT wr m j=some b:=Ak m;simp_all[EK]))) h3
theorem R4{site:Nat}{rd:bB}(h:yU E f m o=some (id,rd)){k:V→Fr→Mem→bB→Option R}{r:R}(hx:cg E false site o f m k=some r):(∀x∈rd,x.1=false)∧∃dB,k (.os id) (eP id f) (aw (bq (bK id m) id) id dB) [(true,0)]=some r∧∀(f2:Fr)(m2:Mem),(∀x∈o.op.operands,bJ E f2 x=bJ E f x)→(∀x∈(true,id)::rd,m2 x.2=m x.2)→∀(R':Type)(k':V→Fr→Mem→bB→Option R'),cg E false site o f2 m2 k'=k' (.os id) (eP id f2) (aw (bq (bK id m2) id) id dB) [(true,0)]:=by
 obtain⟨dst,op,type,pos,after,guard⟩:=o;unfold yU at h;simp only at h;split at h
 ·rename_i c;obtain⟨callee,args,argTypes⟩:=c;simp only at h;split at h
  ·rename_i vM x t t' uA hty;split at h
   ·rename_i e hu;split at h
    ·rename_i new rd' G0;split at h
     ·cases h
     ·rename_i hxh;simp only[tb,afu]at h;obtain⟨rfl,rfl⟩:=h;obtain⟨he1,he2,_⟩:=qE G0;have anS:∀m2:Mem,bq (bK vM m2) vM vM=none:=fun m2=>by simp_all
      have main:∀(f2:Fr)(m2:Mem),args.toList.map (bJ E f2)=[.os vM,x]→m2 vM=m vM→fN m2 (aS E.P e) x=some (new,rd')→∀(R':Type)(k':V→Fr→Mem→bB→Option R'),cg E false site ⟨dst,.call ⟨.builtin .append,args,argTypes⟩,type,pos,after,guard⟩ f2 m2 k'=if !(decide (t'=t))then none else if(cQ E e).isNone then none else match m vM with
       |some (.arr sz et es)=>if et=e∧sz=aS E.P e∧x.has vM=false then(if(es++new).length*KD E.P e≤ab∧0<KD E.P e then k' (.os vM) (eP vM f2) (aw (bq (bK vM m2) vM) vM (.arr sz e (es++new))) [(true,0)]else none)else none
       |_=>none:=by
       intro f2 m2 h1 h2 h3 R' k'
       simp only[cg,h1,hty,El,apO,hu,h3,h2]
       split
       ·rfl
       ·split
        ·rfl
        ·split
         ·simp_all[fresh]
         simp
      rw[main f m uA rfl G0]at hx;refine⟨he2,?_⟩;split at hx
      ·cases hx
      ·rename_i hc1;split at hx
       ·cases hx
       ·rename_i TW;split at hx
        ·rename_i sz et es hm;split at hx
         ·rename_i hc3;split at hx
          ·rename_i hc4;refine⟨_,hx,fun f2 m2 hf cG R' k'=>?_⟩;have ha:args.toList.map (bJ E f2)=[.os vM,x]:=by grind [qY,Op.operands,Call.operands]
           rw[main f2 m2 ha (cG (true,vM) (by simp)) (he1 m2 fun y hy=>cG y (by simp[hy])) R' k'];simp_all
          ·cases hx
         ·cases hx
        ·cases hx
    ·cases h
   ·cases h
  ·cases h
 ·cases h
theorem yO.kill{F:Fr}(h:yO f F)(id:Nat):yO (eP id f) (eP id F):=fun t=>by
 rcases h t with e|e
 ·exact .inl (by simp only[eP,e])
 ·exact .inr (by simp only[eP,e];rfl)
theorem uD.kill(h:uD nt ops A f)(id:Nat):uD nt ops A (eP id f):=by intro g hg;obtain⟨t,h1,h0,h2⟩:=h g hg;exact⟨t,h1,h0,by simp only[eP,h2];rfl⟩
theorem Z4{x:Nat×bB}(h:yU E f m o=some x):isApp E o=true:=by
 obtain⟨dst,op,type,pos,after,guard⟩:=o;unfold yU at h;simp only at h;unfold isApp;split at h
 ·rename_i c;obtain⟨callee,args,argTypes⟩:=c;grind
 ·cases h
theorem Ni{rd:bB}(h:yU E f m o=some (id,rd)):∃c x t t',o.op=.call c∧c.callee=.builtin .append∧c.args.toList.map (bJ E f)=[.os id,x]∧c.argTypes.toList=[t,t']:=by unfold yU at h;grind
theorem W7{kl:Kl}(h:MQ E f m o=some (kl,ft)){k:V→Fr→Mem→bB→Option R}{r:R}(hx:Ov E false (cy E o.dst) o f m k=some r):isApp E o=true∧∃v wr ft1,k v (kf kl f) (vT wr (km kl m)) ft1=some r∧(∀x∈wr,(true,x.1)∈ft)∧(∀x∈kl,(true,x.2)∈ft)∧∀(f2:Fr)(m2:Mem),(∀x∈o.op.operands,bJ E f2 x=bJ E f x)→(∀x∈ft,m2 x.2=m x.2)→∀(R':Type)(k':V→Fr→Mem→bB→Option R'),Ov E false (cy E o.dst) o f2 m2 k'=k' v (kf kl f2) (vT wr (km kl m2)) ft1:=by
 unfold MQ at h;unfold Ov at hx;split at h
 ·rename_i sp wW;simp only[tb]at h;have hn:E.Fs (cy E o.dst)=true:=by grind
  rw[hn]at wW hx;simp only[cond]at wW hx;rw[wW]at hx;obtain⟨v,wr,h1,h2,h3,h4,_,_⟩:=RX wW hx;rw[h]at h1 h2 h3 h4;refine⟨by unfold isApp;rw[hn];rfl,v,wr,ft,h1,h2,h3,fun f2 m2 hf hm R' k'=>?_⟩;have:=RV wW hf (by rw[h];exact hm);simp_all[Ov,cond]
 ·rename_i wW;split at h
  ·rename_i id rd Nj;simp only[tb,afu]at h;obtain⟨rfl,rfl⟩:=h;have e0:(bif false then none else bif E.Fs (cy E o.dst)then Dj E (cy E o.dst) o f m else none)=(bif E.Fs (cy E o.dst)then Dj E (cy E o.dst) o f m else none):=rfl;rw[e0,wW]at hx;simp only at hx;obtain⟨Ez,dB,hk,hn⟩:=R4 Nj hx;refine⟨Z4 Nj,.os id,[(id,dB)],[(true,0)],hk,by simp,by simp,fun f2 m2 hf hm R' k'=>?_⟩;have He:(bif E.Fs (cy E o.dst)then Dj E (cy E o.dst) o f2 m2 else none)=none:=by
    cases KL:E.Fs (cy E o.dst)with
    |false=>rfl
    |true=>
     simp only[cond];obtain⟨c,x,t,t',hc,Nk,uA,adK⟩:=Ni Nj;have amn:c.args.toList.map (bJ E f2)=[.os id,x]:=by simp_all[aoB,Op.operands,Call.operands]
     have cG:m2 id=m id:=hm (true,id) (by simp);have hm3:∃sz et es,m id=some (.arr sz et es):=by obtain⟨dst,op,type,pos,after,guard⟩:=o;simp only at hc;subst hc;obtain⟨callee,args,argTypes⟩:=c;simp only at Nk uA adK;subst Nk;simp only[cg,uA,adK,El,apO]at hx;grind
     obtain⟨sz,et,es,hm3⟩:=hm3;unfold Dj;simp_all
   unfold Ov;have e1:(bif false then none else bif E.Fs (cy E o.dst)then Dj E (cy E o.dst) o f2 m2 else none)=(bif E.Fs (cy E o.dst)then Dj E (cy E o.dst) o f2 m2 else none):=rfl;rw[e1,He];exact hn f2 m2 hf hm R' k'
  ·cases h
theorem yO.CW{F:Fr}(h:yO f F)(id:Nat):yO (gA id f) (gA id F):=fun t=>by
 rcases h t with e|e
 ·simp_all[gA]
 ·exact .inr (by simp only[gA,e];rfl)
theorem yO.kf:∀{kl:Kl}{f F:Fr},yO f F→yO (Go.Ab.kf kl f) (Go.Ab.kf kl F)
 |[],_,_,h=>h
 |(true,id)::r,f,F,h=>yO.kf (kl:=r) (f:=eP id f) (F:=eP id F) (h.kill id)
 |(false,id)::r,f,F,h=>yO.kf (kl:=r) (f:=gA id f) (F:=gA id F) (h.CW id)
theorem uD.CW(h:uD nt ops A f)(id:Nat):uD nt ops A (gA id f):=by intro g hg;obtain⟨t,h1,h0,h2⟩:=h g hg;exact⟨t,h1,h0,by simp only[gA,h2];rfl⟩
theorem uD.kf{nt:Nat}{A:List (Nat×Bool)}:∀{kl:Kl}{f:Fr},uD nt ops A f→uD nt ops A (Go.Ab.kf kl f)
 |[],_,h=>h
 |(true,id)::r,f,h=>uD.kf (kl:=r) (f:=eP id f) (h.kill id)
 |(false,id)::r,f,h=>uD.kf (kl:=r) (f:=gA id f) (h.CW id)
theorem W8(hE:jM E)(hY:tA E.P E.az E.fn.ntmps E.yl w0){F:Fr}{wr:List (Nat×bL)}{kl:Kl}{ft1:bB}(hg:guardOf o A=none)(hA:uD E.fn.ntmps ops A F)(hd:Aj E o=true)(LN:∀x∈o.op.operands,bJ E f x=bJ E F x)(Nj:isApp E o=true)(hn:∀(f2:Fr)(m2:Mem),(∀x∈o.op.operands,bJ E f2 x=bJ E f x)→(∀x∈ft,m2 x.2=m x.2)→∀(R':Type)(k':V→Fr→Mem→bB→Option R'),Ov E false (cy E o.dst) o f2 m2 k'=k' v (kf kl f2) (vT wr (km kl m2)) ft1):Jo E ops w0 ⟨i,o,v,wr,ft,kl⟩ F m:=by
 refine⟨fun _ hk=>(by simp only at hk;rw[Nj]at hk;cases hk),fun hk=>(by simp[oj,Nj]at hk),?_⟩;intro f2 m2 hf hm H μ φ a w K Q hR hK;have hw:Region.wanted o (yielded ops a.tmps)=true:=Pm hg hA hR hf;simp only at hf hm hK⊢;rw[No hw];have hx:=hn f2 m2 (fun x hx=>by rw[ub hf x hx,LN x hx]) hm (V×Fr×Mem) fun v f m _=>some (v,f,m);rcases Na hE hx with⟨v,f',m',ft,h1,h2⟩|⟨_,h2⟩
 ·simp only[tb,afu]at h1;obtain⟨rfl,rfl,rfl⟩:=h1;exact fun rd=>h2.Dy (FX hx) rd (hB w0 H) μ φ a w K Q hR fun y w' μ' φ' hle hM hF hv hl=>hK _ _ _ _ (hR.put hle (gP hd) hM hF hv hl)
 ·refine fun rd=>Jc.Dy h2 rd (hB w0 H) μ φ a w K Q (hY.hid H) hR fun v f' m' y w' μ' φ' h1 hle hM hF hv hl=>?_;simp only[tb,afu]at h1;obtain⟨rfl,rfl,rfl⟩:=h1;exact hK _ _ _ _ (hR.put hle (gP hd) hM hF hv hl)
structure Nl(ops:Array Oper)(mode:Nat)(F:Fr)(m:Mem)(lg:Log)(recs:List Rec):Prop where
 one:mode=1→∀q∈recs,q.wr=[]∧q.kl=[]
 ord:mode=2→recs.Pairwise (R3 (ops:=ops))
 log:mode=2→∀q∈recs,∀y∈q.ft,∀x∈lg,y.2≠x.2.2∨(y.1=false∧x.2.1=false)∨reach ops 4 q.o x.1=true
 kl:recs.Pairwise fun q r=>q.kl≠[]→reach ops 4 r.o q.i=true
 cln:jz ops F m recs
 nam:∀q∈recs,∀id,q.LP id→mode=2∧ops.toList.any (isApp E)=true∧(true,id)∈q.ft∧∀x∈lg,x.2.2=Cf id→reach ops 4 q.o x.1=true
theorem jz.none:∀{l:List Rec}{f:Fr}{m:Mem},(∀q∈l,q.kl=[])→jz ops f m l
 |[],_,_,_=>trivial
 |r::l,f,m,h=>⟨fun q hq id⟨b,hid⟩=>(by simp_all),jz.none fun q hq=>h q (by simp[hq])⟩
theorem lx(hE:jM E)(hY:tA E.P E.az E.fn.ntmps E.yl w0){mode:Nat}(nX:mode=1∨mode=2):∀(fuel:Nat){R:Type}{A:List (Nat×Bool)}{l:List (Nat×Oper)}{f:Fr}{m:Mem}{lg:Log}{k:Fr→Mem→Option R}{r:R},cA E ops mode fuel R A l f m lg k=some r→(∀x∈l,ops[x.1]?=some x.2)→(mode=1→∀x∈l,fH x.2=true)→afU ops A l→∀F:Fr,yO f F→uD E.fn.ntmps ops A F→(∀x∈l,∀t∈x.2.looksAt ops,f t=F t)→∃(recs:List Rec)(f':Fr),k f' (oM m recs)=some r∧yO f' (iX F recs)∧recs.map (fun r=>(r.i,r.o))=l∧dw E ops w0 F m recs∧Nl (E:=E) ops mode F m lg recs
 |0,_,_,_,_,_,_,_,_,h,_,_,_,_,_,_,_=>by simp[cA]at h
 |fuel+1,R,A,[],f,m,lg,k,r,h,_,_,_,F,hF,_,_=>by simp only[cA]at h;exact⟨[],f,h,hF,rfl,trivial,by simp,fun _=>.nil,by simp,.nil,trivial,by simp⟩
 |fuel+1,R,A,(i,o)::rest,f,m,lg,k,r,h,hl,YM,Jh,F,hF,hA,Po=>by
  have hm1:(Nat.beq mode 1||Nat.beq mode 2)=true:=by simp_all
  simp only[cA,hm1]at h;split at h
  ·rename_i hg;split at h
   ·rename_i hd;have aiL:∀x∈o.op.operands,bJ E f x=bJ E F x:=ub (Po (i,o) (by simp));split at h
    ·rename_i kl ft wW;have afX:mode=2:=by
      rcases nX with rfl|rfl
      ·cases wW
      rfl
     subst afX;have wW:MQ E f m o=some (kl,ft):=wW;split at h
     ·rename_i Ra;simp only[aeu,aoN]at Ra;obtain⟨⟨amo,amp⟩,amq⟩:=Ra;obtain⟨Nj,v,wr,ft1,hk,W6,uF,hn⟩:=W7 wW h;obtain⟨recs,f',c1,c2,c3,c4,c5⟩:=lx hE hY (.inr rfl) fuel hk (fun x hx=>hl x (by simp[hx])) (fun hm=>by omega) (fun x hx=>Jh x (by simp[hx])) (iQ (kf kl F) o.dst v) ((yO.kf (kl:=kl) hF).put _ _) (uD.put (uD.kf (kl:=kl) hA) fun g th t ht=>Jh (i,o) (by simp) g th t ht) (fun x hx t ht=>by
       by_cases e:o.dst=some t
       ·rw[e,iV,iV]
       grind [dI,EI])
      have k8:∀q∈recs,reach ops 4 q.o i=true:=fun q hq=>amq (q.i,q.o) (by grind);have afY:ops.toList.any (isApp E)=true:=ao7.2 ⟨o,an4 (by rw[aoS];exact hl (i,o) (by simp)),Nj⟩;refine⟨⟨i,o,v,wr,ft,kl⟩::recs,f',c1,c2,by simp[c3],⟨W8 hE hY hg hA hd aiL Nj hn,fun j b hb=>W6 _ hb,c4⟩,?_⟩;refine⟨fun hm=>(by omega),fun hm=>aoX.2 ⟨fun q hq=>.inl (k8 q hq),c5.ord hm⟩,fun hm q hq=>?_,aoX.2 ⟨fun q hq _=>k8 q hq,c5.kl⟩,⟨fun q hq vM _=>.inl (k8 q hq),c5.cln⟩,fun q hq vM hid=>?_⟩
      ·rcases aoc.1 hq with rfl|hq
       ·exact FZ amo
       ·exact fun y hy x hx=>c5.log hm q hq y hy x (aol.2 (.inr hx))
      ·rcases aoc.1 hq with rfl|hq
       ·obtain⟨bb,hid⟩:=hid;exact⟨rfl,afY,uF _ hid,Jr (amp _ hid)⟩
       ·obtain⟨g1,g2,g3,g4⟩:=c5.nam q hq vM hid;exact⟨g1,g2,g3,fun x hx=>g4 x (aol.2 (.inr hx))⟩
     ·cases h
    ·rcases Na hE h with⟨v,f1,m1,ft,hk,LN⟩|⟨AH,_⟩
     rotate_left
     ·cases AH
     obtain⟨OE,wr,aiM,W6,hn⟩:=LN.drawn rfl;subst OE;have T4:∀(f2:Fr)(m2:Mem),(∀x∈o.op.operands,bJ E f2 x=bJ E F x)→(∀x∈ft,m2 x.2=m x.2)→∀(R':Type)(k':V→Fr→Mem→bB→Option R'),Ov E true (cy E o.dst) o f2 m2 k'=k' v f2 (vT wr m2) ft:=fun f2 m2 hf=>hn f2 m2 fun x hx=>by rw[hf x hx,aiL x hx]
     have step:∀(wr':List (Nat×bL))(lg':Log),vT wr' m=m1→(mode=1→wr'=[])→(∀id b,(id,b)∈wr'→(true,id)∈ft)→Jo E ops w0 ⟨i,o,v,wr',ft,[]⟩ F m→cA E ops mode fuel R A rest (iQ f1 o.dst v) m1 lg' k=some r→(mode=2→lg'=(bif ops.toList.any (isApp E)then(HR ops o f1 m m1 v ft).map (fun n=>(i,false,Cf n))else[])++(ft.map (fun x=>(i,x))++lg)∧FJ ops o lg ft=true)→∃(recs:List Rec)(f':Fr),k f' (oM m recs)=some r∧yO f' (iX F recs)∧recs.map (fun r=>(r.i,r.o))=(i,o)::rest∧dw E ops w0 F m recs∧Nl (E:=E) ops mode F m lg recs:=by
      intro wr' lg' hwm WN hw2 Pk hev hlg;obtain⟨recs,f',c1,c2,c3,c4,c5⟩:=lx hE hY nX fuel hev (fun x hx=>hl x (by simp[hx])) (fun hm x hx=>YM hm x (by simp[hx])) (fun x hx=>Jh x (by simp[hx])) (iQ F o.dst v) (hF.put _ _) (uD.put hA fun g th t ht=>Jh (i,o) (by simp) g th t ht) (fun x hx t ht=>by
       by_cases e:o.dst=some t
       ·rw[e,iV,iV]
       grind [dI])
      subst hwm;refine⟨⟨i,o,v,wr',ft,[]⟩::recs,f',c1,c2,by simp[c3],⟨Pk,hw2,c4⟩,?_⟩;have aiN:mode=2→∀x∈lg,x∈lg':=fun hm x hx=>by simp_all
      have ae7:mode=2→∀x∈ft,(i,x)∈lg':=fun hm x hx=>by simp_all
      refine⟨fun hm q hq=>?_,fun hm=>aoX.2 ⟨fun q hq=>?_,c5.ord hm⟩,fun hm q hq=>?_,aoX.2 ⟨fun q hq h=>absurd rfl h,c5.kl⟩,⟨fun q hq id hid=>?_,c5.cln⟩,fun q hq id hid=>?_⟩
      ·rcases aoc.1 hq with rfl|hq
       ·exact⟨WN hm,rfl⟩
       ·exact c5.one hm q hq
      ·have d2:=c5.log hm;by_cases he:reach ops 4 q.o i=true
       ·exact .inl he
       ·refine .inr ⟨fun id b hb x hx hxi=>?_,fun id b hb x hx hxi=>?_⟩
        ·grind
        ·rcases d2 q hq (true,id) (dw.wr c4 q hq id b hb) (i,x) (ae7 hm x hx)with h|h|h
         ·exact h hxi.symm
         ·cases h.1
         ·exact he h
      ·rcases aoc.1 hq with rfl|hq
       ·exact FZ (hlg hm).2
       ·exact fun y hy x hx=>c5.log hm q hq y hy x (aiN hm x hx)
      ·obtain⟨g1,g2,g3,g4⟩:=c5.nam q hq id hid;by_cases he:reach ops 4 q.o i=true
       ·exact .inl he
       ·refine .inr (Z3 (Po (i,o) (by simp)) hw2 (fun bk=>he (g4 (i,false,Cf id) ?_ rfl)) fun x hx hxi=>?_)
        ·grind
        ·rcases c5.log g1 q hq (true,id) g3 (i,x) (ae7 g1 x hx)with h|h|h
         ·exact h hxi.symm
         ·cases h.1
         ·exact he h
      ·rcases aoc.1 hq with rfl|hq
       ·obtain⟨_,hid⟩:=hid;cases hid
       ·obtain⟨g1,g2,g3,g4⟩:=c5.nam q hq id hid;grind
     rcases nX with rfl|rfl
     ·simp only[Nat.beq,AI,OF]at hk;split at hk
      ·rename_i hqf;have hwn:wr=[]:=by
        cases wr with
        |nil=>rfl
        |cons x l=>have:=Dz hqf _ (W6 x (by simp));cases this
       subst hwn;exact step [] lg aiM.symm (fun _=>rfl) (by simp) (Jq hE hg hA hd (by simp) T4) hk (by simp)
      ·cases hk
     ·simp only[Nat.beq,BY]at hk;split at hk
      ·rename_i W9;exact step wr _ aiM.symm (by simp) (fun id b hb=>W6 _ hb) (Jq hE hg hA hd W6 T4) hk fun _=>⟨rfl,W9⟩
      ·cases hk
   ·cases h
  ·rename_i j HB hg;split at h
   ·rename_i tj htj;split at h
    ·rename_i b hb;generalize wW:GM A ((i,o)::rest)=sp at h;obtain⟨body,OQ⟩:=sp;have oL:=Jg wW;have hm0:Nat.beq mode 0=false:=by rcases nX with rfl|rfl<;>rfl
     simp only[hm0,apF,AI,OF]at h;split at h
     ·rename_i ip p oD;split at h
      ·rename_i c x y ZO;split at h
       ·rename_i hc;simp only[aeu,aoN,aou,ap8,arn]at hc;obtain⟨⟨⟨⟨⟨⟨RY,hpg⟩,LO⟩,hgi⟩,amr⟩,hpd⟩,cG⟩:=hc;have afZ:mode=1:=by simp_all
        subst afZ;have RY:=IT RY;subst RY;have hpg:guardOf p A=none:=by simpa using hpg
        obtain⟨rb,hrb,h⟩:=By.1 h;have bk:∀z∈body,z∈(i,o)::rest:=fun z hz=>by rw[oL];simp[hz]
        have C7:∀z∈oD,z∈(i,o)::rest:=fun z hz=>by rw[oL];simp[hz]
        have Uf:(ip,p)∈(i,o)::rest:=by rw[oL];simp
        obtain⟨amk,hb⟩:=Je hb;have hFc:F c=.pv (.bool b):=by
         rcases hF c with e|e
         ·rw[←e];omega
         simp_all
        have after:∀(wa:List Rec)(q:Operand),wa.map (fun r=>(r.i,r.o))=body→dw E ops w0 F m wa→(∀q∈wa,q.wr=[]∧q.kl=[])→bJ E (iX F wa) q=.pv (.bool rb)→(q=if b then x else y)→∃(recs:List Rec)(f':Fr),k f' (oM m recs)=some r∧yO f' (iX F recs)∧recs.map (fun r=>(r.i,r.o))=body++(ip,p)::oD∧dw E ops w0 F m recs∧(∀q∈recs,q.wr=[]∧q.kl=[]):=by
         intro wa q ams aiO hwn hq hqe;have R5:∀t,(∀z∈body,z.2.dst≠some t)→iX F wa t=F t:=fun t ht=>LQ fun q hq=>⟨ht (q.i,q.o) (by grind),(hwn q hq).2⟩;have hA1:uD E.fn.ntmps ops A (iX F wa):=fun g th=>by obtain⟨t,h1,h0,h2⟩:=hA g th;exact⟨t,h1,h0,by rw[R5 t fun z hz=>Jh z (bk z hz) g th t h1];omega⟩
         have Rb:iX F wa c=.pv (.bool b):=by grind
         have hrp:Jo E ops w0 ⟨ip,p,.pv (.bool rb),[],[],[]⟩ (iX F wa) m:=Jq hE hpg hA1 hpd (by simp) fun f2 m2 hf hm R' k'=>by
          have td:bJ E f2 (.tmp c)=.pv (.bool b):=by simp_all[Op.operands,adL]
          have Zd:bJ E f2 q=.pv (.bool rb):=by grind [Op.operands]
          rw[Pf ZO td,←hqe,Zd];rfl
         obtain⟨recs,f',c1,c2,c3,c4,c5⟩:=lx hE hY (.inl rfl) fuel h (fun z hz=>hl z (C7 z hz)) (fun hm z hz=>YM hm z (C7 z hz)) (fun z hz=>Jh z (C7 z hz)) (iQ (iX F wa) p.dst (.pv (.bool rb))) (yO.put (Cu fun t ht=>by rw[R5 t ht];exact hF t) _ _) (uD.put hA1 fun g th t ht=>Jh (ip,p) Uf g th t ht) (fun z hz t ht=>by
          by_cases e:p.dst=some t
          ·rw[e,iV,iV]
          ·have hnb:∀u∈body,u.2.dst≠some t:=fun u hu hud=>by grind [blind,List.all_eq_true,Bool.not_eq_true']
           grind [dI,iW])
         have hmB:oM m wa=m:=LX hwn;refine⟨wa++⟨ip,p,.pv (.bool rb),[],[],[]⟩::recs,f',?_,?_,by simp[ams,c3],?_,fun q hq=>?_⟩
         ·rw[Pj,hmB];exact c1
         ·rw[Hd];exact c2
         ·refine dw.append.2 ⟨aiO,?_⟩;rw[hmB];exact⟨hrp,by simp,c4⟩
         ·rcases aol.1 hq with h|h
          ·exact hwn q h
          ·rcases aoc.1 h with rfl|h
           ·simp
           ·exact c5.one rfl q h
        have fin:(∃(recs:List Rec)(f':Fr),k f' (oM m recs)=some r∧yO f' (iX F recs)∧recs.map (fun r=>(r.i,r.o))=body++(ip,p)::oD∧dw E ops w0 F m recs∧(∀q∈recs,q.wr=[]∧q.kl=[]))→∃(recs:List Rec)(f':Fr),k f' (oM m recs)=some r∧yO f' (iX F recs)∧recs.map (fun r=>(r.i,r.o))=(i,o)::rest∧dw E ops w0 F m recs∧Nl (E:=E) ops 1 F m lg recs:=by rintro⟨recs,f',c1,c2,c3,c4,c5⟩;exact⟨recs,f',c1,c2,by rw[oL];omega,c4,fun _=>c5,fun h=>(by omega),fun h=>(by omega),aoW (R:=fun _ _=>True) (fun{q r}hq hr _ h=>absurd (c5 q hq).2 h) (List.pairwise_of_forall fun _ _=>trivial),jz.none fun q hq=>(c5 q hq).2,fun q hq id⟨_,hid⟩=>(by simp_all)⟩
        have go:∀q,b=HB→(q=if b then x else y)→cA E ops 1 fuel Bool ((j,HB)::A) body f m lg (fun f _=>CS (bJ E f q))=some rb→∃(recs:List Rec)(f':Fr),k f' (oM m recs)=some r∧yO f' (iX F recs)∧recs.map (fun r=>(r.i,r.o))=body++(ip,p)::oD∧dw E ops w0 F m recs∧(∀q∈recs,q.wr=[]∧q.kl=[]):=by
         intro q hbp hq hev;obtain⟨wa,f1,c1,c2,c3,c4,c5⟩:=lx hE hY (.inl rfl) fuel hev (fun z hz=>hl z (bk z hz)) (fun hm z hz=>YM hm z (bk z hz)) (fun z hz g th t ht=>by
          rcases aoc.1 th with rfl|th
          ·grind
          ·exact Jh z (bk z hz) g th t ht) F hF (fun g th=>by
          rcases aoc.1 th with rfl|th
          ·simp_all
          ·exact hA g th) (fun z hz=>Po z (bk z hz))
         refine after wa q c3 c4 (c5.one rfl) ?_ hq;grind [EE,ZN]
        have no:∀q,b= !HB→(q=if b then x else y)→CS (bJ E (b8 f body) q)=some rb→∃(recs:List Rec)(f':Fr),k f' (oM m recs)=some r∧yO f' (iX F recs)∧recs.map (fun r=>(r.i,r.o))=body++(ip,p)::oD∧dw E ops w0 F m recs∧(∀q∈recs,q.wr=[]∧q.kl=[]):=by intro q hbp hq hev;obtain⟨s1,s2⟩:=LW (E:=E) (w0:=w0) (m:=m) body F (fun z hz=>(LO z hz).1.2) (ED htj hgi (fun z hz=>hl z (bk z hz)) (fun z hz=>(LO z hz).2) (by rw[hFc,hbp]) (by simp));refine after (body.map EJ) q (by simp[EJ,apH]) s1 (fun u hu=>by obtain⟨z,_,rfl⟩:=aoi.1 hu;exact⟨rfl,rfl⟩) ?_ hq;rw[s2];have hv:=EE hev;grind [yO,b8,jt,Cu,zg,ZN]
        grind
       ·cases h
      ·cases h
     ·cases h
    ·cases h
   ·cases h
theorem xc{l:List Oper}:(i,o)∈(List.range l.length).zip l↔l[i]?=some o:=by
 rw[aoh];constructor
 ·grind
 ·intro h;refine⟨i,List.getElem?_zip_eq_some.2 ⟨?_,h⟩⟩;grind
theorem A7:∀{l done:List (Nat×Oper)},tx ops done l=true→(∀x∈l,∀d∈done,reach ops 4 x.2 d.1=true∨d.2.apart ops x.2=true)∧l.Pairwise (fun q r=>reach ops 4 r.2 q.1=true∨q.2.apart ops r.2=true)∧∀x∈l,∀e∈x.2.after,Region.binds .any e=true→e.on<x.1
 |[],_,_=>⟨by simp,.nil,by simp⟩
 |(i,o)::r,done,h=>by
  simp only[tx,aeu]at h;obtain⟨⟨h1,h2⟩,h3⟩:=h;obtain⟨i1,i2,i3⟩:=A7 h3;have HV:∀{done:List (Nat×Oper)},Cg ops done o=true→∀d∈done,reach ops 4 o d.1=true∨d.2.apart ops o=true:=by
   intro done;induction done with
   |nil=>simp
   |cons x l ih=>intro h d hd;simp only[Cg,aeu,aon]at h;grind
  refine⟨fun x hx d hd=>?_,aoX.2 ⟨fun x hx=>i1 x hx (i,o) (by simp),i2⟩,fun x hx e he hb=>?_⟩
  ·grind
  ·rcases aoc.1 hx with rfl|hx
   ·have:=aoN.1 h1 e (apu.2 he);simp_all
   ·exact i3 x hx e he hb
variable{rd:Option Nat}{l:List (Nat×Oper)}{base:Nat→Bool}{fuel:Nat}{Q:Exit→Act→World→Prop}
theorem Pp(hE:jM E)(hY:tA E.P E.az E.fn.ntmps E.yl w0){mode:Nat}(nX:mode=1∨mode=2)(YM:mode=1→∀x∈l,fH x.2=true){k:Fr→Mem→Option R}{r:R}(hmz:∀x∈l,ops[x.1]?=some x.2)(aiP:(l.map Prod.fst).Pairwise (·≠·))(Ui:∀x∈l,base x.1=false)(ZX:∀i o,ops[i]?=some o→base i=false→(∀x∈l,x.1≠i)→(∀x∈l,reach ops 8 o x.1=true)∨∃j,reach ops 8 o j=true∧base j=false∧∀x∈l,x.1≠j)(Z5:∀x∈l,∀e∈x.2.after,Region.binds .any e=true→base e.on=true∨∃y∈l,y.1=e.on)(hi:tx ops [] l=true)(h:cA E ops mode fuel R [] l f m [] k=some r)(hQ:∀(fuel:Nat)(listed:Array Bool),listed.size=ops.size→listed.toList.countP (fun b=> !b)≤fuel→uE ops listed→(∀i,ak listed i=true↔base i=true∨∃x∈l,x.1=i)→∀f' m' μ φ a w,k f' m'=some r→Rel E.P E.az E.fn.ntmps w0 μ φ f' m' a w→wpAnyIn (FR rd) 0 E.P .any ops Q fuel listed a w):∀(fuel:Nat)(listed:Array Bool),listed.size=ops.size→listed.toList.countP (fun b=> !b)≤fuel→uE ops listed→(∀i,ak listed i=true↔base i=true)→∀(μ:Ro)(φ:Nat→aH)(a:Act)(w:World),Rel E.P E.az E.fn.ntmps w0 μ φ f m a w→wpAnyIn (FR rd) 0 E.P .any ops Q fuel listed a w:=by
 intro aiQ listed hs hc qn hb μ φ a w hR;obtain⟨recs,f',c1,c2,c3,c4,c5⟩:=lx (w0:=w0) hE hY nX fuel h hmz YM (by intro x hx g hg;cases hg) f (yO.refl f) (by intro g hg;cases hg) (fun _ _ _ _=>rfl);obtain⟨_,i2,i3⟩:=A7 hi;have bk:∀q∈recs,(q.i,q.o)∈l:=fun q hq=>by grind
 have W9:∀x∈l,∃q∈recs,q.i=x.1:=fun x hx=>by grind
 have HV:recs.Pairwise fun q r=>reach ops 4 r.o q.i=true∨q.o.apart ops r.o=true:=by grind
 have hmo:recs.Pairwise (R3 (ops:=ops)):=by
  rcases nX with hm|hm
  ·exact aoW (fun{q r}hq hr _=>.inr ⟨fun id b hb=>(by rw[(c5.one hm q hq).1]at hb;cases hb),fun id b hb=>(by rw[(c5.one hm r hr).1]at hb;cases hb)⟩) HV
  ·exact c5.ord hm
 refine ZW (E:=E) (w0:=w0) (recs:=recs) (f0:=f) (m0:=m) (base:=base) ?_ (fun q hq=>hmz _ (bk q hq)) (fun q hq=>Ui _ (bk q hq)) (fun i o ho hbi bU=>Or.elim (ZX i o ho hbi (by grind)) (fun h=>Or.inl (by grind)) fun h=>Or.inr (by grind)) ?_ c5.kl c5.cln (fun q hq e he yo=>⟨i3 _ (bk q hq) e he yo,?_⟩) c4 ?_ aiQ listed hs hc qn (fun i hi=>(hb i).2 hi) (fun i hi=>Or.inl ((hb i).1 hi)) μ φ a w ?_
 ·grind
 ·refine List.Pairwise.imp (fun{q r}h=>?_) (List.Pairwise.and HV hmo);obtain⟨h1,h2⟩:=h;rcases h1 with h1|h1
  ·exact .inl h1
  ·rcases h2 with h2|h2
   ·exact .inl h2
   ·exact .inr ⟨h1,h2⟩
 ·rcases Z5 _ (bk q hq) e he yo with h1|⟨y,hy,h1⟩
  ·exact Or.inl h1
  grind
 ·intro ae8 Uk hs2 TW amt td μ2 φ2 a2 w2 FT;refine hQ ae8 Uk hs2 TW amt (fun i=>?_) _ _ μ2 φ2 a2 w2 c1 (FT.weaken c2);grind
 ·have hS:∀q∈recs,ak listed q.i=false:=fun q hq=>by grind
  rw[show fp (ak listed) f recs=f from funext fun t=>nY fun q hq hs=>(by simp_all),show gm (ak listed) m recs=m from funext fun t=>qG fun q hq hs=>(by simp_all)];omega
variable{x:Nat×Oper}
theorem j4(hx:x∈(List.range ops.size).zip ops.toList):ops[x.1]?=some x.2:=by have:=(xc (l:=ops.toList) (i:=x.1) (o:=x.2)).1 (by omega);simp_all
theorem xd(ho:ops[i]?=some o):(i,o)∈(List.range ops.size).zip ops.toList:=by have:=(xc (l:=ops.toList) (i:=i) (o:=o)).2 (by simp_all);omega
theorem zip_fst:((List.range ops.size).zip ops.toList).map Prod.fst=List.range ops.size:=by rw[List.map_fst_zip (by simp)]
variable{F:Fence}{n:Nat}{listed:Array Bool}
theorem R6(hs:listed.size=ops.size)(mr:∀i o,ops[i]?=some o→ak listed i=true)(hq:Q .normal a w):wpAnyIn F n P .any ops Q fuel listed a w:=by
 have hr:Region.ready .any ops listed=[]:=by apply aqk.2;intro j hj;obtain⟨h0,o,ho,_⟩:=mem_ready.1 hj;grind
 cases fuel with
 |zero=>exact⟨hr,hq⟩
 |succ fuel=>exact⟨fun _=>hq,fun i hi=>by rw[hr]at hi;cases hi⟩
theorem rM(n j:Nat):ak (Array.replicate n false) j=false:=by simp only[ak,am8,Array.getElem?_replicate];split<;>rfl
theorem count_le(n:Nat):(Array.replicate n false).toList.countP (fun b=> !b)≤n:=by grind [List.countP_le_length,Array.replicate]
theorem Hf:uE ops (Array.replicate ops.size false):=fun i o _ h=>by rw[rM]at h;cases h
theorem uc:x∈En E ops↔x∈(List.range ops.size).zip ops.toList:=by
 unfold En;cases E.Fs (2000000000000000000000000000000+E.fid)with
 |false=>exact Iff.rfl
 |true=>simp only[cond_true,aol,aok];cases MS E ops x<;>simp
theorem Z6:((En E ops).map Prod.fst).Pairwise (·≠·):=by
 have h0:(((List.range ops.size).zip ops.toList).map Prod.fst).Pairwise (·≠·):=by rw[zip_fst];exact List.pairwise_lt_range.imp Nat.ne_of_lt
 unfold En;cases E.Fs (2000000000000000000000000000000+E.fid)with
 |false=>exact h0
 |true=>
  simp only[cond_true,aos,ao2];refine⟨h0.sublist (List.filter_sublist.map _),h0.sublist (List.filter_sublist.map _),fun a ha b hb e=>?_⟩;obtain⟨x,hx,rfl⟩:=aoi.1 ha;obtain⟨y,hy,rfl⟩:=aoi.1 hb;obtain⟨hx,px⟩:=aok.1 hx;obtain⟨hy,py⟩:=aok.1 hy;have hxy:x=y:=by have h1:=j4 hx;have h2:=j4 hy;rw[e,h2]at h1;exact arj e (aoq h1).symm
  subst hxy;simp_all
theorem Js(hE:jM E)(hY:tA E.P E.az E.fn.ntmps E.yl w0){mode:Nat}(nX:mode=1∨mode=2)(YM:mode=1→∀o∈ops,fH o=true){k:Fr→Mem→Option R}{r:R}(hi:tx ops [] (En E ops)=true)(h:cA E ops mode fuel R [] (En E ops) f m [] k=some r)(hR:Rel E.P E.az E.fn.ntmps w0 μ φ f m a w)(hQ:∀f' m' μ' φ' a' w',k f' m'=some r→Rel E.P E.az E.fn.ntmps w0 μ' φ' f' m' a' w'→Q .normal a' w'):wpAnyIn (FR rd) 0 E.P .any ops Q ops.size (Array.replicate ops.size false) a w:=by
 refine Pp (w0:=w0) (base:=fun _=>false) hE hY nX (fun hm x hx=>YM hm x.2 (aqY (j4 (uc.1 hx)))) (fun x hx=>j4 (uc.1 hx)) Z6 (fun _ _=>rfl) (fun i o ho _ bU=>absurd rfl (bU _ (uc.2 (xd ho)))) (fun x hx e he hb=>Or.inr ?_) hi h ?_ ops.size _ (by simp) (count_le _) Hf (fun i=>by rw[rM]) μ φ a w hR
 ·obtain⟨_,_,i3⟩:=A7 hi;have h1:=i3 x hx e he hb;have h2:x.1<ops.size:=(T0.1 (j4 (uc.1 hx))).1;exact⟨_,uc.2 (xd (Yh (show e.on<ops.size by omega))),rfl⟩
 ·intro ae8 Uk hs2 _ _ td f' m' μ2 φ2 a2 w2 hk FT;exact R6 hs2 (fun i o ho=>(td i).2 (Or.inr ⟨_,uc.2 (xd ho),rfl⟩)) (hQ _ _ _ _ _ _ hk FT)
mutual
theorem Nn:∀{v u:V},v.same u=true→v=u
 |.op i o,u,h=>by cases u<;>simp only[V.same,aeu,AI]at h;rw[IT h.1,IT h.2]
 |.oe i a o,u,h=>by cases u<;>simp only[V.same,aeu,AI]at h;rw[IT h.1.1,IT h.1.2,IT h.2]
 |.os i,u,h=>by cases u<;>simp only[V.same,AI]at h;rw[IT h]
 |.om i,u,h=>by cases u<;>simp only[V.same,AI]at h;rw[IT h]
 |.yl i,u,h=>by cases u<;>simp only[V.same,AI]at h;rw[IT h]
 |.it i,u,h=>by cases u<;>simp only[V.same,AI]at h;rw[IT h]
 |.fM,u,h=>by cases u<;>simp only[V.same,AI]at h;rfl
 |.fn f cs,u,h=>by cases u<;>simp only[V.same,aeu,AI]at h;rw[IT h.1,Jt h.2]
 |.pv p,u,h=>by
  cases u<;>try (cases p<;>simp[V.same]at h;done)
  rename_i q;cases p<;>cases q<;>first|rfl|(simp[V.same]at h;done)|(simp only[V.same,aeu,tc]at h;rw[h.1,h.2])
 |.gh _ _ _,u,h=>by cases u<;>simp[V.same]at h
 |.agg _,u,h=>by cases u<;>simp[V.same]at h
 |.aI _,u,h=>by cases u<;>simp[V.same]at h
 |.top,u,h=>by cases u<;>simp[V.same]at h
theorem Jt:∀{vs us:List V},GN vs us=true→vs=us
 |[],us,h=>by
  cases us with
  |nil=>rfl
  |cons _ _=>simp[GN]at h
 |v::vs,us,h=>by
  cases us with
  |nil=>simp[GN]at h
  |cons u us=>simp only[GN,aeu]at h;rw[Nn h.1,Jt h.2]
end
mutual
theorem Z7:∀{p q:PV},p.FK q=true→p=q
 |.int k n,q,h=>by cases q<;>simp_all[PV.FK]
 |.bool b,q,h=>by cases q<;>simp_all[PV.FK]
 |.str s,q,h=>by cases q<;>simp_all[PV.FK]
 |.agg cs,q,h=>by cases q<;>simp only[PV.FK,AI]at h;rw[tF h]
 |.aI cs,q,h=>by cases q<;>simp only[PV.FK,AI]at h;rw[tF h]
 |.ig,q,h=>by cases q<;>simp_all[PV.FK]
 |.rp cs,q,h=>by cases q<;>simp only[PV.FK,AI]at h;rw[tF h]
 |.rs n cs,q,h=>by cases q<;>simp only[PV.FK,AI,aeu]at h;rw[IT h.1,tF h.2]
 |.qg n cs,q,h=>by cases q<;>simp only[PV.FK,AI,aeu]at h;rw[IT h.1,tF h.2]
 |.od,q,h=>by cases q<;>simp_all[PV.FK]
 |.rm t ks vs,q,h=>by cases q<;>simp only[PV.FK,AI,aeu]at h;rw[IT h.1.1,tF h.1.2,tF h.2]
 |.CJ,q,h=>by cases q<;>simp_all[PV.FK]
 |.fn f cs,q,h=>by cases q<;>simp only[PV.FK,AI,aeu]at h;rw[IT h.1,tF h.2]
 |.Wm b,q,h=>by cases q<;>simp_all[PV.FK]
 |.bad,q,h=>by cases q<;>simp_all[PV.FK]
theorem tF:∀{cs ds:List PV},Dm cs ds=true→cs=ds
 |[],ds,h=>by cases ds<;>simp_all[Dm]
 |c::cs,ds,h=>by
  cases ds with
  |nil=>simp[Dm]at h
  |cons d ds=>simp only[Dm,aeu]at h;rw[Z7 h.1,tF h.2]
end
mutual
theorem Z8:∀p:PV,p.FK p=true
 |.int k n=>by simp[PV.FK]
 |.bool b=>by simp[PV.FK]
 |.str s=>by simp[PV.FK]
 |.agg cs=>ly cs
 |.aI cs=>ly cs
 |.ig=>rfl
 |.rp cs=>ly cs
 |.rs n cs=>by simp[PV.FK,ly cs]
 |.qg n cs=>by simp[PV.FK,ly cs]
 |.od=>rfl
 |.rm t ks vs=>by simp[PV.FK,ly ks,ly vs]
 |.CJ=>rfl
 |.fn f cs=>by simp[PV.FK,ly cs]
 |.Wm b=>by simp[PV.FK]
 |.bad=>rfl
theorem ly:∀cs:List PV,Dm cs cs=true
 |[]=>rfl
 |c::cs=>by simp[Dm,Z8 c,ly cs]
end
theorem af0{u:V}{x:Option R}{r:R}(h:eqK v u x=some r):x=some r∧v=u∧v≠.top:=by
 unfold eqK at h;split at h
 ·rename_i p q;cases hb:eqP p q with
  |false=>rw[hb]at h;cases h
  |true=>rw[hb]at h;exact⟨h,by rw[Z7 hb],by simp⟩
 ·rename_i cs ds;cases hb:GN cs ds with
  |false=>rw[hb]at h;cases h
  |true=>rw[hb]at h;exact⟨h,by rw[Jt hb],by simp⟩
 ·cases hb:v.same u with
  |false=>rw[hb]at h;cases h
  |true=>rw[hb]at h;exact⟨h,Nn hb,fun e=>by subst e;simp[V.same]at hb⟩
theorem Np{R:Type}{f0 f1:Fr}{x:Option R}{r:R}:∀{l:List (Nat×Oper)},Ru l f0 f1 x=some r→x=some r∧∀y∈l,∀d,y.2.dst=some d→f0 d=f1 d∧f0 d≠.top
 |[],h=>⟨h,by simp⟩
 |y::l,h=>by
  simp only[Ru]at h;cases hd:y.2.dst with
  |none=>
   rw[hd]at h;obtain⟨h1,h2⟩:=Np (l:=l) h;refine⟨h1,fun z hz d hzd=>?_⟩;rcases aoc.1 hz with rfl|hz
   ·rw[hd]at hzd;cases hzd
   ·exact h2 z hz d hzd
  |some d0=>
   rw[hd]at h;obtain⟨h0,h3,h4⟩:=af0 h;obtain⟨h1,h2⟩:=Np (l:=l) h0;refine⟨h1,fun z hz d hzd=>?_⟩;rcases aoc.1 hz with rfl|hz
   ·rw[hd]at hzd;cases hzd;exact⟨h3,h4⟩
   ·exact h2 z hz d hzd
theorem Ul:∀{kl:Kl}{f:Fr}{t:Nat},kf kl f t=f t∨kf kl f t=.top
 |[],_,_=>.inl rfl
 |(true,id)::r,f,t=>by
  rcases Ul (kl:=r) (f:=eP id f) (t:=t)with h|h
  ·rw[kf,h];unfold eP uf;cases(f t).has id<;>simp
  ·exact .inr (by rw[kf,h])
 |(false,id)::r,f,t=>by
  rcases Ul (kl:=r) (f:=gA id f) (t:=t)with h|h
  ·rw[kf,h];unfold gA oC;cases(f t).Aw id<;>simp
  ·exact .inr (by rw[kf,h])
theorem Um{t:Nat}:∀{l:List Rec}{f:Fr},(∀q∈l,q.o.dst≠some t)→iX f l t=f t∨iX f l t=.top
 |[],_,_=>.inl rfl
 |r::l,f,h=>by
  have h0:r.fs f t=f t∨r.fs f t=.top:=by unfold Rec.fs;rw[dI (h r (by simp))];exact Ul
  rw[iX];rcases Um (l:=l) (f:=r.fs f) fun q hq=>h q (by simp[hq])with e|e
  ·rw[e];exact h0
  ·exact .inr e
theorem dw.still:∀{l:List Rec}{f:Fr}{m:Mem},dw E ops w0 f m l→∀q∈l,mZ q.o=true→isApp E q.o=false→q.wr=[]∧q.kl=[]
 |[],_,_,_,_,hq=>by cases hq
 |r::l,f,m,h,q,hq=>by
  rcases aoc.1 hq with rfl|hq
  ·exact fun h1 h2=>(h.1.1 h1 h2).1
  ·exact dw.still h.2.2 q hq
theorem uG(h:It ops x=true){j:Nat}{d:Nat}(ho:ops[j]?=some o)(hd:x.2.dst=some d)(hod:o.dst=some d):x.1=j:=by
 have:=aoN.1 h (j,o) (xd ho);simp only[aon,hd,hod]at this;rcases this with(h|h)|h
 ·exact IT h
 ·simp at h
 ·simp at h
theorem af1{P:Nat→Prop}(qn:∀i o,ops[i]?=some o→P i→∀e∈o.after,Region.binds .any e=true→P e.on):∀(n:Nat)(o:Oper)(j:Nat),(∀e∈o.after,Region.binds .any e=true→P e.on)→reach ops n o j=true→P j:=by
 have ZS:∀(o:Oper)(j:Nat),(∀e∈o.after,Region.binds .any e=true→P e.on)→Dl o j=true→P j:=fun o j ho h=>by obtain⟨e,he,hb,rfl⟩:=LR h;exact ho e he hb
 intro n;induction n with
 |zero=>exact fun o j ho h=>ZS o j ho h
 |succ n ihn=>
  intro o j ho h;simp only[reach,aon]at h;rcases h with h|h
  ·exact ZS o j ho h
  ·obtain⟨e,he,h⟩:=ao7.1 h;simp only[aeu]at h;obtain⟨hb,h⟩:=h;have he:e∈o.after:=apu.1 he;split at h
   ·rename_i p hp;exact ihn p j (qn e.on p hp (ho e he hb)) h
   ·cases h
theorem Ju(h:o.after.isEmpty=true)(n j:Nat):reach ops n o j=false:=by
 have he:o.after= #[]:=by simpa using h
 cases n<;>simp[reach,Dl,he]
variable{K:Act→World→Prop}{T:Nat→Value→Prop}
theorem Oper.R7(hT:∀d,o.dst≠some d→T d (a.tmps.getD d undef))(hh:o.wpIn F n P a w K Q):o.wpIn F n P a w (fun a' w'=>K a' w'∧∀d,o.dst≠some d→T d (a'.tmps.getD d undef)) Q:=by
 have hp:∀(ds:List Deferred)v d,o.dst≠some d→T d (((⟨a.tmps,ds⟩:Act).put o.dst v).tmps.getD d undef):=fun ds v d hd=>by
  have h:=hT d hd;cases Z2:o.dst with
  |none=>exact h
  |some d0=>have bU:d0≠d:=fun e=>hd (by rw[Z2,e]);simp only[Act.put,am8,aor]at h⊢;rw[QU bU];exact h
 unfold Oper.wpIn at*;refine⟨hh.1,?_⟩;have hh:=hh.2;generalize (o.semAt F.round a.eval).run P w=r at*;cases r with
 |ok x w'=>
  cases x<;>simp only[Oper.uponIn]at hh⊢<;>first
   |exact⟨hh,hp _ _⟩
   |exact⟨hh.1,CallsIn.mono hh.2 (fun e w'' he=>by cases e<;>first|exact⟨he,hp _ _⟩|exact he)⟩
   |exact⟨hh.1,RowsIn.mono hh.2 (fun _ _ he=>⟨he,hp _ _⟩)⟩
   |exact⟨hh.1,RoundIn.mono hh.2 (fun e w'' he=>by cases e<;>first|exact⟨he,hp _ _⟩|exact he)⟩
   |exact hh
 |halt x w'=>cases x<;>simp only[Oper.uponIn]at hh⊢<;>exact hh
theorem Nq(ho:ops[i]?=some o)(hT:∀d,o.dst≠some d→T d (a.tmps.getD d undef))(hh:wpOpIn F n P ops Q i K a w):wpOpIn F n P ops Q i (fun a' w'=>K a' w'∧∀d,o.dst≠some d→T d (a'.tmps.getD d undef)) a w:=by
 unfold wpOpIn at*;rw[ho]at hh⊢;simp only at hh⊢;split
 ·rename_i hw;rw[No hw]at hh;exact Oper.R7 hT hh
 ·rename_i hw;rw[QU hw]at hh;refine⟨hh.1,hh.2,fun d hd=>?_⟩;have h:=hT d hd;cases Z2:o.dst with
  |none=>simp only[Act.put];exact h
  |some d0=>have bU:d0≠d:=fun e=>hd (by rw[Z2,e]);simp only[Act.put,am8,aor]at h⊢;rw[QU bU];exact h
theorem ae9{J:Array Bool→Act→World→Prop}(hJ:∀listed a w,J listed a w→listed.size=ops.size)(He:∀listed a w,J listed a w→Region.ready .any ops listed=[]→Q .normal a w)(LN:∀fuel listed a w,listed.toList.countP (fun b=> !b)≤fuel+1→J listed a w→∀i o,ops[i]?=some o→ak listed i=false→i<listed.size→(∀e∈o.after,Region.binds .any e=true→ak listed e.on=true)→wpOpIn F n P ops Q i (J (listed.setIfInBounds i true)) a w∨wpOpIn F n P ops Q i (wpAnyIn F n P .any ops Q fuel (listed.setIfInBounds i true)) a w):∀(fuel:Nat)(listed:Array Bool)(a:Act)(w:World),listed.toList.countP (fun b=> !b)≤fuel→J listed a w→wpAnyIn F n P .any ops Q fuel listed a w:=by
 intro fuel;induction fuel with
 |zero=>
  intro listed a w hc hj;have hr:Region.ready .any ops listed=[]:=by
   apply aqk.2;intro j hjm;obtain⟨h0,o,ho,_⟩:=mem_ready.1 hjm;have bF:j<listed.size:=by rw[hJ _ _ _ hj];exact(T0.1 ho).1
   have:=aqt.1 (arl.1 hc) listed[j] (by simp);simp_all
  exact⟨hr,He _ _ _ hj hr⟩
 |succ fuel ih=>
  intro listed a w hc hj;refine⟨He _ _ _ hj,fun i hi=>?_⟩;obtain⟨Pl,o,ho,nh⟩:=mem_ready.1 hi;have tE:i<listed.size:=by rw[hJ _ _ _ hj];exact(T0.1 ho).1
  have W2:ak listed i=false:=by simp only[ak,am8,Yh tE,aoD]at Pl⊢;exact Pl
  rcases LN fuel listed a w hc hj i o ho W2 tE nh with h|h
  ·refine wpOpIn_mono (fun a' w' YK=>ih _ a' w' ?_ YK) h;rw[apk,aqx (by simpa using tE)];have:listed.toList[i]'(by simpa using tE)=false:=by simp only[ak,am8,Yh tE,aoD]at W2;simpa using W2
   rw[this];simp only[aoj,BY,alk,AI,OF];omega
  ·exact h
def af2(E:Env)(ops:Array Oper)(x:Nat×Oper):Prop:=ops[x.1]?=some x.2∧mZ x.2=true∧isApp E x.2=false∧It ops x=true
theorem qZ{E:Env}(h:mZ o=true)(h2:oj E o=true):False:=by obtain⟨dst,op,type,pos,after,guard⟩:=o;cases op<;>simp[mZ,oj]at h h2
variable{recs:List Rec}{fl CL:List (Nat×Oper)}{f0:Fr}{L:Nat→Bool}
theorem Xa{f':Fr}(k8:∀r∈recs,ops[r.i]?=some r.o)(bU:recs.Pairwise fun q r=>q.i≠r.i)(gg:dw E ops w0 (b8 f0 (fl++CL)) m recs)(KA:∀x∈fl,af2 E ops x)(adN:∀x∈CL,ops[x.1]?=some x.2∧oj E x.2=true)(hL:∀r∈recs,L r.i=true→∃x∈fl,x.1=r.i)(TW:yO f' (iX (b8 f0 (fl++CL)) recs))(af3:∀y∈fl,∀d,y.2.dst=some d→f0 d=f' d∧f0 d≠.top)(hR:Rel E.P E.az E.fn.ntmps (hB w0 H) μ φ (b8 f0 ((fl.filter fun x=> !L x.1)++CL)) m a w):Rel E.P E.az E.fn.ntmps (hB w0 H) μ φ (fp L (b8 f0 (fl++CL)) recs) (gm L m recs) a w:=by
 have W9:∀r∈recs,L r.i=true→(r.i,r.o)∈fl∧r.wr=[]∧r.kl=[]:=fun r hr hl=>by obtain⟨x,hx,e⟩:=hL r hr hl;obtain⟨h1,h2,h3,_⟩:=KA x hx;rw[e,k8 r hr]at h1;have e2:x=(r.i,r.o):=arj e (aoq h1).symm;subst e2;exact⟨hx,gg.still r hr h2 h3⟩
 rw[show gm L m recs=m from funext fun t=>qG fun q hq hs=>by obtain⟨_,h1,h2⟩:=W9 q hq hs;exact⟨by simp[h1],fun id⟨b,hid⟩=>by rw[h2]at hid;cases hid⟩];refine hR.weaken fun t=>?_;by_cases hex:∃q∈recs,L q.i=true∧q.o.dst=some t
 ·obtain⟨q,hq,hs,hd⟩:=hex;obtain⟨hqf,hw,hk⟩:=W9 q hq hs;obtain⟨_,R8,_,huq⟩:=KA _ hqf;have Pl:∀q'∈recs,q'.o.dst=some t→q'.i=q.i:=fun q' IM hd'=>(uG huq (k8 q' IM) hd hd').symm;obtain⟨pre,post,wW⟩:=List.append_of_mem hq;have hpo:∀q'∈post,q'.o.dst≠some t:=fun q' IM hd'=>by have h1:=Pl q' (by rw[wW];simp[IM]) hd';rw[wW]at bU;exact(aoX.1 (ao2.1 bU).2.1).1 q' IM h1.symm
  have hv:f0 t=q.v:=by
   obtain⟨h1,h2⟩:=af3 _ hqf t hd;rcases TW t with h3|h3
   ·rw[wW,Hd,iX]at h3;rcases Um (l:=post) (f:=q.fs (iX (b8 f0 (fl++CL)) pre)) hpo with h4|h4
    ·rw[h1,h3,h4,Rec.Jl hd]
    ·rw[h4]at h3;rw[h1,h3]at h2;exact absurd rfl h2
   ·rw[h1,h3]at h2;exact absurd rfl h2
  left;have e1:fp L (b8 f0 (fl++CL)) recs t=q.v:=by rw[wW,vZ,fp,hs];simp only[cond];rw[nY fun q' IM hs'=>⟨hpo q' IM,fun id⟨b,hid⟩=>by rw[(W9 q' (by rw[wW];simp[IM]) hs').2.2]at hid;cases hid⟩,Rec.Jl hd]
  rw[e1,iW fun x hx Un=>?_,hv];rcases aol.1 hx with hx|hx
  ·obtain⟨WB,T7⟩:=aok.1 hx;obtain⟨k1,_,_,k4⟩:=KA x WB;have:=uG k4 (k8 q hq) Un hd;rw[this,hs]at T7;cases T7
  ·obtain⟨k1,k2⟩:=adN x hx;have:=uG huq k1 hd Un;rw[←this,k8 q hq]at k1;rw[←aoq k1]at k2;exact qZ R8 k2
 ·have e1:fp L (b8 f0 (fl++CL)) recs t=b8 f0 (fl++CL) t:=nY fun q hq hs=>⟨fun hd=>hex ⟨q,hq,hs,hd⟩,fun id⟨b,hid⟩=>by rw[(W9 q hq hs).2.2]at hid;cases hid⟩;rw[e1];by_cases hx:∃x∈fl++CL,x.2.dst=some t
  ·right;exact nW (.inr hx)
  ·left;rw[iW fun x Ec Un=>hx ⟨x,Ec,Un⟩,iW fun x Ec Un=>hx ⟨x,(by
    rcases aol.1 Ec with h|h
    ·exact aol.2 (.inl (aok.1 h).1)
    ·exact aol.2 (.inr h)),Un⟩]
structure A8(E:Env)(H0 H:Ro)(al:List (Nat×Oper))(L:Nat→Bool)(a:Act):Prop where
 le:∀g o,H0 g=some o→H g=some o
 pt:∀x∈al,L x.1=true→∃d t c g,x.2.op=.alloc t∧x.2.dst=some d∧ZR E t c∧a.tmps.getD d undef=.pointer (some ⟨g,0,none⟩)∧H g=some (.cells c t)∧H0 g=none
 inj:∀x∈al,∀y∈al,L x.1=true→L y.1=true→x.1≠y.1→∀d e,x.2.dst=some d→y.2.dst=some e→a.tmps.getD d undef≠a.tmps.getD e undef
variable{a':Act}
theorem A8.sub{H0:Ro}{al al':List (Nat×Oper)}{L':Nat→Bool}(h:A8 E H0 H al L a)(hs:∀x∈al',x∈al)(hL:∀x∈al',L' x.1=true→L x.1=true)(ht:∀x∈al',∀d,x.2.dst=some d→a'.tmps.getD d undef=a.tmps.getD d undef):A8 E H0 H al' L' a':=⟨h.le,fun x hx hl=>by
  obtain⟨d,t,c,g,h1,h2,h3,h4,h5⟩:=h.pt x (hs x hx) (hL x hx hl);exact⟨d,t,c,g,h1,h2,h3,(ht x hx d h2).trans h4,h5⟩,fun x hx y hy Wz Z9 bU d e hd he=>by
  rw[ht x hx d hd,ht y hy e he];exact h.inj x (hs x hx) y (hs y hy) (hL x hx Wz) (hL y hy Z9) bU d e hd he⟩
theorem Xb{m0:Mem}{H0:Ro}(bF:recs.Pairwise fun q r=>q.i≠r.i)(k8:∀r∈recs,ops[r.i]?=some r.o)(KN:recs.Pairwise (Ord ops))(uF:recs.Pairwise fun q r=>q.kl≠[]→reach ops 4 r.o q.i=true)(Ng:jz ops f0 m0 recs)(gg:dw E ops w0 f0 m0 recs)(A1:∀q∈recs,L q.i=true→oj E q.o=true∨∀r∈recs,oj E r.o=true→reach ops 4 q.o r.i=false):∀(todo:List Rec)(CL:List (Nat×Oper)),(∀r∈todo,r∈recs∧oj E r.o=true∧L r.i=true∧(r.i,r.o)∈CL)→todo.Pairwise (fun q r=>q.i≠r.i)→∀(H:Ro)(μ:Ro)(φ:Nat→aH)(a:Act)(w:World),A8 E H0 H CL L a→Rel E.P E.az E.fn.ntmps (hB w0 H) μ φ (fp (fun i=>L i&& !todo.any fun r=>r.i==i) f0 recs) (gm (fun i=>L i&& !todo.any fun r=>r.i==i) m0 recs) a w→∃H' φ',A8 E H0 H' (CL.filter fun x=> !todo.any fun r=>r.i==x.1) L a∧Rel E.P E.az E.fn.ntmps (hB w0 H') μ φ' (fp L f0 recs) (gm L m0 recs) a w:=by
 intro todo;induction todo with
 |nil=>intro CL _ _ H μ φ a w hE hR;exact⟨H,φ,hE.sub (fun x hx=>(aok.1 hx).1) (fun _ _ h=>h) (fun _ _ _ _=>rfl),by simpa using hR⟩
 |cons r todo ih=>
  intro CL aiR bU H μ φ a w KB hR;obtain⟨hr,hk,hl,hp⟩:=aiR r (by simp);obtain⟨afL,aiz⟩:=aoX.1 bU;obtain⟨d,t,c,g,p1,p2,p3,p4,p5,p6⟩:=KB.pt _ hp hl;have amu:r.o.after.isEmpty=true:=by simp only[oj,aeu]at hk;exact hk.1.1.1.2
  obtain⟨f1,m1,Pk,ZV,cG,hS⟩:=LS bF KN uF Ng gg (S:=fun i=>L i&& !(r::todo).any fun r=>r.i==i) hr (by simp) (fun q _ h=>by rw[Ju amu]at h;cases h) (fun q hq h=>by
   cases hc:(L q.i&& !(r::todo).any fun r=>r.i==q.i)with
   |false=>rfl
   |true=>
    simp only[aeu]at hc;rcases A1 q hq hc.1 with h1|h1
    ·have:q.o.after.isEmpty=true:=by simp only[oj,aeu]at h1;exact h1.1.1.1.2
     rw[Ju this]at h;cases h
    ·rw[h1 r hr hk]at h;cases h)
  obtain⟨e1,e2⟩:=hS (fun i=>L i&& !todo.any fun r=>r.i==i) fun j=>by
   by_cases e:j=r.i
   ·subst e;have:(todo.any fun q=>q.i==r.i)=false:=by simp only[apd,ara];exact fun q hq e=>afL q hq e.symm
    simp[hl,this]
   ·have:(r.i==j)=false:=by simpa using fun h=>e h.symm
    simp[e,this]
  obtain⟨φ1,Fx⟩:=(Pk.2.1 hk).2 _ _ ZV cG H μ φ a w d t c g hR p1 p2 p3 p4 p5;rw[←e1,←e2]at Fx;have hE2:A8 E H0 (Nf H g) (CL.filter fun x=> !(r.i==x.1)) L a:=by
   refine⟨fun k o hk=>?_,fun x hx Wz=>?_,fun x hx y hy=>KB.inj x (aok.1 hx).1 y (aok.1 hy).1⟩
   ·unfold Nf;rw[QU fun e=>by subst e;rw[p6]at hk;cases hk];exact KB.le k o hk
   ·obtain⟨WB,T7⟩:=aok.1 hx;obtain⟨d',t',c',g',q1,q2,q3,q4,q5,q6⟩:=KB.pt x WB Wz;refine⟨d',t',c',g',q1,q2,q3,q4,?_,q6⟩;unfold Nf;rw[QU fun e=>?_]
    ·exact q5
    ·subst e;have bU:x.1≠r.i:=fun e=>by simp[e]at T7
     exact KB.inj x WB (r.i,r.o) hp Wz hl bU d' d q2 p2 (q4.trans p4.symm)
  have amv:∀q∈todo,q∈recs∧oj E q.o=true∧L q.i=true∧(q.i,q.o)∈CL.filter fun x=> !(r.i==x.1):=fun q hq=>by obtain⟨h1,h2,h3,h4⟩:=aiR q (by simp[hq]);exact⟨h1,h2,h3,aok.2 ⟨h4,by simpa using afL q hq⟩⟩
  obtain⟨H',φ',k1,k2⟩:=ih _ amv aiz (Nf H g) μ φ1 a w hE2 Fx;refine⟨H',φ',k1.sub (fun x hx=>?_) (fun _ _ h=>h) (fun _ _ _ _=>rfl),k2⟩;obtain⟨h1,h2⟩:=aok.1 hx;simp only[aqr,Bool.not_or,aeu]at h2;exact aok.2 ⟨aok.2 ⟨h1,h2.1⟩,h2.2⟩
theorem R9(H:Ro){m0:Mem}(bF:recs.Pairwise fun q r=>q.i≠r.i)(k8:∀r∈recs,ops[r.i]?=some r.o)(KN:recs.Pairwise (Ord ops))(uF:recs.Pairwise fun q r=>q.kl≠[]→reach ops 4 r.o q.i=true)(Ng:jz ops f0 m0 recs)(gg:dw E ops w0 f0 m0 recs)(ZY:∀r∈recs,∀e∈r.o.after,Region.binds .any e=true→e.on<r.i∧(base e.on=true∨∃q∈recs,q.i=e.on)):∀(n:Nat)(listed:Array Bool),listed.size=ops.size→listed.toList.countP (fun b=> !b)≤n→uE ops listed→(∀i,base i=true→ak listed i=true)→(∀r∈recs,ak listed r.i=false→mZ r.o=true∧isApp E r.o=false)→∀(μ:Ro)(φ:Nat→aH)(a:Act)(w:World),Rel E.P E.az E.fn.ntmps (hB w0 H) μ φ (fp (ak listed) f0 recs) (gm (ak listed) m0 recs) a w→∃μ' φ' a',Rel E.P E.az E.fn.ntmps (hB w0 H) μ' φ' (iX f0 recs) (oM m0 recs) a' w∧a'.defers=a.defers∧a'.tmps.size=a.tmps.size∧∀t,(∀q∈recs,ak listed q.i=false→q.o.dst≠some t)→a'.tmps.getD t undef=a.tmps.getD t undef:=by
 intro n;induction n with
 |zero=>
  intro listed hs hc qn hb KA μ φ a w hR;have hl:∀r∈recs,ak listed r.i=true:=fun r hr=>by
   have bF:r.i<listed.size:=by rw[hs];exact(T0.1 (k8 r hr)).1
   have:=aqt.1 (arl.1 hc) listed[r.i] (by simp);simp only[ak,am8,Yh bF,aoD];simpa using this
  rw[show fp (ak listed) f0 recs=iX f0 recs from funext fun t=>yu rfl fun q hq hf=>(by rw[hl q hq]at hf;cases hf),show gm (ak listed) m0 recs=oM m0 recs from funext fun t=>yw rfl fun q hq hf=>by rw[hl q hq]at hf;cases hf]at hR;exact⟨μ,φ,a,hR,rfl,rfl,fun _ _=>rfl⟩
 |succ n ih=>
  intro listed hs hc qn hb KA μ φ a w hR;by_cases mr:∀r∈recs,ak listed r.i=true
  ·rw[show fp (ak listed) f0 recs=iX f0 recs from funext fun t=>yu rfl fun q hq hf=>(by rw[mr q hq]at hf;cases hf),show gm (ak listed) m0 recs=oM m0 recs from funext fun t=>yw rfl fun q hq hf=>by rw[mr q hq]at hf;cases hf]at hR;exact⟨μ,φ,a,hR,rfl,rfl,fun _ _=>rfl⟩
  have aiS:∀N,(∃r∈recs,ak listed r.i=false∧r.i<N)→∃r∈recs,ak listed r.i=false∧∀e∈r.o.after,Region.binds .any e=true→ak listed e.on=true:=by
   intro N;induction N with
   |zero=>rintro⟨r,_,_,h⟩;omega
   |succ N ihN=>
    rintro⟨r,hr,hl,hN⟩;by_cases he:∀e∈r.o.after,Region.binds .any e=true→ak listed e.on=true
    ·exact⟨r,hr,hl,he⟩
    ·simp only[aq2]at he;obtain⟨e,he,yo,G0⟩:=he;have G0:ak listed e.on=false:=by simpa using G0
     obtain⟨h1,h2⟩:=ZY r hr e he yo;rcases h2 with h2|⟨q,hq,ZZ⟩
     ·rw[hb _ h2]at G0;cases G0
     ·exact ihN ⟨q,hq,by rw[ZZ];exact G0,by omega⟩
  have Pl:∃r∈recs,ak listed r.i=false:=by simp only[aq2]at mr;obtain⟨r,hr,h⟩:=mr;exact⟨r,hr,by simpa using h⟩
  obtain⟨r0,hr0,OA⟩:=Pl;obtain⟨r,hr,hl,nh⟩:=aiS (r0.i+1) ⟨r0,hr0,OA,by omega⟩;have tE:r.i<listed.size:=by rw[hs];exact(T0.1 (k8 r hr)).1
  obtain⟨OE,ZV⟩:=KA r hr hl;have fo:=Jp (rd:=none) (Q:=fun _ _ _=>False) H bF k8 KN uF Ng gg qn hr nh tE hl hR (K:=fun a1 w1=>∃μ1 φ1,Rel E.P E.az E.fn.ntmps (hB w0 H) μ1 φ1 (fp (ak (listed.setIfInBounds r.i true)) f0 recs) (gm (ak (listed.setIfInBounds r.i true)) m0 recs) a1 w1) fun μ1 φ1 a1 w1 h=>⟨μ1,φ1,h⟩;obtain⟨R0,hy⟩:=fo;obtain⟨y,hy⟩:=hy OE ZV;unfold wpOpIn at R0;rw[k8 r hr]at R0;simp only at R0;have hgn:r.o.guard=none:=by simp only[mZ,aeu,ap2]at OE;exact OE.1
  have hw:Region.wanted r.o (yielded ops a.tmps)=true:=by unfold Region.wanted;rw[hgn]
  rw[No hw]at R0;have amw:∀c,r.o.op≠.defer c:=fun c hc=>by simp[mZ,hc]at OE
  have h3:=R0.2;rw[Oper.semAt_eq _ _ _ amw,hy]at h3;obtain⟨μ1,φ1,Fx⟩:=h3;have OG:∀j,ak (listed.setIfInBounds r.i true) j=if j=r.i then true else ak listed j:=fun j=>by simp only[ak,am8,aor];grind
  obtain⟨μ2,φ2,a2,k1,k2,k3,k4⟩:=ih (listed.setIfInBounds r.i true) (by simp[hs]) (by
   rw[apk,aqx (by simpa using tE)];have:listed.toList[r.i]'(by simpa using tE)=false:=by simp only[ak,am8,Yh tE,aoD]at hl;simpa using hl
   rw[this];simp only[aoj,BY,alk,AI,OF];omega) (fun i' o' R1 l8 e he yo=>by
    rw[OG]at l8⊢;split
    ·rfl
    ·split at l8
     ·rename_i ZZ;subst ZZ;have:o'=r.o:=by rw[k8 r hr]at R1;exact(aoq R1).symm
      subst this;exact nh e he yo
     ·exact qn i' o' R1 l8 e he yo) (fun i' l8=>by
    rw[OG];split
    ·rfl
    ·exact hb i' l8) (fun q hq OW=>KA q hq (by
    rw[OG]at OW;split at OW
    ·cases OW
    ·exact OW)) μ1 φ1 _ _ Fx
  refine⟨μ2,φ2,a2,k1,?_,?_,fun t ht=>?_⟩
  ·rw[k2];cases r.o.dst<;>rfl
  ·rw[k3];cases r.o.dst<;>simp[Act.put]
  ·rw[k4 t fun q hq OW=>ht q hq (by
    rw[OG]at OW;split at OW
    ·cases OW
    ·exact OW)]
   have bU:=ht r hr hl;cases hd:r.o.dst with
   |none=>rfl
   |some d=>have hdt:d≠t:=fun e=>bU (by rw[hd,e]);simp only[Act.put,am8,aor];rw[QU hdt]
theorem Oper.Xc{K':Act→World→Prop}{Q':Exit→Act→World→Prop}(hc:∃c,o.op=.call c)(he:∀x∈o.op.operands,a'.eval x=a.eval x)(hd:a'.defers=a.defers)(hK:∀b b':Act,b.defers=b'.defers→b.tmps=a.tmps→b'.tmps=a'.tmps→∀v w2,K' (b'.put o.dst v) w2→K (b.put o.dst v) w2)(hQ:∀e a w,e≠.normal→Q' e a w→False)(h:o.wpIn F n P a' w K' Q'):o.wpIn F n P a w K Q:=by
 obtain⟨c,hc⟩:=hc;have aiT:∀c,o.op≠.defer c:=fun c' h'=>by rw[hc]at h';cases h'
 unfold Oper.wpIn at*;rw[about_congr (ρ':=a.eval) o w he,Oper.semAt_eq _ _ _ aiT,execOp_congr (ρ':=a.eval) o (fun _ _ h'=>by rw[hc]at h';cases h') he]at h;rw[Oper.semAt_eq _ _ _ aiT];refine⟨h.1,?_⟩;have hh:=h.2;have hn:∀v w2,K' (a'.put o.dst v) w2→K (a.put o.dst v) w2:=hK a a' hd.symm rfl rfl;have aiU:¬LetsOut Q':=fun⟨a,w,hq⟩=>hQ _ _ _ (by simp) hq;generalize (execOp a.eval o).run P w=r at*;cases r with
 |ok x w'=>
  cases x<;>simp only[Oper.uponIn]at hh⊢<;>first
   |exact hh
   |exact hn _ _ hh
   |exact hK {tmps:=a.tmps,defers:=_::a.defers} {tmps:=a'.tmps,defers:=_::a'.defers} (by simp[hd]) rfl rfl _ _ hh
   |exact⟨hh.1,RowsIn.mono hh.2 (fun _ _ he=>hn _ _ he)⟩
   |exact⟨hh.1,CallsIn.mono hh.2 (fun e w'' he=>by cases e<;>first|exact(aiU he).elim|exact(hQ _ _ _ (by simp) he).elim|exact hn _ _ he)⟩
   |exact⟨hh.1,RoundIn.mono hh.2 (fun e w'' he=>by cases e<;>first|exact(aiU he).elim|exact(hQ _ _ _ (by simp) he).elim|exact hn _ _ he)⟩
 |halt x w'=>cases x<;>simp only[Oper.uponIn]at hh⊢<;>first|exact(hQ _ _ _ (by simp) hh).elim|exact hh
theorem Rel.swap{g:Fr}(h:Rel E.P E.az nt w0 μ φ f m a' w)(hs:a.tmps.size=a'.tmps.size)(hd:a.defers=a'.defers)(hg:∀t,g t=.top∨(g t=f t∧a.tmps.getD t undef=a'.tmps.getD t undef)):Rel E.P E.az nt w0 μ φ g m a w:=
 {toaA:=h.toaA,size:=hs.trans h.size,defers:=by rw[hd];exact h.defers,lj:=h.lj,fr:=fun t=>by
   rcases hg t with e|⟨e,e2⟩
   ·rw[e];exact .top
   ·rw[e];have:=h.fr t;unfold bV at this⊢;rw[e2];exact this,
  live:=fun t id hid=>by
   rcases hg t with e|⟨e,_⟩
   ·rw[e]at hid;cases hid
   ·rw[e]at hid;exact h.live t id hid}
variable{done:List Nat}
theorem HX(h:OV done l o=true):∀e∈o.after,Region.binds .any e=true→done.elem e.on=true∨∃y∈l,y.1=e.on:=fun e he hb=>by
 have:=aoN.1 h e (apu.2 he);simp only[hb,alk,apO,aon]at this;rcases this with h|h
 ·exact .inl h
 ·obtain⟨y,hy,hy2⟩:=ao7.1 h;exact .inr ⟨y,hy,IT hy2⟩
structure Uo(E:Env)(ops:Array Oper)(w0:bu)(base:Nat→Bool)(f:Fr)(m:Mem)(recs:List Rec):Prop where
 lt:recs.Pairwise fun q r=>q.i≠r.i
 LY:∀r∈recs,ops[r.i]?=some r.o
 bs:∀r∈recs,base r.i=false
 ord:recs.Pairwise (Ord ops)
 kl:recs.Pairwise fun q r=>q.kl≠[]→reach ops 4 r.o q.i=true
 cln:jz ops f m recs
 A9:∀r∈recs,∀e∈r.o.after,Region.binds .any e=true→e.on<r.i∧(base e.on=true∨∃q∈recs,q.i=e.on)
 ok:dw E ops w0 f m recs
theorem Pq(hE:jM E)(hY:tA E.P E.az E.fn.ntmps E.yl w0)(hmz:∀x∈l,ops[x.1]?=some x.2)(aiP:(l.map Prod.fst).Pairwise (·≠·))(Ui:∀x∈l,base x.1=false)(Z5:∀x∈l,∀e∈x.2.after,Region.binds .any e=true→base e.on=true∨∃y∈l,y.1=e.on)(hi:tx ops [] l=true)(KA:∀x∈fl,af2 E ops x)(adN:∀x∈CL,ops[x.1]?=some x.2∧oj E x.2=true)(hbc:∀i o,ops[i]?=some o→(base i=true∨∃x∈fl,x.1=i)→∀e∈o.after,Region.binds .any e=true→base e.on=true∨∃x∈fl,x.1=e.on){r:R}{k:Fr→Mem→Option R}(h:cA E ops 2 n R [] l (b8 f0 (fl++CL)) m [] (fun f1 m1=>Ru fl f0 f1 (k f1 m1))=some r):∃recs f',k f' (oM m recs)=some r∧yO f' (iX (b8 f0 (fl++CL)) recs)∧recs.map (fun r=>(r.i,r.o))=l∧Uo E ops w0 base (b8 f0 (fl++CL)) m recs∧∀(L:Nat→Bool)(H0 H:Ro)(μ:Ro)(φ:Nat→aH)(a:Act)(w:World),(∀i,L i=true→base i=true∨(∃x∈fl,x.1=i)∨∃x∈CL,x.1=i)→A8 E H0 H CL L a→Rel E.P E.az E.fn.ntmps (hB w0 H) μ φ (b8 f0 ((fl.filter fun x=> !L x.1)++CL)) m a w→∃H' φ',A8 E H0 H' (CL.filter fun x=> !l.any fun y=>y.1==x.1) L a∧Rel E.P E.az E.fn.ntmps (hB w0 H') μ φ' (fp L (b8 f0 (fl++CL)) recs) (gm L m recs) a w:=by
 obtain⟨recs,f',c1,c2,c3,c4,c5⟩:=lx (w0:=w0) hE hY (.inr rfl) n h hmz (fun h=>by omega) (by intro x hx g hg;cases hg) (b8 f0 (fl++CL)) (yO.refl _) (by intro g hg;cases hg) (fun _ _ _ _=>rfl);obtain⟨c1,af3⟩:=Np c1;obtain⟨_,i2,i3⟩:=A7 hi;have bk:∀q∈recs,(q.i,q.o)∈l:=fun q hq=>by grind
 have W9:∀x∈l,∃q∈recs,q.i=x.1:=fun x hx=>by grind
 have HV:recs.Pairwise fun q r=>reach ops 4 r.o q.i=true∨q.o.apart ops r.o=true:=by grind
 have hmo:recs.Pairwise (R3 (ops:=ops)):=c5.ord rfl;have fo:Uo E ops w0 base (b8 f0 (fl++CL)) m recs:=by
  refine⟨?_,fun q hq=>hmz _ (bk q hq),fun q hq=>Ui _ (bk q hq),?_,c5.kl,c5.cln,fun q hq e he yo=>⟨i3 _ (bk q hq) e he yo,?_⟩,c4⟩
  ·grind
  ·refine List.Pairwise.imp (fun{q r}h=>?_) (List.Pairwise.and HV hmo);obtain⟨h1,h2⟩:=h;rcases h1 with h1|h1
   ·exact .inl h1
   ·rcases h2 with h2|h2
    ·exact .inl h2
    ·exact .inr ⟨h1,h2⟩
  ·rcases Z5 _ (bk q hq) e he yo with h1|⟨y,hy,h1⟩
   ·exact Or.inl h1
   ·obtain⟨q2,Zd,e2⟩:=W9 y hy;exact Or.inr ⟨q2,Zd,e2.trans h1⟩
 refine⟨recs,f',c1,c2,c3,fo,fun L H0 H μ φ a w hL KB hR=>?_⟩;have IV:∀q∈recs,L q.i=true→((q.i,q.o)∈fl∧mZ q.o=true)∨((q.i,q.o)∈CL∧oj E q.o=true):=fun q hq hl=>by
  rcases hL _ hl with h1|⟨x,hx,e⟩|⟨x,hx,e⟩
  ·rw[fo.bs q hq]at h1;cases h1
  ·obtain⟨h1,h2,_⟩:=KA x hx;rw[e,fo.LY q hq]at h1;have e2:x=(q.i,q.o):=arj e (aoq h1).symm;subst e2;exact .inl ⟨hx,h2⟩
  ·obtain⟨h1,h2⟩:=adN x hx;rw[e,fo.LY q hq]at h1;have e2:x=(q.i,q.o):=arj e (aoq h1).symm;subst e2;exact .inr ⟨hx,h2⟩
 obtain⟨todo,afa⟩:∃todo,todo=recs.filter fun r=>L r.i&&oj E r.o:=⟨_,rfl⟩;have htm:∀r,r∈todo↔r∈recs∧L r.i=true∧oj E r.o=true:=fun r=>by rw[afa];simp[aok]
 have afY:∀q∈recs,L q.i=true→((todo.any fun r=>r.i==q.i)=true↔oj E q.o=true):=fun q hq hl=>by
  constructor
  ·intro h;obtain⟨r,hr,e⟩:=ao7.1 h;obtain⟨h1,_,h3⟩:=(htm r).1 hr;have e:r.i=q.i:=by simpa using e
   have:=fo.LY r h1;rw[e,fo.LY q hq]at this;rw[aoq this];exact h3
  ·intro h;exact ao7.2 ⟨q,(htm q).2 ⟨hq,hl,h⟩,by simp⟩
 have hS0:Rel E.P E.az E.fn.ntmps (hB w0 H) μ φ (fp (fun i=>L i&& !todo.any fun r=>r.i==i) (b8 f0 (fl++CL)) recs) (gm (fun i=>L i&& !todo.any fun r=>r.i==i) m recs) a w:=by
  refine Xa fo.LY fo.lt c4 KA adN (fun r hr hl=>?_) c2 af3 (hR.weaken fun t=>?_)
  ·simp only[aeu,aou]at hl;rcases IV r hr hl.1 with h|h
   ·exact⟨_,h.1,rfl⟩
   ·rw[(afY r hr hl.1).2 h.2]at hl;cases hl.2
  ·by_cases hx:∃x∈(fl.filter fun x=> !(L x.1&& !todo.any fun r=>r.i==x.1))++CL,x.2.dst=some t
   ·right;exact nW (.inr hx)
   ·left;rw[iW fun x Ec Un=>hx ⟨x,Ec,Un⟩,iW fun x Ec Un=>hx ⟨x,(by
     rcases aol.1 Ec with h|h
     ·obtain⟨h1,h2⟩:=aok.1 h;refine aol.2 (.inl (aok.2 ⟨h1,?_⟩));cases hl:L x.1 with
      |false=>rfl
      |true=>rw[hl]at h2;cases h2
     ·exact aol.2 (.inr h)),Un⟩]
 obtain⟨H',φ',k1,k2⟩:=Xb (H0:=H0) (L:=L) fo.lt fo.LY fo.ord fo.kl fo.cln c4 (fun q hq hl=>by
  rcases IV q hq hl with h|h
  ·refine .inr fun r hr hk=>?_;cases hx:reach ops 4 q.o r.i with
   |false=>rfl
   |true=>
    have h1:=af1 (P:=fun i=>base i=true∨∃x∈fl,x.1=i) hbc 4 q.o r.i (hbc _ _ (fo.LY q hq) (.inr ⟨_,h.1,rfl⟩)) hx;rcases h1 with h1|⟨x,hx,e⟩
    ·rw[fo.bs r hr]at h1;cases h1
    ·obtain⟨h1,h2,_⟩:=KA x hx;rw[e,fo.LY r hr]at h1;rw[←aoq h1]at h2;exact(qZ h2 hk).elim
  ·exact .inl h.2) todo CL (fun r hr=>by
  obtain⟨h1,h2,h3⟩:=(htm r).1 hr;rcases IV r h1 h2 with h|h
  ·exact(qZ h.2 h3).elim
  ·exact⟨h1,h3,h2,h.1⟩) (by rw[afa];exact fo.lt.sublist List.filter_sublist) H μ φ a w KB hS0
 refine⟨H',φ',k1.sub (fun x hx=>?_) (fun _ _ h=>h) (fun _ _ _ _=>rfl),k2⟩;obtain⟨h1,h2⟩:=aok.1 hx;refine aok.2 ⟨h1,?_⟩;simp only[aou,apd,ara]at h2⊢;exact fun r hr e=>h2 _ (bk r ((htm r).1 hr).1) e
theorem Up{p:Nat×Oper→Bool}:(((HC ops).filter p).map Prod.fst).Pairwise (·≠·):=by
 have h0:((HC ops).map Prod.fst).Pairwise (·≠·):=by unfold HC;rw[zip_fst];exact List.pairwise_lt_range.imp Nat.ne_of_lt
 exact h0.sublist (List.filter_sublist.map _)
structure F0(E:Env)(ops:Array Oper)(w0:bu)(done:List Nat)(Ee:List (Nat×Oper))(f:Fr)(m:Mem)(recs:List Rec)(listed:Array Bool)(a:Act)(w:World):Prop where
 size:listed.size=ops.size
 cl:uE ops listed
 ge:∀i,done.elem i=true→ak listed i=true
 le:∀i,ak listed i=true→done.elem i=true∨(∃r∈recs,r.i=i)∨∃x∈Ee,x.1=i
 rel:∃H μ φ,A8 E w0.hid H Ee (ak listed) a∧Rel E.P E.az E.fn.ntmps (hB w0 H) μ φ (fp (ak listed) f recs) (gm (ak listed) m recs) a w
theorem gn(hi:i<listed.size)(j:Nat):ak (listed.setIfInBounds i true) j=if j=i then true else ak listed j:=by simp only[ak,am8,aor];grind
variable{Ee:List (Nat×Oper)}
theorem F0.grow{w':World}(h:F0 E ops w0 done Ee f m recs listed a w)(ho:ops[i]?=some o)(hi:i<listed.size)(YN:∀e∈o.after,Region.binds .any e=true→ak listed e.on=true)(k8:(∃r∈recs,r.i=i)∨∃x∈Ee,x.1=i)(hr:∃H μ φ,A8 E w0.hid H Ee (ak (listed.setIfInBounds i true)) a'∧Rel E.P E.az E.fn.ntmps (hB w0 H) μ φ (fp (ak (listed.setIfInBounds i true)) f recs) (gm (ak (listed.setIfInBounds i true)) m recs) a' w'):F0 E ops w0 done Ee f m recs (listed.setIfInBounds i true) a' w':=by
 refine⟨by simp[h.size],fun i' o' R1 l8 e he yo=>?_,fun j hj=>?_,fun j hj=>?_,hr⟩
 ·rw[gn hi]at l8⊢;split
  ·rfl
  ·split at l8
   ·rename_i hq;subst hq;have:o'=o:=by rw[ho]at R1;exact(aoq R1).symm
    subst this;exact YN e he yo
   ·exact h.cl i' o' R1 l8 e he yo
 ·rw[gn hi];split
  ·rfl
  ·exact h.ge j hj
 ·rw[gn hi]at hj;split at hj
  ·rename_i e;subst e;exact .inr k8
  ·exact h.le j hj
theorem Pr{S:Nat→Bool}{t:Nat}:∀{l:List Rec}{f:Fr},f t=.top→(∀q∈l,q.o.dst≠some t)→fp S f l t=.top
 |[],_,h,_=>h
 |r::l,f,h,hq=>by
  rw[fp];refine Pr ?_ fun q IM=>hq q (by simp[IM]);cases S r.i with
  |false=>exact h
  |true=>
   show r.fs f t=.top;unfold Rec.fs;rw[dI (hq r (by simp))];rcases Ul (kl:=r.kl) (f:=f) (t:=t)with e|e
   ·rw[e,h]
   ·exact e
theorem F0.step(fo:Uo E ops w0 (fun i=>done.elem i) f m recs)(G1:∀x∈Ee,ops[x.1]?=some x.2∧It ops x=true∧∀r∈recs,r.i≠x.1)(h:F0 E ops w0 done Ee f m recs listed a w){r:Rec}(hr:r∈recs)(hl:ak listed r.i=false)(hi:r.i<listed.size)(YN:∀e∈r.o.after,Region.binds .any e=true→ak listed e.on=true):wpOpIn (FR rd) 0 E.P ops Q r.i (F0 E ops w0 done Ee f m recs (listed.setIfInBounds r.i true)) a w:=by
 obtain⟨H,μ,φ,KB,hR⟩:=h.rel;have hs:=(Jp (rd:=rd) (Q:=Q) H fo.lt fo.LY fo.ord fo.kl fo.cln fo.ok h.cl hr YN hi hl hR (K:=fun a' w'=>∃μ' φ',Rel E.P E.az E.fn.ntmps (hB w0 H) μ' φ' (fp (ak (listed.setIfInBounds r.i true)) f recs) (gm (ak (listed.setIfInBounds r.i true)) m recs) a' w') fun μ' φ' a' w' h=>⟨μ',φ',h⟩).1;refine wpOpIn_mono (fun a' w' hk=>?_) (Nq (fo.LY r hr) (T:=fun d v=>v=a.tmps.getD d undef) (fun _ _=>rfl) hs);obtain⟨⟨μ',φ',jN⟩,ht⟩:=hk;refine h.grow (fo.LY r hr) hi YN (.inl ⟨r,hr,rfl⟩) ⟨H,μ',φ',KB.sub (fun _ h=>h) (fun x hx Wz=>?_) (fun x hx d hd=>ht d fun e=>?_),jN⟩
 ·rw[gn hi]at Wz;split at Wz
  ·rename_i e;exact absurd e.symm ((G1 x hx).2.2 r hr)
  ·exact Wz
 ·obtain⟨h1,h2,h3⟩:=G1 x hx;exact h3 r hr (uG h2 (fo.LY r hr) hd e).symm
theorem F0.alc(fo:Uo E ops w0 (fun i=>done.elem i) f m recs)(G1:∀x∈Ee,ops[x.1]?=some x.2∧It ops x=true∧∀r∈recs,r.i≠x.1)(hft:∀x∈Ee,∀d,x.2.dst=some d→f d=.top)(h:F0 E ops w0 done Ee f m recs listed a w)(hx:x∈Ee)(hk:oj E x.2=true)(hl:ak listed x.1=false)(hi:x.1<listed.size):wpOpIn (FR rd) 0 E.P ops Q x.1 (F0 E ops w0 done Ee f m recs (listed.setIfInBounds x.1 true)) a w:=by
 obtain⟨H,μ,φ,KB,hR⟩:=h.rel;obtain⟨i,⟨dst,op,type,pos,after,guard⟩⟩:=x;obtain⟨k8,huq,IG⟩:=G1 _ hx;simp only[oj,aeu,ap2,aou]at hk;obtain⟨⟨⟨⟨hg,haf⟩,HV⟩,hdo⟩,hz⟩:=hk;subst hg;split at hz;rotate_left
 ·cases hz
 rename_i t d;obtain⟨cs,hz⟩:=aop.1 hz;obtain⟨inf,zv,z1,z2,_⟩:=du hz;unfold wpOpIn;rw[k8];simp only[Region.wanted,BY];refine⟨fun _ _=>trivial,?_⟩;rw[Oper.semAt_eq _ _ _ (fun c hc=>by cases hc)];simp only[execOp,Sem.run_bind,Cq z1 z2,Result.andThen_ok,Sem.run_pure];have hnl:∀e∈after,Region.binds .any e=true→ak listed e.on=true:=fun e he _=>by
  have WO:after= #[]:=by simpa using haf
  rw[WO]at he;simp at he
 have hdl:d<E.fn.ntmps:=gP hdo d rfl;have hfd:∀S,fp S f recs d=.top:=fun S=>Pr (hft _ hx d rfl) fun q hq hd=>IG q hq (uG huq (fo.LY q hq) rfl hd).symm;have Fx:=hR.Z1 (.cells zv.cells t);have amx:fp (ak (listed.setIfInBounds i true)) f recs=fp (ak listed) f recs:=funext fun s=>zi rfl fun q hq=>by rw[gn hi,QU (IG q hq)]
 have amy:gm (ak (listed.setIfInBounds i true)) m recs=gm (ak listed) m recs:=funext fun s=>zj rfl fun q hq=>by rw[gn hi,QU (IG q hq)]
 have Ax:∀y∈Ee,y.1≠i→∀e,y.2.dst=some e→e≠d:=fun y hy bU e he YN=>bU (uG huq (G1 y hy).1 rfl (by rw[he,YN])).symm;have ey:∀e,e≠d→(a.tmps.setIfInBounds d (.pointer (some ⟨w.heap.size,0,none⟩))).getD e undef=a.tmps.getD e undef:=fun e he=>by simp only[am8,aor];rw[QU fun h=>he h.symm]
 have AQ:(a.tmps.setIfInBounds d (.pointer (some ⟨w.heap.size,0,none⟩))).getD d undef=.pointer (some ⟨w.heap.size,0,none⟩):=by
  have:d<a.tmps.size:=by rw[hR.size];exact hdl
  simp[am8,aor,this]
 have adO:∀g o,H g=some o→g<w.heap.size:=fun g o hg=>(T0.1 (hR.hid g o hg).1).1;refine h.grow k8 hi hnl (.inr ⟨_,hx,rfl⟩) ⟨hAdd H w.heap.size (.cells zv.cells t),μ,φ,⟨fun g o hg=>?_,fun y hy Z9=>?_,fun y hy y' hy' Z9 af4 bU e e' he M8=>?_⟩,?_⟩
 ·unfold hAdd;rw[QU fun e=>by have:=adO _ _ (KB.le g o hg);omega];exact KB.le g o hg
 ·by_cases Re:y.1=i
  ·have h1:=(G1 y hy).1;rw[Re,k8]at h1;have:y.2=_:=(aoq h1).symm;refine⟨d,t,zv.cells,w.heap.size,by rw[this],by rw[this],⟨inf,zv,z1,z2,rfl⟩,AQ,by simp[hAdd],?_⟩;cases hq:w0.hid w.heap.size with
   |none=>rfl
   |some o=>have:=adO _ _ (KB.le _ _ hq);omega
  ·rw[gn hi,QU Re]at Z9;obtain⟨e,t',c',g',q1,q2,q3,q4,q5,q6⟩:=KB.pt y hy Z9;refine⟨e,t',c',g',q1,q2,q3,by rw[show((a.put (some d) (.pointer (some ⟨w.heap.size,0,none⟩))).tmps)=a.tmps.setIfInBounds d (.pointer (some ⟨w.heap.size,0,none⟩))from rfl,ey e (Ax y hy Re e q2)];exact q4,?_,q6⟩;unfold hAdd;rw[QU fun e=>by have:=adO _ _ q5;omega];exact q5
 ·have key:∀y∈Ee,y.1≠i→ak (listed.setIfInBounds i true) y.1=true→∀e,y.2.dst=some e→a.tmps.getD e undef≠.pointer (some ⟨w.heap.size,0,none⟩):=fun y hy Re Z9 e he hee=>by rw[gn hi,QU Re]at Z9;obtain⟨e',t',c',g',q1,q2,q3,q4,q5,q6⟩:=KB.pt y hy Z9;rw[he]at q2;cases q2;rw[hee]at q4;cases q4;have:=adO _ _ q5;omega
  show(a.tmps.setIfInBounds d (.pointer (some ⟨w.heap.size,0,none⟩))).getD e undef≠(a.tmps.setIfInBounds d (.pointer (some ⟨w.heap.size,0,none⟩))).getD e' undef;have R5:∀z∈Ee,z.1=i→∀u,z.2.dst=some u→u=d:=fun z hz hzi u hu=>by have h1:=(G1 z hz).1;rw[hzi,k8]at h1;rw[←aoq h1]at hu;exact(aoq hu).symm
  by_cases Re:y.1=i
  ·have Xd:y'.1≠i:=fun e=>bU (Re.trans e.symm);rw[R5 y hy Re e he,AQ,ey e' (Ax y' hy' Xd e' M8)];exact(key y' hy' Xd af4 e' M8).symm
  ·by_cases Xd:y'.1=i
   ·rw[R5 y' hy' Xd e' M8,AQ,ey e (Ax y hy Re e he)];exact key y hy Re Z9 e he
   ·rw[ey e (Ax y hy Re e he),ey e' (Ax y' hy' Xd e' M8)];rw[gn hi,QU Re]at Z9;rw[gn hi,QU Xd]at af4;exact KB.inj y hy y' hy' Z9 af4 bU e e' he M8
 ·rw[amx,amy];exact Fx.put (fun _ _ h=>h) (fun e he=>by cases he;exact hdl) Fx.toaA Fx.kO (v:=.top) .top (fun id hid=>by cases hid)|>.weaken fun s=>by
   by_cases hs:s=d
   ·subst hs;exact .inr (hfd _)
   ·exact .inl (by rw[dI fun e=>hs (aoq e).symm])
theorem Xe(hE:jM E)(hY:tA E.P E.az E.fn.ntmps E.yl w0){k:Fr→Mem→Option R}{r:R}(hQ:∀f' m' μ' φ' a' w',k f' m'=some r→Rel E.P E.az E.fn.ntmps w0 μ' φ' f' m' a' w'→Q .normal a' w'):∀(ps done:List Nat)(fl:List (Nat×Oper))(f0:Fr)(m:Mem),FL E ops k ps done fl f0 (b8 f0 (fl++su E ops done)) m=some r→(∀x∈fl,af2 E ops x∧done.elem x.1=false)→(∀i o,ops[i]?=some o→(done.elem i=true∨∃x∈fl,x.1=i)→∀e∈o.after,Region.binds .any e=true→done.elem e.on=true∨∃x∈fl,x.1=e.on)→∀(fuel:Nat)(listed:Array Bool),listed.size=ops.size→listed.toList.countP (fun b=> !b)≤fuel→uE ops listed→(∀i,done.elem i=true→ak listed i=true)→(∀i,ak listed i=true→done.elem i=true∨(∃x∈fl,x.1=i)∨∃x∈su E ops done,x.1=i)→∀(H μ:Ro)(φ:Nat→aH)(a:Act)(w:World),A8 E w0.hid H (su E ops done) (ak listed) a→Rel E.P E.az E.fn.ntmps (hB w0 H) μ φ (b8 f0 ((fl.filter fun x=> !ak listed x.1)++su E ops done)) m a w→wpAnyIn (FR rd) 0 E.P .any ops Q fuel listed a w:=by
 intro ps;induction ps with
 |nil=>
  intro done fl f0 m h KA hbc fuel listed hs hc qn hb td H μ φ a w KB hR;simp only[FL]at h;split at h;rotate_left
  ·cases h
  rename_i hi;have hz:∀x,x∈Rv ops done↔x∈HC ops∧done.elem x.1=false:=fun x=>by simp[Rv,aok]
  have hpn:∀x∈su E ops done,x∈HC ops∧oj E x.2=true∧done.elem x.1=false:=fun x hx=>by simp only[su,aok,aeu,aou]at hx;exact hx
  obtain⟨_,_,i3⟩:=A7 hi;obtain⟨recs,f',c1,c2,c3,fo,Fv⟩:=Pq (w0:=w0) (base:=fun i=>done.elem i) hE hY (l:=Rv ops done) (fun x hx=>j4 ((hz x).1 hx).1) Up (fun x hx=>((hz x).1 hx).2) (fun x hx e he yo=>by
   cases hd:done.elem e.on with
   |true=>exact .inl rfl
   |false=>have h1:=i3 x hx e he yo;have h2:x.1<ops.size:=(T0.1 (j4 ((hz x).1 hx).1)).1;exact .inr ⟨_,(hz _).2 ⟨xd (Yh (show e.on<ops.size by omega)),hd⟩,rfl⟩) hi (fun x hx=>(KA x hx).1) (fun x hx=>⟨j4 (hpn x hx).1,(hpn x hx).2.1⟩) hbc h
  have bk:∀x∈Rv ops done,∃q∈recs,q.i=x.1:=fun x hx=>by grind
  have W4:∀q∈recs,(q.i,q.o)∈Rv ops done:=fun q hq=>by grind
  obtain⟨H1,φ1,hE1,Fx⟩:=Fv _ _ H μ φ a w td KB hR;have aaa:F0 E ops w0 done [] (b8 f0 (fl++su E ops done)) m recs listed a w:=⟨hs,qn,hb,fun i hi=>by
   cases hd:done.elem i with
   |true=>exact .inl rfl
   |false=>
    have bF:i<ops.size:=by rw[←hs];refine Nat.lt_of_not_le fun G2=>?_;simp[ak,am8,aqR G2]at hi
    exact .inr (.inl (bk _ ((hz _).2 ⟨xd (Yh bF),hd⟩))),H1,μ,φ1,hE1.sub (fun _ h=>by cases h) (fun _ h=>by cases h) (fun _ h=>by cases h),Fx⟩
  refine ae9 (fun l a w h=>h.size) (fun l a w h hr=>?_) (fun fuel l a w hc h i o ho hl hi YN=>.inl ?_) fuel listed a w hc aaa
  ·have mr:∀n,∀q∈recs,q.i<n→ak l q.i=true:=by
    intro n;induction n with
    |zero=>intro q _ hq;omega
    |succ n ihn=>
     intro q hq hqn;cases hx:ak l q.i with
     |true=>rfl
     |false=>
      exfalso;have bF:q.i<l.size:=by rw[h.size];exact(T0.1 (fo.LY q hq)).1
      have hm:q.i∈Region.ready .any ops l:=mem_ready.2 ⟨by simp only[ak,am8,Yh bF,aoD]at hx⊢;exact hx,q.o,fo.LY q hq,fun e he yo=>?_⟩
      ·rw[hr]at hm;cases hm
      ·obtain⟨h1,h2⟩:=fo.A9 q hq e he yo;rcases h2 with h2|⟨q2,Zd,e2⟩
       ·exact h.ge _ h2
       ·have:=ihn q2 Zd (by omega);rwa[e2]at this
   obtain⟨H2,μ2,φ2,hE2,FT⟩:=h.rel;rw[show fp (ak l) (b8 f0 (fl++su E ops done)) recs=iX (b8 f0 (fl++su E ops done)) recs from funext fun t=>yu rfl fun q hq hf=>(by rw[mr _ q hq (aql _)]at hf;cases hf),show gm (ak l) m recs=oM m recs from funext fun t=>yw rfl fun q hq hf=>(by rw[mr _ q hq (aql _)]at hf;cases hf)]at FT;exact hQ _ _ _ _ _ _ c1 ((FT.Nh (H':=w0.hid) hE2.le).weaken c2)
  ·have YI:done.elem i=false:=by
    cases hd:done.elem i with
    |false=>rfl
    |true=>rw[h.ge i hd]at hl;cases hl
   obtain⟨q,hq,e⟩:=bk _ ((hz (i,o)).2 ⟨xd ho,YI⟩);have e:q.i=i:=e;subst e;have:q.o=o:=by have:=fo.LY q hq;rw[ho]at this;exact(aoq this).symm
   subst this;exact h.step fo (fun _ h=>by cases h) hq hl hi YN
 |cons p ps ih=>
  intro done fl f0 m h KA hbc fuel listed hs hc qn hb td H μ φ a w KB hR;simp only[FL]at h;split at h;rotate_left
  ·cases h
  rename_i o ho;split at h;rotate_left
  ·cases h
  rename_i hsk;simp only[aeR,aeu,aoN,aou,aon]at hsk;obtain⟨⟨⟨⟨⟨⟨⟨hi,qp⟩,hpd⟩,aiV⟩,af5⟩,amz⟩,af6⟩,amA⟩:=hsk;generalize hl:OU E ops done p o=l at*;have hz:∀x,x∈l↔x∈HC ops∧done.elem x.1=false∧x.1≠p∧reach ops 8 x.2 p=false∧(oj E x.2=true→reach ops 8 o x.1=true):=fun x=>by
   rw[←hl];simp only[OU,aok,aeu,aou,aon];constructor
   ·rintro⟨h1,⟨⟨h2,h3⟩,h4⟩,h5⟩;exact⟨h1,h2,fun e=>(by rw[e,Nat.beq_refl]at h3;cases h3),h4,fun h=>h5.resolve_left fun h6=>by rw[h]at h6;cases h6⟩
   ·rintro⟨h1,h2,h3,h4,h5⟩;refine⟨h1,⟨⟨h2,?_⟩,h4⟩,?_⟩
    ·cases hx:Nat.beq x.1 p with
     |false=>rfl
     |true=>exact absurd (IT hx) h3
    ·cases hx:oj E x.2 with
     |false=>exact .inl rfl
     |true=>exact .inr (h5 hx)
  have hpn:∀x,x∈su E ops done↔x∈HC ops∧oj E x.2=true∧done.elem x.1=false:=fun x=>by simp[su,aok]
  have af7:o.guard=none∧∃c,o.op=.call c:=by
   simp only[aeQ,aeu,ap2]at qp;refine⟨qp.1,?_⟩;have h2:=qp.2;split at h2
   ·exact⟨_,by assumption⟩
   ·cases h2
  obtain⟨Fv,Nk⟩:=af7;obtain⟨recs,f',c1,c2,c3,fo,af8⟩:=Pq (w0:=w0) (base:=fun i=>done.elem i) hE hY (l:=l) (fun x hx=>j4 ((hz x).1 hx).1) (hl▸Up) (fun x hx=>((hz x).1 hx).2.1) (fun x hx=>HX (af5 x hx).1) hi (fun x hx=>(KA x hx).1) (fun x hx=>⟨j4 ((hpn x).1 hx).1,((hpn x).1 hx).2.1⟩) hbc h;have bk:∀x∈l,∃q∈recs,q.i=x.1∧q.o=x.2:=fun x hx=>by grind
  have W4:∀q∈recs,(q.i,q.o)∈l:=fun q hq=>by grind
  have amB:p<ops.size:=(T0.1 ho).1;have hpr:∀r∈recs,r.i≠p:=fun r hr=>((hz _).1 (W4 r hr)).2.2.1;have hfm:∀x,x∈KG ops o l↔x∈l∧reach ops 8 o x.1=false:=fun x=>by simp[KG,aok]
  have hbm:∀i,(AN ops o l).elem i=true↔∃x∈l,reach ops 8 o x.1=true∧x.1=i:=fun i=>by
   rw[apC];simp only[AN,aoi,aok];constructor
   ·rintro⟨x,⟨h1,h2⟩,h3⟩;exact⟨x,h1,h2,h3⟩
   ·rintro⟨x,h1,h2,h3⟩;exact⟨x,⟨h1,h2⟩,h3⟩
  have YO:∀i,(p::(AN ops o l++done)).elem i=true↔i=p∨(∃x∈l,reach ops 8 o x.1=true∧x.1=i)∨done.elem i=true:=fun i=>by rw[apC,aoc,aol,←hbm,apC,apC]
  obtain⟨Ee,aiW⟩:∃Ee,Ee=(su E ops done).filter fun x=> !l.any fun y=>y.1==x.1:=⟨_,rfl⟩;have ham:∀x,x∈Ee↔x∈su E ops done∧∀y∈l,y.1≠x.1:=fun x=>by rw[aiW];simp only[aok,aou,apd,ara]
  have af9:∀x∈Ee,x.1≠p:=fun x hx e=>by have h1:=(hpn x).1 ((ham x).1 hx).1;have h2:=j4 h1.1;rw[e,ho]at h2;have h3:=h1.2.1;rw[←aoq h2]at h3;obtain⟨c,hc⟩:=Nk;simp[oj,hc]at h3
  have G1:∀x∈Ee,ops[x.1]?=some x.2∧It ops x=true∧∀r∈recs,r.i≠x.1:=fun x hx=>by obtain⟨h1,h2⟩:=(ham x).1 hx;exact⟨j4 ((hpn x).1 h1).1,amA x h1,fun r hr=>h2 _ (W4 r hr)⟩
  have hft:∀x∈Ee,∀d,x.2.dst=some d→b8 f0 (fl++su E ops done) d=.top:=fun x hx d hd=>nW (.inr ⟨x,aol.2 (.inr ((ham x).1 hx).1),hd⟩);have aiX:∀x∈fl,x∈l:=fun x hx=>by
   obtain⟨h1,h2⟩:=KA x hx;have hxp:x.1≠p:=fun e=>by have h3:=h1.1;rw[e,ho]at h3;have h4:=h1.2.1;rw[←aoq h3]at h4;obtain⟨c,hc⟩:=Nk;simp[mZ,hc]at h4
   exact(hz x).2 ⟨xd h1.1,h2,hxp,amz x hx,fun h=>(qZ h1.2.1 h).elim⟩
  have Uq:∀x,x∈su E ops (p::(AN ops o l++done))↔x∈Ee:=fun x=>by
   rw[ham,hpn];simp only[su,aok,aeu,aou];constructor
   ·rintro⟨h1,h2,h3⟩;have h4:¬(p::(AN ops o l++done)).elem x.1=true:=by rw[h3];simp
    rw[YO]at h4;refine⟨⟨h1,h2,?_⟩,fun y hy e=>?_⟩
    ·cases hx:done.elem x.1 with
     |false=>rfl
     |true=>exact absurd (.inr (.inr hx)) h4
    ·have hxy:y=x:=by have a1:=j4 ((hz y).1 hy).1;rw[e,j4 h1]at a1;exact arj e (aoq a1).symm
     subst hxy;exact h4 (.inr (.inl ⟨y,hy,((hz y).1 hy).2.2.2.2 h2,rfl⟩))
   ·rintro⟨⟨h1,h2,h3⟩,h4⟩;refine⟨h1,h2,?_⟩;cases hx:(p::(AN ops o l++done)).elem x.1 with
    |false=>rfl
    |true=>
     rcases(YO _).1 hx with e|⟨y,hy,_,e⟩|h5
     ·have h6:=j4 h1;rw[e,ho]at h6;obtain⟨c,hc⟩:=Nk;rw[←aoq h6]at h2;simp[oj,hc]at h2
     ·exact absurd e (h4 y hy)
     ·rw[h3]at h5;cases h5
  have hP:∀(fuel:Nat)(listed:Array Bool)(a:Act)(w:World),listed.toList.countP (fun b=> !b)≤fuel+1→F0 E ops w0 done Ee (b8 f0 (fl++su E ops done)) m recs listed a w→(∀e∈o.after,Region.binds .any e=true→ak listed e.on=true)→ak listed p=false→wpOpIn (FR rd) 0 E.P ops Q p (wpAnyIn (FR rd) 0 E.P .any ops Q fuel (listed.setIfInBounds p true)) a w:=by
   intro fuel listed a w hc aaa nh hpu;obtain⟨hs,qn,hb,td,H,μ,φ,KB,hR⟩:=aaa;have aga:∀q∈recs,ak listed q.i=false→(q.i,q.o)∈KG ops o l:=fun q hq hu=>(hfm _).2 ⟨W4 q hq,by
    cases hx:reach ops 8 o q.i with
    |false=>rfl
    |true=>rw[ng listed qn 8 o q.i nh hx]at hu;cases hu⟩
   obtain⟨μ1,φ1,a1,Fx,hd1,hz1,ht1⟩:=R9 H fo.lt fo.LY fo.ord fo.kl fo.cln fo.ok fo.A9 _ listed hs (aoa _) qn hb (fun q hq hu=>by obtain⟨⟨⟨h1,h2⟩,_⟩,_⟩:=af6 _ (aga q hq hu);exact⟨h1,h2⟩) μ φ a w hR;have aab:=jq (rd:=rd) (w0:=hB w0 H) hE (hY.hid H) _ (.inl rfl) c1 (fun x hx=>by
    simp only[apg]at hx;subst hx;exact ho) (by intro x hx g hg;cases hg) (fun h=>by omega) μ1 φ1 a1 w
    (fun e a w=>e=.normal∧∃f2 m2 μ2 φ2,FL E ops k ps (p::(AN ops o l++done)) (KG ops o l) f2 (b8 f2 (KG ops o l++su E ops (p::(AN ops o l++done)))) m2=some r∧Rel E.P E.az E.fn.ntmps (hB w0 H) μ2 φ2 f2 m2 a w) [] (Fx.weaken c2) (by intro g hg;cases hg) fun f2 m2 μ2 φ2 a2 w2 OC FT _ _=>⟨rfl,f2,m2,μ2,φ2,OC,FT⟩
   rw[aoM,aog,ape,wpOpsIn_cons]at aab;have R5:∀q∈recs,ak listed q.i=false→∀d,q.o.dst=some d→d∉o.looksAt ops:=fun q hq hu=>by obtain⟨⟨_,h2⟩,_⟩:=af6 _ (aga q hq hu);exact(Oper.apart_spec h2).1
   have hw:∀a:Act,Region.wanted o (yielded ops a.tmps)=true:=fun a=>by unfold Region.wanted;rw[Fv]
   unfold wpOpIn at aab⊢;rw[ho]at aab⊢;simp only[hw,BY]at aab⊢;refine Oper.Xc Nk (fun x hx=>?_) hd1 (fun b b' yo hbt agb v w2 hK=>?_) (fun e a w bU hq=>bU hq.1) aab
   ·cases x with
    |tmp t=>simp only[Act.eval];exact ht1 t fun q hq hu hd=>R5 q hq hu t hd (LU hx)
    |_=>rfl
   ·obtain⟨_,f2,m2,μ2,φ2,OC,FT⟩:=hK;have tE:p<listed.size:=by omega
    have OG:=gn tE;refine ih (p::(AN ops o l++done)) (KG ops o l) f2 m2 OC (fun x hx=>?_) (fun i oi hoi k8 e he yo=>?_) fuel (listed.setIfInBounds p true) (by simp[hs]) ?_ ?_ (fun i hi=>?_) (fun i hi=>?_) H μ2 φ2 _ w2 ?_ ?_
    ·obtain⟨⟨⟨h1,h2⟩,_⟩,h4⟩:=af6 x hx;obtain⟨g1,g2⟩:=(hfm x).1 hx;obtain⟨z1,z2,z3,z4,z5⟩:=(hz x).1 g1;refine⟨⟨j4 z1,h1,h2,h4⟩,?_⟩;cases T7:(p::(AN ops o l++done)).elem x.1 with
     |false=>rfl
     |true=>
      rcases(YO _).1 T7 with e|⟨y,hy,hy2,e⟩|h5
      ·exact absurd e z3
      ·rw[e,g2]at hy2;cases hy2
      ·rw[z2]at h5;cases h5
    ·have wW:∀{o':Oper},OV (AN ops o l++done) [] o'=true→∀e∈o'.after,Region.binds .any e=true→(p::(AN ops o l++done)).elem e.on=true:=fun hsh e he yo=>by
      rcases HX hsh e he yo with h1|⟨y,hy,_⟩
      ·exact apC.2 (apZ _ (apC.1 h1))
      ·cases hy
     rcases k8 with k8|⟨x,hx,rfl⟩
     ·rcases(YO _).1 k8 with rfl|⟨x,hx,T7,rfl⟩|h5
      ·rw[ho]at hoi;cases hoi;exact .inl (wW aiV e he yo)
      ·have:oi=x.2:=by have:=j4 ((hz x).1 hx).1;rw[hoi]at this;exact aoq this
       subst this;refine .inl (wW ((af5 x hx).2.resolve_left fun h=>?_) e he yo);rw[T7]at h;cases h
      ·rcases hbc i oi hoi (.inl h5) e he yo with h6|⟨x,hx,h6⟩
       ·exact .inl ((YO _).2 (.inr (.inr h6)))
       ·have IJ:=aiX x hx;cases hr:reach ops 8 o x.1 with
        |true=>exact .inl ((YO _).2 (.inr (.inl ⟨x,IJ,hr,h6⟩)))
        |false=>exact .inr ⟨x,(hfm x).2 ⟨IJ,hr⟩,h6⟩
     ·obtain⟨g1,g2⟩:=(hfm x).1 hx;have:oi=x.2:=by have:=j4 ((hz x).1 g1).1;rw[hoi]at this;exact aoq this
      subst this;rcases HX (af5 x g1).1 e he yo with h1|⟨y,hy,h1⟩
      ·exact .inl ((YO _).2 (.inr (.inr h1)))
      ·cases hr:reach ops 8 o y.1 with
       |true=>exact .inl ((YO _).2 (.inr (.inl ⟨y,hy,hr,h1⟩)))
       |false=>exact .inr ⟨y,(hfm y).2 ⟨hy,hr⟩,h1⟩
    ·rw[apk,aqx (by simpa using tE)];have:listed.toList[p]'(by simpa using tE)=false:=by simp only[ak,am8,Yh tE,aoD]at hpu;simpa using hpu
     rw[this];simp only[aoj,BY,alk,AI,OF];omega
    ·intro i' o' R1 l8 e he yo;rw[OG]at l8⊢;split
     ·rfl
     ·split at l8
      ·rename_i ZZ;subst ZZ;have:o'=o:=by rw[ho]at R1;exact(aoq R1).symm
       subst this;exact nh e he yo
      ·exact qn i' o' R1 l8 e he yo
    ·rw[OG];split
     ·rfl
     ·rename_i hip;rcases(YO _).1 hi with e|⟨y,hy,hy2,e⟩|h5
      ·exact absurd e hip
      ·rw[←e];exact ng listed qn 8 o y.1 nh hy2
      ·exact hb i h5
    ·rw[OG]at hi;split at hi
     ·rename_i hip;exact .inl ((YO _).2 (.inl hip))
     ·rcases td i hi with h1|⟨q,hq,e⟩|⟨x,hx,e⟩
      ·exact .inl ((YO _).2 (.inr (.inr h1)))
      ·cases hx:reach ops 8 o q.i with
       |true=>exact .inl ((YO _).2 (.inr (.inl ⟨_,W4 q hq,hx,e⟩)))
       |false=>exact .inr (.inl ⟨(q.i,q.o),(hfm _).2 ⟨W4 q hq,hx⟩,e⟩)
      ·exact .inr (.inr ⟨x,(Uq x).2 hx,e⟩)
    ·refine KB.sub (fun x hx=>(Uq x).1 hx) (fun x hx Wz=>?_) (fun x hx d hd=>?_)
     ·rw[OG]at Wz;split at Wz
      ·rename_i e;exact absurd e (af9 x ((Uq x).1 hx))
      ·exact Wz
     ·have hx:=(Uq x).1 hx;have bU:o.dst≠some d:=fun e=>af9 x hx (uG (G1 x hx).2.1 ho hd e);cases hod:o.dst with
      |none=>simp only[Act.put,hbt]
      |some d0=>simp only[Act.put,hbt,am8,aor];rw[QU fun e=>bU (by rw[hod,e])]
    ·have ou:a.tmps.size=a1.tmps.size:=hz1.symm;refine FT.swap (by cases o.dst<;>simp[Act.put,hbt,agb,ou]) (by cases o.dst<;>simpa[Act.put]using yo) fun t=>?_;by_cases hex:∃x∈(KG ops o l).filter (fun x=> !ak (listed.setIfInBounds p true) x.1)++su E ops (p::(AN ops o l++done)),x.2.dst=some t
     ·exact .inl (nW (.inr hex))
     ·refine .inr ⟨iW fun x hx Un=>hex ⟨x,hx,Un⟩,?_⟩;have htt:a1.tmps.getD t undef=a.tmps.getD t undef:=ht1 t fun q hq hu hd=>hex ⟨(q.i,q.o),aol.2 (.inl (aok.2 ⟨aga q hq hu,by rw[OG,QU (hpr q hq),hu];rfl⟩)),hd⟩;cases hod:o.dst with
      |none=>simp only[Act.put,hbt,agb];exact htt.symm
      |some d=>
       simp only[Act.put,hbt,agb,am8,aor]at htt⊢;by_cases hdt:d=t
       ·subst hdt;simp[ou]
       ·simp only[hdt,OF];exact htt.symm
  obtain⟨H1,φ1,hE1,Fx⟩:=af8 _ _ H μ φ a w td KB hR;have amC:∀x∈fl,∃q∈recs,q.i=x.1:=fun x hx=>by obtain⟨q,hq,e,_⟩:=bk _ (aiX x hx);exact⟨q,hq,e⟩
  have aaa:F0 E ops w0 done Ee (b8 f0 (fl++su E ops done)) m recs listed a w:=⟨hs,qn,hb,fun i hi=>by
   rcases td i hi with h1|⟨x,hx,rfl⟩|⟨x,hx,rfl⟩
   ·exact .inl h1
   ·exact .inr (.inl (amC x hx))
   ·by_cases IJ:∃y∈l,y.1=x.1
    ·obtain⟨y,hy,e⟩:=IJ;obtain⟨q,hq,e2,_⟩:=bk y hy;exact .inr (.inl ⟨q,hq,e2.trans e⟩)
    ·exact .inr (.inr ⟨x,(ham x).2 ⟨hx,fun y hy e=>IJ ⟨y,hy,e⟩⟩,rfl⟩),H1,μ,φ1,aiW▸hE1,Fx⟩
  have aiY:∀l' a w,F0 E ops w0 done Ee (b8 f0 (fl++su E ops done)) m recs l' a w→ak l' p=false:=fun l' a w h=>by
   cases hx:ak l' p with
   |false=>rfl
   |true=>
    rcases h.le p hx with h1|⟨q,hq,e⟩|⟨x,hx,e⟩
    ·rw[hpd]at h1;cases h1
    ·exact absurd e (hpr q hq)
    ·exact absurd e (af9 x hx)
  refine ae9 (fun l a w h=>h.size) (fun l' a w h hr=>?_) (fun fuel l' a w hc hMd i oi hoi hli hi YN=>?_) fuel listed a w hc aaa
  ·exfalso;have mr:∀n,∀q∈recs,q.i<n→ak l' q.i=true:=by
    intro n;induction n with
    |zero=>intro q _ hq;omega
    |succ n ihn=>
     intro q hq hqn;cases hx:ak l' q.i with
     |true=>rfl
     |false=>
      exfalso;have bF:q.i<l'.size:=by rw[h.size];exact(T0.1 (fo.LY q hq)).1
      have hm:q.i∈Region.ready .any ops l':=mem_ready.2 ⟨by simp only[ak,am8,Yh bF,aoD]at hx⊢;exact hx,q.o,fo.LY q hq,fun e he yo=>?_⟩
      ·rw[hr]at hm;cases hm
      ·obtain⟨h1,h2⟩:=fo.A9 q hq e he yo;rcases h2 with h2|⟨q2,Zd,e2⟩
       ·exact h.ge _ h2
       ·have:=ihn q2 Zd (by omega);rwa[e2]at this
   have qk:p<l'.size:=by rw[h.size];exact amB
   have hpu:=aiY _ _ _ h;have hm:p∈Region.ready .any ops l':=mem_ready.2 ⟨by
    simp only[ak,am8,Yh qk,aoD]at hpu⊢;exact hpu,o,ho,fun e he yo=>by
    rcases HX aiV e he yo with h1|⟨y,hy,_⟩
    ·rcases aol.1 (apC.1 h1)with h2|h2
     ·obtain⟨y,hy,_,e1⟩:=(hbm _).1 (apC.2 h2);obtain⟨q,hq,e2,_⟩:=bk y hy;rw[←e1,←e2];exact mr _ q hq (aql _)
     ·exact h.ge _ (apC.2 h2)
    ·cases hy⟩
   rw[hr]at hm;cases hm
  ·by_cases hip:i=p
   ·subst hip;rw[ho]at hoi;cases hoi;exact .inr (hP fuel l' a w hc hMd YN hli)
   ·by_cases hir:∃q∈recs,q.i=i
    ·obtain⟨q,hq,rfl⟩:=hir;have:q.o=oi:=by have:=fo.LY q hq;rw[hoi]at this;exact(aoq this).symm
     subst this;exact .inl (hMd.step fo G1 hq hli hi YN)
    ·by_cases hia:∃x∈Ee,x.1=i
     ·obtain⟨x,hx,rfl⟩:=hia;exact .inl (hMd.alc fo G1 hft hx ((hpn x).1 ((ham x).1 hx).1).2.1 hli hi)
     ·exfalso;have YI:done.elem i=false:=by
       cases hd:done.elem i with
       |false=>rfl
       |true=>rw[hMd.ge i hd]at hli;cases hli
      have hnl:∀y∈l,y.1≠i:=fun y hy e=>by obtain⟨q,hq,e2,_⟩:=bk y hy;exact hir ⟨q,hq,e2.trans e⟩
      cases hx:reach ops 8 oi p with
      |true=>have:=ng l' hMd.cl 8 oi p YN hx;rw[aiY _ _ _ hMd]at this;cases this
      |false=>
       by_cases hk:oj E oi=true
       ·exact hia ⟨(i,oi),(ham _).2 ⟨(hpn _).2 ⟨xd hoi,hk,YI⟩,fun y hy e=>hnl y hy e⟩,rfl⟩
       ·exact hnl (i,oi) ((hz (i,oi)).2 ⟨xd hoi,YI,hip,hx,fun h=>absurd h hk⟩) rfl
end
end Go.Ab
