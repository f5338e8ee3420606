import Derived.Test.YtmbihgjlollbeaaGreatAbP6
import Derived.OrdersIn
set_option linter.all false
namespace Go.Ab
open Go.RowKit (Below)
def Cg(f F:Fr):Prop:=∀t,f t=F t∨f t=.top
theorem Cg.refl(f:Fr):Cg f f:=fun _=>.inl rfl
theorem Cg.put{f F:Fr}(h:Cg f F)(d:Option Nat)(v:V):Cg (kZ f d v) (kZ F d v):=by
 intro t;cases d with
 |none=>exact h t
 |some d=>
  simp only[kZ,ij];cases Nat.beq t d
  ·exact h t
  simp
theorem gB{f:Fr}{d:Option Nat}{v:V}{t:Nat}(h:d≠some t):kZ f d v t=f t:=by
 cases d with
 |none=>rfl
 |some d=>exact wj (fun e=>h (by rw[e]))
theorem mi{f:Fr}{v:V}{t:Nat}:kZ f (some t) v t=v:=by simp[kZ,ij,Nat.beq_refl]
section
variable {E:Env} {ops:Array Oper} {w0:bO}
variable{nt:Nat}{μ:Ro}{φ:Nat→aP}{f:Fr}{m:Mem}{a:Act}
theorem Rel.weaken{f':Fr}{w:World}(h:Rel E.P E.aW nt w0 μ φ f m a w)(hf:Cg f' f):Rel E.P E.aW nt w0 μ φ f' m a w:=
 {h with
  fr:=fun t=>by
   rcases hf t with e|e
   ·rw[e];exact h.fr t
   ·rw[e];exact .top,
  live:=fun t id hid=>by
   rcases hf t with e|e
   ·rw[e]at hid;exact h.live t id hid
   simp_all}
variable{t:Nat}
theorem Lp{d:Nat}{y:Value}(hd:d<a.tmps.size):(a.put (some d) y).tmps.getD t undef=if t=d then y else a.tmps.getD t undef:=by simp only[Act.put,asu,atz];grind
theorem Rel.put{nt:Nat}{μ μ':Ro}{φ φ':Nat→aP}{f f':Fr}{m m':Mem}{a:Act}{w w':World}(h:Rel E.P E.aW nt w0 μ φ f m a w)(hle:Ry μ μ'){dst:Option Nat}{v:V}{y:Value}(hd:∀d,dst=some d→d<nt)(hM:aL E.P E.aW w0 μ' φ' m' w')(hF:cp E.P μ' φ' m' f' (cj nt w0 a))(hv:au E.P μ' φ' v y)(hl:∀id,v.has id=true→(m' id).isSome=true):Rel E.P E.aW nt w0 μ' φ' (kZ f' dst v) m' (a.put dst y) w':=by
 refine{toaL:=hM,size:=?_,defers:=?_,py:=h.py,fr:=fun t=>?_,live:=fun t id hid=>?_}
 ·cases dst<;>simp[Act.put,h.size]
 ·cases dst<;>exact h.defers.mono hle
 ·cases dst with
  |none=>exact hF.fr t
  |some d=>
   have cd:d<a.tmps.size:=by rw[h.size];exact hd d rfl
   have hf:=hF.fr t;by_cases e:t=d
   ·subst e;rw[vZ (hd t rfl),Lp cd,IN rfl,mi];omega
   ·rw[gB (by grind)];unfold cj at hf⊢;split
    ·rename_i ht;rw[IN ht]at hf;rw[Lp cd,IS e];omega
    simp_all
 ·by_cases e:dst=some t
  ·grind [mi,id]
  ·rw[gB e]at hid;exact hF.live t id hid
theorem ag1(h:t<E.fn.ntmps):bR E f (.tmp t)=f t:=by simp only[bR];rw[show Nat.blt t E.fn.ntmps=true by rw[atl];omega];rfl
theorem Lq{p:PV}(h:bR E f (.tmp t)=.pv p):t<E.fn.ntmps∧f t=.pv p:=by grind [bR,Nat.blt,Nat.blt_eq]
theorem acD{F:Fr}(h:Cg f F)(q:Operand):bR E f q=bR E F q∨bR E f q=.top:=by
 cases q with
 |tmp t=>
  simp only[bR];cases Nat.blt t E.fn.ntmps with
  |true=>exact h t
  |false=>simp
 |_=>exact .inl rfl
def wB(nt:Nat)(ops:Array Oper)(A:List (Nat×Bool))(f:Fr):Prop:=∀g∈A,∃t,(ops[g.1]?).bind (·.dst)=some t∧t<nt∧f t=.pv (.bool g.2)
def G1(ops:Array Oper)(A:List (Nat×Bool))(a:Act):Prop:=∀g∈A,∃t,(ops[g.1]?).bind (·.dst)=some t∧a.tmps.getD t undef=.bool g.2
def ajk(ops:Array Oper)(A:List (Nat×Bool))(l:List (Nat×Oper)):Prop:=∀x∈l,∀g∈A,∀t,(ops[g.1]?).bind (·.dst)=some t→x.2.dst≠some t
variable{d:Option Nat}{A:List (Nat×Bool)}
theorem wB.put(h:wB nt ops A f){v:V}(hd:∀g∈A,∀t,(ops[g.1]?).bind (·.dst)=some t→d≠some t):wB nt ops A (kZ f d v):=by intro g hg;obtain⟨t,h1,h0,h2⟩:=h g hg;grind [gB]
variable{o:Oper}
theorem k9(h:CH E o=true):∀d,o.dst=some d→d<E.fn.ntmps:=by grind [CH,Nat.blt_eq]
variable{b:Bool}
theorem Bl{j:Nat}(h:(ops[j]?).bind (·.dst)=some t)(hb:a.tmps.getD t undef=.bool b):yielded ops a.tmps j=some b:=by
 simp only[yielded,h,asq];have:a.tmps[t]?=some (.bool b):=by rw[asu]at hb;grind [undef]
 rw[this]
theorem Im(ho:guardOf o A=none)(hA:G1 ops A a):Region.wanted o (yielded ops a.tmps)=true:=by
 unfold guardOf at ho;unfold Region.wanted;split at ho
 ·rename_i hg;simp[hg]
 ·rename_i g hg;split at ho
  ·rename_i bB;obtain⟨t,h1,h2⟩:=hA g (by simpa using bB);simp_all[Bl]
  ·cases ho
theorem G1.put(h:G1 ops A a){y:Value}(hs:∀t,d=some t→t<a.tmps.size)(hd:∀g∈A,∀t,(ops[g.1]?).bind (·.dst)=some t→d≠some t):G1 ops A (a.put d y):=by
 intro g hg;obtain⟨t,h1,h2⟩:=h g hg;refine⟨t,h1,?_⟩;cases d with
 |none=>exact h2
 |some d=>rw[Lp (hs d rfl),IS fun e=>hd g hg t h1 (by rw[e])];omega
def aaf(ops:Array Oper)(f:Fr)(o:Oper):Prop:=∃g,o.guard=some g∧∀t,(ops[g.1]?).bind (·.dst)=some t→f t=.aG []∨f t=.pv (.bool (!g.2))
theorem aag{P:Program}{x:Value}(h:au P μ φ (.aG []) x):x=undef:=by
 cases h with
 | @aG _ xs h1 _=>have:xs= #[]:=aum (by simpa using h1.symm);subst this;rfl
theorem Lr{P:Program}:au P μ φ (.aG []) undef:=.aG rfl (by simp)
theorem Ff{w:World}(h:Rel E.P E.aW nt w0 μ φ f m a w)(hd:aaf ops f o):Region.wanted o (yielded ops a.tmps)=false:=by
 obtain⟨g,hg,ht⟩:=hd;simp only[Region.wanted,hg];cases hs:(ops[g.1]?).bind (·.dst)with
 |none=>simp[yielded,hs]
 |some t=>
  have hy:nt≤t→yielded ops a.tmps g.1=none:=fun hle=>by simp only[yielded,hs,asq];rw[Array.getElem?_eq_none (by rw[h.size];omega)]
  by_cases Kk:nt≤t
  ·rw[hy Kk];rfl
  have cd:t<nt:=Nat.lt_of_not_le Kk;have h3:=h.fr t;rw[vZ cd]at h3;rcases ht t hs with e|e
  ·rw[e]at h3;have h4:=aag h3;have:yielded ops a.tmps g.1=none:=by
    simp only[yielded,hs,asq];rw[asu]at h4;cases e:a.tmps[t]? with
    |none=>rfl
    |some x=>rw[e]at h4;simp only[atk]at h4;subst h4;rfl
   rw[this];rfl
  ·rw[e]at h3;rw[Bl hs (wz h3)];simp
theorem Bm{t:Nat}:∀{l:List (Nat×Oper)}{f:Fr},(∀x∈l,x.2.dst≠some t)→j9 f l t=f t
 |[],_,_=>rfl
 |x::r,f,h=>by rw[j9,Bm (fun y hy=>h y (by simp[hy])),gB (h x (by simp))]
theorem EC{t:Nat}:∀{l:List (Nat×Oper)}{f:Fr},(∀x∈l,x.2.dst≠some t)→pJ f l t=f t
 |[],_,_=>rfl
 |x::r,f,h=>by rw[pJ,EC (fun y hy=>h y (by simp[hy])),gB (h x (by simp))]
theorem Io{t:Nat}:∀{l:List (Nat×Oper)}{f:Fr},(f t=.top∨∃x∈l,x.2.dst=some t)→pJ f l t=.top
 |[],_,h=>by
  rcases h with h|⟨x,hx,_⟩
  ·exact h
  ·cases hx
 |x::r,f,h=>by
  rw[pJ];by_cases e:x.2.dst=some t
  ·simp_all[Io,mi]
  ·refine Io ?_;rcases h with h|⟨y,hy,hd⟩
   ·simp_all[gB]
   grind
theorem ED{l:List (Nat×Oper)}{F:Fr}(h:∀t,(∀x∈l,x.2.dst≠some t)→f t=F t∨f t=.top):Cg (pJ f l) F:=by intro t;grind [Io,EC]
theorem G2{g:Nat×Bool}{tj:Nat}(hj:(ops[g.1]?).bind (·.dst)=some tj):∀{l:List (Nat×Oper)}{done:List Nat}{f:Fr},CG g done l=true→(∀x∈l,ops[x.1]?=some x.2)→(∀x∈l,x.2.dst≠some tj)→f tj=.pv (.bool (!g.2))→(∀j∈done,∀t,(ops[j]?).bind (·.dst)=some t→f t=.aG [])→∀(pre post:List (Nat×Oper))(x:Nat×Oper),l=pre++x::post→aaf ops (j9 f pre) x.2
 |[],_,_,_,_,_,_,_,pre,post,x,h=>by simp at h
 |y::r,done,f,hg,hl,hd,hb,hdn,pre,post,x,h=>by
  simp only[CG,amm]at hg;cases pre with
  |nil=>
   simp only[atC,ato]at h;obtain⟨rfl,rfl⟩:=h;rw[j9];have h1:=hg.1;split at h1
   ·rename_i hh hgd;refine⟨hh,hgd,fun t ht=>?_⟩;rcases Bool.or_eq_true_iff.1 h1 with h2|h2
    ·simp_all
    grind
   ·cases h1
  |cons z pre=>
   simp only[atT,ato]at h;obtain⟨rfl,h⟩:=h;rw[j9];refine G2 hj hg.2 (fun x hx=>hl x (by simp[hx])) (fun x hx=>hd x (by simp[hx])) (by simp_all[gB]) (fun j hjm t ht=>?_) pre post x h;by_cases e:y.2.dst=some t
   ·rw[e,mi]
   ·rw[gB e];grind
theorem Lt{A:List (Nat×Bool)}:∀{l a b:List (Nat×Oper)},Je A l=(a,b)→l=a++b
 |[],a,b,h=>by simp[Je]at h;simp_all
 |x::r,a,b,h=>by
  simp only[Je]at h;split at h
  ·cases hs:Je A r with
   |mk a' b'=>rw[hs]at h;simp only[amn]at h;obtain⟨rfl,rfl⟩:=h;rw[Lt hs];rfl
  simp_all
theorem G3{v:V}(h:E1 v=some b):v=.pv (.bool b):=by unfold E1 at h;grind
theorem aip(hE:mb E){site:Nat}{draw:Bool}{v:V}{f':Fr}{m':Mem}{ft:bN}(hn:draw=true∨∃c x y,o.op=.pick c x y)(h:∀(R':Type)(k':V→Fr→Mem→bN→Option R'),Q6 E draw site o f m k'=k' v f' m' ft):Bj E draw site o f m v f' m' ft:=by
 have hx:=PG hE (h (V×Fr×Mem×bN) fun v f m ft=>some (v,f,m,ft));rcases hx with⟨v1,f1,m1,ft1,h1,h2⟩|⟨h1,h2,_⟩
 rotate_left
 ·simp_all
 simp_all
theorem Rz{R:Type}{site:Nat}{draw:Bool}{p:Oper}{c:Nat}{x y:Operand}{k:V→Fr→Mem→bN→Option R}(hp:p.op=.pick (.tmp c) x y)(hb:bR E f (.tmp c)=.pv (.bool b)):Q6 E draw site p f m k=k (bR E f (if b then x else y)) f m []:=by
 have Ey:FC E site p f m=none:=by simp only[FC,hp]
 unfold Q6;rw[Ey];have e:(bif draw then none else bif E.Kc site then(none:Option Sp)else none)=none:=by simp
 rw[e];simp only[cR,hp,hb];cases b<;>rfl
end
section
variable {E:Env} {ops:Array Oper} {w0:bO}
theorem CT{rd:Option Nat}{Q:Exit→Act→World→Prop}{tail:List Nat}:∀(l:List (Nat×Oper))(f:Fr),(∀x∈l,ops[x.1]?=some x.2)→(∀x∈l,CH E x.2=true)→(∀(pre post:List (Nat×Oper))(x:Nat×Oper),l=pre++x::post→aaf ops (j9 f pre) x.2)→∀{μ:Ro}{φ:Nat→aP}{m:Mem}{a:Act}{w:World},Rel E.P E.aW E.fn.ntmps w0 μ φ f m a w→∀(A:List (Nat×Bool)),G1 ops A a→ajk ops A l→(∀a',Rel E.P E.aW E.fn.ntmps w0 μ φ (j9 f l) m a' w→G1 ops A a'→wpOpsIn (FR rd) 0 E.P ops Q tail a' w)→wpOpsIn (FR rd) 0 E.P ops Q (l.map (·.1)++tail) a w
 |[],f,_,_,_,_,_,_,a,_,hR,_,hA,_,hK=>hK a hR hA
 |x::r,f,hl,hd,Lu,μ,φ,m,a,w,hR,A,hA,Lv,hK=>by simp only[ass,atT,wpOpsIn];rw[hl x (by simp)];simp only;rw[Ff hR (Lu [] r x rfl)];simp only[cQ,IT];refine And.intro (fun _ _=>trivial) (CT r (kZ f x.2.dst (.aG [])) (fun y hy=>hl y (by simp[hy])) (fun y hy=>hd y (by simp[hy])) (fun pre post y h=>?_) (hR.put (fun _ _ h=>h) (k9 (hd x (by simp))) hR.toaL hR.mS Lr (fun id hid=>by simp[V.has,cA]at hid)) A (hA.put (fun t ht=>by rw[hR.size];exact k9 (hd x (by simp)) t ht) fun g vO t ht=>Lv x (by simp) g vO t ht) (fun y hy=>Lv y (by simp[hy])) hK);have:=Lu (x::pre) post y (by rw[h];rfl);rwa[j9]at this
theorem FP:∀{ft:bN},GO ft=true→∀x∈ft,x.1=false
 |[],_,x,hx=>by cases hx
 |(w,id)::r,h,x,hx=>by
  simp only[GO,amm,asO]at h;rcases asm.1 hx with rfl|hx
  ·exact h.1
  ·exact FP h.2 x hx
theorem j3(hE:mb E){rd:Option Nat}(hY:Aq E.P E.aW E.fn.ntmps E.yl w0):∀(fuel:Nat){mode:Nat}(pt:mode=0∨mode=3){R:Type}{A:List (Nat×Bool)}{l:List (Nat×Oper)}{f:Fr}{m:Mem}{lg:Log}{k:Fr→Mem→Option R}{r:R},cw E ops mode fuel R A l f m lg k=some r→(∀x∈l,ops[x.1]?=some x.2)→ajk ops A l→(mode=3→∀x∈l,fW x.2=true)→∀(μ:Ro)(φ:Nat→aP)(a:Act)(w:World)(Q:Exit→Act→World→Prop)(tail:List Nat),Rel E.P E.aW E.fn.ntmps w0 μ φ f m a w→G1 ops A a→(∀(f':Fr)(m':Mem)(μ':Ro)(φ':Nat→aP)(a':Act)(w':World),k f' m'=some r→Rel E.P E.aW E.fn.ntmps w0 μ' φ' f' m' a' w'→G1 ops A a'→(mode=3→m'=m∧∀t,(∀x∈l,x.2.dst≠some t)→f' t=f t)→wpOpsIn (FR rd) 0 E.P ops Q tail a' w')→wpOpsIn (FR rd) 0 E.P ops Q (l.map (·.1)++tail) a w
 |0,_,_,_,_,_,_,_,_,_,_,h,_,_,_,_,_,_,_,_,_,_,_,_=>by simp[cw]at h
 |fuel+1,mode,pt,R,A,[],f,m,lg,k,r,h,_,_,_,μ,φ,a,w,Q,tail,hR,hA,hK=>by simp only[cw]at h;grind
 |fuel+1,mode,pt,R,A,(i,o)::rest,f,m,lg,k,r,h,hl,Lv,hrk,μ,φ,a,w,Q,tail,hR,hA,hK=>by
  simp only[cw]at h;split at h
  ·rename_i hg;split at h
   ·rename_i hd;have hmm:Nat.beq mode 2=false:=by rcases pt with rfl|rfl<;>rfl
    simp only[hmm,cond_false]at h;rw[←hmm]at h;have hdf:=Il h;rcases PG hE h with⟨v,f1,m1,ft,hk,hop⟩|⟨_,kY⟩
    rotate_left
    ·simp only[ass,atT,wpOpsIn];rw[hl (i,o) (by simp)];simp only;rw[Im hg hA,IN rfl];refine Ln.FO kY rd w0 μ φ a w _ Q hY hR fun v f1 m1 y w' μ' φ' hk hle hM hF hv Ps=>?_;have db:Nat.beq mode 2=false:=by omega
     rw[db]at hk;simp only[cQ,IT]at hk;rcases pt with rfl|rfl
     ·simp only[Nat.beq,BY]at hk;exact j3 hE hY fuel (.inl rfl) hk (fun x hx=>hl x (by simp[hx])) (fun x hx=>Lv x (by simp[hx])) (fun hm x hx=>hrk hm x (by omega)) _ _ _ _ Q tail (hR.put hle (k9 hd) hM hF hv Ps) (hA.put (fun t ht=>by rw[hR.size];exact k9 hd t ht) fun g vO t ht=>Lv (i,o) (by simp) g vO t ht) fun f' m' μ2 φ2 a' w2 sG l7 FG B4=>hK f' m' μ2 φ2 a' w2 sG l7 FG fun h=>by omega
     ·simp[Nat.beq,GO]at hk
    have db:Nat.beq mode 2=false:=by omega
    rw[db]at hk;simp only[cQ,IT]at hk;have hq:(mode=3→f1=f∧m1=m)∧cw E ops mode fuel R A rest (kZ f1 o.dst v) m1 lg k=some r:=by
     rcases pt with rfl|rfl
     ·simp_all
     ·simp only[Nat.beq,cQ,IT]at hk;split at hk
      ·rename_i hqf;exact⟨fun h=>hop.same (hrk rfl (i,o) (by simp)) (FP hqf),hk⟩
      ·cases hk
    obtain⟨aiq,hk⟩:=hq;simp only[ass,atT,wpOpsIn];rw[hl (i,o) (by simp)];simp only;rw[Im hg hA,IN rfl];refine hop.FO hdf rd w0 μ φ a w _ Q hR fun y w' μ' φ' hle hM hF hv Ps=>?_;refine j3 hE hY fuel pt hk (fun x hx=>hl x (by simp[hx])) (fun x hx=>Lv x (by simp[hx])) (fun hm x hx=>hrk hm x (by simp[hx])) _ _ _ _ Q tail (hR.put hle (k9 hd) hM hF hv Ps) (hA.put (fun t ht=>by rw[hR.size];exact k9 hd t ht) fun g vO t ht=>Lv (i,o) (by simp) g vO t ht) fun f' m' μ2 φ2 a' w2 sG l7 FG B4=>?_;refine hK f' m' μ2 φ2 a' w2 sG l7 FG fun hm3=>?_;obtain⟨e1,e2⟩:=aiq hm3;obtain⟨e3,e4⟩:=B4 hm3;refine⟨by rw[e3,e2],fun t ht=>?_⟩;rw[e4 t fun x hx=>ht x (by simp[hx]),gB (ht (i,o) (by simp)),e1]
   ·cases h
  ·rename_i j JX hg;split at h
   ·rename_i tj htj;split at h
    ·rename_i b hb;have ap3:tj<E.fn.ntmps:=by grind [bR,Nat.blt,Nat.blt_eq]
     have hbf:f tj=.pv (.bool b):=by grind [bR,Nat.blt,Nat.blt_eq]
     have hba:a.tmps.getD tj undef=.bool b:=by have:=(aA hR (.tmp tj)).1;rw[hb]at this;exact wz this
     generalize Ey:Je A ((i,o)::rest)=sp at h;obtain⟨body,Q8⟩:=sp;have pR:=Lt Ey;simp only at h;split at h
     ·rename_i air;split at h
      ·rename_i hc;simp only[amm,asV,asO,aua,avA]at hc air;obtain⟨⟨TK,hgi⟩,amS⟩:=hc;have hm0:mode=0:=Ka air.1;subst hm0;have bB:∀z∈body,z∈(i,o)::rest:=fun z hz=>by rw[pR];simp[hz]
       have Fg:∀z∈Q8,z∈(i,o)::rest:=fun z hz=>by rw[pR];simp[hz]
       by_cases hbp:b=JX
       ·have:NO JX b=true:=by subst hbp;cases b<;>rfl
        rw[this]at h;simp only[cond]at h;have hfs:ij f tj (.pv (.bool JX))=f:=funext fun t=>by
         unfold ij;cases e:Nat.beq t tj with
         |false=>rfl
         |true=>simp_all
        rw[hfs]at h;refine j3 hE hY fuel pt h hl (fun z hz g vO t ht=>?_) (fun h=>by omega) _ _ _ _ Q tail hR (fun g vO=>?_) fun f' m' μ2 φ2 a' w2 sG l7 FG B4=>hK f' m' μ2 φ2 a' w2 sG l7 (fun g vO=>FG g (by simp[vO])) fun h=>by omega
        ·rcases asm.1 vO with rfl|vO
         ·grind
         ·exact Lv z hz g vO t ht
        ·rcases asm.1 vO with rfl|vO
         ·simp_all
         ·exact hA g vO
       ·have:NO JX b=false:=by cases b<;>cases JX<;>first|rfl|exact absurd rfl hbp
        rw[this]at h;simp only[cond]at h;have hbn:b= !JX:=by cases b<;>cases JX<;>simp_all
        have hfs:ij f tj (.pv (.bool !JX))=f:=funext fun t=>by
         unfold ij;cases e:Nat.beq t tj with
         |false=>rfl
         |true=>simp_all
        rw[hfs]at h;rw[pR,asT,asD];refine CT body f (fun z hz=>hl z (bB z hz)) TK (G2 htj hgi (fun z hz=>hl z (bB z hz)) (fun z hz=>amS z (bB z hz)) (by rw[hbf,hbn]) (by simp)) hR A hA (fun z hz g vO t ht=>Lv z (bB z hz) g vO t ht) fun a' l7 FG=>?_
        ·refine j3 hE hY fuel pt h (fun z hz=>hl z (Fg z hz)) (fun z hz=>Lv z (Fg z hz)) (fun h=>by omega) _ _ _ _ Q tail l7 FG fun f' m' μ2 φ2 a' w2 sG l7 FG B4=>hK f' m' μ2 φ2 a' w2 sG l7 FG fun h=>by omega
      ·cases h
     ·split at h
      ·rename_i ip p pK;split at h
       ·rename_i c x y acE;split at h
        ·rename_i hc;simp only[amm,asV,asO,aua,avA]at hc;obtain⟨⟨⟨⟨⟨⟨Uy,hpg⟩,Om⟩,hgi⟩,_⟩,hpd⟩,_⟩:=hc;have Uy:=Ka Uy;subst Uy;have hpg:guardOf p A=none:=by simpa using hpg
         obtain⟨rb,hrb,h⟩:=By.1 h;have bB:∀z∈body,z∈(i,o)::rest:=fun z hz=>by rw[pR];simp[hz]
         have Fg:∀z∈pK,z∈(i,o)::rest:=fun z hz=>by rw[pR];simp[hz]
         have WA:(ip,p)∈(i,o)::rest:=by rw[pR];simp
         rw[pR,asT,asD];have after:∀(f1:Fr)(μ1:Ro)(φ1:Nat→aP)(a1:Act)(w1:World)(q:Operand),Rel E.P E.aW E.fn.ntmps w0 μ1 φ1 f1 m a1 w1→G1 ops A a1→(∀t,(∀z∈body,z.2.dst≠some t)→f1 t=f t)→bR E f1 q=.pv (.bool rb)→(q=if b then x else y)→wpOpsIn (FR rd) 0 E.P ops Q (((ip,p)::pK).map (·.1)++tail) a1 w1:=by
          intro f1 μ1 φ1 a1 w1 q Uz hA1 hf1 hq hqe;have ZU:bR E f1 (.tmp c)=.pv (.bool b):=by grind [bR,Nat.blt,Nat.blt_eq]
          simp only[ass,atT,wpOpsIn];rw[hl (ip,p) WA];simp only;rw[Im hpg hA1,IN rfl];have hop:Bj E (Nat.beq mode 1||Nat.beq mode 2) (cS E p.dst) p f1 m (.pv (.bool rb)) f1 m []:=aip hE (.inr ⟨_,_,_,acE⟩) fun R' k'=>by rw[Rz acE ZU,←hqe,hq]
          refine hop.FO (fun c h=>by rw[acE]at h;cases h) rd w0 μ1 φ1 a1 w1 _ Q Uz fun z w' μ' φ' B4 hM hF hv Ps=>?_;have hle:Cg (kZ (pJ f body) p.dst (.pv (.bool rb))) (kZ f1 p.dst (.pv (.bool rb))):=Cg.put (ED fun t ht=>.inl (hf1 t ht).symm) _ _;refine j3 hE hY fuel pt h (fun z hz=>hl z (Fg z hz)) (fun z hz=>Lv z (Fg z hz)) (fun hm z hz=>hrk hm z (Fg z hz)) _ _ _ _ Q tail ((Uz.put B4 (k9 hpd) hM hF hv Ps).weaken hle) (hA1.put (fun t ht=>by rw[Uz.size];exact k9 hpd t ht) fun g vO t ht=>Lv (ip,p) WA g vO t ht) fun f' m' μ2 φ2 a' w2 sG l7 FG B4=>?_;grind [gB,EC]
         have go:∀q,b=JX→(q=if b then x else y)→cw E ops 3 fuel Bool ((j,JX)::A) body f m lg (fun f _=>E1 (bR E f q))=some rb→wpOpsIn (FR rd) 0 E.P ops Q (body.map (·.1)++(((ip,p)::pK).map (·.1)++tail)) a w:=by
          intro q hbp hq hev;refine j3 hE hY fuel (.inr rfl) hev (fun z hz=>hl z (bB z hz)) ?_ (fun _ z hz=>(Om z hz).1.1) _ _ _ _ Q _ hR ?_ fun f' m' μ2 φ2 a' w2 sG l7 FG B4=>?_
          ·intro z hz g vO t ht;rcases asm.1 vO with rfl|vO
           ·grind
           ·exact Lv z (bB z hz) g vO t ht
          ·intro g vO;rcases asm.1 vO with rfl|vO
           ·simp_all
           ·exact hA g vO
          ·obtain⟨e1,e2⟩:=B4 rfl;subst e1;exact after f' μ2 φ2 a' w2 q l7 (fun g vO=>FG g (by simp[vO])) e2 (G3 sG) hq
         have no:∀q,b= !JX→(q=if b then x else y)→E1 (bR E (pJ f body) q)=some rb→wpOpsIn (FR rd) 0 E.P ops Q (body.map (·.1)++(((ip,p)::pK).map (·.1)++tail)) a w:=by
          intro q hbp hq hev;refine CT body f (fun z hz=>hl z (bB z hz)) (fun z hz=>(Om z hz).1.2) (G2 htj hgi (fun z hz=>hl z (bB z hz)) (fun z hz=>(Om z hz).2) (by rw[hbf,hbp]) (by simp)) hR A hA (fun z hz g vO t ht=>Lv z (bB z hz) g vO t ht) fun a' l7 FG=>?_;refine after _ μ φ a' w q l7 FG (fun t ht=>Bm ht) ?_ hq;have hv:=G3 hev;cases q with
          |tmp t=>
           simp only[bR]at hv⊢;have hle:Cg (pJ f body) (j9 f body):=ED fun t ht=>.inl (Bm ht).symm;cases e:Nat.blt t E.fn.ntmps with
           |false=>rw[e]at hv;cases hv
           |true=>
            rw[e]at hv;simp only[cond]at hv⊢;rcases hle t with e|e
            ·rw[←e];omega
            simp_all
          |_=>exact hv
         have hbm:(bif Nat.beq mode 0 then 3 else mode)=3:=by rcases pt with rfl|rfl<;>rfl
         grind
        ·cases h
       ·cases h
      ·cases h
    ·cases h
   ·cases h
end
structure Rec where
 i:Nat
 o:Oper
 v:V
 wr:List (Nat×bX)
 ft:bN
 kl:Kl
def Rec.fs(r:Rec)(f:Fr):Fr:=kZ (kf r.kl f) r.o.dst r.v
def Rec.ms(r:Rec)(m:Mem):Mem:=Ak r.wr (km r.kl m)
def Rec.On(r:Rec)(id:Nat):Prop:=∃b,(b,id)∈r.kl
def pB(f:Fr):List Rec→Fr
 |[]=>f
 |r::l=>pB (r.fs f) l
def vd(m:Mem):List Rec→Mem
 |[]=>m
 |r::l=>vd (r.ms m) l
def tI(S:Nat→Bool)(f:Fr):List Rec→Fr
 |[]=>f
 |r::l=>tI S (bif S r.i then r.fs f else f) l
def tJ(S:Nat→Bool)(m:Mem):List Rec→Mem
 |[]=>m
 |r::l=>tJ S (bif S r.i then r.ms m else m) l
theorem PH:∀{wr:List (Nat×bX)}{m:Mem}{j:Nat},(∀b,(j,b)∉wr)→Ak wr m j=m j
 |[],_,_,_=>rfl
 |(id,b)::r,m,j,h=>by rw[Ak,PH fun b' hb=>h b' (by simp[hb])];exact aF fun e=>h b (by simp[e])
theorem acF:∀{wr:List (Nat×bX)}{j:Nat},(∃b,(j,b)∈wr)→∃b',(j,b')∈wr∧∀m:Mem,Ak wr m j=some b'
 |[],_,h=>by simp_all
 |(id,b)::r,j,h=>by
  by_cases hr:∃b,(j,b)∈r
  ·obtain⟨b',h1,h2⟩:=acF hr;exact⟨b',by simp[h1],fun m=>h2 _⟩
  ·obtain⟨b0,hb⟩:=h;rcases asm.1 hb with hb|hb
   ·simp only[amn]at hb;obtain⟨rfl,rfl⟩:=hb;simp_all[Ak,PH]
   simp_all
mutual
theorem RA{id:Nat}:∀{v:V},v.CD id=true→v.has id=true
 |.agg cs,h=>Bn (cs:=cs) (by simpa[V.CD]using h)
 |.aG cs,h=>Bn (cs:=cs) (by simpa[V.CD]using h)
 |.fn _ cs,h=>Bn (cs:=cs) (by simpa[V.CD]using h)
 |.CC _ _ _,h=>h
 |.GI _ _ _ _ _ _,h=>h
 |.pv _,h=>by cases h
 |.jC,h=>by cases h
 |.op _ _,h=>by cases h
 |.oe _ _ _,h=>by cases h
 |.os _,h=>by cases h
 |.gx _ _ _,h=>by cases h
 |.om _,h=>by cases h
 |.yl _,h=>by cases h
 |.it _,h=>by cases h
 |.top,h=>by cases h
theorem Bn{id:Nat}:∀{cs:List V},GJ id cs=true→cA id cs=true
 |[],h=>by cases h
 |c::r,h=>by
  simp only[GJ,asz]at h;simp only[cA,asz];rcases h with h|h
  ·exact .inl (RA h)
  ·exact .inr (Bn h)
end
variable{id:Nat}
theorem Jy{v:V}(h:v.has id=false):yz id v=v:=by unfold yz;rw[h];rfl
theorem Jz{id:Nat}:∀{cs:List V},cA id cs=false→cs.map (yz id)=cs
 |[],_=>rfl
 |c::r,h=>by simp only[cA,asK]at h;simp only[ass,Jy h.1,Jz h.2]
theorem RB{b:bX}(h:b.names id=false):il id b=b:=by
 cases b with
 |box cs=>simp only[il,Jz (show cA id cs=false from h)]
 |_=>rfl
theorem G4{v:V}(h:v.has id=false):rU id v=v:=by
 unfold rU;cases h2:v.CD id with
 |false=>rfl
 |true=>rw[RA h2]at h;cases h
theorem G5{id:Nat}:∀{cs:List V},cA id cs=false→cs.map (rU id)=cs
 |[],_=>rfl
 |c::r,h=>by simp only[cA,asK]at h;simp only[ass,G4 h.1,G5 h.2]
theorem PI{b:bX}(h:b.names id=false):eh id b=b:=by
 cases b with
 |box cs=>simp only[eh,G5 (show cA id cs=false from h)]
 |_=>rfl
theorem Lw:∀{kl:Kl}{f:Fr}{t:Nat},(∀id,(∃b,(b,id)∈kl)→(f t).has id=false)→kf kl f t=f t
 |[],_,_,_=>rfl
 |(true,id)::r,f,t,h=>by have h0:fD id f t=f t:=Jy (h id ⟨true,by simp⟩);rw[kf,Lw (kl:=r) (f:=fD id f) fun j hj=>by rw[h0];exact h j (let⟨b,hb⟩:=hj;⟨b,by simp[hb]⟩),h0]
 |(false,id)::r,f,t,h=>by have h0:jD id f t=f t:=G4 (h id ⟨false,by simp⟩);rw[kf,Lw (kl:=r) (f:=jD id f) fun j hj=>by rw[h0];exact h j (let⟨b,hb⟩:=hj;⟨b,by simp[hb]⟩),h0]
theorem G6:∀{kl:Kl}{f g:Fr}{t:Nat},f t=g t→kf kl f t=kf kl g t
 |[],_,_,_,h=>h
 |(true,id)::r,f,g,t,h=>G6 (kl:=r) (f:=fD id f) (g:=fD id g) (by simp only[fD,h])
 |(false,id)::r,f,g,t,h=>G6 (kl:=r) (f:=jD id f) (g:=jD id g) (by simp only[jD,h])
theorem Lx:∀{kl:Kl}{m:Mem}{j:Nat},(∀id,(∃b,(b,id)∈kl)→j≠id∧∀b,m j=some b→b.names id=false)→km kl m j=m j
 |[],_,_,_=>rfl
 |(true,id)::r,m,j,h=>by
  obtain⟨h1,h2⟩:=h id ⟨true,by simp⟩;have h0:bF (bS id m) id j=m j:=by
   rw[gZ h1];unfold bS;cases hm:m j with
   |none=>rfl
   |some b=>simp only[RB (h2 b hm)]
  rw[km,Lx (kl:=r) (m:=bF (bS id m) id) fun i hi=>by rw[h0];exact h i (let⟨b,hb⟩:=hi;⟨b,by simp[hb]⟩),h0]
 |(false,id)::r,m,j,h=>by
  obtain⟨h1,h2⟩:=h id ⟨false,by simp⟩;have h0:fO id m j=m j:=by
   unfold fO;cases hm:m j with
   |none=>rfl
   |some b=>simp only[PI (h2 b hm)]
  rw[km,Lx (kl:=r) (m:=fO id m) fun i hi=>by rw[h0];exact h i (let⟨b,hb⟩:=hi;⟨b,by simp[hb]⟩),h0]
theorem Ly:∀{kl:Kl}{m n:Mem}{j:Nat},m j=n j→km kl m j=km kl n j
 |[],_,_,_,h=>h
 |(true,id)::r,m,n,j,h=>Ly (kl:=r) (m:=bF (bS id m) id) (n:=bF (bS id n) id) (by
  by_cases e:j=id
  ·subst e;simp
  simp_all[gZ,bS])
 |(false,id)::r,m,n,j,h=>Ly (kl:=r) (m:=fO id m) (n:=fO id n) (by simp only[fO,h])
variable{r:Rec}
theorem Rec.RC{f:Fr}{t:Nat}(h:r.o.dst=some t):r.fs f t=r.v:=by unfold Rec.fs;rw[h,mi]
theorem Rec.WB{f:Fr}{t:Nat}(h:r.o.dst≠some t)(hc:∀id,r.On id→(f t).has id=false):r.fs f t=f t:=by unfold Rec.fs;rw[gB h];exact Lw hc
theorem Rec.Lz{f g:Fr}{t:Nat}(h:f t=g t):r.fs f t=r.fs g t:=by
 by_cases e:r.o.dst=some t
 ·rw[RC e,RC e]
 ·unfold Rec.fs;grind [gB,G6]
theorem Rec.ais{j:Nat}(h:∃b,(j,b)∈r.wr):∃b',(j,b')∈r.wr∧∀m,r.ms m j=some b':=let⟨b',h1,h2⟩:=acF h;⟨b',h1,fun m=>h2 _⟩
theorem Rec.acG{m:Mem}{j:Nat}(h:∀b,(j,b)∉r.wr)(hc:∀id,r.On id→j≠id∧∀b,m j=some b→b.names id=false):r.ms m j=m j:=by unfold Rec.ms;rw[PH h];exact Lx hc
theorem Rec.LA{m n:Mem}{j:Nat}(h:m j=n j):r.ms m j=r.ms n j:=by
 by_cases e:∃b,(j,b)∈r.wr
 ·obtain⟨b,_,e⟩:=Rec.ais e;rw[e,e]
 ·have e':∀b,(j,b)∉r.wr:=fun b hb=>e ⟨b,hb⟩;unfold Rec.ms;grind [PH,Ly]
section
variable {S S':Nat→Bool}
theorem RD{f:Fr}:∀{l l':List Rec},pB f (l++l')=pB (pB f l) l':=by
 intro l;induction l generalizing f with
 |nil=>intro l';rfl
 |cons r l ih=>intro l';exact ih
theorem RE{m:Mem}:∀{l l':List Rec},vd m (l++l')=vd (vd m l) l':=by
 intro l;induction l generalizing m with
 |nil=>intro l';rfl
 |cons r l ih=>intro l';exact ih
theorem CU{f:Fr}:∀{l l':List Rec},tI S f (l++l')=tI S (tI S f l) l':=by
 intro l;induction l generalizing f with
 |nil=>intro l';rfl
 |cons r l ih=>intro l';exact ih
theorem CV{m:Mem}:∀{l l':List Rec},tJ S m (l++l')=tJ S (tJ S m l) l':=by
 intro l;induction l generalizing m with
 |nil=>intro l';rfl
 |cons r l ih=>intro l';exact ih
theorem Oo{t:Nat}:∀{l:List Rec}{f:Fr},(∀q∈l,q.o.dst≠some t∧q.kl=[])→pB f l t=f t
 |[],_,_=>rfl
 |r::l,f,h=>by rw[pB,Oo fun q hq=>h q (by simp[hq])];obtain⟨h1,h2⟩:=h r (by simp);exact Rec.WB h1 fun id⟨b,hid⟩=>by rw[h2]at hid;cases hid
theorem vP{t:Nat}:∀{l:List Rec}{f:Fr},(∀q∈l,S q.i=true→q.o.dst≠some t∧∀id,q.On id→(f t).has id=false)→tI S f l t=f t
 |[],_,_=>rfl
 |r::l,f,h=>by
  have h0:(bif S r.i then r.fs f else f) t=f t:=by
   cases e:S r.i with
   |false=>rfl
   |true=>simp_all[Rec.WB]
  rw[tI,vP fun q hq hs=>by rw[h0];exact h q (by simp[hq]) hs,h0]
theorem LB{t:Nat}:∀{l:List Rec}{f g:Fr},f t=g t→(∀q∈l,S q.i=false→q.o.dst≠some t∧q.kl=[])→tI S f l t=pB g l t
 |[],_,_,h,_=>h
 |r::l,f,g,h,hs=>by
  rw[tI,pB];refine LB ?_ fun q hq=>hs q (by simp[hq]);cases e:S r.i with
  |true=>exact Rec.Lz h
  |false=>obtain⟨h1,h2⟩:=hs r (by simp) e;rw[Rec.WB h1 fun id⟨b,hid⟩=>by rw[h2]at hid;cases hid];exact h
theorem FQ{t:Nat}:∀{l:List Rec}{f g:Fr},f t=g t→(∀q∈l,S q.i=S' q.i)→tI S f l t=tI S' g l t
 |[],_,_,h,_=>h
 |r::l,f,g,h,hs=>by
  rw[tI,tI];refine FQ ?_ fun q hq=>hs q (by simp[hq]);rw[hs r (by simp)];cases S' r.i
  ·exact h
  ·exact Rec.Lz h
theorem vQ{j:Nat}:∀{l:List Rec}{m:Mem},(∀q∈l,S q.i=true→(∀b,(j,b)∉q.wr)∧∀id,q.On id→j≠id∧∀b,m j=some b→b.names id=false)→tJ S m l j=m j
 |[],_,_=>rfl
 |r::l,m,h=>by
  have h0:(bif S r.i then r.ms m else m) j=m j:=by
   cases e:S r.i with
   |false=>rfl
   |true=>simp_all[Rec.acG]
  rw[tJ,vQ fun q hq hs=>by rw[h0];exact h q (by simp[hq]) hs,h0]
theorem LC{j:Nat}:∀{l:List Rec}{m n:Mem},m j=n j→(∀q∈l,S q.i=false→(∀b,(j,b)∉q.wr)∧q.kl=[])→tJ S m l j=vd n l j
 |[],_,_,h,_=>h
 |r::l,m,n,h,hs=>by
  rw[tJ,vd];refine LC ?_ fun q hq=>hs q (by simp[hq]);cases e:S r.i with
  |true=>exact Rec.LA h
  |false=>obtain⟨h1,h2⟩:=hs r (by simp) e;rw[Rec.acG h1 fun id⟨b,hid⟩=>by rw[h2]at hid;cases hid];exact h
theorem FT{j:Nat}:∀{l:List Rec}{m n:Mem},m j=n j→(∀q∈l,S q.i=S' q.i)→tJ S m l j=tJ S' n l j
 |[],_,_,h,_=>h
 |r::l,m,n,h,hs=>by
  rw[tJ,tJ];refine FT ?_ fun q hq=>hs q (by simp[hq]);rw[hs r (by simp)];cases S' r.i
  ·exact h
  ·exact Rec.LA h
end
section
variable {E:Env} {ops:Array Oper} {w0:bO}
def Oq(E:Env)(ops:Array Oper)(w0:bO)(r:Rec)(f:Fr)(m:Mem):Prop:=∀(f2:Fr)(m2:Mem),(∀t∈r.o.looksAt ops,f2 t=f t)→(∀x∈r.ft,m2 x.2=m x.2)→∀(μ:Ro)(φ:Nat→aP)(a:Act)(w:World)(K:Act→World→Prop)(Q:Exit→Act→World→Prop),Rel E.P E.aW E.fn.ntmps w0 μ φ f2 m2 a w→(∀μ' φ' a' w',Rel E.P E.aW E.fn.ntmps w0 μ' φ' (r.fs f2) (r.ms m2) a' w'→K a' w')→if Region.wanted r.o (yielded ops a.tmps)then∀rd:Option Nat,r.o.wpIn (FR rd) 0 E.P a w K Q else K (a.put r.o.dst undef) w
def gC(E:Env)(ops:Array Oper)(w0:bO):Fr→Mem→List Rec→Prop
 |_,_,[]=>True
 |f,m,r::l=>Oq E ops w0 r f m∧(∀id b,(id,b)∈r.wr→(true,id)∈r.ft)∧gC E ops w0 (r.fs f) (r.ms m) l
theorem gC.append{f:Fr}{m:Mem}{l l':List Rec}:gC E ops w0 f m (l++l')↔gC E ops w0 f m l∧gC E ops w0 (pB f l) (vd m l) l':=by
 induction l generalizing f m with
 |nil=>simp[gC,pB,vd]
 |cons r l ih=>simp_all[atT,gC,pB,vd,auV]
def Clean(ops:Array Oper)(id:Nat)(r:Rec)(f:Fr)(m:Mem):Prop:=(∀t∈r.o.looksAt ops,(f t).has id=false)∧r.v.has id=false∧(∀x∈r.ft,x.2≠id∧∀b,m x.2=some b→b.names id=false)∧∀j b,(j,b)∈r.wr→(∀m,r.ms m j=some b)→j≠id∧b.names id=false
def sK(ops:Array Oper):Fr→Mem→List Rec→Prop
 |_,_,[]=>True
 |f,m,r::l=>(∀q∈l,∀id,q.On id→reach ops 4 q.o r.i=true∨Clean ops id r f m)∧sK ops (r.fs f) (r.ms m) l
theorem sK.append{f:Fr}{m:Mem}{l l':List Rec}(h:sK ops f m (l++l')):sK ops (pB f l) (vd m l) l':=by
 induction l generalizing f m with
 |nil=>exact h
 |cons r l ih=>exact ih h.2
def Ord(ops:Array Oper)(q r:Rec):Prop:=reach ops 4 r.o q.i=true∨(q.o.apart ops r.o=true∧(∀id b,(id,b)∈q.wr→∀x∈r.ft,x.2≠id)∧∀id b,(id,b)∈r.wr→∀x∈q.ft,x.2≠id)
theorem aah{o:Oper}{j:Nat}(h:KJ o j=true):∃e∈o.after,Region.binds .any e=true∧e.on=j:=by unfold KJ at h;obtain⟨e,he,h⟩:=ati.1 h;have he:e∈o.after:=atK.1 he;simp only[amm]at h;grind [Nat.eq_of_beq_eq_true]
abbrev aR(l:Array Bool):Nat→Bool:=fun i=>l.getD i false
def FU(ops:Array Oper)(listed:Array Bool):Prop:=∀i o,ops[i]?=some o→aR listed i=true→∀e∈o.after,Region.binds .any e=true→aR listed e.on=true
theorem wC(listed:Array Bool)(A2:FU ops listed):∀(n:Nat)(o:Oper)(j:Nat),(∀e∈o.after,Region.binds .any e=true→aR listed e.on=true)→reach ops n o j=true→aR listed j=true:=by
 have amT:∀(o:Oper)(j:Nat),(∀e∈o.after,Region.binds .any e=true→aR listed e.on=true)→KJ o j=true→aR listed j=true:=fun o j ho h=>by grind [aah]
 intro n;induction n with
 |zero=>exact fun o j ho h=>amT o j ho h
 |succ n ihn=>
  intro o j ho h;simp only[reach,asz]at h;rcases h with h|h
  ·exact amT o j ho h
  ·obtain⟨e,he,h⟩:=ati.1 h;simp only[amm]at h;obtain⟨hb,h⟩:=h;have he:e∈o.after:=atK.1 he;split at h
   ·rename_i p hp;exact ihn p j (A2 e.on p hp (ho e he hb)) h
   ·cases h
theorem acH{rd:Option Nat}{recs:List Rec}{f0:Fr}{m0:Mem}{Q:Exit→Act→World→Prop}{base:Nat→Bool}(cd:recs.Pairwise fun q r=>q.i<r.i)(kY:∀r∈recs,ops[r.i]?=some r.o)(ait:∀r∈recs,base r.i=false)(aiu:∀i o,ops[i]?=some o→base i=false→(∀r∈recs,r.i≠i)→(∀r∈recs,reach ops 8 o r.i=true)∨∃j,reach ops 8 o j=true∧base j=false∧∀r∈recs,r.i≠j)(amU:recs.Pairwise (Ord ops))(J2:recs.Pairwise fun q r=>q.kl≠[]→reach ops 4 r.o q.i=true)(ap4:sK ops f0 m0 recs)(acI:∀r∈recs,∀e∈r.o.after,Region.binds .any e=true→e.on<r.i∧(base e.on=true∨∃q∈recs,q.i=e.on))(sJ:gC E ops w0 f0 m0 recs)(hQ:∀(fuel:Nat)(listed:Array Bool),listed.size=ops.size→listed.toList.countP (fun b=> !b)≤fuel→FU ops listed→(∀i,aR listed i=true↔base i=true∨∃r∈recs,r.i=i)→∀μ φ a w,Rel E.P E.aW E.fn.ntmps w0 μ φ (pB f0 recs) (vd m0 recs) a w→wpAnyIn (FR rd) 0 E.P .any ops Q fuel listed a w):∀(fuel:Nat)(listed:Array Bool),listed.size=ops.size→listed.toList.countP (fun b=> !b)≤fuel→FU ops listed→(∀i,base i=true→aR listed i=true)→(∀i,aR listed i=true→base i=true∨∃r∈recs,r.i=i)→∀(μ:Ro)(φ:Nat→aP)(a:Act)(w:World),Rel E.P E.aW E.fn.ntmps w0 μ φ (tI (aR listed) f0 recs) (tJ (aR listed) m0 recs) a w→wpAnyIn (FR rd) 0 E.P .any ops Q fuel listed a w:=by
 have done:∀(fuel:Nat)(listed:Array Bool),listed.size=ops.size→listed.toList.countP (fun b=> !b)≤fuel→FU ops listed→(∀i,base i=true→aR listed i=true)→(∀i,aR listed i=true→base i=true∨∃r∈recs,r.i=i)→(∀r∈recs,aR listed r.i=true)→∀(μ:Ro)(φ:Nat→aP)(a:Act)(w:World),Rel E.P E.aW E.fn.ntmps w0 μ φ (tI (aR listed) f0 recs) (tJ (aR listed) m0 recs) a w→wpAnyIn (FR rd) 0 E.P .any ops Q fuel listed a w:=by
  intro fuel listed hs hc A2 hb yq hl μ φ a w hR;have e1:tI (aR listed) f0 recs=pB f0 recs:=funext fun t=>LB rfl fun q hq hf=>by rw[hl q hq]at hf;cases hf
  have e2:tJ (aR listed) m0 recs=vd m0 recs:=funext fun t=>LC rfl fun q hq hf=>by rw[hl q hq]at hf;cases hf
  rw[e1,e2]at hR;exact hQ fuel listed hs hc A2 (fun i=>⟨yq i,fun h=>h.elim (hb i) fun⟨r,hr,e⟩=>e▸hl r hr⟩) μ φ a w hR
 have ag2:∀(listed:Array Bool),listed.size=ops.size→(∀i,base i=true→aR listed i=true)→(∀r∈recs,r.i∉Region.ready .any ops listed)→∀(n:Nat)(r:Rec),r∈recs→r.i<n→aR listed r.i=true:=by
  intro listed hs hb hr n;induction n with
  |zero=>intro r _ h;omega
  |succ n ih=>
   intro r Cz hi;cases hc:aR listed r.i with
   |true=>rfl
   |false=>
    exfalso;have cd:r.i<listed.size:=by rw[hs];exact(apj.1 (kY r Cz)).1
    refine hr r Cz (mem_ready.2 ⟨by simp only[aR,asu,aiX cd,atk]at hc⊢;exact hc,r.o,kY r Cz,fun e he ke=>?_⟩);obtain⟨h1,h2⟩:=acI r Cz e he ke;rcases h2 with h2|⟨q,hq,hqi⟩
    ·exact hb _ h2
    ·have:=ih q hq (by omega);rwa[hqi]at this
 intro fuel;induction fuel with
 |zero=>
  intro listed hs hc A2 hb yq μ φ a w hR;refine done 0 listed hs hc A2 hb yq (fun r hr=>?_) μ φ a w hR;have cd:r.i<listed.size:=by rw[hs];exact(apj.1 (kY r hr)).1
  have:=avp.1 (Nat.le_zero.1 hc) listed[r.i] (by simp);simp only[aR,asu,aiX cd,atk];simpa using this
 |succ fuel ih=>
  intro listed hs hc A2 hb yq μ φ a w hR;by_cases acJ:∀r∈recs,aR listed r.i=true
  ·exact done (fuel+1) listed hs hc A2 hb yq acJ μ φ a w hR
  have amV:∃r∈recs,aR listed r.i=false:=by
   refine atg fun cV=>acJ fun r hr=>?_;cases hx:aR listed r.i with
   |true=>rfl
   |false=>exact absurd ⟨r,hr,hx⟩ cV
  refine⟨fun h0=>absurd (fun r hr=>ag2 listed hs hb (fun r hr h=>by rw[h0]at h;cases h) (r.i+1) r hr (by omega)) acJ,fun i hi=>?_⟩;obtain⟨hun,o,ho,LD⟩:=mem_ready.1 hi;have amW:aR listed i=false:=by
   have cd:i<listed.size:=by rw[hs];exact(apj.1 ho).1
   simp only[aR,asu,aiX cd,atk]at hun⊢;exact hun
  have hex:∃r∈recs,r.i=i∧r.o=o:=by
   refine atg fun cV=>?_;have TJ:∀r∈recs,r.i≠i:=fun r hr e=>cV ⟨r,hr,e,by have:=kY r hr;rw[e,ho]at this;exact(Option.some.inj this).symm⟩;have hbi:base i=false:=by
    cases hx:base i with
    |false=>rfl
    |true=>rw[hb i hx]at amW;cases amW
   rcases aiu i o ho hbi TJ with h|⟨j,h1,h2,h3⟩
   ·obtain⟨r,hr,hrl⟩:=amV;rw[wC listed A2 8 o r.i LD (h r hr)]at hrl;cases hrl
   ·have:=wC listed A2 8 o j LD h1;rcases yq j this with h|⟨r,hr,e⟩
    ·rw[h]at h2;cases h2
    ·exact h3 r hr e
  obtain⟨r,hr,rfl,rfl⟩:=hex;have acK:r.i<listed.size:=by rw[hs];exact(apj.1 ho).1
  have hSi:aR listed r.i=false:=by simp only[aR,asu,aiX acK,atk]at hun⊢;exact hun
  obtain⟨pre,post,pR⟩:=List.append_of_mem hr;subst pR;have RF:∀q∈pre,Ord ops q r:=fun q hq=>(aty.1 amU).2.2 q hq r (by simp);have WC:∀q∈post,Ord ops r q:=fun q hq=>(atp.1 (aty.1 amU).2.1).1 q hq;have ajl:∀q∈post,q.i≠r.i:=fun q hq=>by have:=(atp.1 (aty.1 cd).2.1).1 q hq;omega
  have amX:∀q∈pre,q.i≠r.i:=fun q hq=>by have:=(aty.1 cd).2.2 q hq r (by simp);omega
  have aai:∀q:Rec,reach ops 4 r.o q.i=true→aR listed q.i=true:=fun q h=>wC listed A2 4 r.o q.i LD h;have UA:∀q∈post,reach ops 4 q.o r.i=true→aR listed q.i=false:=fun q hq h=>by
   cases hc':aR listed q.i with
   |false=>rfl
   |true=>have:=wC listed A2 4 q.o r.i (A2 q.i q.o (kY q (by simp[hq])) hc') h;rw[hSi]at this;cases this
  have aiv:∀(f:Fr),tI (aR listed) f (r::post)=tI (aR listed) f post:=fun f=>by rw[tI,hSi];rfl
  have acL:∀(m:Mem),tJ (aR listed) m (r::post)=tJ (aR listed) m post:=fun m=>by rw[tJ,hSi];rfl
  obtain⟨_,ajm,hrw,_⟩:=gC.append.1 sJ;have hc:=ap4.append.1;have aiw:∀q∈pre,q.kl≠[]→reach ops 4 r.o q.i=true:=fun q hq=>(aty.1 J2).2.2 q hq r (by simp);have acM:r.kl≠[]→∀q∈post,reach ops 4 q.o r.i=true:=fun h q hq=>(atp.1 (aty.1 J2).2.1).1 q hq h;unfold wpOpIn;rw[kY r hr];simp only;have hf1:∀t∈r.o.looksAt ops,tI (aR listed) f0 pre t=pB f0 pre t:=fun t ht=>LB rfl fun q hq hs=>by
   have TJ:¬reach ops 4 r.o q.i=true:=fun h=>by rw[aai q h]at hs;cases hs
   refine⟨fun hd=>?_,?_⟩
   ·rcases RF q hq with h|⟨h,_⟩
    ·exact TJ h
    ·exact absurd ht ((Oper.apart_spec h).1 t hd)
   ·exact atg fun cV=>TJ (aiw q hq cV)
  have hm1:∀x∈r.ft,tJ (aR listed) m0 pre x.2=vd m0 pre x.2:=fun x hx=>LC rfl fun q hq hs=>by
   have TJ:¬reach ops 4 r.o q.i=true:=fun h=>by rw[aai q h]at hs;cases hs
   refine⟨fun b hb=>?_,?_⟩
   ·rcases RF q hq with h|⟨_,h,_⟩
    ·exact TJ h
    ·exact absurd rfl (h _ b hb x hx)
   ·exact atg fun cV=>TJ (aiw q hq cV)
  have hnp:∀q∈post,aR listed q.i=true→¬reach ops 4 q.o r.i=true:=fun q hq hs h=>by rw[UA q hq h]at hs;cases hs
  have hf2:∀t∈r.o.looksAt ops,tI (aR listed) f0 (pre++r::post) t=pB f0 pre t:=fun t ht=>by
   rw[CU,aiv,vP fun q hq hs=>⟨fun hd=>?_,fun id hid=>?_⟩]
   ·exact hf1 t ht
   ·rcases WC q hq with h|⟨h,_⟩
    ·exact hnp q hq hs h
    ·exact absurd ht ((Oper.apart_spec h).2.2 t hd)
   ·rw[hf1 t ht];rcases hc q hq id hid with h|h
    ·exact absurd h (hnp q hq hs)
    ·exact h.1 t ht
  have db:∀x∈r.ft,tJ (aR listed) m0 (pre++r::post) x.2=vd m0 pre x.2:=fun x hx=>by
   rw[CV,acL,vQ fun q hq hs=>⟨fun b hb=>?_,fun id hid=>?_⟩]
   ·exact hm1 x hx
   ·rcases WC q hq with h|⟨_,_,h⟩
    ·exact hnp q hq hs h
    ·exact absurd rfl (h _ b hb x hx)
   ·rw[hm1 x hx];rcases hc q hq id hid with h|h
    ·exact absurd h (hnp q hq hs)
    ·exact h.2.2.1 x hx
  have hwp:=ajm _ _ hf2 db μ φ a w (wpAnyIn (FR rd) 0 E.P .any ops Q fuel (listed.setIfInBounds r.i true)) Q hR fun μ' φ' a' w' l7=>by
   have hS':∀j,aR (listed.setIfInBounds r.i true) j=if j=r.i then true else aR listed j:=fun j=>by
    simp only[aR,asu,atz];by_cases e:r.i=j
    ·subst e;simp[acK]
    ·have e':¬j=r.i:=fun h=>e h.symm;simp[e,e']
   refine ih (listed.setIfInBounds r.i true) (by simp[hs]) ?_ ?_ ?_ ?_ μ' φ' a' w' ?_
   ·rw[auJ,List.countP_set (by simpa using acK)];have:listed.toList[r.i]'(by simpa using acK)=false:=by simp only[aR,asu,aiX acK,atk]at hSi;simpa using hSi
    rw[this];simp only[asw,BY,ahX,cQ,IT];omega
   ·intro i' o' ho' uP e he TK;rw[hS']at uP⊢;split
    ·rfl
    ·split at uP
     ·rename_i hqi;subst hqi;have:o'=r.o:=by rw[kY r hr]at ho';exact(Option.some.inj ho').symm
      subst this;exact LD e he TK
     ·exact A2 i' o' ho' uP e he TK
   ·intro i' uP;rw[hS'];split
    ·rfl
    ·exact hb i' uP
   ·intro i' uP;rw[hS']at uP;split at uP
    ·rename_i hqi;exact Or.inr ⟨r,hr,hqi.symm⟩
    ·exact yq i' uP
   ·have aix:∀q∈pre,aR (listed.setIfInBounds r.i true) q.i=aR listed q.i:=fun q hq=>by rw[hS',IS (amX q hq)]
    have CW:∀q∈post,aR (listed.setIfInBounds r.i true) q.i=aR listed q.i:=fun q hq=>by rw[hS',IS (ajl q hq)]
    have hSr:aR (listed.setIfInBounds r.i true) r.i=true:=by rw[hS',IN rfl]
    have e1:tI (aR (listed.setIfInBounds r.i true)) f0 (pre++r::post)=r.fs (tI (aR listed) f0 (pre++r::post)):=funext fun t=>by
     have hg:tI (aR (listed.setIfInBounds r.i true)) f0 pre=tI (aR listed) f0 pre:=funext fun s=>FQ rfl aix;rw[CU,CU,aiv,tI,hSr,hg];simp only[cond];by_cases hk:r.kl=[]
     ·by_cases hd:r.o.dst=some t
      ·rw[Rec.RC hd,vP fun q hq hs=>⟨fun hqd=>?_,fun id hid=>?_⟩,Rec.RC hd]
       ·rw[CW q hq]at hs;rcases WC q hq with h|⟨h,_⟩
        ·exact hnp q hq hs h
        ·exact absurd hqd ((Oper.apart_spec h).2.1 t hd)
       ·rw[CW q hq]at hs;rw[Rec.RC hd];rcases hc q hq id hid with h|h
        ·exact absurd h (hnp q hq hs)
        ·exact h.2.1
      ·have Ii:∀(g:Fr),r.fs g t=g t:=fun g=>Rec.WB hd fun id⟨b,hid⟩=>by rw[hk]at hid;cases hid
       rw[Ii];exact FQ (Ii _) CW
     ·have hun:∀q∈post,aR listed q.i=false:=fun q hq=>UA q hq (acM hk q hq);rw[vP fun q hq hs=>by rw[CW q hq,hun q hq]at hs;cases hs];exact Rec.Lz (vP fun q hq hs=>by rw[hun q hq]at hs;cases hs).symm
    have e2:tJ (aR (listed.setIfInBounds r.i true)) m0 (pre++r::post)=r.ms (tJ (aR listed) m0 (pre++r::post)):=funext fun j=>by
     have hg:tJ (aR (listed.setIfInBounds r.i true)) m0 pre=tJ (aR listed) m0 pre:=funext fun s=>FT rfl aix;rw[CV,CV,acL,tJ,hSr,hg];simp only[cond];by_cases hk:r.kl=[]
     ·by_cases hd:∃b,(j,b)∈r.wr
      ·obtain⟨b,hd,CA⟩:=Rec.ais hd;rw[CA,vQ fun q hq hs=>⟨fun b' hqd=>?_,fun id hid=>?_⟩,CA]
       ·rw[CW q hq]at hs;rcases WC q hq with h|⟨_,_,h⟩
        ·exact hnp q hq hs h
        ·exact absurd rfl (h j b' hqd (true,j) (hrw j b hd))
       ·rw[CW q hq]at hs;rcases hc q hq id hid with h|h
        ·exact absurd h (hnp q hq hs)
        ·obtain⟨h1,h2⟩:=h.2.2.2 j b hd CA;refine⟨h1,fun b' ke=>?_⟩;rw[CA]at ke;cases ke;exact h2
      ·have hd':∀b,(j,b)∉r.wr:=fun b hb=>hd ⟨b,hb⟩;have Ii:∀(g:Mem),r.ms g j=g j:=fun g=>Rec.acG hd' fun id⟨b,hid⟩=>by rw[hk]at hid;cases hid
       rw[Ii];exact FT (Ii _) CW
     ·have hun:∀q∈post,aR listed q.i=false:=fun q hq=>UA q hq (acM hk q hq);rw[vQ fun q hq hs=>by rw[CW q hq,hun q hq]at hs;cases hs];exact Rec.LA (vQ fun q hq hs=>by rw[hun q hq]at hs;cases hs).symm
    rw[e1,e2];exact l7
  split
  ·rename_i hw;rw[IN hw]at hwp;exact hwp rd
  ·rename_i hw;rw[IS hw]at hwp;exact⟨fun _ _=>trivial,hwp⟩
end
section
variable {E:Env} {ops:Array Oper} {w0:bO}
variable{o:Oper}
theorem aaj{t:Nat}(h:.tmp t∈o.op.operands):t∈o.looksAt ops:=by unfold Oper.looksAt;refine asF.2 (.inl (List.mem_filterMap.2 ⟨.tmp t,by simpa using h,rfl⟩))
theorem CX{g:Nat×Bool}{t:Nat}(hg:o.guard=some g)(h:(ops[g.1]?).bind (·.dst)=some t):t∈o.looksAt ops:=by simp_all[Oper.looksAt]
variable{f F:Fr}
theorem EE(h:∀t∈o.looksAt ops,f t=F t):∀x∈o.op.operands,bR E f x=bR E F x:=by
 intro x hx;cases x with
 |tmp t=>simp_all[bR,aaj]
 |_=>rfl
variable{A:List (Nat×Bool)}{φ:Nat→aP}{a:Act}{w:World}
theorem RG{f2:Fr}{m2:Mem}{μ:Ro}(hg:guardOf o A=none)(hA:wB E.fn.ntmps ops A f)(hR:Rel E.P E.aW E.fn.ntmps w0 μ φ f2 m2 a w)(hf:∀t∈o.looksAt ops,f2 t=f t):Region.wanted o (yielded ops a.tmps)=true:=by
 unfold guardOf at hg;unfold Region.wanted;split at hg
 ·rename_i hgd;simp[hgd]
 ·rename_i g hgd;split at hg
  ·rename_i bB;obtain⟨t,h1,h0,h2⟩:=hA g (by simpa using bB);have h3:=hR.fr t;grind [vZ,CX,Bl,wz]
  ·cases hg
variable{i:Nat}{ft:bN}{m:Mem}
theorem LF(hE:mb E){v:V}{wr:List (Nat×bX)}(hg:guardOf o A=none)(hA:wB E.fn.ntmps ops A f)(hd:CH E o=true)(hn:∀(f2:Fr)(m2:Mem),(∀x∈o.op.operands,bR E f2 x=bR E f x)→(∀x∈ft,m2 x.2=m x.2)→∀(R':Type)(k':V→Fr→Mem→bN→Option R'),Q6 E true (cS E o.dst) o f2 m2 k'=k' v f2 (Ak wr m2) ft):Oq E ops w0 ⟨i,o,v,wr,ft,[]⟩ f m:=by
 intro f2 m2 hf hm μ φ a w K Q hR hK;have hw:Region.wanted o (yielded ops a.tmps)=true:=by
  unfold guardOf at hg;unfold Region.wanted;split at hg
  ·rename_i hgd;simp[hgd]
  ·rename_i g hgd;split at hg
   ·rename_i bB;obtain⟨t,h1,h0,h2⟩:=hA g (by simpa using bB);have h3:=hR.fr t;grind [vZ,CX,Bl,wz]
   ·cases hg
 simp only at hf hm hK⊢;rw[IN hw];exact fun rd=>(aip hE (.inl rfl) (hn f2 m2 (EE hf) hm)).FO (Il (hn f2 m2 (EE hf) hm Unit fun _ _ _ _=>some ())) rd w0 μ φ a w K Q hR fun y w' μ' φ' hle hM hF hv hl=>hK _ _ _ _ (hR.put hle (k9 hd) hM hF hv hl)
theorem UB(hd:CH E o=true)(Lu:aaf ops f o):Oq E ops w0 ⟨i,o,.aG [],[],[],[]⟩ f m:=by
 intro f2 m2 hf hm μ φ a w K Q hR hK;simp only at hf hm hK⊢;have ajn:aaf ops f2 o:=by obtain⟨g,hg,ht⟩:=Lu;exact⟨g,hg,fun t h=>by simp_all[CX]⟩
 rw[Ff hR ajn];simp only[cQ,IT];exact hK _ _ _ _ (hR.put (fun _ _ h=>h) (k9 hd) hR.toaL hR.mS Lr (fun id hid=>by simp[V.has,cA]at hid))
def G7(x:Nat×Oper):Rec:=⟨x.1,x.2,.aG [],[],[],[]⟩
theorem Ot{m:Mem}:∀(l:List (Nat×Oper))(F:Fr),(∀x∈l,CH E x.2=true)→(∀(pre post:List (Nat×Oper))(x:Nat×Oper),l=pre++x::post→aaf ops (j9 F pre) x.2)→gC E ops w0 F m (l.map G7)∧pB F (l.map G7)=j9 F l
 |[],F,_,_=>⟨trivial,rfl⟩
 |x::r,F,hd,Lu=>by obtain⟨h1,h2⟩:=Ot (m:=m) r (kZ F x.2.dst (.aG [])) (fun y hy=>hd y (by simp[hy])) (fun pre post y h=>by have:=Lu (x::pre) post y (by rw[h];rfl);rwa[j9]at this);exact⟨⟨UB (hd x (by simp)) (Lu [] r x rfl),by simp[G7],h1⟩,h2⟩
theorem Ou{m:Mem}:∀{l:List Rec},(∀q∈l,q.wr=[]∧q.kl=[])→vd m l=m
 |[],_=>rfl
 |r::l,h=>by
  obtain⟨h1,h2⟩:=h r (by simp);have:r.ms m=m:=by unfold Rec.ms;rw[h1,h2];rfl
  simp_all[vd,Ou]
theorem gC.wr:∀{l:List Rec}{f:Fr}{m:Mem},gC E ops w0 f m l→∀q∈l,∀id b,(id,b)∈q.wr→(true,id)∈q.ft
 |[],_,_,_,q,hq=>by cases hq
 |r::l,f,m,h,q,hq=>by
  rcases asm.1 hq with rfl|hq
  ·exact h.2.1
  ·exact gC.wr h.2.2 q hq
def acN(q r:Rec):Prop:=reach ops 4 r.o q.i=true∨((∀id b,(id,b)∈q.wr→∀x∈r.ft,x.2≠id)∧∀id b,(id,b)∈r.wr→∀x∈q.ft,x.2≠id)
theorem RH{o:Oper}{w:Bool}{id:Nat}:∀{lg:Log},We ops o w id lg=true→∀x∈lg,id≠x.2.2∨(w=false∧x.2.1=false)∨reach ops 4 o x.1=true
 |[],_,x,hx=>by cases hx
 |(j,w',yn)::lg,h,x,hx=>by
  simp only[We,amm]at h;rcases asm.1 hx with rfl|hx
  ·have h1:=h.1;simp only[asz,asO,amm]at h1;grind [Nat.beq_refl]
  ·exact RH h.2 x hx
theorem Ip{o:Oper}{lg:Log}:∀{ft:bN},H6 ops o lg ft=true→∀y∈ft,∀x∈lg,y.2≠x.2.2∨(y.1=false∧x.2.1=false)∨reach ops 4 o x.1=true
 |[],_,y,hy=>by cases hy
 |(w,id)::ft,h,y,hy=>by
  simp only[H6,amm]at h;rcases asm.1 hy with rfl|hy
  ·exact RH h.1
  ·exact Ip h.2 y hy
theorem LG{o:Oper}{id:Nat}:∀{lg:Log},Kf ops o id lg=true→∀x∈lg,x.2.2=Em id→reach ops 4 o x.1=true
 |[],_,x,hx=>by cases hx
 |(j,w,n)::lg,h,x,hx=>by
  simp only[Kf,amm,asz,asO]at h;intro he;rcases asm.1 hx with rfl|hx
  ·simp_all
  ·exact LG h.2 x hx he
mutual
theorem WD{id:Nat}:∀(v:V),v.has id=true→id∈v.ids
 |.agg cs,h=>AD cs (by simpa only[V.has]using h)
 |.aG cs,h=>AD cs (by simpa only[V.has]using h)
 |.fn _ cs,h=>AD cs (by simpa only[V.has]using h)
 |.os j,h=>by have:=Ka h;subst this;simp[V.ids]
 |.gx j _ _,h=>by have:=Ka h;subst this;simp[V.ids]
 |.oe j _ _,h=>by have:=Ka h;subst this;simp[V.ids]
 |.om j,h=>by have:=Ka h;subst this;simp[V.ids]
 |.CC j _ _,h=>by have:=Ka h;subst this;simp[V.ids]
 |.GI j _ _ _ _ _,h=>by have:=Ka h;subst this;simp[V.ids]
 |.op j _,h=>by have:=Ka h;subst this;simp[V.ids]
 |.it j,h=>by have:=Ka h;subst this;simp[V.ids]
 |.yl j,h=>by have:=Ka h;subst this;simp[V.ids]
 |.pv _,h=>by cases h
 |.jC,h=>by cases h
 |.top,h=>by cases h
theorem AD{id:Nat}:∀(cs:List V),cA id cs=true→id∈Q7 cs
 |[],h=>by cases h
 |v::r,h=>by
  simp only[cA,asz]at h;simp only[Q7,asF];rcases h with h|h
  ·exact .inl (WD v h)
  ·exact .inr (AD r h)
end
variable{id:Nat}
theorem G8{b:bX}(h:b.names id=true):id∈KK (some b):=by
 cases b with
 |box cs=>exact AD cs h
 |_=>cases h
theorem FV{m m':Mem}{id:Nat}:∀{ft:bN}{x:Bool×Nat},x∈ft→(id∈KK (m x.2)∨id∈KK (m' x.2))→id∈Pn m m' ft
 |y::ft,x,hx,h=>by
  simp only[Pn,asF];rcases asm.1 hx with rfl|hx
  ·exact .inl h
  ·exact .inr (FV hx h)
theorem acO{v:V}{wr:List (Nat×bX)}(RI:∀t∈o.looksAt ops,f t=F t)(hwr:∀j b,(j,b)∈wr→(true,j)∈ft)(hn:id∉Ke ops o f m (Ak wr m) v ft)(hft:∀x∈ft,x.2≠id):Clean ops id ⟨i,o,v,wr,ft,[]⟩ F m:=by
 simp only[Ke,asF,avy]at hn;obtain⟨⟨h1,h2⟩,h3⟩:=hn;refine⟨fun t ht=>?_,?_,fun x hx=>⟨hft x hx,fun b hb=>?_⟩,fun j b hb CA=>⟨hft _ (hwr j b hb),?_⟩⟩
 ·cases e:(F t).has id with
  |false=>rfl
  |true=>exact absurd (AD _ (cW.2 ⟨f t,asC.2 ⟨t,ht,rfl⟩,by rw[RI t ht];omega⟩)) h1
 ·cases e:v.has id with
  |false=>rfl
  |true=>exact absurd (WD _ e) h2
 ·cases e:b.names id with
  |false=>rfl
  |true=>grind [absurd,FV,G8]
 ·cases e:b.names id with
  |false=>rfl
  |true=>exact absurd (FV (hwr j b hb) (.inr (by have ke:Ak wr m j=some b:=CA m;simp_all[G8]))) h3
variable{R:Type}
theorem UC{site:Nat}{rd:bN}(h:A9 E f m o=some (id,rd)){k:V→Fr→Mem→bN→Option R}{r:R}(hx:cR E false site o f m k=some r):(∀x∈rd,x.1=false)∧∃dX,k (.os id) (fD id f) (aD (bF (bS id m) id) id dX) [(true,0)]=some r∧∀(f2:Fr)(m2:Mem),(∀x∈o.op.operands,bR E f2 x=bR E f x)→(∀x∈(true,id)::rd,m2 x.2=m x.2)→∀(R':Type)(k':V→Fr→Mem→bN→Option R'),cR E false site o f2 m2 k'=k' (.os id) (fD id f2) (aD (bF (bS id m2) id) id dX) [(true,0)]:=by
 obtain⟨dst,op,type,pos,after,guard⟩:=o;unfold A9 at h;simp only at h;split at h
 ·rename_i c;obtain⟨callee,args,argTypes⟩:=c;simp only at h;split at h
  ·rename_i yn x t t' wy Uv;split at h
   ·rename_i e hu;split at h
    ·rename_i new rd' N9;split at h
     ·cases h
     ·rename_i hxh;simp only[cO,amn]at h;obtain⟨rfl,rfl⟩:=h;obtain⟨he1,he2,_⟩:=rY N9;have asa:∀m2:Mem,bF (bS yn m2) yn yn=none:=fun m2=>by simp_all
      have main:∀(f2:Fr)(m2:Mem),args.toList.map (bR E f2)=[.os yn,x]→m2 yn=m yn→ga m2 (bj E.P e) x=some (new,rd')→∀(R':Type)(k':V→Fr→Mem→bN→Option R'),cR E false site ⟨dst,.call ⟨.builtin .append,args,argTypes⟩,type,pos,after,guard⟩ f2 m2 k'=if !(decide (t'=t))then none else if(dD E e).isNone then none else match m yn with
       |some (.arr sz et es)=>if et=e∧sz=bj E.P e∧x.has yn=false then(if(es++new).length*Nf E.P e≤ah∧0<Nf E.P e then k' (.os yn) (fD yn f2) (aD (bF (bS yn m2) yn) yn (.arr sz e (es++new))) [(true,0)]else none)else none
       |_=>none:=by
       intro f2 m2 h1 h2 h3 R' k'
       simp only[cR,h1,Uv,GN,atb,hu,h3,h2]
       split
       ·rfl
       ·split
        ·rfl
        ·split
         ·simp_all[fresh]
         simp
      rw[main f m wy rfl N9]at hx;refine⟨he2,?_⟩;split at hx
      ·cases hx
      ·rename_i hc1;split at hx
       ·cases hx
       ·rename_i hc2;split at hx
        ·rename_i sz et es hm;split at hx
         ·rename_i hc3;split at hx
          ·rename_i hc4;refine⟨_,hx,fun f2 m2 hf db R' k'=>?_⟩;have ha:args.toList.map (bR E f2)=[.os yn,x]:=by grind [sI,Op.operands,Call.operands]
           rw[main f2 m2 ha (db (true,yn) (by simp)) (he1 m2 fun y hy=>db y (by simp[hy])) R' k'];simp_all
          ·cases hx
         ·cases hx
        ·cases hx
    ·cases h
   ·cases h
  ·cases h
 ·cases h
theorem Cg.kill(h:Cg f F)(id:Nat):Cg (fD id f) (fD id F):=fun t=>by
 rcases h t with e|e
 ·exact .inl (by simp only[fD,e])
 ·exact .inr (by simp only[fD,e];rfl)
theorem wB.kill{nt:Nat}(h:wB nt ops A f)(id:Nat):wB nt ops A (fD id f):=by intro g hg;obtain⟨t,h1,h0,h2⟩:=h g hg;exact⟨t,h1,h0,by simp only[fD,h2];rfl⟩
theorem acP{x:Nat×bN}(h:A9 E f m o=some x):isApp E o=true:=by
 obtain⟨dst,op,type,pos,after,guard⟩:=o;unfold A9 at h;simp only at h;unfold isApp;split at h
 ·rename_i c;obtain⟨callee,args,argTypes⟩:=c;grind
 ·cases h
theorem PJ{rd:bN}(h:A9 E f m o=some (id,rd)):∃c x t t',o.op=.call c∧c.callee=.builtin .append∧c.args.toList.map (bR E f)=[.os id,x]∧c.argTypes.toList=[t,t']:=by unfold A9 at h;grind
theorem aak{kl:Kl}(h:Po E f m o=some (kl,ft)){k:V→Fr→Mem→bN→Option R}{r:R}(hx:Q6 E false (cS E o.dst) o f m k=some r):isApp E o=true∧∃v wr ft1,k v (kf kl f) (Ak wr (km kl m)) ft1=some r∧(∀x∈wr,(true,x.1)∈ft)∧(∀x∈kl,(true,x.2)∈ft)∧∀(f2:Fr)(m2:Mem),(∀x∈o.op.operands,bR E f2 x=bR E f x)→(∀x∈ft,m2 x.2=m x.2)→∀(R':Type)(k':V→Fr→Mem→bN→Option R'),Q6 E false (cS E o.dst) o f2 m2 k'=k' v (kf kl f2) (Ak wr (km kl m2)) ft1:=by
 unfold Po at h;unfold Q6 at hx;split at h
 ·rename_i sp Ey;simp only[cO]at h;have hn:E.Kc (cS E o.dst)=true:=by grind
  rw[hn]at Ey hx;simp only[cond]at Ey hx;rw[Ey]at hx;obtain⟨v,wr,h1,h2,h3,h4,_,_⟩:=Ux Ey hx;rw[h]at h1 h2 h3 h4;refine⟨by unfold isApp;rw[hn];rfl,v,wr,ft,h1,h2,h3,fun f2 m2 hf hm R' k'=>?_⟩;have:=Uu Ey hf (by rw[h];exact hm);simp_all[Q6,cond]
 ·rename_i Ey;split at h
  ·rename_i id rd acQ;simp only[cO,amn]at h;obtain⟨rfl,rfl⟩:=h;have e0:(bif false then none else bif E.Kc (cS E o.dst)then FC E (cS E o.dst) o f m else none)=(bif E.Kc (cS E o.dst)then FC E (cS E o.dst) o f m else none):=rfl;rw[e0,Ey]at hx;simp only at hx;obtain⟨k8,dX,hk,hn⟩:=UC acQ hx;refine⟨acP acQ,.os id,[(id,dX)],[(true,0)],hk,by simp,by simp,fun f2 m2 hf hm R' k'=>?_⟩;have acR:(bif E.Kc (cS E o.dst)then FC E (cS E o.dst) o f2 m2 else none)=none:=by
    cases Rk:E.Kc (cS E o.dst)with
    |false=>rfl
    |true=>
     simp only[cond];obtain⟨c,x,t,t',hc,amY,wy,ag0⟩:=PJ acQ;have ap5:c.args.toList.map (bR E f2)=[.os id,x]:=by simp_all[asJ,Op.operands,Call.operands]
     have db:m2 id=m id:=hm (true,id) (by simp);have hm3:∃sz et es,m id=some (.arr sz et es):=by obtain⟨dst,op,type,pos,after,guard⟩:=o;simp only at hc;subst hc;obtain⟨callee,args,argTypes⟩:=c;simp only at amY wy ag0;subst amY;simp only[cR,wy,ag0,GN,atb]at hx;grind
     obtain⟨sz,et,es,hm3⟩:=hm3;unfold FC;simp_all
   unfold Q6;have e1:(bif false then none else bif E.Kc (cS E o.dst)then FC E (cS E o.dst) o f2 m2 else none)=(bif E.Kc (cS E o.dst)then FC E (cS E o.dst) o f2 m2 else none):=rfl;rw[e1,acR];exact hn f2 m2 hf hm R' k'
  ·cases h
theorem Cg.E4(h:Cg f F)(id:Nat):Cg (jD id f) (jD id F):=fun t=>by
 rcases h t with e|e
 ·simp_all[jD]
 ·exact .inr (by simp only[jD,e];rfl)
theorem Cg.kf:∀{kl:Kl}{f F:Fr},Cg f F→Cg (Go.Ab.kf kl f) (Go.Ab.kf kl F)
 |[],_,_,h=>h
 |(true,id)::r,f,F,h=>Cg.kf (kl:=r) (f:=fD id f) (F:=fD id F) (h.kill id)
 |(false,id)::r,f,F,h=>Cg.kf (kl:=r) (f:=jD id f) (F:=jD id F) (h.E4 id)
theorem wB.E4{nt:Nat}(h:wB nt ops A f)(id:Nat):wB nt ops A (jD id f):=by intro g hg;obtain⟨t,h1,h0,h2⟩:=h g hg;exact⟨t,h1,h0,by simp only[jD,h2];rfl⟩
theorem wB.kf{nt:Nat}{A:List (Nat×Bool)}:∀{kl:Kl}{f:Fr},wB nt ops A f→wB nt ops A (Go.Ab.kf kl f)
 |[],_,h=>h
 |(true,id)::r,f,h=>wB.kf (kl:=r) (f:=fD id f) (h.kill id)
 |(false,id)::r,f,h=>wB.kf (kl:=r) (f:=jD id f) (h.E4 id)
theorem aal(hE:mb E)(hY:Aq E.P E.aW E.fn.ntmps E.yl w0){v:V}{wr:List (Nat×bX)}{kl:Kl}{ft1:bN}(hg:guardOf o A=none)(hA:wB E.fn.ntmps ops A F)(hd:CH E o=true)(hop:∀x∈o.op.operands,bR E f x=bR E F x)(hn:∀(f2:Fr)(m2:Mem),(∀x∈o.op.operands,bR E f2 x=bR E f x)→(∀x∈ft,m2 x.2=m x.2)→∀(R':Type)(k':V→Fr→Mem→bN→Option R'),Q6 E false (cS E o.dst) o f2 m2 k'=k' v (kf kl f2) (Ak wr (km kl m2)) ft1):Oq E ops w0 ⟨i,o,v,wr,ft,kl⟩ F m:=by
 intro f2 m2 hf hm μ φ a w K Q hR hK;have hw:Region.wanted o (yielded ops a.tmps)=true:=RG hg hA hR hf;simp only at hf hm hK⊢;rw[IN hw];have hx:=hn f2 m2 (fun x hx=>by rw[EE hf x hx,hop x hx]) hm (V×Fr×Mem) fun v f m _=>some (v,f,m);rcases PG hE hx with⟨v,f',m',ft,h1,h2⟩|⟨_,h2⟩
 ·simp only[cO,amn]at h1;obtain⟨rfl,rfl,rfl⟩:=h1;exact fun rd=>h2.FO (Il hx) rd w0 μ φ a w K Q hR fun y w' μ' φ' hle hM hF hv hl=>hK _ _ _ _ (hR.put hle (k9 hd) hM hF hv hl)
 ·refine fun rd=>Ln.FO h2 rd w0 μ φ a w K Q hY hR fun v f' m' y w' μ' φ' h1 hle hM hF hv hl=>?_;simp only[cO,amn]at h1;obtain⟨rfl,rfl,rfl⟩:=h1;exact hK _ _ _ _ (hR.put hle (k9 hd) hM hF hv hl)
structure PK(ops:Array Oper)(mode:Nat)(F:Fr)(m:Mem)(lg:Log)(recs:List Rec):Prop where
 one:mode=1→∀q∈recs,q.wr=[]∧q.kl=[]
 ord:mode=2→recs.Pairwise (acN (ops:=ops))
 log:mode=2→∀q∈recs,∀y∈q.ft,∀x∈lg,y.2≠x.2.2∨(y.1=false∧x.2.1=false)∨reach ops 4 q.o x.1=true
 kl:recs.Pairwise fun q r=>q.kl≠[]→reach ops 4 r.o q.i=true
 cln:sK ops F m recs
 nam:∀q∈recs,∀id,q.On id→mode=2∧ops.toList.any (isApp E)=true∧(true,id)∈q.ft∧∀x∈lg,x.2.2=Em id→reach ops 4 q.o x.1=true
theorem sK.none:∀{l:List Rec}{f:Fr}{m:Mem},(∀q∈l,q.kl=[])→sK ops f m l
 |[],_,_,_=>trivial
 |r::l,f,m,h=>⟨fun q hq id⟨b,hid⟩=>(by simp_all),sK.none fun q hq=>h q (by simp[hq])⟩
theorem pS(hE:mb E)(hY:Aq E.P E.aW E.fn.ntmps E.yl w0){mode:Nat}(pt:mode=1∨mode=2):∀(fuel:Nat){R:Type}{A:List (Nat×Bool)}{l:List (Nat×Oper)}{f:Fr}{m:Mem}{lg:Log}{k:Fr→Mem→Option R}{r:R},cw E ops mode fuel R A l f m lg k=some r→(∀x∈l,ops[x.1]?=some x.2)→(mode=1→∀x∈l,fW x.2=true)→ajk ops A l→∀F:Fr,Cg f F→wB E.fn.ntmps ops A F→(∀x∈l,∀t∈x.2.looksAt ops,f t=F t)→∃(recs:List Rec)(f':Fr),k f' (vd m recs)=some r∧Cg f' (pB F recs)∧recs.map (fun r=>(r.i,r.o))=l∧gC E ops w0 F m recs∧PK (E:=E) ops mode F m lg recs
 |0,_,_,_,_,_,_,_,_,h,_,_,_,_,_,_,_=>by simp[cw]at h
 |fuel+1,R,A,[],f,m,lg,k,r,h,_,_,_,F,hF,_,_=>by simp only[cw]at h;exact⟨[],f,h,hF,rfl,trivial,by simp,fun _=>.nil,by simp,.nil,trivial,by simp⟩
 |fuel+1,R,A,(i,o)::rest,f,m,lg,k,r,h,hl,hrk,Lv,F,hF,hA,RI=>by
  have hm1:(Nat.beq mode 1||Nat.beq mode 2)=true:=by simp_all
  simp only[cw,hm1]at h;split at h
  ·rename_i hg;split at h
   ·rename_i hd;have amZ:∀x∈o.op.operands,bR E f x=bR E F x:=EE (RI (i,o) (by simp));split at h
    ·rename_i kl ft Ey;have ajo:mode=2:=by
      rcases pt with rfl|rfl
      ·cases Ey
      rfl
     subst ajo;have Ey:Po E f m o=some (kl,ft):=Ey;split at h
     ·rename_i Wk;simp only[amm,asV]at Wk;obtain⟨⟨ap6,ap7⟩,ap8⟩:=Wk;obtain⟨acQ,v,wr,ft1,hk,hwr,J2,hn⟩:=aak Ey h;obtain⟨recs,f',c1,c2,c3,c4,c5⟩:=pS hE hY (.inr rfl) fuel hk (fun x hx=>hl x (by simp[hx])) (fun hm=>by omega) (fun x hx=>Lv x (by simp[hx])) (kZ (kf kl F) o.dst v) ((Cg.kf (kl:=kl) hF).put _ _) (wB.put (wB.kf (kl:=kl) hA) fun g vO t ht=>Lv (i,o) (by simp) g vO t ht) (fun x hx t ht=>by
       by_cases e:o.dst=some t
       ·rw[e,mi,mi]
       grind [gB,G6])
      have kY:∀q∈recs,reach ops 4 q.o i=true:=fun q hq=>ap8 (q.i,q.o) (by grind);have ajp:ops.toList.any (isApp E)=true:=ati.2 ⟨o,aqY (by rw[asX];exact hl (i,o) (by simp)),acQ⟩;refine⟨⟨i,o,v,wr,ft,kl⟩::recs,f',c1,c2,by simp[c3],⟨aal hE hY hg hA hd amZ hn,fun j b hb=>hwr _ hb,c4⟩,?_⟩;refine⟨fun hm=>(by omega),fun hm=>atp.2 ⟨fun q hq=>.inl (kY q hq),c5.ord hm⟩,fun hm q hq=>?_,atp.2 ⟨fun q hq _=>kY q hq,c5.kl⟩,⟨fun q hq yn _=>.inl (kY q hq),c5.cln⟩,fun q hq yn hid=>?_⟩
      ·rcases asm.1 hq with rfl|hq
       ·exact Ip ap6
       ·exact fun y hy x hx=>c5.log hm q hq y hy x (asF.2 (.inr hx))
      ·rcases asm.1 hq with rfl|hq
       ·obtain⟨bb,hid⟩:=hid;exact⟨rfl,ajp,J2 _ hid,LG (ap7 _ hid)⟩
       ·obtain⟨g1,g2,g3,g4⟩:=c5.nam q hq yn hid;exact⟨g1,g2,g3,fun x hx=>g4 x (asF.2 (.inr hx))⟩
     ·cases h
    ·rcases PG hE h with⟨v,f1,m1,ft,hk,hop⟩|⟨Fb,_⟩
     rotate_left
     ·cases Fb
     obtain⟨hf1,wr,am0,hwr,hn⟩:=hop.drawn rfl;subst hf1;have hn':∀(f2:Fr)(m2:Mem),(∀x∈o.op.operands,bR E f2 x=bR E F x)→(∀x∈ft,m2 x.2=m x.2)→∀(R':Type)(k':V→Fr→Mem→bN→Option R'),Q6 E true (cS E o.dst) o f2 m2 k'=k' v f2 (Ak wr m2) ft:=fun f2 m2 hf=>hn f2 m2 fun x hx=>by rw[hf x hx,amZ x hx]
     have step:∀(wr':List (Nat×bX))(lg':Log),Ak wr' m=m1→(mode=1→wr'=[])→(∀id b,(id,b)∈wr'→(true,id)∈ft)→Oq E ops w0 ⟨i,o,v,wr',ft,[]⟩ F m→cw E ops mode fuel R A rest (kZ f1 o.dst v) m1 lg' k=some r→(mode=2→lg'=(bif ops.toList.any (isApp E)then(Ke ops o f1 m m1 v ft).map (fun n=>(i,false,Em n))else[])++(ft.map (fun x=>(i,x))++lg)∧H6 ops o lg ft=true)→∃(recs:List Rec)(f':Fr),k f' (vd m recs)=some r∧Cg f' (pB F recs)∧recs.map (fun r=>(r.i,r.o))=(i,o)::rest∧gC E ops w0 F m recs∧PK (E:=E) ops mode F m lg recs:=by
      intro wr' lg' hwm Nr hw2 ajm hev TP;obtain⟨recs,f',c1,c2,c3,c4,c5⟩:=pS hE hY pt fuel hev (fun x hx=>hl x (by simp[hx])) (fun hm x hx=>hrk hm x (by simp[hx])) (fun x hx=>Lv x (by simp[hx])) (kZ F o.dst v) (hF.put _ _) (wB.put hA fun g vO t ht=>Lv (i,o) (by simp) g vO t ht) (fun x hx t ht=>by
       by_cases e:o.dst=some t
       ·rw[e,mi,mi]
       grind [gB])
      subst hwm;refine⟨⟨i,o,v,wr',ft,[]⟩::recs,f',c1,c2,by simp[c3],⟨ajm,hw2,c4⟩,?_⟩;have am1:mode=2→∀x∈lg,x∈lg':=fun hm x hx=>by simp_all
      have aiy:mode=2→∀x∈ft,(i,x)∈lg':=fun hm x hx=>by simp_all
      refine⟨fun hm q hq=>?_,fun hm=>atp.2 ⟨fun q hq=>?_,c5.ord hm⟩,fun hm q hq=>?_,atp.2 ⟨fun q hq h=>absurd rfl h,c5.kl⟩,⟨fun q hq id hid=>?_,c5.cln⟩,fun q hq id hid=>?_⟩
      ·rcases asm.1 hq with rfl|hq
       ·exact⟨Nr hm,rfl⟩
       ·exact c5.one hm q hq
      ·have d2:=c5.log hm;by_cases he:reach ops 4 q.o i=true
       ·exact .inl he
       ·refine .inr ⟨fun id b hb x hx hxi=>?_,fun id b hb x hx hxi=>?_⟩
        ·grind
        ·rcases d2 q hq (true,id) (gC.wr c4 q hq id b hb) (i,x) (aiy hm x hx)with h|h|h
         ·exact h hxi.symm
         ·cases h.1
         ·exact he h
      ·rcases asm.1 hq with rfl|hq
       ·exact Ip (TP hm).2
       ·exact fun y hy x hx=>c5.log hm q hq y hy x (am1 hm x hx)
      ·obtain⟨g1,g2,g3,g4⟩:=c5.nam q hq id hid;by_cases he:reach ops 4 q.o i=true
       ·exact .inl he
       ·refine .inr (acO (RI (i,o) (by simp)) hw2 (fun bB=>he (g4 (i,false,Em id) ?_ rfl)) fun x hx hxi=>?_)
        ·grind
        ·rcases c5.log g1 q hq (true,id) g3 (i,x) (aiy g1 x hx)with h|h|h
         ·exact h hxi.symm
         ·cases h.1
         ·exact he h
      ·rcases asm.1 hq with rfl|hq
       ·obtain⟨_,hid⟩:=hid;cases hid
       ·obtain⟨g1,g2,g3,g4⟩:=c5.nam q hq id hid;grind
     rcases pt with rfl|rfl
     ·simp only[Nat.beq,cQ,IT]at hk;split at hk
      ·rename_i hqf;have hwn:wr=[]:=by
        cases wr with
        |nil=>rfl
        |cons x l=>have:=FP hqf _ (hwr x (by simp));cases this
       subst hwn;exact step [] lg am0.symm (fun _=>rfl) (by simp) (LF hE hg hA hd hn') hk (by simp)
      ·cases hk
     ·simp only[Nat.beq,BY]at hk;split at hk
      ·rename_i hof;exact step wr _ am0.symm (by simp) (fun id b hb=>hwr _ hb) (LF hE hg hA hd hn') hk fun _=>⟨rfl,hof⟩
      ·cases hk
   ·cases h
  ·rename_i j JX hg;split at h
   ·rename_i tj htj;split at h
    ·rename_i b hb;generalize Ey:Je A ((i,o)::rest)=sp at h;obtain⟨body,Q8⟩:=sp;have pR:=Lt Ey;have hm0:Nat.beq mode 0=false:=by rcases pt with rfl|rfl<;>rfl
     simp only[hm0,atU,cQ,IT]at h;split at h
     ·rename_i ip p pK;split at h
      ·rename_i c x y acE;split at h
       ·rename_i hc;simp only[amm,asV,asO,aua,avA]at hc;obtain⟨⟨⟨⟨⟨⟨Uy,hpg⟩,Om⟩,hgi⟩,ap9⟩,hpd⟩,db⟩:=hc;have ajq:mode=1:=by simp_all
        subst ajq;have Uy:=Ka Uy;subst Uy;have hpg:guardOf p A=none:=by simpa using hpg
        obtain⟨rb,hrb,h⟩:=By.1 h;have bB:∀z∈body,z∈(i,o)::rest:=fun z hz=>by rw[pR];simp[hz]
        have Fg:∀z∈pK,z∈(i,o)::rest:=fun z hz=>by rw[pR];simp[hz]
        have WA:(ip,p)∈(i,o)::rest:=by rw[pR];simp
        obtain⟨ap3,hb⟩:=Lq hb;have hFc:F c=.pv (.bool b):=by
         rcases hF c with e|e
         ·rw[←e];omega
         simp_all
        have after:∀(yD:List Rec)(q:Operand),yD.map (fun r=>(r.i,r.o))=body→gC E ops w0 F m yD→(∀q∈yD,q.wr=[]∧q.kl=[])→bR E (pB F yD) q=.pv (.bool rb)→(q=if b then x else y)→∃(recs:List Rec)(f':Fr),k f' (vd m recs)=some r∧Cg f' (pB F recs)∧recs.map (fun r=>(r.i,r.o))=body++(ip,p)::pK∧gC E ops w0 F m recs∧(∀q∈recs,q.wr=[]∧q.kl=[]):=by
         intro yD q aqa am2 hwn hq hqe;have am3:∀t,(∀z∈body,z.2.dst≠some t)→pB F yD t=F t:=fun t ht=>Oo fun q hq=>⟨ht (q.i,q.o) (by grind),(hwn q hq).2⟩;have hA1:wB E.fn.ntmps ops A (pB F yD):=fun g vO=>by obtain⟨t,h1,h0,h2⟩:=hA g vO;exact⟨t,h1,h0,by rw[am3 t fun z hz=>Lv z (bB z hz) g vO t h1];omega⟩
         have ZU:pB F yD c=.pv (.bool b):=by grind
         have hrp:Oq E ops w0 ⟨ip,p,.pv (.bool rb),[],[],[]⟩ (pB F yD) m:=LF hE hpg hA1 hpd fun f2 m2 hf hm R' k'=>by
          have yq:bR E f2 (.tmp c)=.pv (.bool b):=by simp_all[Op.operands,ag1]
          have hq2:bR E f2 q=.pv (.bool rb):=by grind [Op.operands]
          rw[Rz acE yq,←hqe,hq2];rfl
         obtain⟨recs,f',c1,c2,c3,c4,c5⟩:=pS hE hY (.inl rfl) fuel h (fun z hz=>hl z (Fg z hz)) (fun hm z hz=>hrk hm z (Fg z hz)) (fun z hz=>Lv z (Fg z hz)) (kZ (pB F yD) p.dst (.pv (.bool rb))) (Cg.put (ED fun t ht=>by rw[am3 t ht];exact hF t) _ _) (wB.put hA1 fun g vO t ht=>Lv (ip,p) WA g vO t ht) (fun z hz t ht=>by
          by_cases e:p.dst=some t
          ·rw[e,mi,mi]
          ·have Wr:∀u∈body,u.2.dst≠some t:=fun u hu hud=>by grind [blind,List.all_eq_true,Bool.not_eq_true']
           grind [gB,EC])
         have hmB:vd m yD=m:=Ou hwn;refine⟨yD++⟨ip,p,.pv (.bool rb),[],[],[]⟩::recs,f',?_,?_,by simp[aqa,c3],?_,fun q hq=>?_⟩
         ·rw[RE,hmB];exact c1
         ·rw[RD];exact c2
         ·refine gC.append.2 ⟨am2,?_⟩;rw[hmB];exact⟨hrp,by simp,c4⟩
         ·rcases asF.1 hq with h|h
          ·exact hwn q h
          ·rcases asm.1 h with rfl|h
           ·simp
           ·exact c5.one rfl q h
        have fin:(∃(recs:List Rec)(f':Fr),k f' (vd m recs)=some r∧Cg f' (pB F recs)∧recs.map (fun r=>(r.i,r.o))=body++(ip,p)::pK∧gC E ops w0 F m recs∧(∀q∈recs,q.wr=[]∧q.kl=[]))→∃(recs:List Rec)(f':Fr),k f' (vd m recs)=some r∧Cg f' (pB F recs)∧recs.map (fun r=>(r.i,r.o))=(i,o)::rest∧gC E ops w0 F m recs∧PK (E:=E) ops 1 F m lg recs:=by rintro⟨recs,f',c1,c2,c3,c4,c5⟩;exact⟨recs,f',c1,c2,by rw[pR];omega,c4,fun _=>c5,fun h=>(by omega),fun h=>(by omega),auT (R:=fun _ _=>True) (fun{q r}hq hr _ h=>absurd (c5 q hq).2 h) (List.pairwise_of_forall fun _ _=>trivial),sK.none fun q hq=>(c5 q hq).2,fun q hq id⟨_,hid⟩=>(by simp_all)⟩
        have go:∀q,b=JX→(q=if b then x else y)→cw E ops 1 fuel Bool ((j,JX)::A) body f m lg (fun f _=>E1 (bR E f q))=some rb→∃(recs:List Rec)(f':Fr),k f' (vd m recs)=some r∧Cg f' (pB F recs)∧recs.map (fun r=>(r.i,r.o))=body++(ip,p)::pK∧gC E ops w0 F m recs∧(∀q∈recs,q.wr=[]∧q.kl=[]):=by
         intro q hbp hq hev;obtain⟨yD,f1,c1,c2,c3,c4,c5⟩:=pS hE hY (.inl rfl) fuel hev (fun z hz=>hl z (bB z hz)) (fun hm z hz=>hrk hm z (bB z hz)) (fun z hz g vO t ht=>by
          rcases asm.1 vO with rfl|vO
          ·grind
          ·exact Lv z (bB z hz) g vO t ht) F hF (fun g vO=>by
          rcases asm.1 vO with rfl|vO
          ·simp_all
          ·exact hA g vO) (fun z hz=>RI z (bB z hz))
         refine after yD q c3 c4 (c5.one rfl) ?_ hq;grind [G3,acD]
        have no:∀q,b= !JX→(q=if b then x else y)→E1 (bR E (pJ f body) q)=some rb→∃(recs:List Rec)(f':Fr),k f' (vd m recs)=some r∧Cg f' (pB F recs)∧recs.map (fun r=>(r.i,r.o))=body++(ip,p)::pK∧gC E ops w0 F m recs∧(∀q∈recs,q.wr=[]∧q.kl=[]):=by intro q hbp hq hev;obtain⟨s1,s2⟩:=Ot (E:=E) (w0:=w0) (m:=m) body F (fun z hz=>(Om z hz).1.2) (G2 htj hgi (fun z hz=>hl z (bB z hz)) (fun z hz=>(Om z hz).2) (by rw[hFc,hbp]) (by simp));refine after (body.map G7) q (by simp[G7,atL]) s1 (fun u hu=>by obtain⟨z,_,rfl⟩:=asC.1 hu;exact⟨rfl,rfl⟩) ?_ hq;rw[s2];have hv:=G3 hev;grind [Cg,pJ,j9,ED,Bm,acD]
        grind
       ·cases h
      ·cases h
     ·cases h
    ·cases h
   ·cases h
theorem zo{l:List Oper}:(i,o)∈(List.range l.length).zip l↔l[i]?=some o:=by
 rw[asy];constructor
 ·grind
 ·intro h;refine⟨i,List.getElem?_zip_eq_some.2 ⟨?_,h⟩⟩;grind
theorem CY:∀{l done:List (Nat×Oper)},sA ops done l=true→(∀x∈l,∀d∈done,reach ops 4 x.2 d.1=true∨d.2.apart ops x.2=true)∧l.Pairwise (fun q r=>reach ops 4 r.2 q.1=true∨q.2.apart ops r.2=true)∧∀x∈l,∀e∈x.2.after,Region.binds .any e=true→e.on<x.1
 |[],_,_=>⟨by simp,.nil,by simp⟩
 |(i,o)::r,done,h=>by
  simp only[sA,amm]at h;obtain⟨⟨h1,h2⟩,h3⟩:=h;obtain⟨i1,i2,i3⟩:=CY h3;have Np:∀{done:List (Nat×Oper)},En ops done o=true→∀d∈done,reach ops 4 o d.1=true∨d.2.apart ops o=true:=by
   intro done;induction done with
   |nil=>simp
   |cons x l ih=>intro h d hd;simp only[En,amm,asz]at h;grind
  refine⟨fun x hx d hd=>?_,atp.2 ⟨fun x hx=>i1 x hx (i,o) (by simp),i2⟩,fun x hx e he hb=>?_⟩
  ·grind
  ·rcases asm.1 hx with rfl|hx
   ·have:=asV.1 h1 e (atK.2 he);simp_all
   ·exact i3 x hx e he hb
variable{rd:Option Nat}{fuel:Nat}{Q:Exit→Act→World→Prop}
theorem CZ(hE:mb E)(hY:Aq E.P E.aW E.fn.ntmps E.yl w0){mode:Nat}(pt:mode=1∨mode=2){l:List (Nat×Oper)}{base:Nat→Bool}(hrk:mode=1→∀x∈l,fW x.2=true){k:Fr→Mem→Option R}{r:R}(hmz:∀x∈l,ops[x.1]?=some x.2)(arV:(l.map Prod.fst).Pairwise (·<·))(ait:∀x∈l,base x.1=false)(aiu:∀i o,ops[i]?=some o→base i=false→(∀x∈l,x.1≠i)→(∀x∈l,reach ops 8 o x.1=true)∨∃j,reach ops 8 o j=true∧base j=false∧∀x∈l,x.1≠j)(aqb:∀x∈l,∀e∈x.2.after,Region.binds .any e=true→base e.on=true∨∃y∈l,y.1=e.on)(hi:sA ops [] l=true)(h:cw E ops mode fuel R [] l f m [] k=some r)(hQ:∀(fuel:Nat)(listed:Array Bool),listed.size=ops.size→listed.toList.countP (fun b=> !b)≤fuel→FU ops listed→(∀i,aR listed i=true↔base i=true∨∃x∈l,x.1=i)→∀f' m' μ φ a w,k f' m'=some r→Rel E.P E.aW E.fn.ntmps w0 μ φ f' m' a w→wpAnyIn (FR rd) 0 E.P .any ops Q fuel listed a w):∀(fuel:Nat)(listed:Array Bool),listed.size=ops.size→listed.toList.countP (fun b=> !b)≤fuel→FU ops listed→(∀i,aR listed i=true↔base i=true)→∀(μ:Ro)(φ:Nat→aP)(a:Act)(w:World),Rel E.P E.aW E.fn.ntmps w0 μ φ f m a w→wpAnyIn (FR rd) 0 E.P .any ops Q fuel listed a w:=by
 intro am4 listed hs hc A2 hb μ φ a w hR;obtain⟨recs,f',c1,c2,c3,c4,c5⟩:=pS (w0:=w0) hE hY pt fuel h hmz hrk (by intro x hx g hg;cases hg) f (Cg.refl f) (by intro g hg;cases hg) (fun _ _ _ _=>rfl);obtain⟨_,i2,i3⟩:=CY hi;have bB:∀q∈recs,(q.i,q.o)∈l:=fun q hq=>by grind
 have hof:∀x∈l,∃q∈recs,q.i=x.1:=fun x hx=>by grind
 have Np:recs.Pairwise fun q r=>reach ops 4 r.o q.i=true∨q.o.apart ops r.o=true:=by grind
 have hmo:recs.Pairwise (acN (ops:=ops)):=by
  rcases pt with hm|hm
  ·exact auT (fun{q r}hq hr _=>.inr ⟨fun id b hb=>(by rw[(c5.one hm q hq).1]at hb;cases hb),fun id b hb=>(by rw[(c5.one hm r hr).1]at hb;cases hb)⟩) Np
  ·exact c5.ord hm
 refine acH (E:=E) (w0:=w0) (recs:=recs) (f0:=f) (m0:=m) (base:=base) ?_ (fun q hq=>hmz _ (bB q hq)) (fun q hq=>ait _ (bB q hq)) (fun i o ho hbi cV=>?_) ?_ c5.kl c5.cln (fun q hq e he TK=>⟨i3 _ (bB q hq) e he TK,?_⟩) c4 ?_ am4 listed hs hc A2 (fun i hi=>(hb i).2 hi) (fun i hi=>Or.inl ((hb i).1 hi)) μ φ a w ?_
 ·grind
 ·grind
 ·refine List.Pairwise.imp (fun{q r}h=>?_) (List.Pairwise.and Np hmo);obtain⟨h1,h2⟩:=h;rcases h1 with h1|h1
  ·exact .inl h1
  ·rcases h2 with h2|h2
   ·exact .inl h2
   ·exact .inr ⟨h1,h2⟩
 ·rcases aqb _ (bB q hq) e he TK with h1|⟨y,hy,h1⟩
  ·exact Or.inl h1
  grind
 ·intro aiz WE hs2 hc2 aqc yq μ2 φ2 a2 w2 Of;refine hQ aiz WE hs2 hc2 aqc (fun i=>?_) _ _ μ2 φ2 a2 w2 c1 (Of.weaken c2);grind
 ·have hS:∀q∈recs,aR listed q.i=false:=fun q hq=>by grind
  rw[show tI (aR listed) f recs=f from funext fun t=>vP fun q hq hs=>(by simp_all),show tJ (aR listed) m recs=m from funext fun t=>vQ fun q hq hs=>(by simp_all)];omega
variable{x:Nat×Oper}
theorem Iq(hx:x∈(List.range ops.size).zip ops.toList):ops[x.1]?=some x.2:=by have:=(zo (l:=ops.toList) (i:=x.1) (o:=x.2)).1 (by omega);simp_all
theorem wE(ho:ops[i]?=some o):(i,o)∈(List.range ops.size).zip ops.toList:=by have:=(zo (l:=ops.toList) (i:=i) (o:=o)).2 (by simp_all);omega
theorem zip_fst:((List.range ops.size).zip ops.toList).map Prod.fst=List.range ops.size:=by rw[List.map_fst_zip (by simp)]
variable{P:Program}
theorem LH{F:Fence}{n:Nat}{listed:Array Bool}(hs:listed.size=ops.size)(yr:∀i o,ops[i]?=some o→aR listed i=true)(hq:Q .normal a w):wpAnyIn F n P .any ops Q fuel listed a w:=by
 have hr:Region.ready .any ops listed=[]:=by apply List.eq_nil_iff_forall_not_mem.2;intro j hj;obtain⟨h0,o,ho,_⟩:=mem_ready.1 hj;grind
 cases fuel with
 |zero=>exact⟨hr,hq⟩
 |succ fuel=>exact⟨fun _=>hq,fun i hi=>by rw[hr]at hi;cases hi⟩
theorem C0(n j:Nat):aR (Array.replicate n false) j=false:=by simp only[aR,asu,Array.getElem?_replicate];split<;>rfl
theorem count_le(n:Nat):(Array.replicate n false).toList.countP (fun b=> !b)≤n:=by grind [List.countP_le_length,Array.replicate]
theorem JA:FU ops (Array.replicate ops.size false):=fun i o _ h=>by rw[C0]at h;cases h
theorem LI(hE:mb E)(hY:Aq E.P E.aW E.fn.ntmps E.yl w0){mode:Nat}(pt:mode=1∨mode=2)(hrk:mode=1→∀o∈ops,fW o=true){k:Fr→Mem→Option R}{r:R}(hi:sA ops [] ((List.range ops.size).zip ops.toList)=true)(h:cw E ops mode fuel R [] ((List.range ops.size).zip ops.toList) f m [] k=some r){μ:Ro}(hR:Rel E.P E.aW E.fn.ntmps w0 μ φ f m a w)(hQ:∀f' m' μ' φ' a' w',k f' m'=some r→Rel E.P E.aW E.fn.ntmps w0 μ' φ' f' m' a' w'→Q .normal a' w'):wpAnyIn (FR rd) 0 E.P .any ops Q ops.size (Array.replicate ops.size false) a w:=by
 refine CZ (w0:=w0) (base:=fun _=>false) hE hY pt (fun hm x hx=>hrk hm x.2 (avd (Iq hx))) (fun x hx=>Iq hx) (by rw[zip_fst];exact aug) (fun _ _=>rfl) (fun i o ho _ cV=>absurd rfl (cV _ (wE ho))) (fun x hx e he hb=>Or.inr ?_) hi h ?_ ops.size _ (by simp) (count_le _) JA (fun i=>by rw[C0]) μ φ a w hR
 ·obtain⟨_,_,i3⟩:=CY hi;have h1:=i3 x hx e he hb;have h2:x.1<ops.size:=(apj.1 (Iq hx)).1;exact⟨_,wE (aiX (show e.on<ops.size by omega)),rfl⟩
 ·intro aiz WE hs2 _ _ yq f' m' μ2 φ2 a2 w2 hk Of;exact LH hs2 (fun i o ho=>(yq i).2 (Or.inr ⟨_,wE ho,rfl⟩)) (hQ _ _ _ _ _ _ hk Of)
theorem Kn{j:Nat}(h:((List.range ops.size).zip ops.toList)[j]?=some x):x.1=j:=by grind
theorem tK{p:Nat}:x∈((List.range ops.size).zip ops.toList).take p↔x∈(List.range ops.size).zip ops.toList∧x.1<p:=by
 constructor
 ·grind [List.getElem?_of_mem,List.getElem?_take_of_lt,List.mem_of_getElem?,Kn]
 ·rintro⟨h,hx⟩;obtain⟨j,hj⟩:=asE h;have:=Kn hj;exact aqY (i:=j) (by simp_all)
theorem AE{p:Nat}:x∈((List.range ops.size).zip ops.toList).drop p↔x∈(List.range ops.size).zip ops.toList∧p≤x.1:=by
 constructor
 ·grind [List.getElem?_of_mem,List.mem_of_getElem?,Kn]
 ·rintro⟨h,hx⟩;obtain⟨j,hj⟩:=asE h;have:=Kn hj;exact aqY (i:=j-p) (by simp_all)
variable{K:Act→World→Prop}{Q':Exit→Act→World→Prop}
theorem Oper.UD{F:Fence}{n:Nat}(h:∀e a w,e≠.normal→Q' e a w→Q e a w)(hh:o.wpIn F n P a w K Q'):o.wpIn F n P a w K Q:=by
 unfold Oper.wpIn at*;refine⟨hh.1,?_⟩;have hh:=hh.2;have am5:LetsOut Q'→LetsOut Q:=fun⟨a,w,hq⟩=>⟨a,w,h _ _ _ (by simp) hq⟩;generalize (o.semAt F.round a.eval).run P w=r at*;cases r with
 |ok x w'=>
  cases x<;>simp only[Oper.uponIn]at hh⊢<;>first
   |exact hh
   |exact⟨hh.1,CallsIn.mono hh.2 (fun e w'' he=>by cases e<;>first|exact am5 he|exact h _ _ _ (by simp) he|exact he)⟩
   |exact⟨hh.1,RoundIn.mono hh.2 (fun e w'' he=>by cases e<;>first|exact am5 he|exact h _ _ _ (by simp) he|exact he)⟩
 |halt x w'=>cases x<;>simp only[Oper.uponIn]at hh⊢<;>simp_all
theorem PL{F:Fence}{n:Nat}(h:∀e a w,e≠.normal→Q' e a w→Q e a w)(hh:wpOpIn F n P ops Q' i K a w):wpOpIn F n P ops Q i K a w:=by
 unfold wpOpIn at*;split
 ·simpa[*]using hh
 ·rename_i o ho;simp only[ho]at hh;split
  ·rename_i hw;simp only[hw,BY]at hh;exact Oper.UD h hh
  simp_all
theorem UE(hE:mb E)(hY:Aq E.P E.aW E.fn.ntmps E.yl w0){p:Nat}(ag4:abY ops p=true){k:Fr→Mem→Option R}{r:R}(hi1:sA ops [] (((List.range ops.size).zip ops.toList).take p)=true)(hi3:sA ops [] (((List.range ops.size).zip ops.toList).drop (p+1))=true){n1 n2 n3:Nat}(h:(cw E ops 2 n1 R [] (((List.range ops.size).zip ops.toList).take p) f m [] fun f m=>cw E ops 0 n2 R [] ((((List.range ops.size).zip ops.toList).drop p).take 1) f m [] fun f m=>cw E ops 2 n3 R [] (((List.range ops.size).zip ops.toList).drop (p+1)) f m [] k)=some r){μ:Ro}(hR:Rel E.P E.aW E.fn.ntmps w0 μ φ f m a w)(hQ:∀f' m' μ' φ' a' w',k f' m'=some r→Rel E.P E.aW E.fn.ntmps w0 μ' φ' f' m' a' w'→Q .normal a' w'):wpAnyIn (FR rd) 0 E.P .any ops Q ops.size (Array.replicate ops.size false) a w:=by
 unfold abY at ag4;cases ho:ops[p]? with
 |none=>simp_all
 |some o=>
  rw[ho]at ag4;simp only[amm]at ag4;obtain⟨⟨_,PF⟩,hpa⟩:=ag4;have hpn:p<ops.size:=(apj.1 ho).1;have acI:∀e∈o.after,Region.binds .any e=true→e.on<p:=fun e he hb=>by have:=asV.1 PF e (atK.2 he);simp_all
  have aqd:∀i,i<p→reach ops 8 o i=true:=fun i hi=>by have:=asV.1 hpa _ (wE (aiX (show i<ops.size by omega)));simp_all
  have aqe:∀i o',ops[i]?=some o'→p<i→reach ops 8 o' p=true:=fun i o' ho' hi=>by
   have:=asV.1 hpa _ (wE ho');simp only at this;have hb:Nat.blt i p=false:=by
    cases hx:Nat.blt i p with
    |false=>rfl
    |true=>have:i<p:=avb hx;omega
   have yq:Nat.beq i p=false:=by
    cases hx:Nat.beq i p with
    |false=>rfl
    |true=>simp_all
   simp_all
  refine CZ (w0:=w0) (base:=fun _=>false) hE hY (.inr rfl) (fun h=>by omega) (fun x hx=>Iq (tK.1 hx).1) (by simp[auf,zip_fst,aug,List.take_sublist]) (fun _ _=>rfl) (fun i o' ho' _ cV=>?_) (fun x hx e he hb=>Or.inr ?_) hi1 h ?_ ops.size _ (by simp) (count_le _) JA (fun i=>by rw[C0]) μ φ a w hR
  ·have hip:¬i<p:=fun hc=>cV _ (tK.2 ⟨wE ho',hc⟩) rfl;by_cases hi:i=p
   ·subst hi;rw[ho]at ho';cases ho';exact Or.inl fun x hx=>aqd _ (tK.1 hx).2
   ·exact Or.inr ⟨p,aqe i o' ho' (by omega),rfl,fun x hx=>by have:=(tK.1 hx).2;omega⟩
  ·obtain⟨_,_,i3⟩:=CY hi1;have h1:=i3 x hx e he hb;have h2:=(tK.1 hx).2;exact⟨_,tK.2 ⟨wE (aiX (show e.on<ops.size by omega)),by omega⟩,rfl⟩
  ·intro fuel listed hs hc A2 hb f1 m1 μ1 φ1 a1 w1 hk1 Uz;have cd:∀i,aR listed i=true↔i<p:=fun i=>by
    rw[hb i];constructor
    ·rintro(h|⟨x,hx,rfl⟩)
     ·cases h
     ·exact(tK.1 hx).2
    ·intro hi;exact Or.inr ⟨_,tK.2 ⟨wE (aiX (show i<ops.size by omega)),hi⟩,rfl⟩
   have tU:p<listed.size:=by omega
   have hpu:aR listed p=false:=by grind
   have asb:listed[p]=false:=by simp_all
   cases fuel with
   |zero=>have:=avp.1 (Nat.le_zero.1 hc) listed[p] (by simp);simp_all
   |succ fuel=>
    have aqf:p∈Region.ready .any ops listed:=mem_ready.2 ⟨by simp_all,o,ho,fun e he TK=>(cd e.on).2 (acI e he TK)⟩;refine⟨(fun h0=>by simp_all),fun i hi=>?_⟩;obtain⟨hun,o',ho',LD⟩:=mem_ready.1 hi;have kY:i<listed.size:=by grind
    have hiu:aR listed i=false:=by simp_all
    have hip:i=p:=by refine atg fun cV=>?_;grind [wC]
    subst hip;have hL:(((List.range ops.size).zip ops.toList).drop i).take 1=[(i,o)]:=by
     have hlen:i<((List.range ops.size).zip ops.toList).length:=by simp;omega
     rw[ate hlen];simp_all
    rw[hL]at hk1;have hS':∀j,aR (listed.setIfInBounds i true) j=if j=i then true else aR listed j:=fun j=>by simp only[aR,asu,atz];grind
    have hle:∀j,aR (listed.setIfInBounds i true) j=true↔j≤i:=fun j=>by grind
    have am6:=j3 (rd:=rd) (w0:=w0) hE hY _ (.inl rfl) hk1 (by simp_all) (by intro x hx g hg;cases hg) (fun h=>by omega) μ1 φ1 a1 w1 (fun e a w=>(e=.normal∧wpAnyIn (FR rd) 0 E.P .any ops Q fuel (listed.setIfInBounds i true) a w)∨(e≠.normal∧Q e a w)) [] Uz (by intro g hg;cases hg) fun f2 m2 μ2 φ2 a2 w2 Uj Of _ _=>Or.inl ⟨rfl,?_⟩
    ·rw[atf,ass,aub,wpOpsIn_cons]at am6;refine wpOpIn_mono (fun a w hq=>?_) (PL (fun e a w cV hq=>?_) am6)
     ·rcases hq with⟨_,h⟩|⟨h,_⟩
      ·omega
      ·exact absurd rfl h
     simp_all
    ·refine CZ (w0:=w0) (base:=fun j=>decide (j≤i)) hE hY (.inr rfl) (fun h=>by omega) (fun x hx=>Iq (AE.1 hx).1) (by grind [List.map_drop,zip_fst,List.pairwise_lt_range,List.drop_sublist]) (fun x hx=>by have:=(AE.1 hx).2;simp;omega) (fun j oj hj hbj cV=>?_) (fun x hx e he TK=>?_) hi3 Uj ?_ fuel _ (by simp[hs]) ?_ ?_ (fun j=>by rw[hle j];simp) μ2 φ2 a2 w2 Of
     ·simp only[asI]at hbj;exact absurd rfl (cV _ (AE.2 ⟨wE hj,by omega⟩))
     ·obtain⟨_,_,i3⟩:=CY hi3;have h1:=i3 x hx e he TK;have h2:x.1<ops.size:=(apj.1 (Iq (AE.1 hx).1)).1;by_cases hei:e.on≤i
      ·simp_all
      ·exact Or.inr ⟨_,AE.2 ⟨wE (aiX (show e.on<ops.size by omega)),by omega⟩,rfl⟩
     ·intro arW apL hs3 _ _ hb3 f3 m3 μ3 φ3 a3 w3 hk3 hR3;refine LH hs3 (fun j oj hj=>(hb3 j).2 ?_) (hQ _ _ _ _ _ _ hk3 hR3);by_cases hji:j≤i
      ·simp_all
      ·exact Or.inr ⟨_,AE.2 ⟨wE hj,by omega⟩,rfl⟩
     ·grind
     ·intro j oj hj hlj e he TK;rw[hle]at hlj⊢;by_cases hji:j=i
      ·grind
      ·have h1:=A2 j oj hj ((cd j).2 (by omega)) e he TK;grind
end
end Go.Ab
