import Derived.Test.YtmbihgjlollbeaaGreatAbP6
import Derived.OrdersIn
set_option linter.all false
namespace Go.Ab
open Go.RowKit (Below)
def Cc(f F:Fr):Prop:=∀t,f t=F t∨f t=.top
theorem Cc.refl(f:Fr):Cc f f:=fun _=>.inl rfl
theorem Cc.put{f F:Fr}(h:Cc f F)(d:Option Nat)(v:V):Cc (kN f d v) (kN F d v):=by
 intro t;cases d with
 |none=>exact h t
 |some d=>
  simp only[kN,ig];cases Nat.beq t d
  ·exact h t
  simp
theorem gA{f:Fr}{d:Option Nat}{v:V}{t:Nat}(h:d≠some t):kN f d v t=f t:=by
 cases d with
 |none=>rfl
 |some d=>exact wa (fun e=>h (by rw[e]))
theorem mh{f:Fr}{v:V}{t:Nat}:kN f (some t) v t=v:=by simp[kN,ig,Nat.beq_refl]
section
variable {E:Env} {ops:Array Oper} {w0:bO}
variable{nt:Nat}{μ:Ro}{φ:Nat→aP}{f:Fr}{m:Mem}{a:Act}
theorem Rel.weaken{f':Fr}{w:World}(h:Rel E.P E.aW nt w0 μ φ f m a w)(hf:Cc f' f):Rel E.P E.aW nt w0 μ φ f' m a w:=
 {h with
  fr:=fun t=>by
   rcases hf t with e|e
   ·rw[e];exact h.fr t
   ·rw[e];exact .top,
  live:=fun t id hid=>by
   rcases hf t with e|e
   ·rw[e]at hid;exact h.live t id hid
   simp_all}
variable{t:Nat}
theorem Le{d:Nat}{y:Value}(hd:d<a.tmps.size):(a.put (some d) y).tmps.getD t undef=if t=d then y else a.tmps.getD t undef:=by simp only[Act.put,asp,atu];grind
theorem Rel.put{nt:Nat}{μ μ':Ro}{φ φ':Nat→aP}{f f':Fr}{m m':Mem}{a:Act}{w w':World}(h:Rel E.P E.aW nt w0 μ φ f m a w)(hle:Rr μ μ'){dst:Option Nat}{v:V}{y:Value}(hd:∀d,dst=some d→d<nt)(hM:aL E.P E.aW w0 μ' φ' m' w')(hF:cp E.P μ' φ' m' f' (ck nt w0 a))(hv:au E.P μ' φ' v y)(hl:∀id,v.has id=true→(m' id).isSome=true):Rel E.P E.aW nt w0 μ' φ' (kN f' dst v) m' (a.put dst y) w':=by
 refine{toaL:=hM,size:=?_,defers:=?_,px:=h.px,fr:=fun t=>?_,live:=fun t id hid=>?_}
 ·cases dst<;>simp[Act.put,h.size]
 ·cases dst<;>exact h.defers.mono hle
 ·cases dst with
  |none=>exact hF.fr t
  |some d=>
   have cd:d<a.tmps.size:=by rw[h.size];exact hd d rfl
   have hf:=hF.fr t;by_cases e:t=d
   ·subst e;rw[vU (hd t rfl),Le cd,IN rfl,mh];omega
   ·rw[gA (by grind)];unfold ck at hf⊢;split
    ·rename_i ht;rw[IN ht]at hf;rw[Le cd,IT e];omega
    simp_all
 ·by_cases e:dst=some t
  ·grind [mh,id]
  ·rw[gA e]at hid;exact hF.live t id hid
theorem agL(h:t<E.fn.ntmps):bQ E f (.tmp t)=f t:=by simp only[bQ];rw[show Nat.blt t E.fn.ntmps=true by rw[ath];omega];rfl
theorem Lf{p:PV}(h:bQ E f (.tmp t)=.pv p):t<E.fn.ntmps∧f t=.pv p:=by grind [bQ,Nat.blt,Nat.blt_eq]
theorem acv{F:Fr}(h:Cc f F)(q:Operand):bQ E f q=bQ E F q∨bQ E f q=.top:=by
 cases q with
 |tmp t=>
  simp only[bQ];cases Nat.blt t E.fn.ntmps with
  |true=>exact h t
  |false=>simp
 |_=>exact .inl rfl
def wv(nt:Nat)(ops:Array Oper)(A:List (Nat×Bool))(f:Fr):Prop:=∀g∈A,∃t,(ops[g.1]?).bind (·.dst)=some t∧t<nt∧f t=.pv (.bool g.2)
def GW(ops:Array Oper)(A:List (Nat×Bool))(a:Act):Prop:=∀g∈A,∃t,(ops[g.1]?).bind (·.dst)=some t∧a.tmps.getD t undef=.bool g.2
def ai5(ops:Array Oper)(A:List (Nat×Bool))(l:List (Nat×Oper)):Prop:=∀x∈l,∀g∈A,∀t,(ops[g.1]?).bind (·.dst)=some t→x.2.dst≠some t
variable{d:Option Nat}{A:List (Nat×Bool)}
theorem wv.put(h:wv nt ops A f){v:V}(hd:∀g∈A,∀t,(ops[g.1]?).bind (·.dst)=some t→d≠some t):wv nt ops A (kN f d v):=by intro g hg;obtain⟨t,h1,h0,h2⟩:=h g hg;grind [gA]
variable{o:Oper}
theorem kP(h:CC E o=true):∀d,o.dst=some d→d<E.fn.ntmps:=by grind [CC,Nat.blt_eq]
variable{b:Bool}
theorem A7{j:Nat}(h:(ops[j]?).bind (·.dst)=some t)(hb:a.tmps.getD t undef=.bool b):yielded ops a.tmps j=some b:=by
 simp only[yielded,h,asl];have:a.tmps[t]?=some (.bool b):=by rw[asp]at hb;grind [undef]
 rw[this]
theorem Ih(ho:guardOf o A=none)(hA:GW ops A a):Region.wanted o (yielded ops a.tmps)=true:=by
 unfold guardOf at ho;unfold Region.wanted;split at ho
 ·rename_i hg;simp[hg]
 ·rename_i g hg;split at ho
  ·rename_i bB;obtain⟨t,h1,h2⟩:=hA g (by simpa using bB);simp_all[A7]
  ·cases ho
theorem GW.put(h:GW ops A a){y:Value}(hs:∀t,d=some t→t<a.tmps.size)(hd:∀g∈A,∀t,(ops[g.1]?).bind (·.dst)=some t→d≠some t):GW ops A (a.put d y):=by
 intro g hg;obtain⟨t,h1,h2⟩:=h g hg;refine⟨t,h1,?_⟩;cases d with
 |none=>exact h2
 |some d=>rw[Le (hs d rfl),IT fun e=>hd g hg t h1 (by rw[e])];omega
def Z7(ops:Array Oper)(f:Fr)(o:Oper):Prop:=∃g,o.guard=some g∧∀t,(ops[g.1]?).bind (·.dst)=some t→f t=.aG []∨f t=.pv (.bool (!g.2))
theorem Z8{P:Program}{x:Value}(h:au P μ φ (.aG []) x):x=undef:=by
 cases h with
 | @aG _ xs h1 _=>have:xs= #[]:=aug (by simpa using h1.symm);subst this;rfl
theorem Lg{P:Program}:au P μ φ (.aG []) undef:=.aG rfl (by simp)
theorem Fa{w:World}(h:Rel E.P E.aW nt w0 μ φ f m a w)(hd:Z7 ops f o):Region.wanted o (yielded ops a.tmps)=false:=by
 obtain⟨g,hg,ht⟩:=hd;simp only[Region.wanted,hg];cases hs:(ops[g.1]?).bind (·.dst)with
 |none=>simp[yielded,hs]
 |some t=>
  have hy:nt≤t→yielded ops a.tmps g.1=none:=fun hle=>by simp only[yielded,hs,asl];rw[Array.getElem?_eq_none (by rw[h.size];omega)]
  by_cases Kb:nt≤t
  ·rw[hy Kb];rfl
  have cd:t<nt:=Nat.lt_of_not_le Kb;have h3:=h.fr t;rw[vU cd]at h3;rcases ht t hs with e|e
  ·rw[e]at h3;have h4:=Z8 h3;have:yielded ops a.tmps g.1=none:=by
    simp only[yielded,hs,asl];rw[asp]at h4;cases e:a.tmps[t]? with
    |none=>rfl
    |some x=>rw[e]at h4;simp only[ate]at h4;subst h4;rfl
   rw[this];rfl
  ·rw[e]at h3;rw[A7 hs (wq h3)];simp
theorem A8{t:Nat}:∀{l:List (Nat×Oper)}{f:Fr},(∀x∈l,x.2.dst≠some t)→j8 f l t=f t
 |[],_,_=>rfl
 |x::r,f,h=>by rw[j8,A8 (fun y hy=>h y (by simp[hy])),gA (h x (by simp))]
theorem Ey{t:Nat}:∀{l:List (Nat×Oper)}{f:Fr},(∀x∈l,x.2.dst≠some t)→pI f l t=f t
 |[],_,_=>rfl
 |x::r,f,h=>by rw[pI,Ey (fun y hy=>h y (by simp[hy])),gA (h x (by simp))]
theorem Ii{t:Nat}:∀{l:List (Nat×Oper)}{f:Fr},(f t=.top∨∃x∈l,x.2.dst=some t)→pI f l t=.top
 |[],_,h=>by
  rcases h with h|⟨x,hx,_⟩
  ·exact h
  ·cases hx
 |x::r,f,h=>by
  rw[pI];by_cases e:x.2.dst=some t
  ·simp_all[Ii,mh]
  ·refine Ii ?_;rcases h with h|⟨y,hy,hd⟩
   ·simp_all[gA]
   grind
theorem Ez{l:List (Nat×Oper)}{F:Fr}(h:∀t,(∀x∈l,x.2.dst≠some t)→f t=F t∨f t=.top):Cc (pI f l) F:=by intro t;grind [Ii,Ey]
theorem GX{g:Nat×Bool}{tj:Nat}(hj:(ops[g.1]?).bind (·.dst)=some tj):∀{l:List (Nat×Oper)}{done:List Nat}{f:Fr},CB g done l=true→(∀x∈l,ops[x.1]?=some x.2)→(∀x∈l,x.2.dst≠some tj)→f tj=.pv (.bool (!g.2))→(∀j∈done,∀t,(ops[j]?).bind (·.dst)=some t→f t=.aG [])→∀(pre post:List (Nat×Oper))(x:Nat×Oper),l=pre++x::post→Z7 ops (j8 f pre) x.2
 |[],_,_,_,_,_,_,_,pre,post,x,h=>by simp at h
 |y::r,done,f,hg,hl,hd,hb,hdn,pre,post,x,h=>by
  simp only[CB,ao9]at hg;cases pre with
  |nil=>
   simp only[atx,atk]at h;obtain⟨rfl,rfl⟩:=h;rw[j8];have h1:=hg.1;split at h1
   ·rename_i hh hgd;refine⟨hh,hgd,fun t ht=>?_⟩;rcases Bool.or_eq_true_iff.1 h1 with h2|h2
    ·simp_all
    grind
   ·cases h1
  |cons z pre=>
   simp only[atN,atk]at h;obtain⟨rfl,h⟩:=h;rw[j8];refine GX hj hg.2 (fun x hx=>hl x (by simp[hx])) (fun x hx=>hd x (by simp[hx])) (by simp_all[gA]) (fun j hjm t ht=>?_) pre post x h;by_cases e:y.2.dst=some t
   ·rw[e,mh]
   ·rw[gA e];grind
theorem Lh{A:List (Nat×Bool)}:∀{l a b:List (Nat×Oper)},I6 A l=(a,b)→l=a++b
 |[],a,b,h=>by simp[I6]at h;simp_all
 |x::r,a,b,h=>by
  simp only[I6]at h;split at h
  ·cases hs:I6 A r with
   |mk a' b'=>rw[hs]at h;simp only[apa]at h;obtain⟨rfl,rfl⟩:=h;rw[Lh hs];rfl
  simp_all
theorem GY{v:V}(h:EX v=some b):v=.pv (.bool b):=by unfold EX at h;grind
theorem ah9(hE:ma E){site:Nat}{draw:Bool}{v:V}{f':Fr}{m':Mem}{ft:bN}(hn:draw=true∨∃c x y,o.op=.pick c x y)(h:∀(R':Type)(k':V→Fr→Mem→bN→Option R'),Q0 E draw site o f m k'=k' v f' m' ft):A5 E draw site o f m v f' m' ft:=by
 have hx:=Pz hE (h (V×Fr×Mem×bN) fun v f m ft=>some (v,f,m,ft));rcases hx with⟨v1,f1,m1,ft1,h1,h2⟩|⟨h1,h2,_⟩
 rotate_left
 ·simp_all
 simp_all
theorem Rt{R:Type}{site:Nat}{draw:Bool}{p:Oper}{c:Nat}{x y:Operand}{k:V→Fr→Mem→bN→Option R}(hp:p.op=.pick (.tmp c) x y)(hb:bQ E f (.tmp c)=.pv (.bool b)):Q0 E draw site p f m k=k (bQ E f (if b then x else y)) f m []:=by
 have Et:Fy E site p f m=none:=by simp only[Fy,hp]
 unfold Q0;rw[Et];have e:(bif draw then none else bif E.J4 site then(none:Option Sp)else none)=none:=by simp
 rw[e];simp only[cP,hp,hb];cases b<;>rfl
end
section
variable {E:Env} {ops:Array Oper} {w0:bO}
theorem CO{rd:Option Nat}{Q:Exit→Act→World→Prop}{tail:List Nat}:∀(l:List (Nat×Oper))(f:Fr),(∀x∈l,ops[x.1]?=some x.2)→(∀x∈l,CC E x.2=true)→(∀(pre post:List (Nat×Oper))(x:Nat×Oper),l=pre++x::post→Z7 ops (j8 f pre) x.2)→∀{μ:Ro}{φ:Nat→aP}{m:Mem}{a:Act}{w:World},Rel E.P E.aW E.fn.ntmps w0 μ φ f m a w→∀(A:List (Nat×Bool)),GW ops A a→ai5 ops A l→(∀a',Rel E.P E.aW E.fn.ntmps w0 μ φ (j8 f l) m a' w→GW ops A a'→wpOpsIn (FR rd) 0 E.P ops Q tail a' w)→wpOpsIn (FR rd) 0 E.P ops Q (l.map (·.1)++tail) a w
 |[],f,_,_,_,_,_,_,a,_,hR,_,hA,_,hK=>hK a hR hA
 |x::r,f,hl,hd,Li,μ,φ,m,a,w,hR,A,hA,Lj,hK=>by simp only[asn,atN,wpOpsIn];rw[hl x (by simp)];simp only;rw[Fa hR (Li [] r x rfl)];simp only[cQ,IS];refine And.intro (fun _ _=>trivial) (CO r (kN f x.2.dst (.aG [])) (fun y hy=>hl y (by simp[hy])) (fun y hy=>hd y (by simp[hy])) (fun pre post y h=>?_) (hR.put (fun _ _ h=>h) (kP (hd x (by simp))) hR.toaL hR.mQ Lg (fun id hid=>by simp[V.has,cA]at hid)) A (hA.put (fun t ht=>by rw[hR.size];exact kP (hd x (by simp)) t ht) fun g vJ t ht=>Lj x (by simp) g vJ t ht) (fun y hy=>Lj y (by simp[hy])) hK);have:=Li (x::pre) post y (by rw[h];rfl);rwa[j8]at this
theorem FL:∀{ft:bN},GJ ft=true→∀x∈ft,x.1=false
 |[],_,x,hx=>by cases hx
 |(w,id)::r,h,x,hx=>by
  simp only[GJ,ao9,asI]at h;rcases asg.1 hx with rfl|hx
  ·exact h.1
  ·exact FL h.2 x hx
theorem j2(hE:ma E){rd:Option Nat}(hY:Ac E.P E.aW E.fn.ntmps E.yl w0):∀(fuel:Nat){mode:Nat}(pq:mode=0∨mode=3){R:Type}{A:List (Nat×Bool)}{l:List (Nat×Oper)}{f:Fr}{m:Mem}{lg:Log}{k:Fr→Mem→Option R}{r:R},cw E ops mode fuel R A l f m lg k=some r→(∀x∈l,ops[x.1]?=some x.2)→ai5 ops A l→(mode=3→∀x∈l,fU x.2=true)→∀(μ:Ro)(φ:Nat→aP)(a:Act)(w:World)(Q:Exit→Act→World→Prop)(tail:List Nat),Rel E.P E.aW E.fn.ntmps w0 μ φ f m a w→GW ops A a→(∀(f':Fr)(m':Mem)(μ':Ro)(φ':Nat→aP)(a':Act)(w':World),k f' m'=some r→Rel E.P E.aW E.fn.ntmps w0 μ' φ' f' m' a' w'→GW ops A a'→(mode=3→m'=m∧∀t,(∀x∈l,x.2.dst≠some t)→f' t=f t)→wpOpsIn (FR rd) 0 E.P ops Q tail a' w')→wpOpsIn (FR rd) 0 E.P ops Q (l.map (·.1)++tail) a w
 |0,_,_,_,_,_,_,_,_,_,_,h,_,_,_,_,_,_,_,_,_,_,_,_=>by simp[cw]at h
 |fuel+1,mode,pq,R,A,[],f,m,lg,k,r,h,_,_,_,μ,φ,a,w,Q,tail,hR,hA,hK=>by simp only[cw]at h;grind
 |fuel+1,mode,pq,R,A,(i,o)::rest,f,m,lg,k,r,h,hl,Lj,hrk,μ,φ,a,w,Q,tail,hR,hA,hK=>by
  simp only[cw]at h;split at h
  ·rename_i hg;split at h
   ·rename_i hd;have hmm:Nat.beq mode 2=false:=by rcases pq with rfl|rfl<;>rfl
    simp only[hmm,cond_false]at h;rw[←hmm]at h;have hdf:=Ig h;rcases Pz hE h with⟨v,f1,m1,ft,hk,Z9⟩|⟨_,kM⟩
    rotate_left
    ·simp only[asn,atN,wpOpsIn];rw[hl (i,o) (by simp)];simp only;rw[Ih hg hA,IN rfl];refine Ld.FK kM rd w0 μ φ a w _ Q hY hR fun v f1 m1 y w' μ' φ' hk hle hM hF hv Pl=>?_;have cZ:Nat.beq mode 2=false:=by omega
     rw[cZ]at hk;simp only[cQ,IS]at hk;rcases pq with rfl|rfl
     ·simp only[Nat.beq,BY]at hk;exact j2 hE hY fuel (.inl rfl) hk (fun x hx=>hl x (by simp[hx])) (fun x hx=>Lj x (by simp[hx])) (fun hm x hx=>hrk hm x (by omega)) _ _ _ _ Q tail (hR.put hle (kP hd) hM hF hv Pl) (hA.put (fun t ht=>by rw[hR.size];exact kP hd t ht) fun g vJ t ht=>Lj (i,o) (by simp) g vJ t ht) fun f' m' μ2 φ2 a' w2 sD l6 FC B0=>hK f' m' μ2 φ2 a' w2 sD l6 FC fun h=>by omega
     ·simp[Nat.beq,GJ]at hk
    have cZ:Nat.beq mode 2=false:=by omega
    rw[cZ]at hk;simp only[cQ,IS]at hk;have hq:(mode=3→f1=f∧m1=m)∧cw E ops mode fuel R A rest (kN f1 o.dst v) m1 lg k=some r:=by
     rcases pq with rfl|rfl
     ·simp_all
     ·simp only[Nat.beq,cQ,IS]at hk;split at hk
      ·rename_i hqf;exact⟨fun h=>Z9.same (hrk rfl (i,o) (by simp)) (FL hqf),hk⟩
      ·cases hk
    obtain⟨aia,hk⟩:=hq;simp only[asn,atN,wpOpsIn];rw[hl (i,o) (by simp)];simp only;rw[Ih hg hA,IN rfl];refine Z9.FK hdf rd w0 μ φ a w _ Q hR fun y w' μ' φ' hle hM hF hv Pl=>?_;refine j2 hE hY fuel pq hk (fun x hx=>hl x (by simp[hx])) (fun x hx=>Lj x (by simp[hx])) (fun hm x hx=>hrk hm x (by simp[hx])) _ _ _ _ Q tail (hR.put hle (kP hd) hM hF hv Pl) (hA.put (fun t ht=>by rw[hR.size];exact kP hd t ht) fun g vJ t ht=>Lj (i,o) (by simp) g vJ t ht) fun f' m' μ2 φ2 a' w2 sD l6 FC B0=>?_;refine hK f' m' μ2 φ2 a' w2 sD l6 FC fun hm3=>?_;obtain⟨e1,e2⟩:=aia hm3;obtain⟨e3,e4⟩:=B0 hm3;refine⟨by rw[e3,e2],fun t ht=>?_⟩;rw[e4 t fun x hx=>ht x (by simp[hx]),gA (ht (i,o) (by simp)),e1]
   ·cases h
  ·rename_i j JQ hg;split at h
   ·rename_i tj htj;split at h
    ·rename_i b hb;have apV:tj<E.fn.ntmps:=by grind [bQ,Nat.blt,Nat.blt_eq]
     have hbf:f tj=.pv (.bool b):=by grind [bQ,Nat.blt,Nat.blt_eq]
     have hba:a.tmps.getD tj undef=.bool b:=by have:=(aA hR (.tmp tj)).1;rw[hb]at this;exact wq this
     generalize Et:I6 A ((i,o)::rest)=sp at h;obtain⟨body,Q2⟩:=sp;have pQ:=Lh Et;simp only at h;split at h
     ·rename_i aib;split at h
      ·rename_i hc;simp only[ao9,asO,asI,at2,avu]at hc aib;obtain⟨⟨TB,hgi⟩,amI⟩:=hc;have hm0:mode=0:=OF aib.1;subst hm0;have bB:∀z∈body,z∈(i,o)::rest:=fun z hz=>by rw[pQ];simp[hz]
       have Fb:∀z∈Q2,z∈(i,o)::rest:=fun z hz=>by rw[pQ];simp[hz]
       by_cases hbp:b=JQ
       ·have:NK JQ b=true:=by subst hbp;cases b<;>rfl
        rw[this]at h;simp only[cond]at h;have hfs:ig f tj (.pv (.bool JQ))=f:=funext fun t=>by
         unfold ig;cases e:Nat.beq t tj with
         |false=>rfl
         |true=>simp_all
        rw[hfs]at h;refine j2 hE hY fuel pq h hl (fun z hz g vJ t ht=>?_) (fun h=>by omega) _ _ _ _ Q tail hR (fun g vJ=>?_) fun f' m' μ2 φ2 a' w2 sD l6 FC B0=>hK f' m' μ2 φ2 a' w2 sD l6 (fun g vJ=>FC g (by simp[vJ])) fun h=>by omega
        ·rcases asg.1 vJ with rfl|vJ
         ·grind
         ·exact Lj z hz g vJ t ht
        ·rcases asg.1 vJ with rfl|vJ
         ·simp_all
         ·exact hA g vJ
       ·have:NK JQ b=false:=by cases b<;>cases JQ<;>first|rfl|exact absurd rfl hbp
        rw[this]at h;simp only[cond]at h;have hbn:b= !JQ:=by cases b<;>cases JQ<;>simp_all
        have hfs:ig f tj (.pv (.bool !JQ))=f:=funext fun t=>by
         unfold ig;cases e:Nat.beq t tj with
         |false=>rfl
         |true=>simp_all
        rw[hfs]at h;rw[pQ,asM,asy];refine CO body f (fun z hz=>hl z (bB z hz)) TB (GX htj hgi (fun z hz=>hl z (bB z hz)) (fun z hz=>amI z (bB z hz)) (by rw[hbf,hbn]) (by simp)) hR A hA (fun z hz g vJ t ht=>Lj z (bB z hz) g vJ t ht) fun a' l6 FC=>?_
        ·refine j2 hE hY fuel pq h (fun z hz=>hl z (Fb z hz)) (fun z hz=>Lj z (Fb z hz)) (fun h=>by omega) _ _ _ _ Q tail l6 FC fun f' m' μ2 φ2 a' w2 sD l6 FC B0=>hK f' m' μ2 φ2 a' w2 sD l6 FC fun h=>by omega
      ·cases h
     ·split at h
      ·rename_i ip p pJ;split at h
       ·rename_i c x y acw;split at h
        ·rename_i hc;simp only[ao9,asO,asI,at2,avu]at hc;obtain⟨⟨⟨⟨⟨⟨Up,hpg⟩,Oh⟩,hgi⟩,_⟩,hpd⟩,_⟩:=hc;have Up:=OF Up;subst Up;have hpg:guardOf p A=none:=by simpa using hpg
         obtain⟨rb,hrb,h⟩:=By.1 h;have bB:∀z∈body,z∈(i,o)::rest:=fun z hz=>by rw[pQ];simp[hz]
         have Fb:∀z∈pJ,z∈(i,o)::rest:=fun z hz=>by rw[pQ];simp[hz]
         have Ws:(ip,p)∈(i,o)::rest:=by rw[pQ];simp
         rw[pQ,asM,asy];have after:∀(f1:Fr)(μ1:Ro)(φ1:Nat→aP)(a1:Act)(w1:World)(q:Operand),Rel E.P E.aW E.fn.ntmps w0 μ1 φ1 f1 m a1 w1→GW ops A a1→(∀t,(∀z∈body,z.2.dst≠some t)→f1 t=f t)→bQ E f1 q=.pv (.bool rb)→(q=if b then x else y)→wpOpsIn (FR rd) 0 E.P ops Q (((ip,p)::pJ).map (·.1)++tail) a1 w1:=by
          intro f1 μ1 φ1 a1 w1 q Uq hA1 hf1 hq hqe;have ZK:bQ E f1 (.tmp c)=.pv (.bool b):=by grind [bQ,Nat.blt,Nat.blt_eq]
          simp only[asn,atN,wpOpsIn];rw[hl (ip,p) Ws];simp only;rw[Ih hpg hA1,IN rfl];have Z9:A5 E (Nat.beq mode 1||Nat.beq mode 2) (cR E p.dst) p f1 m (.pv (.bool rb)) f1 m []:=ah9 hE (.inr ⟨_,_,_,acw⟩) fun R' k'=>by rw[Rt acw ZK,←hqe,hq]
          refine Z9.FK (fun c h=>by rw[acw]at h;cases h) rd w0 μ1 φ1 a1 w1 _ Q Uq fun z w' μ' φ' B0 hM hF hv Pl=>?_;have hle:Cc (kN (pI f body) p.dst (.pv (.bool rb))) (kN f1 p.dst (.pv (.bool rb))):=Cc.put (Ez fun t ht=>.inl (hf1 t ht).symm) _ _;refine j2 hE hY fuel pq h (fun z hz=>hl z (Fb z hz)) (fun z hz=>Lj z (Fb z hz)) (fun hm z hz=>hrk hm z (Fb z hz)) _ _ _ _ Q tail ((Uq.put B0 (kP hpd) hM hF hv Pl).weaken hle) (hA1.put (fun t ht=>by rw[Uq.size];exact kP hpd t ht) fun g vJ t ht=>Lj (ip,p) Ws g vJ t ht) fun f' m' μ2 φ2 a' w2 sD l6 FC B0=>?_;grind [gA,Ey]
         have go:∀q,b=JQ→(q=if b then x else y)→cw E ops 3 fuel Bool ((j,JQ)::A) body f m lg (fun f _=>EX (bQ E f q))=some rb→wpOpsIn (FR rd) 0 E.P ops Q (body.map (·.1)++(((ip,p)::pJ).map (·.1)++tail)) a w:=by
          intro q hbp hq hev;refine j2 hE hY fuel (.inr rfl) hev (fun z hz=>hl z (bB z hz)) ?_ (fun _ z hz=>(Oh z hz).1.1) _ _ _ _ Q _ hR ?_ fun f' m' μ2 φ2 a' w2 sD l6 FC B0=>?_
          ·intro z hz g vJ t ht;rcases asg.1 vJ with rfl|vJ
           ·grind
           ·exact Lj z (bB z hz) g vJ t ht
          ·intro g vJ;rcases asg.1 vJ with rfl|vJ
           ·simp_all
           ·exact hA g vJ
          ·obtain⟨e1,e2⟩:=B0 rfl;subst e1;exact after f' μ2 φ2 a' w2 q l6 (fun g vJ=>FC g (by simp[vJ])) e2 (GY sD) hq
         have no:∀q,b= !JQ→(q=if b then x else y)→EX (bQ E (pI f body) q)=some rb→wpOpsIn (FR rd) 0 E.P ops Q (body.map (·.1)++(((ip,p)::pJ).map (·.1)++tail)) a w:=by
          intro q hbp hq hev;refine CO body f (fun z hz=>hl z (bB z hz)) (fun z hz=>(Oh z hz).1.2) (GX htj hgi (fun z hz=>hl z (bB z hz)) (fun z hz=>(Oh z hz).2) (by rw[hbf,hbp]) (by simp)) hR A hA (fun z hz g vJ t ht=>Lj z (bB z hz) g vJ t ht) fun a' l6 FC=>?_;refine after _ μ φ a' w q l6 FC (fun t ht=>A8 ht) ?_ hq;have hv:=GY hev;cases q with
          |tmp t=>
           simp only[bQ]at hv⊢;have hle:Cc (pI f body) (j8 f body):=Ez fun t ht=>.inl (A8 ht).symm;cases e:Nat.blt t E.fn.ntmps with
           |false=>rw[e]at hv;cases hv
           |true=>
            rw[e]at hv;simp only[cond]at hv⊢;rcases hle t with e|e
            ·rw[←e];omega
            simp_all
          |_=>exact hv
         have hbm:(bif Nat.beq mode 0 then 3 else mode)=3:=by rcases pq with rfl|rfl<;>rfl
         grind
        ·cases h
       ·cases h
      ·cases h
    ·cases h
   ·cases h
end
structure Rec where
 i:Nat
 o:Oper
 v:V
 wr:List (Nat×bW)
 ft:bN
 kl:Kl
def Rec.fs(r:Rec)(f:Fr):Fr:=kN (kf r.kl f) r.o.dst r.v
def Rec.ms(r:Rec)(m:Mem):Mem:=zV r.wr (km r.kl m)
def Rec.Oi(r:Rec)(id:Nat):Prop:=∃b,(b,id)∈r.kl
def pA(f:Fr):List Rec→Fr
 |[]=>f
 |r::l=>pA (r.fs f) l
def uX(m:Mem):List Rec→Mem
 |[]=>m
 |r::l=>uX (r.ms m) l
def tD(S:Nat→Bool)(f:Fr):List Rec→Fr
 |[]=>f
 |r::l=>tD S (bif S r.i then r.fs f else f) l
def tE(S:Nat→Bool)(m:Mem):List Rec→Mem
 |[]=>m
 |r::l=>tE S (bif S r.i then r.ms m else m) l
theorem PA:∀{wr:List (Nat×bW)}{m:Mem}{j:Nat},(∀b,(j,b)∉wr)→zV wr m j=m j
 |[],_,_,_=>rfl
 |(id,b)::r,m,j,h=>by rw[zV,PA fun b' hb=>h b' (by simp[hb])];exact aF fun e=>h b (by simp[e])
theorem acx:∀{wr:List (Nat×bW)}{j:Nat},(∃b,(j,b)∈wr)→∃b',(j,b')∈wr∧∀m:Mem,zV wr m j=some b'
 |[],_,h=>by simp_all
 |(id,b)::r,j,h=>by
  by_cases hr:∃b,(j,b)∈r
  ·obtain⟨b',h1,h2⟩:=acx hr;exact⟨b',by simp[h1],fun m=>h2 _⟩
  ·obtain⟨b0,hb⟩:=h;rcases asg.1 hb with hb|hb
   ·simp only[apa]at hb;obtain⟨rfl,rfl⟩:=hb;simp_all[zV,PA]
   simp_all
mutual
theorem Ru{id:Nat}:∀{v:V},v.Cy id=true→v.has id=true
 |.agg cs,h=>A9 (cs:=cs) (by simpa[V.Cy]using h)
 |.aG cs,h=>A9 (cs:=cs) (by simpa[V.Cy]using h)
 |.fn _ cs,h=>A9 (cs:=cs) (by simpa[V.Cy]using h)
 |.Cx _ _ _,h=>h
 |.GC _ _ _ _ _ _,h=>h
 |.pv _,h=>by cases h
 |.jB,h=>by cases h
 |.op _ _,h=>by cases h
 |.oe _ _ _,h=>by cases h
 |.os _,h=>by cases h
 |.gw _ _ _,h=>by cases h
 |.om _,h=>by cases h
 |.yl _,h=>by cases h
 |.it _,h=>by cases h
 |.top,h=>by cases h
theorem A9{id:Nat}:∀{cs:List V},GD id cs=true→cA id cs=true
 |[],h=>by cases h
 |c::r,h=>by
  simp only[GD,asu]at h;simp only[cA,asu];rcases h with h|h
  ·exact .inl (Ru h)
  ·exact .inr (A9 h)
end
variable{id:Nat}
theorem Jq{v:V}(h:v.has id=false):yr id v=v:=by unfold yr;rw[h];rfl
theorem Jr{id:Nat}:∀{cs:List V},cA id cs=false→cs.map (yr id)=cs
 |[],_=>rfl
 |c::r,h=>by simp only[cA,asE]at h;simp only[asn,Jq h.1,Jr h.2]
theorem Rv{b:bW}(h:b.names id=false):ij id b=b:=by
 cases b with
 |box cs=>simp only[ij,Jr (show cA id cs=false from h)]
 |_=>rfl
theorem GZ{v:V}(h:v.has id=false):rQ id v=v:=by
 unfold rQ;cases h2:v.Cy id with
 |false=>rfl
 |true=>rw[Ru h2]at h;cases h
theorem G0{id:Nat}:∀{cs:List V},cA id cs=false→cs.map (rQ id)=cs
 |[],_=>rfl
 |c::r,h=>by simp only[cA,asE]at h;simp only[asn,GZ h.1,G0 h.2]
theorem PB{b:bW}(h:b.names id=false):eh id b=b:=by
 cases b with
 |box cs=>simp only[eh,G0 (show cA id cs=false from h)]
 |_=>rfl
theorem Lk:∀{kl:Kl}{f:Fr}{t:Nat},(∀id,(∃b,(b,id)∈kl)→(f t).has id=false)→kf kl f t=f t
 |[],_,_,_=>rfl
 |(true,id)::r,f,t,h=>by have h0:fC id f t=f t:=Jq (h id ⟨true,by simp⟩);rw[kf,Lk (kl:=r) (f:=fC id f) fun j hj=>by rw[h0];exact h j (let⟨b,hb⟩:=hj;⟨b,by simp[hb]⟩),h0]
 |(false,id)::r,f,t,h=>by have h0:jC id f t=f t:=GZ (h id ⟨false,by simp⟩);rw[kf,Lk (kl:=r) (f:=jC id f) fun j hj=>by rw[h0];exact h j (let⟨b,hb⟩:=hj;⟨b,by simp[hb]⟩),h0]
theorem G1:∀{kl:Kl}{f g:Fr}{t:Nat},f t=g t→kf kl f t=kf kl g t
 |[],_,_,_,h=>h
 |(true,id)::r,f,g,t,h=>G1 (kl:=r) (f:=fC id f) (g:=fC id g) (by simp only[fC,h])
 |(false,id)::r,f,g,t,h=>G1 (kl:=r) (f:=jC id f) (g:=jC id g) (by simp only[jC,h])
theorem Ll:∀{kl:Kl}{m:Mem}{j:Nat},(∀id,(∃b,(b,id)∈kl)→j≠id∧∀b,m j=some b→b.names id=false)→km kl m j=m j
 |[],_,_,_=>rfl
 |(true,id)::r,m,j,h=>by
  obtain⟨h1,h2⟩:=h id ⟨true,by simp⟩;have h0:bF (bR id m) id j=m j:=by
   rw[gY h1];unfold bR;cases hm:m j with
   |none=>rfl
   |some b=>simp only[Rv (h2 b hm)]
  rw[km,Ll (kl:=r) (m:=bF (bR id m) id) fun i hi=>by rw[h0];exact h i (let⟨b,hb⟩:=hi;⟨b,by simp[hb]⟩),h0]
 |(false,id)::r,m,j,h=>by
  obtain⟨h1,h2⟩:=h id ⟨false,by simp⟩;have h0:fM id m j=m j:=by
   unfold fM;cases hm:m j with
   |none=>rfl
   |some b=>simp only[PB (h2 b hm)]
  rw[km,Ll (kl:=r) (m:=fM id m) fun i hi=>by rw[h0];exact h i (let⟨b,hb⟩:=hi;⟨b,by simp[hb]⟩),h0]
theorem Ln:∀{kl:Kl}{m n:Mem}{j:Nat},m j=n j→km kl m j=km kl n j
 |[],_,_,_,h=>h
 |(true,id)::r,m,n,j,h=>Ln (kl:=r) (m:=bF (bR id m) id) (n:=bF (bR id n) id) (by
  by_cases e:j=id
  ·subst e;simp
  simp_all[gY,bR])
 |(false,id)::r,m,n,j,h=>Ln (kl:=r) (m:=fM id m) (n:=fM id n) (by simp only[fM,h])
variable{r:Rec}
theorem Rec.Rw{f:Fr}{t:Nat}(h:r.o.dst=some t):r.fs f t=r.v:=by unfold Rec.fs;rw[h,mh]
theorem Rec.Wt{f:Fr}{t:Nat}(h:r.o.dst≠some t)(hc:∀id,r.Oi id→(f t).has id=false):r.fs f t=f t:=by unfold Rec.fs;rw[gA h];exact Lk hc
theorem Rec.Lp{f g:Fr}{t:Nat}(h:f t=g t):r.fs f t=r.fs g t:=by
 by_cases e:r.o.dst=some t
 ·rw[Rw e,Rw e]
 ·unfold Rec.fs;grind [gA,G1]
theorem Rec.aic{j:Nat}(h:∃b,(j,b)∈r.wr):∃b',(j,b')∈r.wr∧∀m,r.ms m j=some b':=let⟨b',h1,h2⟩:=acx h;⟨b',h1,fun m=>h2 _⟩
theorem Rec.acy{m:Mem}{j:Nat}(h:∀b,(j,b)∉r.wr)(hc:∀id,r.Oi id→j≠id∧∀b,m j=some b→b.names id=false):r.ms m j=m j:=by unfold Rec.ms;rw[PA h];exact Ll hc
theorem Rec.Lq{m n:Mem}{j:Nat}(h:m j=n j):r.ms m j=r.ms n j:=by
 by_cases e:∃b,(j,b)∈r.wr
 ·obtain⟨b,_,e⟩:=Rec.aic e;rw[e,e]
 ·have e':∀b,(j,b)∉r.wr:=fun b hb=>e ⟨b,hb⟩;unfold Rec.ms;grind [PA,Ln]
section
variable {S S':Nat→Bool}
theorem Rx{f:Fr}:∀{l l':List Rec},pA f (l++l')=pA (pA f l) l':=by
 intro l;induction l generalizing f with
 |nil=>intro l';rfl
 |cons r l ih=>intro l';exact ih
theorem Ry{m:Mem}:∀{l l':List Rec},uX m (l++l')=uX (uX m l) l':=by
 intro l;induction l generalizing m with
 |nil=>intro l';rfl
 |cons r l ih=>intro l';exact ih
theorem CP{f:Fr}:∀{l l':List Rec},tD S f (l++l')=tD S (tD S f l) l':=by
 intro l;induction l generalizing f with
 |nil=>intro l';rfl
 |cons r l ih=>intro l';exact ih
theorem CQ{m:Mem}:∀{l l':List Rec},tE S m (l++l')=tE S (tE S m l) l':=by
 intro l;induction l generalizing m with
 |nil=>intro l';rfl
 |cons r l ih=>intro l';exact ih
theorem Oj{t:Nat}:∀{l:List Rec}{f:Fr},(∀q∈l,q.o.dst≠some t∧q.kl=[])→pA f l t=f t
 |[],_,_=>rfl
 |r::l,f,h=>by rw[pA,Oj fun q hq=>h q (by simp[hq])];obtain⟨h1,h2⟩:=h r (by simp);exact Rec.Wt h1 fun id⟨b,hid⟩=>by rw[h2]at hid;cases hid
theorem vK{t:Nat}:∀{l:List Rec}{f:Fr},(∀q∈l,S q.i=true→q.o.dst≠some t∧∀id,q.Oi id→(f t).has id=false)→tD S f l t=f t
 |[],_,_=>rfl
 |r::l,f,h=>by
  have h0:(bif S r.i then r.fs f else f) t=f t:=by
   cases e:S r.i with
   |false=>rfl
   |true=>simp_all[Rec.Wt]
  rw[tD,vK fun q hq hs=>by rw[h0];exact h q (by simp[hq]) hs,h0]
theorem Lr{t:Nat}:∀{l:List Rec}{f g:Fr},f t=g t→(∀q∈l,S q.i=false→q.o.dst≠some t∧q.kl=[])→tD S f l t=pA g l t
 |[],_,_,h,_=>h
 |r::l,f,g,h,hs=>by
  rw[tD,pA];refine Lr ?_ fun q hq=>hs q (by simp[hq]);cases e:S r.i with
  |true=>exact Rec.Lp h
  |false=>obtain⟨h1,h2⟩:=hs r (by simp) e;rw[Rec.Wt h1 fun id⟨b,hid⟩=>by rw[h2]at hid;cases hid];exact h
theorem FM{t:Nat}:∀{l:List Rec}{f g:Fr},f t=g t→(∀q∈l,S q.i=S' q.i)→tD S f l t=tD S' g l t
 |[],_,_,h,_=>h
 |r::l,f,g,h,hs=>by
  rw[tD,tD];refine FM ?_ fun q hq=>hs q (by simp[hq]);rw[hs r (by simp)];cases S' r.i
  ·exact h
  ·exact Rec.Lp h
theorem vL{j:Nat}:∀{l:List Rec}{m:Mem},(∀q∈l,S q.i=true→(∀b,(j,b)∉q.wr)∧∀id,q.Oi id→j≠id∧∀b,m j=some b→b.names id=false)→tE S m l j=m j
 |[],_,_=>rfl
 |r::l,m,h=>by
  have h0:(bif S r.i then r.ms m else m) j=m j:=by
   cases e:S r.i with
   |false=>rfl
   |true=>simp_all[Rec.acy]
  rw[tE,vL fun q hq hs=>by rw[h0];exact h q (by simp[hq]) hs,h0]
theorem Lt{j:Nat}:∀{l:List Rec}{m n:Mem},m j=n j→(∀q∈l,S q.i=false→(∀b,(j,b)∉q.wr)∧q.kl=[])→tE S m l j=uX n l j
 |[],_,_,h,_=>h
 |r::l,m,n,h,hs=>by
  rw[tE,uX];refine Lt ?_ fun q hq=>hs q (by simp[hq]);cases e:S r.i with
  |true=>exact Rec.Lq h
  |false=>obtain⟨h1,h2⟩:=hs r (by simp) e;rw[Rec.acy h1 fun id⟨b,hid⟩=>by rw[h2]at hid;cases hid];exact h
theorem FN{j:Nat}:∀{l:List Rec}{m n:Mem},m j=n j→(∀q∈l,S q.i=S' q.i)→tE S m l j=tE S' n l j
 |[],_,_,h,_=>h
 |r::l,m,n,h,hs=>by
  rw[tE,tE];refine FN ?_ fun q hq=>hs q (by simp[hq]);rw[hs r (by simp)];cases S' r.i
  ·exact h
  ·exact Rec.Lq h
end
section
variable {E:Env} {ops:Array Oper} {w0:bO}
def Ol(E:Env)(ops:Array Oper)(w0:bO)(r:Rec)(f:Fr)(m:Mem):Prop:=∀(f2:Fr)(m2:Mem),(∀t∈r.o.looksAt ops,f2 t=f t)→(∀x∈r.ft,m2 x.2=m x.2)→∀(μ:Ro)(φ:Nat→aP)(a:Act)(w:World)(K:Act→World→Prop)(Q:Exit→Act→World→Prop),Rel E.P E.aW E.fn.ntmps w0 μ φ f2 m2 a w→(∀μ' φ' a' w',Rel E.P E.aW E.fn.ntmps w0 μ' φ' (r.fs f2) (r.ms m2) a' w'→K a' w')→if Region.wanted r.o (yielded ops a.tmps)then∀rd:Option Nat,r.o.wpIn (FR rd) 0 E.P a w K Q else K (a.put r.o.dst undef) w
def gB(E:Env)(ops:Array Oper)(w0:bO):Fr→Mem→List Rec→Prop
 |_,_,[]=>True
 |f,m,r::l=>Ol E ops w0 r f m∧(∀id b,(id,b)∈r.wr→(true,id)∈r.ft)∧gB E ops w0 (r.fs f) (r.ms m) l
theorem gB.append{f:Fr}{m:Mem}{l l':List Rec}:gB E ops w0 f m (l++l')↔gB E ops w0 f m l∧gB E ops w0 (pA f l) (uX m l) l':=by
 induction l generalizing f m with
 |nil=>simp[gB,pA,uX]
 |cons r l ih=>simp_all[atN,gB,pA,uX,auM]
def Clean(ops:Array Oper)(id:Nat)(r:Rec)(f:Fr)(m:Mem):Prop:=(∀t∈r.o.looksAt ops,(f t).has id=false)∧r.v.has id=false∧(∀x∈r.ft,x.2≠id∧∀b,m x.2=some b→b.names id=false)∧∀j b,(j,b)∈r.wr→(∀m,r.ms m j=some b)→j≠id∧b.names id=false
def sG(ops:Array Oper):Fr→Mem→List Rec→Prop
 |_,_,[]=>True
 |f,m,r::l=>(∀q∈l,∀id,q.Oi id→reach ops 4 q.o r.i=true∨Clean ops id r f m)∧sG ops (r.fs f) (r.ms m) l
theorem sG.append{f:Fr}{m:Mem}{l l':List Rec}(h:sG ops f m (l++l')):sG ops (pA f l) (uX m l) l':=by
 induction l generalizing f m with
 |nil=>exact h
 |cons r l ih=>exact ih h.2
def Ord(ops:Array Oper)(q r:Rec):Prop:=reach ops 4 r.o q.i=true∨(q.o.apart ops r.o=true∧(∀id b,(id,b)∈q.wr→∀x∈r.ft,x.2≠id)∧∀id b,(id,b)∈r.wr→∀x∈q.ft,x.2≠id)
theorem aaa{o:Oper}{j:Nat}(h:KA o j=true):∃e∈o.after,Region.binds .any e=true∧e.on=j:=by unfold KA at h;obtain⟨e,he,h⟩:=atd.1 h;have he:e∈o.after:=atF.1 he;simp only[ao9]at h;grind [Nat.eq_of_beq_eq_true]
abbrev aR(l:Array Bool):Nat→Bool:=fun i=>l.getD i false
def FO(ops:Array Oper)(listed:Array Bool):Prop:=∀i o,ops[i]?=some o→aR listed i=true→∀e∈o.after,Region.binds .any e=true→aR listed e.on=true
theorem wx(listed:Array Bool)(AN:FO ops listed):∀(n:Nat)(o:Oper)(j:Nat),(∀e∈o.after,Region.binds .any e=true→aR listed e.on=true)→reach ops n o j=true→aR listed j=true:=by
 have amJ:∀(o:Oper)(j:Nat),(∀e∈o.after,Region.binds .any e=true→aR listed e.on=true)→KA o j=true→aR listed j=true:=fun o j ho h=>by grind [aaa]
 intro n;induction n with
 |zero=>exact fun o j ho h=>amJ o j ho h
 |succ n ihn=>
  intro o j ho h;simp only[reach,asu]at h;rcases h with h|h
  ·exact amJ o j ho h
  ·obtain⟨e,he,h⟩:=atd.1 h;simp only[ao9]at h;obtain⟨hb,h⟩:=h;have he:e∈o.after:=atF.1 he;split at h
   ·rename_i p hp;exact ihn p j (AN e.on p hp (ho e he hb)) h
   ·cases h
theorem acz{rd:Option Nat}{recs:List Rec}{f0:Fr}{m0:Mem}{Q:Exit→Act→World→Prop}{base:Nat→Bool}(cd:recs.Pairwise fun q r=>q.i<r.i)(kM:∀r∈recs,ops[r.i]?=some r.o)(aid:∀r∈recs,base r.i=false)(aie:∀i o,ops[i]?=some o→base i=false→(∀r∈recs,r.i≠i)→(∀r∈recs,reach ops 8 o r.i=true)∨∃j,reach ops 8 o j=true∧base j=false∧∀r∈recs,r.i≠j)(amK:recs.Pairwise (Ord ops))(JV:recs.Pairwise fun q r=>q.kl≠[]→reach ops 4 r.o q.i=true)(apW:sG ops f0 m0 recs)(acA:∀r∈recs,∀e∈r.o.after,Region.binds .any e=true→e.on<r.i∧(base e.on=true∨∃q∈recs,q.i=e.on))(uM:gB E ops w0 f0 m0 recs)(hQ:∀(fuel:Nat)(listed:Array Bool),listed.size=ops.size→listed.toList.countP (fun b=> !b)≤fuel→FO ops listed→(∀i,aR listed i=true↔base i=true∨∃r∈recs,r.i=i)→∀μ φ a w,Rel E.P E.aW E.fn.ntmps w0 μ φ (pA f0 recs) (uX m0 recs) a w→wpAnyIn (FR rd) 0 E.P .any ops Q fuel listed a w):∀(fuel:Nat)(listed:Array Bool),listed.size=ops.size→listed.toList.countP (fun b=> !b)≤fuel→FO ops listed→(∀i,base i=true→aR listed i=true)→(∀i,aR listed i=true→base i=true∨∃r∈recs,r.i=i)→∀(μ:Ro)(φ:Nat→aP)(a:Act)(w:World),Rel E.P E.aW E.fn.ntmps w0 μ φ (tD (aR listed) f0 recs) (tE (aR listed) m0 recs) a w→wpAnyIn (FR rd) 0 E.P .any ops Q fuel listed a w:=by
 have done:∀(fuel:Nat)(listed:Array Bool),listed.size=ops.size→listed.toList.countP (fun b=> !b)≤fuel→FO ops listed→(∀i,base i=true→aR listed i=true)→(∀i,aR listed i=true→base i=true∨∃r∈recs,r.i=i)→(∀r∈recs,aR listed r.i=true)→∀(μ:Ro)(φ:Nat→aP)(a:Act)(w:World),Rel E.P E.aW E.fn.ntmps w0 μ φ (tD (aR listed) f0 recs) (tE (aR listed) m0 recs) a w→wpAnyIn (FR rd) 0 E.P .any ops Q fuel listed a w:=by
  intro fuel listed hs hc AN hb yj hl μ φ a w hR;have e1:tD (aR listed) f0 recs=pA f0 recs:=funext fun t=>Lr rfl fun q hq hf=>by rw[hl q hq]at hf;cases hf
  have e2:tE (aR listed) m0 recs=uX m0 recs:=funext fun t=>Lt rfl fun q hq hf=>by rw[hl q hq]at hf;cases hf
  rw[e1,e2]at hR;exact hQ fuel listed hs hc AN (fun i=>⟨yj i,fun h=>h.elim (hb i) fun⟨r,hr,e⟩=>e▸hl r hr⟩) μ φ a w hR
 have agM:∀(listed:Array Bool),listed.size=ops.size→(∀i,base i=true→aR listed i=true)→(∀r∈recs,r.i∉Region.ready .any ops listed)→∀(n:Nat)(r:Rec),r∈recs→r.i<n→aR listed r.i=true:=by
  intro listed hs hb hr n;induction n with
  |zero=>intro r _ h;omega
  |succ n ih=>
   intro r Cv hi;cases hc:aR listed r.i with
   |true=>rfl
   |false=>
    exfalso;have cd:r.i<listed.size:=by rw[hs];exact(are.1 (kM r Cv)).1
    refine hr r Cv (mem_ready.2 ⟨by simp only[aR,asp,ame cd,ate]at hc⊢;exact hc,r.o,kM r Cv,fun e he lf=>?_⟩);obtain⟨h1,h2⟩:=acA r Cv e he lf;rcases h2 with h2|⟨q,hq,hqi⟩
    ·exact hb _ h2
    ·have:=ih q hq (by omega);rwa[hqi]at this
 intro fuel;induction fuel with
 |zero=>
  intro listed hs hc AN hb yj μ φ a w hR;refine done 0 listed hs hc AN hb yj (fun r hr=>?_) μ φ a w hR;have cd:r.i<listed.size:=by rw[hs];exact(are.1 (kM r hr)).1
  have:=avi.1 (Nat.le_zero.1 hc) listed[r.i] (by simp);simp only[aR,asp,ame cd,ate];simpa using this
 |succ fuel ih=>
  intro listed hs hc AN hb yj μ φ a w hR;by_cases acB:∀r∈recs,aR listed r.i=true
  ·exact done (fuel+1) listed hs hc AN hb yj acB μ φ a w hR
  have amL:∃r∈recs,aR listed r.i=false:=by
   refine as9 fun cU=>acB fun r hr=>?_;cases hx:aR listed r.i with
   |true=>rfl
   |false=>exact absurd ⟨r,hr,hx⟩ cU
  refine⟨fun h0=>absurd (fun r hr=>agM listed hs hb (fun r hr h=>by rw[h0]at h;cases h) (r.i+1) r hr (by omega)) acB,fun i hi=>?_⟩;obtain⟨hun,o,ho,Lu⟩:=mem_ready.1 hi;have amM:aR listed i=false:=by
   have cd:i<listed.size:=by rw[hs];exact(are.1 ho).1
   simp only[aR,asp,ame cd,ate]at hun⊢;exact hun
  have hex:∃r∈recs,r.i=i∧r.o=o:=by
   refine as9 fun cU=>?_;have TA:∀r∈recs,r.i≠i:=fun r hr e=>cU ⟨r,hr,e,by have:=kM r hr;rw[e,ho]at this;exact(Option.some.inj this).symm⟩;have hbi:base i=false:=by
    cases hx:base i with
    |false=>rfl
    |true=>rw[hb i hx]at amM;cases amM
   rcases aie i o ho hbi TA with h|⟨j,h1,h2,h3⟩
   ·obtain⟨r,hr,hrl⟩:=amL;rw[wx listed AN 8 o r.i Lu (h r hr)]at hrl;cases hrl
   ·have:=wx listed AN 8 o j Lu h1;rcases yj j this with h|⟨r,hr,e⟩
    ·rw[h]at h2;cases h2
    ·exact h3 r hr e
  obtain⟨r,hr,rfl,rfl⟩:=hex;have acC:r.i<listed.size:=by rw[hs];exact(are.1 ho).1
  have hSi:aR listed r.i=false:=by simp only[aR,asp,ame acC,ate]at hun⊢;exact hun
  obtain⟨pre,post,pQ⟩:=List.append_of_mem hr;subst pQ;have Rz:∀q∈pre,Ord ops q r:=fun q hq=>(ats.1 amK).2.2 q hq r (by simp);have Wu:∀q∈post,Ord ops r q:=fun q hq=>(atj.1 (ats.1 amK).2.1).1 q hq;have ai6:∀q∈post,q.i≠r.i:=fun q hq=>by have:=(atj.1 (ats.1 cd).2.1).1 q hq;omega
  have amN:∀q∈pre,q.i≠r.i:=fun q hq=>by have:=(ats.1 cd).2.2 q hq r (by simp);omega
  have aab:∀q:Rec,reach ops 4 r.o q.i=true→aR listed q.i=true:=fun q h=>wx listed AN 4 r.o q.i Lu h;have Ur:∀q∈post,reach ops 4 q.o r.i=true→aR listed q.i=false:=fun q hq h=>by
   cases hc':aR listed q.i with
   |false=>rfl
   |true=>have:=wx listed AN 4 q.o r.i (AN q.i q.o (kM q (by simp[hq])) hc') h;rw[hSi]at this;cases this
  have aif:∀(f:Fr),tD (aR listed) f (r::post)=tD (aR listed) f post:=fun f=>by rw[tD,hSi];rfl
  have acD:∀(m:Mem),tE (aR listed) m (r::post)=tE (aR listed) m post:=fun m=>by rw[tE,hSi];rfl
  obtain⟨_,ai7,hrw,_⟩:=gB.append.1 uM;have hc:=apW.append.1;have aih:∀q∈pre,q.kl≠[]→reach ops 4 r.o q.i=true:=fun q hq=>(ats.1 JV).2.2 q hq r (by simp);have acE:r.kl≠[]→∀q∈post,reach ops 4 q.o r.i=true:=fun h q hq=>(atj.1 (ats.1 JV).2.1).1 q hq h;unfold wpOpIn;rw[kM r hr];simp only;have hf1:∀t∈r.o.looksAt ops,tD (aR listed) f0 pre t=pA f0 pre t:=fun t ht=>Lr rfl fun q hq hs=>by
   have TA:¬reach ops 4 r.o q.i=true:=fun h=>by rw[aab q h]at hs;cases hs
   refine⟨fun hd=>?_,?_⟩
   ·rcases Rz q hq with h|⟨h,_⟩
    ·exact TA h
    ·exact absurd ht ((Oper.apart_spec h).1 t hd)
   ·exact as9 fun cU=>TA (aih q hq cU)
  have hm1:∀x∈r.ft,tE (aR listed) m0 pre x.2=uX m0 pre x.2:=fun x hx=>Lt rfl fun q hq hs=>by
   have TA:¬reach ops 4 r.o q.i=true:=fun h=>by rw[aab q h]at hs;cases hs
   refine⟨fun b hb=>?_,?_⟩
   ·rcases Rz q hq with h|⟨_,h,_⟩
    ·exact TA h
    ·exact absurd rfl (h _ b hb x hx)
   ·exact as9 fun cU=>TA (aih q hq cU)
  have hnp:∀q∈post,aR listed q.i=true→¬reach ops 4 q.o r.i=true:=fun q hq hs h=>by rw[Ur q hq h]at hs;cases hs
  have hf2:∀t∈r.o.looksAt ops,tD (aR listed) f0 (pre++r::post) t=pA f0 pre t:=fun t ht=>by
   rw[CP,aif,vK fun q hq hs=>⟨fun hd=>?_,fun id hid=>?_⟩]
   ·exact hf1 t ht
   ·rcases Wu q hq with h|⟨h,_⟩
    ·exact hnp q hq hs h
    ·exact absurd ht ((Oper.apart_spec h).2.2 t hd)
   ·rw[hf1 t ht];rcases hc q hq id hid with h|h
    ·exact absurd h (hnp q hq hs)
    ·exact h.1 t ht
  have cZ:∀x∈r.ft,tE (aR listed) m0 (pre++r::post) x.2=uX m0 pre x.2:=fun x hx=>by
   rw[CQ,acD,vL fun q hq hs=>⟨fun b hb=>?_,fun id hid=>?_⟩]
   ·exact hm1 x hx
   ·rcases Wu q hq with h|⟨_,_,h⟩
    ·exact hnp q hq hs h
    ·exact absurd rfl (h _ b hb x hx)
   ·rw[hm1 x hx];rcases hc q hq id hid with h|h
    ·exact absurd h (hnp q hq hs)
    ·exact h.2.2.1 x hx
  have hwp:=ai7 _ _ hf2 cZ μ φ a w (wpAnyIn (FR rd) 0 E.P .any ops Q fuel (listed.setIfInBounds r.i true)) Q hR fun μ' φ' a' w' l6=>by
   have hS':∀j,aR (listed.setIfInBounds r.i true) j=if j=r.i then true else aR listed j:=fun j=>by
    simp only[aR,asp,atu];by_cases e:r.i=j
    ·subst e;simp[acC]
    ·have e':¬j=r.i:=fun h=>e h.symm;simp[e,e']
   refine ih (listed.setIfInBounds r.i true) (by simp[hs]) ?_ ?_ ?_ ?_ μ' φ' a' w' ?_
   ·rw[auE,List.countP_set (by simpa using acC)];have:listed.toList[r.i]'(by simpa using acC)=false:=by simp only[aR,asp,ame acC,ate]at hSi;simpa using hSi
    rw[this];simp only[asr,BY,aiI,cQ,IS];omega
   ·intro i' o' ho' uI e he TB;rw[hS']at uI⊢;split
    ·rfl
    ·split at uI
     ·rename_i hqi;subst hqi;have:o'=r.o:=by rw[kM r hr]at ho';exact(Option.some.inj ho').symm
      subst this;exact Lu e he TB
     ·exact AN i' o' ho' uI e he TB
   ·intro i' uI;rw[hS'];split
    ·rfl
    ·exact hb i' uI
   ·intro i' uI;rw[hS']at uI;split at uI
    ·rename_i hqi;exact Or.inr ⟨r,hr,hqi.symm⟩
    ·exact yj i' uI
   ·have aii:∀q∈pre,aR (listed.setIfInBounds r.i true) q.i=aR listed q.i:=fun q hq=>by rw[hS',IT (amN q hq)]
    have CR:∀q∈post,aR (listed.setIfInBounds r.i true) q.i=aR listed q.i:=fun q hq=>by rw[hS',IT (ai6 q hq)]
    have hSr:aR (listed.setIfInBounds r.i true) r.i=true:=by rw[hS',IN rfl]
    have e1:tD (aR (listed.setIfInBounds r.i true)) f0 (pre++r::post)=r.fs (tD (aR listed) f0 (pre++r::post)):=funext fun t=>by
     have hg:tD (aR (listed.setIfInBounds r.i true)) f0 pre=tD (aR listed) f0 pre:=funext fun s=>FM rfl aii;rw[CP,CP,aif,tD,hSr,hg];simp only[cond];by_cases hk:r.kl=[]
     ·by_cases hd:r.o.dst=some t
      ·rw[Rec.Rw hd,vK fun q hq hs=>⟨fun hqd=>?_,fun id hid=>?_⟩,Rec.Rw hd]
       ·rw[CR q hq]at hs;rcases Wu q hq with h|⟨h,_⟩
        ·exact hnp q hq hs h
        ·exact absurd hqd ((Oper.apart_spec h).2.1 t hd)
       ·rw[CR q hq]at hs;rw[Rec.Rw hd];rcases hc q hq id hid with h|h
        ·exact absurd h (hnp q hq hs)
        ·exact h.2.1
      ·have Ib:∀(g:Fr),r.fs g t=g t:=fun g=>Rec.Wt hd fun id⟨b,hid⟩=>by rw[hk]at hid;cases hid
       rw[Ib];exact FM (Ib _) CR
     ·have hun:∀q∈post,aR listed q.i=false:=fun q hq=>Ur q hq (acE hk q hq);rw[vK fun q hq hs=>by rw[CR q hq,hun q hq]at hs;cases hs];exact Rec.Lp (vK fun q hq hs=>by rw[hun q hq]at hs;cases hs).symm
    have e2:tE (aR (listed.setIfInBounds r.i true)) m0 (pre++r::post)=r.ms (tE (aR listed) m0 (pre++r::post)):=funext fun j=>by
     have hg:tE (aR (listed.setIfInBounds r.i true)) m0 pre=tE (aR listed) m0 pre:=funext fun s=>FN rfl aii;rw[CQ,CQ,acD,tE,hSr,hg];simp only[cond];by_cases hk:r.kl=[]
     ·by_cases hd:∃b,(j,b)∈r.wr
      ·obtain⟨b,hd,Cw⟩:=Rec.aic hd;rw[Cw,vL fun q hq hs=>⟨fun b' hqd=>?_,fun id hid=>?_⟩,Cw]
       ·rw[CR q hq]at hs;rcases Wu q hq with h|⟨_,_,h⟩
        ·exact hnp q hq hs h
        ·exact absurd rfl (h j b' hqd (true,j) (hrw j b hd))
       ·rw[CR q hq]at hs;rcases hc q hq id hid with h|h
        ·exact absurd h (hnp q hq hs)
        ·obtain⟨h1,h2⟩:=h.2.2.2 j b hd Cw;refine⟨h1,fun b' lf=>?_⟩;rw[Cw]at lf;cases lf;exact h2
      ·have hd':∀b,(j,b)∉r.wr:=fun b hb=>hd ⟨b,hb⟩;have Ib:∀(g:Mem),r.ms g j=g j:=fun g=>Rec.acy hd' fun id⟨b,hid⟩=>by rw[hk]at hid;cases hid
       rw[Ib];exact FN (Ib _) CR
     ·have hun:∀q∈post,aR listed q.i=false:=fun q hq=>Ur q hq (acE hk q hq);rw[vL fun q hq hs=>by rw[CR q hq,hun q hq]at hs;cases hs];exact Rec.Lq (vL fun q hq hs=>by rw[hun q hq]at hs;cases hs).symm
    rw[e1,e2];exact l6
  split
  ·rename_i hw;rw[IN hw]at hwp;exact hwp rd
  ·rename_i hw;rw[IT hw]at hwp;exact⟨fun _ _=>trivial,hwp⟩
end
section
variable {E:Env} {ops:Array Oper} {w0:bO}
variable{o:Oper}
theorem aac{t:Nat}(h:.tmp t∈o.op.operands):t∈o.looksAt ops:=by unfold Oper.looksAt;refine asB.2 (.inl (List.mem_filterMap.2 ⟨.tmp t,by simpa using h,rfl⟩))
theorem CS{g:Nat×Bool}{t:Nat}(hg:o.guard=some g)(h:(ops[g.1]?).bind (·.dst)=some t):t∈o.looksAt ops:=by simp_all[Oper.looksAt]
variable{f F:Fr}
theorem EA(h:∀t∈o.looksAt ops,f t=F t):∀x∈o.op.operands,bQ E f x=bQ E F x:=by
 intro x hx;cases x with
 |tmp t=>simp_all[bQ,aac]
 |_=>rfl
variable{A:List (Nat×Bool)}{φ:Nat→aP}{a:Act}{w:World}
theorem RA{f2:Fr}{m2:Mem}{μ:Ro}(hg:guardOf o A=none)(hA:wv E.fn.ntmps ops A f)(hR:Rel E.P E.aW E.fn.ntmps w0 μ φ f2 m2 a w)(hf:∀t∈o.looksAt ops,f2 t=f t):Region.wanted o (yielded ops a.tmps)=true:=by
 unfold guardOf at hg;unfold Region.wanted;split at hg
 ·rename_i hgd;simp[hgd]
 ·rename_i g hgd;split at hg
  ·rename_i bB;obtain⟨t,h1,h0,h2⟩:=hA g (by simpa using bB);have h3:=hR.fr t;grind [vU,CS,A7,wq]
  ·cases hg
variable{i:Nat}{ft:bN}{m:Mem}
theorem Lv(hE:ma E){v:V}{wr:List (Nat×bW)}(hg:guardOf o A=none)(hA:wv E.fn.ntmps ops A f)(hd:CC E o=true)(hn:∀(f2:Fr)(m2:Mem),(∀x∈o.op.operands,bQ E f2 x=bQ E f x)→(∀x∈ft,m2 x.2=m x.2)→∀(R':Type)(k':V→Fr→Mem→bN→Option R'),Q0 E true (cR E o.dst) o f2 m2 k'=k' v f2 (zV wr m2) ft):Ol E ops w0 ⟨i,o,v,wr,ft,[]⟩ f m:=by
 intro f2 m2 hf hm μ φ a w K Q hR hK;have hw:Region.wanted o (yielded ops a.tmps)=true:=by
  unfold guardOf at hg;unfold Region.wanted;split at hg
  ·rename_i hgd;simp[hgd]
  ·rename_i g hgd;split at hg
   ·rename_i bB;obtain⟨t,h1,h0,h2⟩:=hA g (by simpa using bB);have h3:=hR.fr t;grind [vU,CS,A7,wq]
   ·cases hg
 simp only at hf hm hK⊢;rw[IN hw];exact fun rd=>(ah9 hE (.inl rfl) (hn f2 m2 (EA hf) hm)).FK (Ig (hn f2 m2 (EA hf) hm Unit fun _ _ _ _=>some ())) rd w0 μ φ a w K Q hR fun y w' μ' φ' hle hM hF hv hl=>hK _ _ _ _ (hR.put hle (kP hd) hM hF hv hl)
theorem Us(hd:CC E o=true)(Li:Z7 ops f o):Ol E ops w0 ⟨i,o,.aG [],[],[],[]⟩ f m:=by
 intro f2 m2 hf hm μ φ a w K Q hR hK;simp only at hf hm hK⊢;have ai8:Z7 ops f2 o:=by obtain⟨g,hg,ht⟩:=Li;exact⟨g,hg,fun t h=>by simp_all[CS]⟩
 rw[Fa hR ai8];simp only[cQ,IS];exact hK _ _ _ _ (hR.put (fun _ _ h=>h) (kP hd) hR.toaL hR.mQ Lg (fun id hid=>by simp[V.has,cA]at hid))
def G2(x:Nat×Oper):Rec:=⟨x.1,x.2,.aG [],[],[],[]⟩
theorem Om{m:Mem}:∀(l:List (Nat×Oper))(F:Fr),(∀x∈l,CC E x.2=true)→(∀(pre post:List (Nat×Oper))(x:Nat×Oper),l=pre++x::post→Z7 ops (j8 F pre) x.2)→gB E ops w0 F m (l.map G2)∧pA F (l.map G2)=j8 F l
 |[],F,_,_=>⟨trivial,rfl⟩
 |x::r,F,hd,Li=>by obtain⟨h1,h2⟩:=Om (m:=m) r (kN F x.2.dst (.aG [])) (fun y hy=>hd y (by simp[hy])) (fun pre post y h=>by have:=Li (x::pre) post y (by rw[h];rfl);rwa[j8]at this);exact⟨⟨Us (hd x (by simp)) (Li [] r x rfl),by simp[G2],h1⟩,h2⟩
theorem On{m:Mem}:∀{l:List Rec},(∀q∈l,q.wr=[]∧q.kl=[])→uX m l=m
 |[],_=>rfl
 |r::l,h=>by
  obtain⟨h1,h2⟩:=h r (by simp);have:r.ms m=m:=by unfold Rec.ms;rw[h1,h2];rfl
  simp_all[uX,On]
theorem gB.wr:∀{l:List Rec}{f:Fr}{m:Mem},gB E ops w0 f m l→∀q∈l,∀id b,(id,b)∈q.wr→(true,id)∈q.ft
 |[],_,_,_,q,hq=>by cases hq
 |r::l,f,m,h,q,hq=>by
  rcases asg.1 hq with rfl|hq
  ·exact h.2.1
  ·exact gB.wr h.2.2 q hq
def acF(q r:Rec):Prop:=reach ops 4 r.o q.i=true∨((∀id b,(id,b)∈q.wr→∀x∈r.ft,x.2≠id)∧∀id b,(id,b)∈r.wr→∀x∈q.ft,x.2≠id)
theorem RB{o:Oper}{w:Bool}{id:Nat}:∀{lg:Log},V6 ops o w id lg=true→∀x∈lg,id≠x.2.2∨(w=false∧x.2.1=false)∨reach ops 4 o x.1=true
 |[],_,x,hx=>by cases hx
 |(j,w',ye)::lg,h,x,hx=>by
  simp only[V6,ao9]at h;rcases asg.1 hx with rfl|hx
  ·have h1:=h.1;simp only[asu,asI,ao9]at h1;grind [Nat.beq_refl]
  ·exact RB h.2 x hx
theorem Ij{o:Oper}{lg:Log}:∀{ft:bN},H0 ops o lg ft=true→∀y∈ft,∀x∈lg,y.2≠x.2.2∨(y.1=false∧x.2.1=false)∨reach ops 4 o x.1=true
 |[],_,y,hy=>by cases hy
 |(w,id)::ft,h,y,hy=>by
  simp only[H0,ao9]at h;rcases asg.1 hy with rfl|hy
  ·exact RB h.1
  ·exact Ij h.2 y hy
theorem Lw{o:Oper}{id:Nat}:∀{lg:Log},J6 ops o id lg=true→∀x∈lg,x.2.2=Ei id→reach ops 4 o x.1=true
 |[],_,x,hx=>by cases hx
 |(j,w,n)::lg,h,x,hx=>by
  simp only[J6,ao9,asu,asI]at h;intro he;rcases asg.1 hx with rfl|hx
  ·simp_all
  ·exact Lw h.2 x hx he
mutual
theorem Wv{id:Nat}:∀(v:V),v.has id=true→id∈v.ids
 |.agg cs,h=>An cs (by simpa only[V.has]using h)
 |.aG cs,h=>An cs (by simpa only[V.has]using h)
 |.fn _ cs,h=>An cs (by simpa only[V.has]using h)
 |.os j,h=>by have:=OF h;subst this;simp[V.ids]
 |.gw j _ _,h=>by have:=OF h;subst this;simp[V.ids]
 |.oe j _ _,h=>by have:=OF h;subst this;simp[V.ids]
 |.om j,h=>by have:=OF h;subst this;simp[V.ids]
 |.Cx j _ _,h=>by have:=OF h;subst this;simp[V.ids]
 |.GC j _ _ _ _ _,h=>by have:=OF h;subst this;simp[V.ids]
 |.op j _,h=>by have:=OF h;subst this;simp[V.ids]
 |.it j,h=>by have:=OF h;subst this;simp[V.ids]
 |.yl j,h=>by have:=OF h;subst this;simp[V.ids]
 |.pv _,h=>by cases h
 |.jB,h=>by cases h
 |.top,h=>by cases h
theorem An{id:Nat}:∀(cs:List V),cA id cs=true→id∈Q1 cs
 |[],h=>by cases h
 |v::r,h=>by
  simp only[cA,asu]at h;simp only[Q1,asB];rcases h with h|h
  ·exact .inl (Wv v h)
  ·exact .inr (An r h)
end
variable{id:Nat}
theorem G3{b:bW}(h:b.names id=true):id∈KB (some b):=by
 cases b with
 |box cs=>exact An cs h
 |_=>cases h
theorem FP{m m':Mem}{id:Nat}:∀{ft:bN}{x:Bool×Nat},x∈ft→(id∈KB (m x.2)∨id∈KB (m' x.2))→id∈Pf m m' ft
 |y::ft,x,hx,h=>by
  simp only[Pf,asB];rcases asg.1 hx with rfl|hx
  ·exact .inl h
  ·exact .inr (FP hx h)
theorem acG{v:V}{wr:List (Nat×bW)}(RC:∀t∈o.looksAt ops,f t=F t)(hwr:∀j b,(j,b)∈wr→(true,j)∈ft)(hn:id∉J5 ops o f m (zV wr m) v ft)(hft:∀x∈ft,x.2≠id):Clean ops id ⟨i,o,v,wr,ft,[]⟩ F m:=by
 simp only[J5,asB,avs]at hn;obtain⟨⟨h1,h2⟩,h3⟩:=hn;refine⟨fun t ht=>?_,?_,fun x hx=>⟨hft x hx,fun b hb=>?_⟩,fun j b hb Cw=>⟨hft _ (hwr j b hb),?_⟩⟩
 ·cases e:(F t).has id with
  |false=>rfl
  |true=>exact absurd (An _ (cV.2 ⟨f t,asx.2 ⟨t,ht,rfl⟩,by rw[RC t ht];omega⟩)) h1
 ·cases e:v.has id with
  |false=>rfl
  |true=>exact absurd (Wv _ e) h2
 ·cases e:b.names id with
  |false=>rfl
  |true=>grind [absurd,FP,G3]
 ·cases e:b.names id with
  |false=>rfl
  |true=>exact absurd (FP (hwr j b hb) (.inr (by have lf:zV wr m j=some b:=Cw m;simp_all[G3]))) h3
variable{R:Type}
theorem Ut{site:Nat}{rd:bN}(h:AV E f m o=some (id,rd)){k:V→Fr→Mem→bN→Option R}{r:R}(hx:cP E false site o f m k=some r):(∀x∈rd,x.1=false)∧∃dW,k (.os id) (fC id f) (aD (bF (bR id m) id) id dW) [(true,0)]=some r∧∀(f2:Fr)(m2:Mem),(∀x∈o.op.operands,bQ E f2 x=bQ E f x)→(∀x∈(true,id)::rd,m2 x.2=m x.2)→∀(R':Type)(k':V→Fr→Mem→bN→Option R'),cP E false site o f2 m2 k'=k' (.os id) (fC id f2) (aD (bF (bR id m2) id) id dW) [(true,0)]:=by
 obtain⟨dst,op,type,pos,after,guard⟩:=o;unfold AV at h;simp only at h;split at h
 ·rename_i c;obtain⟨callee,args,argTypes⟩:=c;simp only at h;split at h
  ·rename_i ye x t t' wo Um;split at h
   ·rename_i e hu;split at h
    ·rename_i new rd' N5;split at h
     ·cases h
     ·rename_i hxh;simp only[cO,apa]at h;obtain⟨rfl,rfl⟩:=h;obtain⟨he1,he2,_⟩:=rV N5;have ar1:∀m2:Mem,bF (bR ye m2) ye ye=none:=fun m2=>by simp_all
      have main:∀(f2:Fr)(m2:Mem),args.toList.map (bQ E f2)=[.os ye,x]→m2 ye=m ye→fY m2 (bj E.P e) x=some (new,rd')→∀(R':Type)(k':V→Fr→Mem→bN→Option R'),cP E false site ⟨dst,.call ⟨.builtin .append,args,argTypes⟩,type,pos,after,guard⟩ f2 m2 k'=if !(decide (t'=t))then none else if(dC E e).isNone then none else match m ye with
       |some (.arr sz et es)=>if et=e∧sz=bj E.P e∧x.has ye=false then(if(es++new).length*M9 E.P e≤ah∧0<M9 E.P e then k' (.os ye) (fC ye f2) (aD (bF (bR ye m2) ye) ye (.arr sz e (es++new))) [(true,0)]else none)else none
       |_=>none:=by
       intro f2 m2 h1 h2 h3 R' k'
       simp only[cP,h1,Um,GI,as5,hu,h3,h2]
       split
       ·rfl
       ·split
        ·rfl
        ·split
         ·simp_all[fresh]
         simp
      rw[main f m wo rfl N5]at hx;refine⟨he2,?_⟩;split at hx
      ·cases hx
      ·rename_i hc1;split at hx
       ·cases hx
       ·rename_i hc2;split at hx
        ·rename_i sz et es hm;split at hx
         ·rename_i hc3;split at hx
          ·rename_i hc4;refine⟨_,hx,fun f2 m2 hf cZ R' k'=>?_⟩;have ha:args.toList.map (bQ E f2)=[.os ye,x]:=by grind [sF,Op.operands,Call.operands]
           rw[main f2 m2 ha (cZ (true,ye) (by simp)) (he1 m2 fun y hy=>cZ y (by simp[hy])) R' k'];simp_all
          ·cases hx
         ·cases hx
        ·cases hx
    ·cases h
   ·cases h
  ·cases h
 ·cases h
theorem Cc.kill(h:Cc f F)(id:Nat):Cc (fC id f) (fC id F):=fun t=>by
 rcases h t with e|e
 ·exact .inl (by simp only[fC,e])
 ·exact .inr (by simp only[fC,e];rfl)
theorem wv.kill{nt:Nat}(h:wv nt ops A f)(id:Nat):wv nt ops A (fC id f):=by intro g hg;obtain⟨t,h1,h0,h2⟩:=h g hg;exact⟨t,h1,h0,by simp only[fC,h2];rfl⟩
theorem acH{x:Nat×bN}(h:AV E f m o=some x):isApp E o=true:=by
 obtain⟨dst,op,type,pos,after,guard⟩:=o;unfold AV at h;simp only at h;unfold isApp;split at h
 ·rename_i c;obtain⟨callee,args,argTypes⟩:=c;grind
 ·cases h
theorem PC{rd:bN}(h:AV E f m o=some (id,rd)):∃c x t t',o.op=.call c∧c.callee=.builtin .append∧c.args.toList.map (bQ E f)=[.os id,x]∧c.argTypes.toList=[t,t']:=by unfold AV at h;grind
theorem aad{kl:Kl}(h:Pg E f m o=some (kl,ft)){k:V→Fr→Mem→bN→Option R}{r:R}(hx:Q0 E false (cR E o.dst) o f m k=some r):isApp E o=true∧∃v wr ft1,k v (kf kl f) (zV wr (km kl m)) ft1=some r∧(∀x∈wr,(true,x.1)∈ft)∧(∀x∈kl,(true,x.2)∈ft)∧∀(f2:Fr)(m2:Mem),(∀x∈o.op.operands,bQ E f2 x=bQ E f x)→(∀x∈ft,m2 x.2=m x.2)→∀(R':Type)(k':V→Fr→Mem→bN→Option R'),Q0 E false (cR E o.dst) o f2 m2 k'=k' v (kf kl f2) (zV wr (km kl m2)) ft1:=by
 unfold Pg at h;unfold Q0 at hx;split at h
 ·rename_i sp Et;simp only[cO]at h;have hn:E.J4 (cR E o.dst)=true:=by grind
  rw[hn]at Et hx;simp only[cond]at Et hx;rw[Et]at hx;obtain⟨v,wr,h1,h2,h3,h4,_,_⟩:=Uo Et hx;rw[h]at h1 h2 h3 h4;refine⟨by unfold isApp;rw[hn];rfl,v,wr,ft,h1,h2,h3,fun f2 m2 hf hm R' k'=>?_⟩;have:=Ul Et hf (by rw[h];exact hm);simp_all[Q0,cond]
 ·rename_i Et;split at h
  ·rename_i id rd acI;simp only[cO,apa]at h;obtain⟨rfl,rfl⟩:=h;have e0:(bif false then none else bif E.J4 (cR E o.dst)then Fy E (cR E o.dst) o f m else none)=(bif E.J4 (cR E o.dst)then Fy E (cR E o.dst) o f m else none):=rfl;rw[e0,Et]at hx;simp only at hx;obtain⟨kO,dW,hk,hn⟩:=Ut acI hx;refine⟨acH acI,.os id,[(id,dW)],[(true,0)],hk,by simp,by simp,fun f2 m2 hf hm R' k'=>?_⟩;have acJ:(bif E.J4 (cR E o.dst)then Fy E (cR E o.dst) o f2 m2 else none)=none:=by
    cases Re:E.J4 (cR E o.dst)with
    |false=>rfl
    |true=>
     simp only[cond];obtain⟨c,x,t,t',hc,amO,wo,agK⟩:=PC acI;have apX:c.args.toList.map (bQ E f2)=[.os id,x]:=by simp_all[asD,Op.operands,Call.operands]
     have cZ:m2 id=m id:=hm (true,id) (by simp);have hm3:∃sz et es,m id=some (.arr sz et es):=by obtain⟨dst,op,type,pos,after,guard⟩:=o;simp only at hc;subst hc;obtain⟨callee,args,argTypes⟩:=c;simp only at amO wo agK;subst amO;simp only[cP,wo,agK,GI,as5]at hx;grind
     obtain⟨sz,et,es,hm3⟩:=hm3;unfold Fy;simp_all
   unfold Q0;have e1:(bif false then none else bif E.J4 (cR E o.dst)then Fy E (cR E o.dst) o f2 m2 else none)=(bif E.J4 (cR E o.dst)then Fy E (cR E o.dst) o f2 m2 else none):=rfl;rw[e1,acJ];exact hn f2 m2 hf hm R' k'
  ·cases h
theorem Cc.E0(h:Cc f F)(id:Nat):Cc (jC id f) (jC id F):=fun t=>by
 rcases h t with e|e
 ·simp_all[jC]
 ·exact .inr (by simp only[jC,e];rfl)
theorem Cc.kf:∀{kl:Kl}{f F:Fr},Cc f F→Cc (Go.Ab.kf kl f) (Go.Ab.kf kl F)
 |[],_,_,h=>h
 |(true,id)::r,f,F,h=>Cc.kf (kl:=r) (f:=fC id f) (F:=fC id F) (h.kill id)
 |(false,id)::r,f,F,h=>Cc.kf (kl:=r) (f:=jC id f) (F:=jC id F) (h.E0 id)
theorem wv.E0{nt:Nat}(h:wv nt ops A f)(id:Nat):wv nt ops A (jC id f):=by intro g hg;obtain⟨t,h1,h0,h2⟩:=h g hg;exact⟨t,h1,h0,by simp only[jC,h2];rfl⟩
theorem wv.kf{nt:Nat}{A:List (Nat×Bool)}:∀{kl:Kl}{f:Fr},wv nt ops A f→wv nt ops A (Go.Ab.kf kl f)
 |[],_,h=>h
 |(true,id)::r,f,h=>wv.kf (kl:=r) (f:=fC id f) (h.kill id)
 |(false,id)::r,f,h=>wv.kf (kl:=r) (f:=jC id f) (h.E0 id)
theorem aae(hE:ma E)(hY:Ac E.P E.aW E.fn.ntmps E.yl w0){v:V}{wr:List (Nat×bW)}{kl:Kl}{ft1:bN}(hg:guardOf o A=none)(hA:wv E.fn.ntmps ops A F)(hd:CC E o=true)(Z9:∀x∈o.op.operands,bQ E f x=bQ E F x)(hn:∀(f2:Fr)(m2:Mem),(∀x∈o.op.operands,bQ E f2 x=bQ E f x)→(∀x∈ft,m2 x.2=m x.2)→∀(R':Type)(k':V→Fr→Mem→bN→Option R'),Q0 E false (cR E o.dst) o f2 m2 k'=k' v (kf kl f2) (zV wr (km kl m2)) ft1):Ol E ops w0 ⟨i,o,v,wr,ft,kl⟩ F m:=by
 intro f2 m2 hf hm μ φ a w K Q hR hK;have hw:Region.wanted o (yielded ops a.tmps)=true:=RA hg hA hR hf;simp only at hf hm hK⊢;rw[IN hw];have hx:=hn f2 m2 (fun x hx=>by rw[EA hf x hx,Z9 x hx]) hm (V×Fr×Mem) fun v f m _=>some (v,f,m);rcases Pz hE hx with⟨v,f',m',ft,h1,h2⟩|⟨_,h2⟩
 ·simp only[cO,apa]at h1;obtain⟨rfl,rfl,rfl⟩:=h1;exact fun rd=>h2.FK (Ig hx) rd w0 μ φ a w K Q hR fun y w' μ' φ' hle hM hF hv hl=>hK _ _ _ _ (hR.put hle (kP hd) hM hF hv hl)
 ·refine fun rd=>Ld.FK h2 rd w0 μ φ a w K Q hY hR fun v f' m' y w' μ' φ' h1 hle hM hF hv hl=>?_;simp only[cO,apa]at h1;obtain⟨rfl,rfl,rfl⟩:=h1;exact hK _ _ _ _ (hR.put hle (kP hd) hM hF hv hl)
structure PD(ops:Array Oper)(mode:Nat)(F:Fr)(m:Mem)(lg:Log)(recs:List Rec):Prop where
 one:mode=1→∀q∈recs,q.wr=[]∧q.kl=[]
 ord:mode=2→recs.Pairwise (acF (ops:=ops))
 log:mode=2→∀q∈recs,∀y∈q.ft,∀x∈lg,y.2≠x.2.2∨(y.1=false∧x.2.1=false)∨reach ops 4 q.o x.1=true
 kl:recs.Pairwise fun q r=>q.kl≠[]→reach ops 4 r.o q.i=true
 cln:sG ops F m recs
 nam:∀q∈recs,∀id,q.Oi id→mode=2∧ops.toList.any (isApp E)=true∧(true,id)∈q.ft∧∀x∈lg,x.2.2=Ei id→reach ops 4 q.o x.1=true
theorem sG.none:∀{l:List Rec}{f:Fr}{m:Mem},(∀q∈l,q.kl=[])→sG ops f m l
 |[],_,_,_=>trivial
 |r::l,f,m,h=>⟨fun q hq id⟨b,hid⟩=>(by simp_all),sG.none fun q hq=>h q (by simp[hq])⟩
theorem pR(hE:ma E)(hY:Ac E.P E.aW E.fn.ntmps E.yl w0){mode:Nat}(pq:mode=1∨mode=2):∀(fuel:Nat){R:Type}{A:List (Nat×Bool)}{l:List (Nat×Oper)}{f:Fr}{m:Mem}{lg:Log}{k:Fr→Mem→Option R}{r:R},cw E ops mode fuel R A l f m lg k=some r→(∀x∈l,ops[x.1]?=some x.2)→(mode=1→∀x∈l,fU x.2=true)→ai5 ops A l→∀F:Fr,Cc f F→wv E.fn.ntmps ops A F→(∀x∈l,∀t∈x.2.looksAt ops,f t=F t)→∃(recs:List Rec)(f':Fr),k f' (uX m recs)=some r∧Cc f' (pA F recs)∧recs.map (fun r=>(r.i,r.o))=l∧gB E ops w0 F m recs∧PD (E:=E) ops mode F m lg recs
 |0,_,_,_,_,_,_,_,_,h,_,_,_,_,_,_,_=>by simp[cw]at h
 |fuel+1,R,A,[],f,m,lg,k,r,h,_,_,_,F,hF,_,_=>by simp only[cw]at h;exact⟨[],f,h,hF,rfl,trivial,by simp,fun _=>.nil,by simp,.nil,trivial,by simp⟩
 |fuel+1,R,A,(i,o)::rest,f,m,lg,k,r,h,hl,hrk,Lj,F,hF,hA,RC=>by
  have hm1:(Nat.beq mode 1||Nat.beq mode 2)=true:=by simp_all
  simp only[cw,hm1]at h;split at h
  ·rename_i hg;split at h
   ·rename_i hd;have amP:∀x∈o.op.operands,bQ E f x=bQ E F x:=EA (RC (i,o) (by simp));split at h
    ·rename_i kl ft Et;have ai9:mode=2:=by
      rcases pq with rfl|rfl
      ·cases Et
      rfl
     subst ai9;have Et:Pg E f m o=some (kl,ft):=Et;split at h
     ·rename_i Wc;simp only[ao9,asO]at Wc;obtain⟨⟨apY,apZ⟩,ap0⟩:=Wc;obtain⟨acI,v,wr,ft1,hk,hwr,JV,hn⟩:=aad Et h;obtain⟨recs,f',c1,c2,c3,c4,c5⟩:=pR hE hY (.inr rfl) fuel hk (fun x hx=>hl x (by simp[hx])) (fun hm=>by omega) (fun x hx=>Lj x (by simp[hx])) (kN (kf kl F) o.dst v) ((Cc.kf (kl:=kl) hF).put _ _) (wv.put (wv.kf (kl:=kl) hA) fun g vJ t ht=>Lj (i,o) (by simp) g vJ t ht) (fun x hx t ht=>by
       by_cases e:o.dst=some t
       ·rw[e,mh,mh]
       grind [gA,G1])
      have kM:∀q∈recs,reach ops 4 q.o i=true:=fun q hq=>ap0 (q.i,q.o) (by grind);have aja:ops.toList.any (isApp E)=true:=atd.2 ⟨o,asb (by rw[asP];exact hl (i,o) (by simp)),acI⟩;refine⟨⟨i,o,v,wr,ft,kl⟩::recs,f',c1,c2,by simp[c3],⟨aae hE hY hg hA hd amP hn,fun j b hb=>hwr _ hb,c4⟩,?_⟩;refine⟨fun hm=>(by omega),fun hm=>atj.2 ⟨fun q hq=>.inl (kM q hq),c5.ord hm⟩,fun hm q hq=>?_,atj.2 ⟨fun q hq _=>kM q hq,c5.kl⟩,⟨fun q hq ye _=>.inl (kM q hq),c5.cln⟩,fun q hq ye hid=>?_⟩
      ·rcases asg.1 hq with rfl|hq
       ·exact Ij apY
       ·exact fun y hy x hx=>c5.log hm q hq y hy x (asB.2 (.inr hx))
      ·rcases asg.1 hq with rfl|hq
       ·obtain⟨bb,hid⟩:=hid;exact⟨rfl,aja,JV _ hid,Lw (apZ _ hid)⟩
       ·obtain⟨g1,g2,g3,g4⟩:=c5.nam q hq ye hid;exact⟨g1,g2,g3,fun x hx=>g4 x (asB.2 (.inr hx))⟩
     ·cases h
    ·rcases Pz hE h with⟨v,f1,m1,ft,hk,Z9⟩|⟨E7,_⟩
     rotate_left
     ·cases E7
     obtain⟨hf1,wr,amQ,hwr,hn⟩:=Z9.drawn rfl;subst hf1;have hn':∀(f2:Fr)(m2:Mem),(∀x∈o.op.operands,bQ E f2 x=bQ E F x)→(∀x∈ft,m2 x.2=m x.2)→∀(R':Type)(k':V→Fr→Mem→bN→Option R'),Q0 E true (cR E o.dst) o f2 m2 k'=k' v f2 (zV wr m2) ft:=fun f2 m2 hf=>hn f2 m2 fun x hx=>by rw[hf x hx,amP x hx]
     have step:∀(wr':List (Nat×bW))(lg':Log),zV wr' m=m1→(mode=1→wr'=[])→(∀id b,(id,b)∈wr'→(true,id)∈ft)→Ol E ops w0 ⟨i,o,v,wr',ft,[]⟩ F m→cw E ops mode fuel R A rest (kN f1 o.dst v) m1 lg' k=some r→(mode=2→lg'=(bif ops.toList.any (isApp E)then(J5 ops o f1 m m1 v ft).map (fun n=>(i,false,Ei n))else[])++(ft.map (fun x=>(i,x))++lg)∧H0 ops o lg ft=true)→∃(recs:List Rec)(f':Fr),k f' (uX m recs)=some r∧Cc f' (pA F recs)∧recs.map (fun r=>(r.i,r.o))=(i,o)::rest∧gB E ops w0 F m recs∧PD (E:=E) ops mode F m lg recs:=by
      intro wr' lg' hwm Nl hw2 ai7 hev TG;obtain⟨recs,f',c1,c2,c3,c4,c5⟩:=pR hE hY pq fuel hev (fun x hx=>hl x (by simp[hx])) (fun hm x hx=>hrk hm x (by simp[hx])) (fun x hx=>Lj x (by simp[hx])) (kN F o.dst v) (hF.put _ _) (wv.put hA fun g vJ t ht=>Lj (i,o) (by simp) g vJ t ht) (fun x hx t ht=>by
       by_cases e:o.dst=some t
       ·rw[e,mh,mh]
       grind [gA])
      subst hwm;refine⟨⟨i,o,v,wr',ft,[]⟩::recs,f',c1,c2,by simp[c3],⟨ai7,hw2,c4⟩,?_⟩;have amR:mode=2→∀x∈lg,x∈lg':=fun hm x hx=>by simp_all
      have aij:mode=2→∀x∈ft,(i,x)∈lg':=fun hm x hx=>by simp_all
      refine⟨fun hm q hq=>?_,fun hm=>atj.2 ⟨fun q hq=>?_,c5.ord hm⟩,fun hm q hq=>?_,atj.2 ⟨fun q hq h=>absurd rfl h,c5.kl⟩,⟨fun q hq id hid=>?_,c5.cln⟩,fun q hq id hid=>?_⟩
      ·rcases asg.1 hq with rfl|hq
       ·exact⟨Nl hm,rfl⟩
       ·exact c5.one hm q hq
      ·have d2:=c5.log hm;by_cases he:reach ops 4 q.o i=true
       ·exact .inl he
       ·refine .inr ⟨fun id b hb x hx hxi=>?_,fun id b hb x hx hxi=>?_⟩
        ·grind
        ·rcases d2 q hq (true,id) (gB.wr c4 q hq id b hb) (i,x) (aij hm x hx)with h|h|h
         ·exact h hxi.symm
         ·cases h.1
         ·exact he h
      ·rcases asg.1 hq with rfl|hq
       ·exact Ij (TG hm).2
       ·exact fun y hy x hx=>c5.log hm q hq y hy x (amR hm x hx)
      ·obtain⟨g1,g2,g3,g4⟩:=c5.nam q hq id hid;by_cases he:reach ops 4 q.o i=true
       ·exact .inl he
       ·refine .inr (acG (RC (i,o) (by simp)) hw2 (fun bB=>he (g4 (i,false,Ei id) ?_ rfl)) fun x hx hxi=>?_)
        ·grind
        ·rcases c5.log g1 q hq (true,id) g3 (i,x) (aij g1 x hx)with h|h|h
         ·exact h hxi.symm
         ·cases h.1
         ·exact he h
      ·rcases asg.1 hq with rfl|hq
       ·obtain⟨_,hid⟩:=hid;cases hid
       ·obtain⟨g1,g2,g3,g4⟩:=c5.nam q hq id hid;grind
     rcases pq with rfl|rfl
     ·simp only[Nat.beq,cQ,IS]at hk;split at hk
      ·rename_i hqf;have hwn:wr=[]:=by
        cases wr with
        |nil=>rfl
        |cons x l=>have:=FL hqf _ (hwr x (by simp));cases this
       subst hwn;exact step [] lg amQ.symm (fun _=>rfl) (by simp) (Lv hE hg hA hd hn') hk (by simp)
      ·cases hk
     ·simp only[Nat.beq,BY]at hk;split at hk
      ·rename_i hof;exact step wr _ amQ.symm (by simp) (fun id b hb=>hwr _ hb) (Lv hE hg hA hd hn') hk fun _=>⟨rfl,hof⟩
      ·cases hk
   ·cases h
  ·rename_i j JQ hg;split at h
   ·rename_i tj htj;split at h
    ·rename_i b hb;generalize Et:I6 A ((i,o)::rest)=sp at h;obtain⟨body,Q2⟩:=sp;have pQ:=Lh Et;have hm0:Nat.beq mode 0=false:=by rcases pq with rfl|rfl<;>rfl
     simp only[hm0,atO,cQ,IS]at h;split at h
     ·rename_i ip p pJ;split at h
      ·rename_i c x y acw;split at h
       ·rename_i hc;simp only[ao9,asO,asI,at2,avu]at hc;obtain⟨⟨⟨⟨⟨⟨Up,hpg⟩,Oh⟩,hgi⟩,ap1⟩,hpd⟩,cZ⟩:=hc;have ajb:mode=1:=by simp_all
        subst ajb;have Up:=OF Up;subst Up;have hpg:guardOf p A=none:=by simpa using hpg
        obtain⟨rb,hrb,h⟩:=By.1 h;have bB:∀z∈body,z∈(i,o)::rest:=fun z hz=>by rw[pQ];simp[hz]
        have Fb:∀z∈pJ,z∈(i,o)::rest:=fun z hz=>by rw[pQ];simp[hz]
        have Ws:(ip,p)∈(i,o)::rest:=by rw[pQ];simp
        obtain⟨apV,hb⟩:=Lf hb;have hFc:F c=.pv (.bool b):=by
         rcases hF c with e|e
         ·rw[←e];omega
         simp_all
        have after:∀(yy:List Rec)(q:Operand),yy.map (fun r=>(r.i,r.o))=body→gB E ops w0 F m yy→(∀q∈yy,q.wr=[]∧q.kl=[])→bQ E (pA F yy) q=.pv (.bool rb)→(q=if b then x else y)→∃(recs:List Rec)(f':Fr),k f' (uX m recs)=some r∧Cc f' (pA F recs)∧recs.map (fun r=>(r.i,r.o))=body++(ip,p)::pJ∧gB E ops w0 F m recs∧(∀q∈recs,q.wr=[]∧q.kl=[]):=by
         intro yy q ap2 amS hwn hq hqe;have amT:∀t,(∀z∈body,z.2.dst≠some t)→pA F yy t=F t:=fun t ht=>Oj fun q hq=>⟨ht (q.i,q.o) (by grind),(hwn q hq).2⟩;have hA1:wv E.fn.ntmps ops A (pA F yy):=fun g vJ=>by obtain⟨t,h1,h0,h2⟩:=hA g vJ;exact⟨t,h1,h0,by rw[amT t fun z hz=>Lj z (bB z hz) g vJ t h1];omega⟩
         have ZK:pA F yy c=.pv (.bool b):=by grind
         have hrp:Ol E ops w0 ⟨ip,p,.pv (.bool rb),[],[],[]⟩ (pA F yy) m:=Lv hE hpg hA1 hpd fun f2 m2 hf hm R' k'=>by
          have yj:bQ E f2 (.tmp c)=.pv (.bool b):=by simp_all[Op.operands,agL]
          have hq2:bQ E f2 q=.pv (.bool rb):=by grind [Op.operands]
          rw[Rt acw yj,←hqe,hq2];rfl
         obtain⟨recs,f',c1,c2,c3,c4,c5⟩:=pR hE hY (.inl rfl) fuel h (fun z hz=>hl z (Fb z hz)) (fun hm z hz=>hrk hm z (Fb z hz)) (fun z hz=>Lj z (Fb z hz)) (kN (pA F yy) p.dst (.pv (.bool rb))) (Cc.put (Ez fun t ht=>by rw[amT t ht];exact hF t) _ _) (wv.put hA1 fun g vJ t ht=>Lj (ip,p) Ws g vJ t ht) (fun z hz t ht=>by
          by_cases e:p.dst=some t
          ·rw[e,mh,mh]
          ·have Wj:∀u∈body,u.2.dst≠some t:=fun u hu hud=>by grind [blind,List.all_eq_true,Bool.not_eq_true']
           grind [gA,Ey])
         have hmB:uX m yy=m:=On hwn;refine⟨yy++⟨ip,p,.pv (.bool rb),[],[],[]⟩::recs,f',?_,?_,by simp[ap2,c3],?_,fun q hq=>?_⟩
         ·rw[Ry,hmB];exact c1
         ·rw[Rx];exact c2
         ·refine gB.append.2 ⟨amS,?_⟩;rw[hmB];exact⟨hrp,by simp,c4⟩
         ·rcases asB.1 hq with h|h
          ·exact hwn q h
          ·rcases asg.1 h with rfl|h
           ·simp
           ·exact c5.one rfl q h
        have fin:(∃(recs:List Rec)(f':Fr),k f' (uX m recs)=some r∧Cc f' (pA F recs)∧recs.map (fun r=>(r.i,r.o))=body++(ip,p)::pJ∧gB E ops w0 F m recs∧(∀q∈recs,q.wr=[]∧q.kl=[]))→∃(recs:List Rec)(f':Fr),k f' (uX m recs)=some r∧Cc f' (pA F recs)∧recs.map (fun r=>(r.i,r.o))=(i,o)::rest∧gB E ops w0 F m recs∧PD (E:=E) ops 1 F m lg recs:=by rintro⟨recs,f',c1,c2,c3,c4,c5⟩;exact⟨recs,f',c1,c2,by rw[pQ];omega,c4,fun _=>c5,fun h=>(by omega),fun h=>(by omega),auP (R:=fun _ _=>True) (fun{q r}hq hr _ h=>absurd (c5 q hq).2 h) (List.pairwise_of_forall fun _ _=>trivial),sG.none fun q hq=>(c5 q hq).2,fun q hq id⟨_,hid⟩=>(by simp_all)⟩
        have go:∀q,b=JQ→(q=if b then x else y)→cw E ops 1 fuel Bool ((j,JQ)::A) body f m lg (fun f _=>EX (bQ E f q))=some rb→∃(recs:List Rec)(f':Fr),k f' (uX m recs)=some r∧Cc f' (pA F recs)∧recs.map (fun r=>(r.i,r.o))=body++(ip,p)::pJ∧gB E ops w0 F m recs∧(∀q∈recs,q.wr=[]∧q.kl=[]):=by
         intro q hbp hq hev;obtain⟨yy,f1,c1,c2,c3,c4,c5⟩:=pR hE hY (.inl rfl) fuel hev (fun z hz=>hl z (bB z hz)) (fun hm z hz=>hrk hm z (bB z hz)) (fun z hz g vJ t ht=>by
          rcases asg.1 vJ with rfl|vJ
          ·grind
          ·exact Lj z (bB z hz) g vJ t ht) F hF (fun g vJ=>by
          rcases asg.1 vJ with rfl|vJ
          ·simp_all
          ·exact hA g vJ) (fun z hz=>RC z (bB z hz))
         refine after yy q c3 c4 (c5.one rfl) ?_ hq;grind [GY,acv]
        have no:∀q,b= !JQ→(q=if b then x else y)→EX (bQ E (pI f body) q)=some rb→∃(recs:List Rec)(f':Fr),k f' (uX m recs)=some r∧Cc f' (pA F recs)∧recs.map (fun r=>(r.i,r.o))=body++(ip,p)::pJ∧gB E ops w0 F m recs∧(∀q∈recs,q.wr=[]∧q.kl=[]):=by intro q hbp hq hev;obtain⟨s1,s2⟩:=Om (E:=E) (w0:=w0) (m:=m) body F (fun z hz=>(Oh z hz).1.2) (GX htj hgi (fun z hz=>hl z (bB z hz)) (fun z hz=>(Oh z hz).2) (by rw[hFc,hbp]) (by simp));refine after (body.map G2) q (by simp[G2,atJ]) s1 (fun u hu=>by obtain⟨z,_,rfl⟩:=asx.1 hu;exact⟨rfl,rfl⟩) ?_ hq;rw[s2];have hv:=GY hev;grind [Cc,pI,j8,Ez,A8,acv]
        grind
       ·cases h
      ·cases h
     ·cases h
    ·cases h
   ·cases h
theorem zi{l:List Oper}:(i,o)∈(List.range l.length).zip l↔l[i]?=some o:=by
 rw[ast];constructor
 ·grind
 ·intro h;refine⟨i,List.getElem?_zip_eq_some.2 ⟨?_,h⟩⟩;grind
theorem CT:∀{l done:List (Nat×Oper)},sw ops done l=true→(∀x∈l,∀d∈done,reach ops 4 x.2 d.1=true∨d.2.apart ops x.2=true)∧l.Pairwise (fun q r=>reach ops 4 r.2 q.1=true∨q.2.apart ops r.2=true)∧∀x∈l,∀e∈x.2.after,Region.binds .any e=true→e.on<x.1
 |[],_,_=>⟨by simp,.nil,by simp⟩
 |(i,o)::r,done,h=>by
  simp only[sw,ao9]at h;obtain⟨⟨h1,h2⟩,h3⟩:=h;obtain⟨i1,i2,i3⟩:=CT h3;have Nj:∀{done:List (Nat×Oper)},Ej ops done o=true→∀d∈done,reach ops 4 o d.1=true∨d.2.apart ops o=true:=by
   intro done;induction done with
   |nil=>simp
   |cons x l ih=>intro h d hd;simp only[Ej,ao9,asu]at h;grind
  refine⟨fun x hx d hd=>?_,atj.2 ⟨fun x hx=>i1 x hx (i,o) (by simp),i2⟩,fun x hx e he hb=>?_⟩
  ·grind
  ·rcases asg.1 hx with rfl|hx
   ·have:=asO.1 h1 e (atF.2 he);simp_all
   ·exact i3 x hx e he hb
variable{rd:Option Nat}{fuel:Nat}{Q:Exit→Act→World→Prop}
theorem CU(hE:ma E)(hY:Ac E.P E.aW E.fn.ntmps E.yl w0){mode:Nat}(pq:mode=1∨mode=2){l:List (Nat×Oper)}{base:Nat→Bool}(hrk:mode=1→∀x∈l,fU x.2=true){k:Fr→Mem→Option R}{r:R}(hmz:∀x∈l,ops[x.1]?=some x.2)(arM:(l.map Prod.fst).Pairwise (·<·))(aid:∀x∈l,base x.1=false)(aie:∀i o,ops[i]?=some o→base i=false→(∀x∈l,x.1≠i)→(∀x∈l,reach ops 8 o x.1=true)∨∃j,reach ops 8 o j=true∧base j=false∧∀x∈l,x.1≠j)(ap3:∀x∈l,∀e∈x.2.after,Region.binds .any e=true→base e.on=true∨∃y∈l,y.1=e.on)(hi:sw ops [] l=true)(h:cw E ops mode fuel R [] l f m [] k=some r)(hQ:∀(fuel:Nat)(listed:Array Bool),listed.size=ops.size→listed.toList.countP (fun b=> !b)≤fuel→FO ops listed→(∀i,aR listed i=true↔base i=true∨∃x∈l,x.1=i)→∀f' m' μ φ a w,k f' m'=some r→Rel E.P E.aW E.fn.ntmps w0 μ φ f' m' a w→wpAnyIn (FR rd) 0 E.P .any ops Q fuel listed a w):∀(fuel:Nat)(listed:Array Bool),listed.size=ops.size→listed.toList.countP (fun b=> !b)≤fuel→FO ops listed→(∀i,aR listed i=true↔base i=true)→∀(μ:Ro)(φ:Nat→aP)(a:Act)(w:World),Rel E.P E.aW E.fn.ntmps w0 μ φ f m a w→wpAnyIn (FR rd) 0 E.P .any ops Q fuel listed a w:=by
 intro amU listed hs hc AN hb μ φ a w hR;obtain⟨recs,f',c1,c2,c3,c4,c5⟩:=pR (w0:=w0) hE hY pq fuel h hmz hrk (by intro x hx g hg;cases hg) f (Cc.refl f) (by intro g hg;cases hg) (fun _ _ _ _=>rfl);obtain⟨_,i2,i3⟩:=CT hi;have bB:∀q∈recs,(q.i,q.o)∈l:=fun q hq=>by grind
 have hof:∀x∈l,∃q∈recs,q.i=x.1:=fun x hx=>by grind
 have Nj:recs.Pairwise fun q r=>reach ops 4 r.o q.i=true∨q.o.apart ops r.o=true:=by grind
 have hmo:recs.Pairwise (acF (ops:=ops)):=by
  rcases pq with hm|hm
  ·exact auP (fun{q r}hq hr _=>.inr ⟨fun id b hb=>(by rw[(c5.one hm q hq).1]at hb;cases hb),fun id b hb=>(by rw[(c5.one hm r hr).1]at hb;cases hb)⟩) Nj
  ·exact c5.ord hm
 refine acz (E:=E) (w0:=w0) (recs:=recs) (f0:=f) (m0:=m) (base:=base) ?_ (fun q hq=>hmz _ (bB q hq)) (fun q hq=>aid _ (bB q hq)) (fun i o ho hbi cU=>?_) ?_ c5.kl c5.cln (fun q hq e he TB=>⟨i3 _ (bB q hq) e he TB,?_⟩) c4 ?_ amU listed hs hc AN (fun i hi=>(hb i).2 hi) (fun i hi=>Or.inl ((hb i).1 hi)) μ φ a w ?_
 ·grind
 ·grind
 ·refine List.Pairwise.imp (fun{q r}h=>?_) (List.Pairwise.and Nj hmo);obtain⟨h1,h2⟩:=h;rcases h1 with h1|h1
  ·exact .inl h1
  ·rcases h2 with h2|h2
   ·exact .inl h2
   ·exact .inr ⟨h1,h2⟩
 ·rcases ap3 _ (bB q hq) e he TB with h1|⟨y,hy,h1⟩
  ·exact Or.inl h1
  grind
 ·intro aik Ww hs2 hc2 ap4 yj μ2 φ2 a2 w2 Ob;refine hQ aik Ww hs2 hc2 ap4 (fun i=>?_) _ _ μ2 φ2 a2 w2 c1 (Ob.weaken c2);grind
 ·have hS:∀q∈recs,aR listed q.i=false:=fun q hq=>by grind
  rw[show tD (aR listed) f recs=f from funext fun t=>vK fun q hq hs=>(by simp_all),show tE (aR listed) m recs=m from funext fun t=>vL fun q hq hs=>(by simp_all)];omega
variable{x:Nat×Oper}
theorem Ik(hx:x∈(List.range ops.size).zip ops.toList):ops[x.1]?=some x.2:=by have:=(zi (l:=ops.toList) (i:=x.1) (o:=x.2)).1 (by omega);simp_all
theorem wy(ho:ops[i]?=some o):(i,o)∈(List.range ops.size).zip ops.toList:=by have:=(zi (l:=ops.toList) (i:=i) (o:=o)).2 (by simp_all);omega
theorem zip_fst:((List.range ops.size).zip ops.toList).map Prod.fst=List.range ops.size:=by rw[List.map_fst_zip (by simp)]
variable{P:Program}
theorem Lx{F:Fence}{n:Nat}{listed:Array Bool}(hs:listed.size=ops.size)(yn:∀i o,ops[i]?=some o→aR listed i=true)(hq:Q .normal a w):wpAnyIn F n P .any ops Q fuel listed a w:=by
 have hr:Region.ready .any ops listed=[]:=by apply List.eq_nil_iff_forall_not_mem.2;intro j hj;obtain⟨h0,o,ho,_⟩:=mem_ready.1 hj;grind
 cases fuel with
 |zero=>exact⟨hr,hq⟩
 |succ fuel=>exact⟨fun _=>hq,fun i hi=>by rw[hr]at hi;cases hi⟩
theorem CV(n j:Nat):aR (Array.replicate n false) j=false:=by simp only[aR,asp,Array.getElem?_replicate];split<;>rfl
theorem count_le(n:Nat):(Array.replicate n false).toList.countP (fun b=> !b)≤n:=by grind [List.countP_le_length,Array.replicate]
theorem Js:FO ops (Array.replicate ops.size false):=fun i o _ h=>by rw[CV]at h;cases h
theorem Ly(hE:ma E)(hY:Ac E.P E.aW E.fn.ntmps E.yl w0){mode:Nat}(pq:mode=1∨mode=2)(hrk:mode=1→∀o∈ops,fU o=true){k:Fr→Mem→Option R}{r:R}(hi:sw ops [] ((List.range ops.size).zip ops.toList)=true)(h:cw E ops mode fuel R [] ((List.range ops.size).zip ops.toList) f m [] k=some r){μ:Ro}(hR:Rel E.P E.aW E.fn.ntmps w0 μ φ f m a w)(hQ:∀f' m' μ' φ' a' w',k f' m'=some r→Rel E.P E.aW E.fn.ntmps w0 μ' φ' f' m' a' w'→Q .normal a' w'):wpAnyIn (FR rd) 0 E.P .any ops Q ops.size (Array.replicate ops.size false) a w:=by
 refine CU (w0:=w0) (base:=fun _=>false) hE hY pq (fun hm x hx=>hrk hm x.2 (ava (Ik hx))) (fun x hx=>Ik hx) (by rw[zip_fst];exact aua) (fun _ _=>rfl) (fun i o ho _ cU=>absurd rfl (cU _ (wy ho))) (fun x hx e he hb=>Or.inr ?_) hi h ?_ ops.size _ (by simp) (count_le _) Js (fun i=>by rw[CV]) μ φ a w hR
 ·obtain⟨_,_,i3⟩:=CT hi;have h1:=i3 x hx e he hb;have h2:x.1<ops.size:=(are.1 (Ik hx)).1;exact⟨_,wy (ame (show e.on<ops.size by omega)),rfl⟩
 ·intro aik Ww hs2 _ _ yj f' m' μ2 φ2 a2 w2 hk Ob;exact Lx hs2 (fun i o ho=>(yj i).2 (Or.inr ⟨_,wy ho,rfl⟩)) (hQ _ _ _ _ _ _ hk Ob)
theorem Ke{j:Nat}(h:((List.range ops.size).zip ops.toList)[j]?=some x):x.1=j:=by grind
theorem tF{p:Nat}:x∈((List.range ops.size).zip ops.toList).take p↔x∈(List.range ops.size).zip ops.toList∧x.1<p:=by
 constructor
 ·grind [List.getElem?_of_mem,List.getElem?_take_of_lt,List.mem_of_getElem?,Ke]
 ·rintro⟨h,hx⟩;obtain⟨j,hj⟩:=asz h;have:=Ke hj;exact asb (i:=j) (by simp_all)
theorem Ao{p:Nat}:x∈((List.range ops.size).zip ops.toList).drop p↔x∈(List.range ops.size).zip ops.toList∧p≤x.1:=by
 constructor
 ·grind [List.getElem?_of_mem,List.mem_of_getElem?,Ke]
 ·rintro⟨h,hx⟩;obtain⟨j,hj⟩:=asz h;have:=Ke hj;exact asb (i:=j-p) (by simp_all)
variable{K:Act→World→Prop}{Q':Exit→Act→World→Prop}
theorem Oper.Uu{F:Fence}{n:Nat}(h:∀e a w,e≠.normal→Q' e a w→Q e a w)(hh:o.wpIn F n P a w K Q'):o.wpIn F n P a w K Q:=by
 unfold Oper.wpIn at*;refine⟨hh.1,?_⟩;have hh:=hh.2;have amV:LetsOut Q'→LetsOut Q:=fun⟨a,w,hq⟩=>⟨a,w,h _ _ _ (by simp) hq⟩;generalize (o.semAt F.round a.eval).run P w=r at*;cases r with
 |ok x w'=>
  cases x<;>simp only[Oper.uponIn]at hh⊢<;>first
   |exact hh
   |exact⟨hh.1,CallsIn.mono hh.2 (fun e w'' he=>by cases e<;>first|exact amV he|exact h _ _ _ (by simp) he|exact he)⟩
   |exact⟨hh.1,RoundIn.mono hh.2 (fun e w'' he=>by cases e<;>first|exact amV he|exact h _ _ _ (by simp) he|exact he)⟩
 |halt x w'=>cases x<;>simp only[Oper.uponIn]at hh⊢<;>simp_all
theorem PE{F:Fence}{n:Nat}(h:∀e a w,e≠.normal→Q' e a w→Q e a w)(hh:wpOpIn F n P ops Q' i K a w):wpOpIn F n P ops Q i K a w:=by
 unfold wpOpIn at*;split
 ·simpa[*]using hh
 ·rename_i o ho;simp only[ho]at hh;split
  ·rename_i hw;simp only[hw,BY]at hh;exact Oper.Uu h hh
  simp_all
theorem Uv(hE:ma E)(hY:Ac E.P E.aW E.fn.ntmps E.yl w0){p:Nat}(agN:abQ ops p=true){k:Fr→Mem→Option R}{r:R}(hi1:sw ops [] (((List.range ops.size).zip ops.toList).take p)=true)(hi3:sw ops [] (((List.range ops.size).zip ops.toList).drop (p+1))=true){n1 n2 n3:Nat}(h:(cw E ops 2 n1 R [] (((List.range ops.size).zip ops.toList).take p) f m [] fun f m=>cw E ops 0 n2 R [] ((((List.range ops.size).zip ops.toList).drop p).take 1) f m [] fun f m=>cw E ops 2 n3 R [] (((List.range ops.size).zip ops.toList).drop (p+1)) f m [] k)=some r){μ:Ro}(hR:Rel E.P E.aW E.fn.ntmps w0 μ φ f m a w)(hQ:∀f' m' μ' φ' a' w',k f' m'=some r→Rel E.P E.aW E.fn.ntmps w0 μ' φ' f' m' a' w'→Q .normal a' w'):wpAnyIn (FR rd) 0 E.P .any ops Q ops.size (Array.replicate ops.size false) a w:=by
 unfold abQ at agN;cases ho:ops[p]? with
 |none=>simp_all
 |some o=>
  rw[ho]at agN;simp only[ao9]at agN;obtain⟨⟨_,Py⟩,hpa⟩:=agN;have hpn:p<ops.size:=(are.1 ho).1;have acA:∀e∈o.after,Region.binds .any e=true→e.on<p:=fun e he hb=>by have:=asO.1 Py e (atF.2 he);simp_all
  have ap5:∀i,i<p→reach ops 8 o i=true:=fun i hi=>by have:=asO.1 hpa _ (wy (ame (show i<ops.size by omega)));simp_all
  have ap6:∀i o',ops[i]?=some o'→p<i→reach ops 8 o' p=true:=fun i o' ho' hi=>by
   have:=asO.1 hpa _ (wy ho');simp only at this;have hb:Nat.blt i p=false:=by
    cases hx:Nat.blt i p with
    |false=>rfl
    |true=>have:i<p:=au2 hx;omega
   have yj:Nat.beq i p=false:=by
    cases hx:Nat.beq i p with
    |false=>rfl
    |true=>simp_all
   simp_all
  refine CU (w0:=w0) (base:=fun _=>false) hE hY (.inr rfl) (fun h=>by omega) (fun x hx=>Ik (tF.1 hx).1) (by simp[at4,zip_fst,aua,List.take_sublist]) (fun _ _=>rfl) (fun i o' ho' _ cU=>?_) (fun x hx e he hb=>Or.inr ?_) hi1 h ?_ ops.size _ (by simp) (count_le _) Js (fun i=>by rw[CV]) μ φ a w hR
  ·have hip:¬i<p:=fun hc=>cU _ (tF.2 ⟨wy ho',hc⟩) rfl;by_cases hi:i=p
   ·subst hi;rw[ho]at ho';cases ho';exact Or.inl fun x hx=>ap5 _ (tF.1 hx).2
   ·exact Or.inr ⟨p,ap6 i o' ho' (by omega),rfl,fun x hx=>by have:=(tF.1 hx).2;omega⟩
  ·obtain⟨_,_,i3⟩:=CT hi1;have h1:=i3 x hx e he hb;have h2:=(tF.1 hx).2;exact⟨_,tF.2 ⟨wy (ame (show e.on<ops.size by omega)),by omega⟩,rfl⟩
  ·intro fuel listed hs hc AN hb f1 m1 μ1 φ1 a1 w1 ZZ Uq;have cd:∀i,aR listed i=true↔i<p:=fun i=>by
    rw[hb i];constructor
    ·rintro(h|⟨x,hx,rfl⟩)
     ·cases h
     ·exact(tF.1 hx).2
    ·intro hi;exact Or.inr ⟨_,tF.2 ⟨wy (ame (show i<ops.size by omega)),hi⟩,rfl⟩
   have tP:p<listed.size:=by omega
   have hpu:aR listed p=false:=by grind
   have ar2:listed[p]=false:=by simp_all
   cases fuel with
   |zero=>have:=avi.1 (Nat.le_zero.1 hc) listed[p] (by simp);simp_all
   |succ fuel=>
    have ap7:p∈Region.ready .any ops listed:=mem_ready.2 ⟨by simp_all,o,ho,fun e he TB=>(cd e.on).2 (acA e he TB)⟩;refine⟨(fun h0=>by simp_all),fun i hi=>?_⟩;obtain⟨hun,o',ho',Lu⟩:=mem_ready.1 hi;have kM:i<listed.size:=by grind
    have hiu:aR listed i=false:=by simp_all
    have hip:i=p:=by refine as9 fun cU=>?_;grind [wx]
    subst hip;have hL:(((List.range ops.size).zip ops.toList).drop i).take 1=[(i,o)]:=by
     have hlen:i<((List.range ops.size).zip ops.toList).length:=by simp;omega
     rw[atb hlen];simp_all
    rw[hL]at ZZ;have hS':∀j,aR (listed.setIfInBounds i true) j=if j=i then true else aR listed j:=fun j=>by simp only[aR,asp,atu];grind
    have hle:∀j,aR (listed.setIfInBounds i true) j=true↔j≤i:=fun j=>by grind
    have amW:=j2 (rd:=rd) (w0:=w0) hE hY _ (.inl rfl) ZZ (by simp_all) (by intro x hx g hg;cases hg) (fun h=>by omega) μ1 φ1 a1 w1 (fun e a w=>(e=.normal∧wpAnyIn (FR rd) 0 E.P .any ops Q fuel (listed.setIfInBounds i true) a w)∨(e≠.normal∧Q e a w)) [] Uq (by intro g hg;cases hg) fun f2 m2 μ2 φ2 a2 w2 Ua Ob _ _=>Or.inl ⟨rfl,?_⟩
    ·rw[atc,asn,at3,wpOpsIn_cons]at amW;refine wpOpIn_mono (fun a w hq=>?_) (PE (fun e a w cU hq=>?_) amW)
     ·rcases hq with⟨_,h⟩|⟨h,_⟩
      ·omega
      ·exact absurd rfl h
     simp_all
    ·refine CU (w0:=w0) (base:=fun j=>decide (j≤i)) hE hY (.inr rfl) (fun h=>by omega) (fun x hx=>Ik (Ao.1 hx).1) (by grind [List.map_drop,zip_fst,List.pairwise_lt_range,List.drop_sublist]) (fun x hx=>by have:=(Ao.1 hx).2;simp;omega) (fun j oj hj hbj cU=>?_) (fun x hx e he TB=>?_) hi3 Ua ?_ fuel _ (by simp[hs]) ?_ ?_ (fun j=>by rw[hle j];simp) μ2 φ2 a2 w2 Ob
     ·simp only[as6]at hbj;exact absurd rfl (cU _ (Ao.2 ⟨wy hj,by omega⟩))
     ·obtain⟨_,_,i3⟩:=CT hi3;have h1:=i3 x hx e he TB;have h2:x.1<ops.size:=(are.1 (Ik (Ao.1 hx).1)).1;by_cases hei:e.on≤i
      ·simp_all
      ·exact Or.inr ⟨_,Ao.2 ⟨wy (ame (show e.on<ops.size by omega)),by omega⟩,rfl⟩
     ·intro arN apD hs3 _ _ hb3 f3 m3 μ3 φ3 a3 w3 hk3 hR3;refine Lx hs3 (fun j oj hj=>(hb3 j).2 ?_) (hQ _ _ _ _ _ _ hk3 hR3);by_cases hji:j≤i
      ·simp_all
      ·exact Or.inr ⟨_,Ao.2 ⟨wy hj,by omega⟩,rfl⟩
     ·grind
     ·intro j oj hj hlj e he TB;rw[hle]at hlj⊢;by_cases hji:j=i
      ·grind
      ·have h1:=AN j oj hj ((cd j).2 (by omega)) e he TB;grind
end
end Go.Ab
