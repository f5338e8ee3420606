import Derived.Test.YtmbihgjlollbeaaGreatAbP6
import Derived.OrdersIn
set_option linter.unusedVariables false
set_option linter.unusedSimpArgs false
namespace Go.Ab
open Go.RowKit (Below)
def we(f F:Fr):Prop:=∀t,f t=F t∨f t=.top
theorem we.refl(f:Fr):we f f:=fun _=>.inl rfl
theorem we.put{f F:Fr}(h:we f F)(d:Option Nat)(v:V):we (jt f d v) (jt F d v):=by
 intro t;cases d with
 |none=>exact h t
 |some d=>
  simp only[jt,gp];cases Nat.beq t d
  ·exact h t
  simp
theorem fQ{f:Fr}{d:Option Nat}{v:V}{t:Nat}(h:d≠some t):jt f d v t=f t:=by
 cases d with
 |none=>rfl
 |some d=>exact rC (fun e=>h (by rw[e]))
theorem ko{f:Fr}{v:V}{t:Nat}:jt f (some t) v t=v:=by simp[jt,gp,Nat.beq_refl]
section
variable {E:Env} {ops:Array Oper} {w0:bx}
variable{nt:Nat}{μ:Ro}{φ:Nat→aA}{f:Fr}{m:Mem}{a:Act}
theorem Rel.weaken{f':Fr}{w:World}(h:Rel E.P E.aG nt w0 μ φ f m a w)(hf:we f' f):Rel E.P E.aG nt w0 μ φ f' m a w:=
 {h with
  fr:=fun t=>by
   rcases hf t with e|e
   ·rw[e];exact h.fr t
   ·rw[e];exact .top,
  live:=fun t id hid=>by
   rcases hf t with e|e
   ·rw[e]at hid;exact h.live t id hid
   simp_all}
variable{t:Nat}
theorem EV{d:Nat}{y:Value}(hd:d<a.tmps.size):(a.put (some d) y).tmps.getD t undef=if t=d then y else a.tmps.getD t undef:=by simp only[Act.put,ajp,akx];grind
theorem Rel.put{nt:Nat}{μ μ':Ro}{φ φ':Nat→aA}{f f':Fr}{m m':Mem}{a:Act}{w w':World}(h:Rel E.P E.aG nt w0 μ φ f m a w)(hle:KF μ μ'){dst:Option Nat}{v:V}{y:Value}(hd:∀d,dst=some d→d<nt)(hM:av E.P E.aG w0 μ' φ' m' w')(hF:bS E.P μ' φ' m' f' (bO nt w0 a))(hv:af E.P μ' φ' v y)(hl:∀id,v.has id=true→(m' id).isSome=true):Rel E.P E.aG nt w0 μ' φ' (jt f' dst v) m' (a.put dst y) w':=by
 refine{toav:=hM,size:=?_,defers:=?_,mR:=h.mR,fr:=fun t=>?_,live:=fun t id hid=>?_}
 ·cases dst<;>simp[Act.put,h.size]
 ·cases dst<;>exact h.defers.mono hle
 ·cases dst with
  |none=>exact hF.fr t
  |some d=>
   have bT:d<a.tmps.size:=by rw[h.size];exact hd d rfl
   have hf:=hF.fr t;by_cases e:t=d
   ·subst e;rw[rn (hd t rfl),EV bT,GW rfl,ko];omega
   ·rw[fQ (by grind)];unfold bO at hf⊢;split
    ·rename_i ht;rw[GW ht]at hf;rw[EV bT,No e];omega
    simp_all
 ·by_cases e:dst=some t
  ·grind [ko,id]
  ·rw[fQ e]at hid;exact hF.live t id hid
theorem Y7(h:t<E.fn.ntmps):bC E f (.tmp t)=f t:=by simp only[bC];rw[show Nat.blt t E.fn.ntmps=true by rw[akb];omega];rfl
theorem EW{p:PV}(h:bC E f (.tmp t)=.pv p):t<E.fn.ntmps∧f t=.pv p:=by grind [bC,Nat.blt,Nat.blt_eq]
theorem Uu{F:Fr}(h:we f F)(q:Operand):bC E f q=bC E F q∨bC E f q=.top:=by
 cases q with
 |tmp t=>
  simp only[bC];cases Nat.blt t E.fn.ntmps with
  |true=>exact h t
  |false=>simp
 |_=>exact .inl rfl
def rM(nt:Nat)(ops:Array Oper)(A:List (Nat×Bool))(f:Fr):Prop:=∀g∈A,∃t,(ops[g.1]?).bind (·.dst)=some t∧t<nt∧f t=.pv (.bool g.2)
def AL(ops:Array Oper)(A:List (Nat×Bool))(a:Act):Prop:=∀g∈A,∃t,(ops[g.1]?).bind (·.dst)=some t∧a.tmps.getD t undef=.bool g.2
def abH(ops:Array Oper)(A:List (Nat×Bool))(l:List (Nat×Oper)):Prop:=∀x∈l,∀g∈A,∀t,(ops[g.1]?).bind (·.dst)=some t→x.2.dst≠some t
variable{d:Option Nat}{A:List (Nat×Bool)}
theorem rM.put(h:rM nt ops A f){v:V}(hd:∀g∈A,∀t,(ops[g.1]?).bind (·.dst)=some t→d≠some t):rM nt ops A (jt f d v):=by intro g hg;obtain⟨t,h1,h0,h2⟩:=h g hg;grind [fQ]
variable{o:Oper}
theorem ju(h:wN E o=true):∀d,o.dst=some d→d<E.fn.ntmps:=by grind [wN,Nat.blt_eq]
variable{b:Bool}
theorem vn{j:Nat}(h:(ops[j]?).bind (·.dst)=some t)(hb:a.tmps.getD t undef=.bool b):yielded ops a.tmps j=some b:=by
 simp only[yielded,h,ajn];have:a.tmps[t]?=some (.bool b):=by rw[ajp]at hb;grind [undef]
 rw[this]
theorem Ce(ho:guardOf o A=none)(hA:AL ops A a):Region.wanted o (yielded ops a.tmps)=true:=by
 unfold guardOf at ho;unfold Region.wanted;split at ho
 ·rename_i hg;simp[hg]
 ·rename_i g hg;split at ho
  ·rename_i bX;obtain⟨t,h1,h2⟩:=hA g (by simpa using bX);simp_all[vn]
  ·cases ho
theorem AL.put(h:AL ops A a){y:Value}(hs:∀t,d=some t→t<a.tmps.size)(hd:∀g∈A,∀t,(ops[g.1]?).bind (·.dst)=some t→d≠some t):AL ops A (a.put d y):=by
 intro g hg;obtain⟨t,h1,h2⟩:=h g hg;refine⟨t,h1,?_⟩;cases d with
 |none=>exact h2
 |some d=>rw[EV (hs d rfl),No fun e=>hd g hg t h1 (by rw[e])];omega
def RJ(ops:Array Oper)(f:Fr)(o:Oper):Prop:=∃g,o.guard=some g∧∀t,(ops[g.1]?).bind (·.dst)=some t→f t=.aP []∨f t=.pv (.bool (!g.2))
theorem RL{P:Program}{x:Value}(h:af P μ φ (.aP []) x):x=undef:=by
 cases h with
 | @aP _ xs h1 _=>have:xs= #[]:=alh (by simpa using h1.symm);subst this;rfl
theorem EX{P:Program}:af P μ φ (.aP []) undef:=.aP rfl (by simp)
theorem zn{w:World}(h:Rel E.P E.aG nt w0 μ φ f m a w)(hd:RJ ops f o):Region.wanted o (yielded ops a.tmps)=false:=by
 obtain⟨g,hg,ht⟩:=hd;simp only[Region.wanted,hg];cases hs:(ops[g.1]?).bind (·.dst)with
 |none=>simp[yielded,hs]
 |some t=>
  have hy:nt≤t→yielded ops a.tmps g.1=none:=fun hle=>by simp only[yielded,hs,ajn];rw[Array.getElem?_eq_none (by rw[h.size];omega)]
  by_cases GC:nt≤t
  ·rw[hy GC];rfl
  have bT:t<nt:=Nat.lt_of_not_le GC;have h3:=h.fr t;rw[rn bT]at h3;rcases ht t hs with e|e
  ·rw[e]at h3;have h4:=RL h3;have:yielded ops a.tmps g.1=none:=by
    simp only[yielded,hs,ajn];rw[ajp]at h4;cases e:a.tmps[t]? with
    |none=>rfl
    |some x=>rw[e]at h4;simp only[aka]at h4;subst h4;rfl
   rw[this];rfl
  ·rw[e]at h3;rw[vn hs (rK h3)];simp
theorem vo{t:Nat}:∀{l:List (Nat×Oper)}{f:Fr},(∀x∈l,x.2.dst≠some t)→iW f l t=f t
 |[],_,_=>rfl
 |x::r,f,h=>by rw[iW,vo (fun y hy=>h y (by simp[hy])),fQ (h x (by simp))]
theorem yF{t:Nat}:∀{l:List (Nat×Oper)}{f:Fr},(∀x∈l,x.2.dst≠some t)→na f l t=f t
 |[],_,_=>rfl
 |x::r,f,h=>by rw[na,yF (fun y hy=>h y (by simp[hy])),fQ (h x (by simp))]
theorem Cf{t:Nat}:∀{l:List (Nat×Oper)}{f:Fr},(f t=.top∨∃x∈l,x.2.dst=some t)→na f l t=.top
 |[],_,h=>by
  rcases h with h|⟨x,hx,_⟩
  ·exact h
  ·cases hx
 |x::r,f,h=>by
  rw[na];by_cases e:x.2.dst=some t
  ·simp_all[Cf,ko]
  ·refine Cf ?_;rcases h with h|⟨y,hy,hd⟩
   ·simp_all[fQ]
   grind
theorem yG{l:List (Nat×Oper)}{F:Fr}(h:∀t,(∀x∈l,x.2.dst≠some t)→f t=F t∨f t=.top):we (na f l) F:=by intro t;grind [Cf,yF]
theorem AM{g:Nat×Bool}{tj:Nat}(hj:(ops[g.1]?).bind (·.dst)=some tj):∀{l:List (Nat×Oper)}{done:List Nat}{f:Fr},wM g done l=true→(∀x∈l,ops[x.1]?=some x.2)→(∀x∈l,x.2.dst≠some tj)→f tj=.pv (.bool (!g.2))→(∀j∈done,∀t,(ops[j]?).bind (·.dst)=some t→f t=.aP [])→∀(pre post:List (Nat×Oper))(x:Nat×Oper),l=pre++x::post→RJ ops (iW f pre) x.2
 |[],_,_,_,_,_,_,_,pre,post,x,h=>by simp at h
 |y::r,done,f,hg,hl,hd,hb,Uq,pre,post,x,h=>by
  simp only[wM,OF]at hg;cases pre with
  |nil=>
   simp only[akK,akf]at h;obtain⟨rfl,rfl⟩:=h;rw[iW];have h1:=hg.1;split at h1
   ·rename_i hh hgd;refine⟨hh,hgd,fun t ht=>?_⟩;rcases Bool.or_eq_true_iff.1 h1 with h2|h2
    ·simp_all
    grind
   ·cases h1
  |cons z pre=>
   simp only[akO,akf]at h;obtain⟨rfl,h⟩:=h;rw[iW];refine AM hj hg.2 (fun x hx=>hl x (by simp[hx])) (fun x hx=>hd x (by simp[hx])) (by simp_all[fQ]) (fun j hjm t ht=>?_) pre post x h;by_cases e:y.2.dst=some t
   ·rw[e,ko]
   ·rw[fQ e];grind
theorem EY{A:List (Nat×Bool)}:∀{l a b:List (Nat×Oper)},CJ A l=(a,b)→l=a++b
 |[],a,b,h=>by simp[CJ]at h;simp_all
 |x::r,a,b,h=>by
  simp only[CJ]at h;split at h
  ·cases hs:CJ A r with
   |mk a' b'=>rw[hs]at h;simp only[aab]at h;obtain⟨rfl,rfl⟩:=h;rw[EY hs];rfl
  simp_all
theorem AN{v:V}(h:y8 v=some b):v=.pv (.bool b):=by unfold y8 at h;grind
theorem aaz(hE:ke E){site:Nat}{draw:Bool}{v:V}{f':Fr}{m':Mem}{ft:bq}(hn:draw=true∨∃c x y,o.op=.pick c x y)(h:∀(R':Type)(k':V→Fr→Mem→bq→Option R'),Kf E draw site o f m k'=k' v f' m' ft):vk E draw site o f m v f' m' ft:=by
 have hx:=IU hE (h (V×Fr×Mem×bq) fun v f m ft=>some (v,f,m,ft));rcases hx with⟨v1,f1,m1,ft1,h1,h2⟩|⟨h1,h2,_⟩
 rotate_left
 ·simp_all
 simp_all
theorem KG{R:Type}{site:Nat}{draw:Bool}{p:Oper}{c:Nat}{x y:Operand}{k:V→Fr→Mem→bq→Option R}(hp:p.op=.pick (.tmp c) x y)(hb:bC E f (.tmp c)=.pv (.bool b)):Kf E draw site p f m k=k (bC E f (if b then x else y)) f m []:=by
 have yB:zB E site p f m=none:=by simp only[zB,hp]
 unfold Kf;rw[yB];have e:(bif draw then none else bif E.DJ site then(none:Option Sp)else none)=none:=by simp
 rw[e];simp only[cr,hp,hb];cases b<;>rfl
end
section
variable {E:Env} {ops:Array Oper} {w0:bx}
theorem xb{rd:Option Nat}{Q:Exit→Act→World→Prop}{tail:List Nat}:∀(l:List (Nat×Oper))(f:Fr),(∀x∈l,ops[x.1]?=some x.2)→(∀x∈l,wN E x.2=true)→(∀(pre post:List (Nat×Oper))(x:Nat×Oper),l=pre++x::post→RJ ops (iW f pre) x.2)→∀{μ:Ro}{φ:Nat→aA}{m:Mem}{a:Act}{w:World},Rel E.P E.aG E.fn.ntmps w0 μ φ f m a w→∀(A:List (Nat×Bool)),AL ops A a→abH ops A l→(∀a',Rel E.P E.aG E.fn.ntmps w0 μ φ (iW f l) m a' w→AL ops A a'→wpOpsIn (FR rd) 0 E.P ops Q tail a' w)→wpOpsIn (FR rd) 0 E.P ops Q (l.map (·.1)++tail) a w
 |[],f,_,_,_,_,_,_,a,_,hR,_,hA,_,hK=>hK a hR hA
 |x::r,f,hl,hd,EZ,μ,φ,m,a,w,hR,A,hA,E0,hK=>by simp only[ajr,akO,wpOpsIn];rw[hl x (by simp)];simp only;rw[zn hR (EZ [] r x rfl)];simp only[cQ,S3];refine And.intro (fun _ _=>trivial) (xb r (jt f x.2.dst (.aP [])) (fun y hy=>hl y (by simp[hy])) (fun y hy=>hd y (by simp[hy])) (fun pre post y h=>?_) (hR.put (fun _ _ h=>h) (ju (hd x (by simp))) hR.toav hR.kO EX (fun id hid=>by simp[V.has,b8]at hid)) A (hA.put (fun t ht=>by rw[hR.size];exact ju (hd x (by simp)) t ht) fun g qX t ht=>E0 x (by simp) g qX t ht) (fun y hy=>E0 y (by simp[hy])) hK);have:=EZ (x::pre) post y (by rw[h];rfl);rwa[iW]at this
theorem zQ:∀{ft:bq},Ay ft=true→∀x∈ft,x.1=false
 |[],_,x,hx=>by cases hx
 |(w,id)::r,h,x,hx=>by
  simp only[Ay,OF,ajN]at h;rcases aih.1 hx with rfl|hx
  ·exact h.1
  ·exact zQ h.2 x hx
theorem iS(hE:ke E){rd:Option Nat}(hY:uq E.P E.aG E.fn.ntmps E.yl w0):∀(fuel:Nat){mode:Nat}(mP:mode=0∨mode=3){R:Type}{A:List (Nat×Bool)}{l:List (Nat×Oper)}{f:Fr}{m:Mem}{lg:Log}{k:Fr→Mem→Option R}{r:R},bZ E ops mode fuel R A l f m lg k=some r→(∀x∈l,ops[x.1]?=some x.2)→abH ops A l→(mode=3→∀x∈l,fe x.2=true)→∀(μ:Ro)(φ:Nat→aA)(a:Act)(w:World)(Q:Exit→Act→World→Prop)(tail:List Nat),Rel E.P E.aG E.fn.ntmps w0 μ φ f m a w→AL ops A a→(∀(f':Fr)(m':Mem)(μ':Ro)(φ':Nat→aA)(a':Act)(w':World),k f' m'=some r→Rel E.P E.aG E.fn.ntmps w0 μ' φ' f' m' a' w'→AL ops A a'→(mode=3→m'=m∧∀t,(∀x∈l,x.2.dst≠some t)→f' t=f t)→wpOpsIn (FR rd) 0 E.P ops Q tail a' w')→wpOpsIn (FR rd) 0 E.P ops Q (l.map (·.1)++tail) a w
 |0,_,_,_,_,_,_,_,_,_,_,h,_,_,_,_,_,_,_,_,_,_,_,_=>by simp[bZ]at h
 |fuel+1,mode,mP,R,A,[],f,m,lg,k,r,h,_,_,_,μ,φ,a,w,Q,tail,hR,hA,hK=>by simp only[bZ]at h;grind
 |fuel+1,mode,mP,R,A,(i,o)::rest,f,m,lg,k,r,h,hl,E0,Ts,μ,φ,a,w,Q,tail,hR,hA,hK=>by
  simp only[bZ]at h;split at h
  ·rename_i hg;split at h
   ·rename_i hd;have Ym:Nat.beq mode 2=false:=by rcases mP with rfl|rfl<;>rfl
    simp only[Ym,cond_false]at h;rw[←Ym]at h;have hdf:=Cd h;rcases IU hE h with⟨v,f1,m1,ft,hk,RM⟩|⟨_,pR⟩
    rotate_left
    ·simp only[ajr,akO,wpOpsIn];rw[hl (i,o) (by simp)];simp only;rw[Ce hg hA,GW rfl];refine EU.zP pR rd w0 μ φ a w _ Q hY hR fun v f1 m1 y w' μ' φ' hk hle hM hF hv IB=>?_;have cK:Nat.beq mode 2=false:=by omega
     rw[cK]at hk;simp only[cQ,S3]at hk;rcases mP with rfl|rfl
     ·simp only[Nat.beq,IS]at hk;exact iS hE hY fuel (.inl rfl) hk (fun x hx=>hl x (by simp[hx])) (fun x hx=>E0 x (by simp[hx])) (fun hm x hx=>Ts hm x (by omega)) _ _ _ _ Q tail (hR.put hle (ju hd) hM hF hv IB) (hA.put (fun t ht=>by rw[hR.size];exact ju hd t ht) fun g qX t ht=>E0 (i,o) (by simp) g qX t ht) fun f' m' μ2 φ2 a' w2 DQ j6 zG vT=>hK f' m' μ2 φ2 a' w2 DQ j6 zG fun h=>by omega
     ·simp[Nat.beq,Ay]at hk
    have cK:Nat.beq mode 2=false:=by omega
    rw[cK]at hk;simp only[cQ,S3]at hk;have hq:(mode=3→f1=f∧m1=m)∧bZ E ops mode fuel R A rest (jt f1 o.dst v) m1 lg k=some r:=by
     rcases mP with rfl|rfl
     ·simp_all
     ·simp only[Nat.beq,cQ,S3]at hk;split at hk
      ·rename_i hqf;exact⟨fun h=>RM.same (Ts rfl (i,o) (by simp)) (zQ hqf),hk⟩
      ·cases hk
    obtain⟨aaA,hk⟩:=hq;simp only[ajr,akO,wpOpsIn];rw[hl (i,o) (by simp)];simp only;rw[Ce hg hA,GW rfl];refine RM.zP hdf rd w0 μ φ a w _ Q hR fun y w' μ' φ' hle hM hF hv IB=>?_;refine iS hE hY fuel mP hk (fun x hx=>hl x (by simp[hx])) (fun x hx=>E0 x (by simp[hx])) (fun hm x hx=>Ts hm x (by simp[hx])) _ _ _ _ Q tail (hR.put hle (ju hd) hM hF hv IB) (hA.put (fun t ht=>by rw[hR.size];exact ju hd t ht) fun g qX t ht=>E0 (i,o) (by simp) g qX t ht) fun f' m' μ2 φ2 a' w2 DQ j6 zG vT=>?_;refine hK f' m' μ2 φ2 a' w2 DQ j6 zG fun hm3=>?_;obtain⟨e1,e2⟩:=aaA hm3;obtain⟨e3,e4⟩:=vT hm3;refine⟨by rw[e3,e2],fun t ht=>?_⟩;rw[e4 t fun x hx=>ht x (by simp[hx]),fQ (ht (i,o) (by simp)),e1]
   ·cases h
  ·rename_i j Dy hg;split at h
   ·rename_i tj htj;split at h
    ·rename_i b hb;have ahe:tj<E.fn.ntmps:=by grind [bC,Nat.blt,Nat.blt_eq]
     have hbf:f tj=.pv (.bool b):=by grind [bC,Nat.blt,Nat.blt_eq]
     have hba:a.tmps.getD tj undef=.bool b:=by have:=(an hR (.tmp tj)).1;rw[hb]at this;exact rK this
     generalize yB:CJ A ((i,o)::rest)=sp at h;obtain⟨body,Kh⟩:=sp;have nj:=EY yB;simp only at h;split at h
     ·rename_i aaB;split at h
      ·rename_i hc;simp only[OF,ajO,ajN,ak7,ne_eq]at hc aaB;obtain⟨⟨Mz,hgi⟩,adV⟩:=hc;have hm0:mode=0:=AI aaB.1;subst hm0;have bX:∀z∈body,z∈(i,o)::rest:=fun z hz=>by rw[nj];simp[hz]
       have zo:∀z∈Kh,z∈(i,o)::rest:=fun z hz=>by rw[nj];simp[hz]
       by_cases hbp:b=Dy
       ·have:G7 Dy b=true:=by subst hbp;cases b<;>rfl
        rw[this]at h;simp only[cond]at h;have hfs:gp f tj (.pv (.bool Dy))=f:=funext fun t=>by
         unfold gp;cases e:Nat.beq t tj with
         |false=>rfl
         |true=>simp_all
        rw[hfs]at h;refine iS hE hY fuel mP h hl (fun z hz g qX t ht=>?_) (fun h=>by omega) _ _ _ _ Q tail hR (fun g qX=>?_) fun f' m' μ2 φ2 a' w2 DQ j6 zG vT=>hK f' m' μ2 φ2 a' w2 DQ j6 (fun g qX=>zG g (by simp[qX])) fun h=>by omega
        ·rcases aih.1 qX with rfl|qX
         ·grind
         ·exact E0 z hz g qX t ht
        ·rcases aih.1 qX with rfl|qX
         ·simp_all
         ·exact hA g qX
       ·have:G7 Dy b=false:=by cases b<;>cases Dy<;>first|rfl|exact absurd rfl hbp
        rw[this]at h;simp only[cond]at h;have hbn:b= !Dy:=by cases b<;>cases Dy<;>simp_all
        have hfs:gp f tj (.pv (.bool !Dy))=f:=funext fun t=>by
         unfold gp;cases e:Nat.beq t tj with
         |false=>rfl
         |true=>simp_all
        rw[hfs]at h;rw[nj,aku,ajD];refine xb body f (fun z hz=>hl z (bX z hz)) Mz (AM htj hgi (fun z hz=>hl z (bX z hz)) (fun z hz=>adV z (bX z hz)) (by rw[hbf,hbn]) (by simp)) hR A hA (fun z hz g qX t ht=>E0 z (bX z hz) g qX t ht) fun a' j6 zG=>?_
        ·refine iS hE hY fuel mP h (fun z hz=>hl z (zo z hz)) (fun z hz=>E0 z (zo z hz)) (fun h=>by omega) _ _ _ _ Q tail j6 zG fun f' m' μ2 φ2 a' w2 DQ j6 zG vT=>hK f' m' μ2 φ2 a' w2 DQ j6 zG fun h=>by omega
      ·cases h
     ·split at h
      ·rename_i ip p nb;split at h
       ·rename_i c x y Uv;split at h
        ·rename_i hc;simp only[OF,ajO,ajN,ak7,ne_eq]at hc;obtain⟨⟨⟨⟨⟨⟨Ni,hpg⟩,HD⟩,hgi⟩,_⟩,hpd⟩,_⟩:=hc;have Ni:=AI Ni;subst Ni;have hpg:guardOf p A=none:=by simpa using hpg
         obtain⟨rb,hrb,h⟩:=cT.1 h;have bX:∀z∈body,z∈(i,o)::rest:=fun z hz=>by rw[nj];simp[hz]
         have zo:∀z∈nb,z∈(i,o)::rest:=fun z hz=>by rw[nj];simp[hz]
         have Pl:(ip,p)∈(i,o)::rest:=by rw[nj];simp
         rw[nj,aku,ajD];have after:∀(f1:Fr)(μ1:Ro)(φ1:Nat→aA)(a1:Act)(w1:World)(q:Operand),Rel E.P E.aG E.fn.ntmps w0 μ1 φ1 f1 m a1 w1→AL ops A a1→(∀t,(∀z∈body,z.2.dst≠some t)→f1 t=f t)→bC E f1 q=.pv (.bool rb)→(q=if b then x else y)→wpOpsIn (FR rd) 0 E.P ops Q (((ip,p)::nb).map (·.1)++tail) a1 w1:=by
          intro f1 μ1 φ1 a1 w1 q Nj hA1 hf1 hq hqe;have TW:bC E f1 (.tmp c)=.pv (.bool b):=by grind [bC,Nat.blt,Nat.blt_eq]
          simp only[ajr,akO,wpOpsIn];rw[hl (ip,p) Pl];simp only;rw[Ce hpg hA1,GW rfl];have RM:vk E (Nat.beq mode 1||Nat.beq mode 2) (cu E p.dst) p f1 m (.pv (.bool rb)) f1 m []:=aaz hE (.inr ⟨_,_,_,Uv⟩) fun R' k'=>by rw[KG Uv TW,←hqe,hq]
          refine RM.zP (fun c h=>by rw[Uv]at h;cases h) rd w0 μ1 φ1 a1 w1 _ Q Nj fun z w' μ' φ' vT hM hF hv IB=>?_;have hle:we (jt (na f body) p.dst (.pv (.bool rb))) (jt f1 p.dst (.pv (.bool rb))):=we.put (yG fun t ht=>.inl (hf1 t ht).symm) _ _;refine iS hE hY fuel mP h (fun z hz=>hl z (zo z hz)) (fun z hz=>E0 z (zo z hz)) (fun hm z hz=>Ts hm z (zo z hz)) _ _ _ _ Q tail ((Nj.put vT (ju hpd) hM hF hv IB).weaken hle) (hA1.put (fun t ht=>by rw[Nj.size];exact ju hpd t ht) fun g qX t ht=>E0 (ip,p) Pl g qX t ht) fun f' m' μ2 φ2 a' w2 DQ j6 zG vT=>?_;grind [fQ,yF]
         have go:∀q,b=Dy→(q=if b then x else y)→bZ E ops 3 fuel Bool ((j,Dy)::A) body f m lg (fun f _=>y8 (bC E f q))=some rb→wpOpsIn (FR rd) 0 E.P ops Q (body.map (·.1)++(((ip,p)::nb).map (·.1)++tail)) a w:=by
          intro q hbp hq Y8;refine iS hE hY fuel (.inr rfl) Y8 (fun z hz=>hl z (bX z hz)) ?_ (fun _ z hz=>(HD z hz).1.1) _ _ _ _ Q _ hR ?_ fun f' m' μ2 φ2 a' w2 DQ j6 zG vT=>?_
          ·intro z hz g qX t ht;rcases aih.1 qX with rfl|qX
           ·grind
           ·exact E0 z (bX z hz) g qX t ht
          ·intro g qX;rcases aih.1 qX with rfl|qX
           ·simp_all
           ·exact hA g qX
          ·obtain⟨e1,e2⟩:=vT rfl;subst e1;exact after f' μ2 φ2 a' w2 q j6 (fun g qX=>zG g (by simp[qX])) e2 (AN DQ) hq
         have no:∀q,b= !Dy→(q=if b then x else y)→y8 (bC E (na f body) q)=some rb→wpOpsIn (FR rd) 0 E.P ops Q (body.map (·.1)++(((ip,p)::nb).map (·.1)++tail)) a w:=by
          intro q hbp hq Y8;refine xb body f (fun z hz=>hl z (bX z hz)) (fun z hz=>(HD z hz).1.2) (AM htj hgi (fun z hz=>hl z (bX z hz)) (fun z hz=>(HD z hz).2) (by rw[hbf,hbp]) (by simp)) hR A hA (fun z hz g qX t ht=>E0 z (bX z hz) g qX t ht) fun a' j6 zG=>?_;refine after _ μ φ a' w q j6 zG (fun t ht=>vo ht) ?_ hq;have hv:=AN Y8;cases q with
          |tmp t=>
           simp only[bC]at hv⊢;have hle:we (na f body) (iW f body):=yG fun t ht=>.inl (vo ht).symm;cases e:Nat.blt t E.fn.ntmps with
           |false=>rw[e]at hv;cases hv
           |true=>
            rw[e]at hv;simp only[cond]at hv⊢;rcases hle t with e|e
            ·rw[←e];omega
            simp_all
          |_=>exact hv
         have hbm:(bif Nat.beq mode 0 then 3 else mode)=3:=by rcases mP with rfl|rfl<;>rfl
         grind
        ·cases h
       ·cases h
      ·cases h
    ·cases h
   ·cases h
end
structure Rec where
 i:Nat
 o:Oper
 v:V
 wr:List (Nat×bH)
 ft:bq
 kl:Kl
def Rec.fs(r:Rec)(f:Fr):Fr:=jt (kf r.kl f) r.o.dst r.v
def Rec.ms(r:Rec)(m:Mem):Mem:=ue r.wr (km r.kl m)
def Rec.HE(r:Rec)(id:Nat):Prop:=∃b,(b,id)∈r.kl
def mU(f:Fr):List Rec→Fr
 |[]=>f
 |r::l=>mU (r.fs f) l
def qK(m:Mem):List Rec→Mem
 |[]=>m
 |r::l=>qK (r.ms m) l
def pC(S:Nat→Bool)(f:Fr):List Rec→Fr
 |[]=>f
 |r::l=>pC S (bif S r.i then r.fs f else f) l
def pD(S:Nat→Bool)(m:Mem):List Rec→Mem
 |[]=>m
 |r::l=>pD S (bif S r.i then r.ms m else m) l
theorem IV:∀{wr:List (Nat×bH)}{m:Mem}{j:Nat},(∀b,(j,b)∉wr)→ue wr m j=m j
 |[],_,_,_=>rfl
 |(id,b)::r,m,j,h=>by rw[ue,IV fun b' hb=>h b' (by simp[hb])];exact aq fun e=>h b (by simp[e])
theorem Uw:∀{wr:List (Nat×bH)}{j:Nat},(∃b,(j,b)∈wr)→∃b',(j,b')∈wr∧∀m:Mem,ue wr m j=some b'
 |[],_,h=>by simp_all
 |(id,b)::r,j,h=>by
  by_cases hr:∃b,(j,b)∈r
  ·obtain⟨b',h1,h2⟩:=Uw hr;exact⟨b',by simp[h1],fun m=>h2 _⟩
  ·obtain⟨b0,hb⟩:=h;rcases aih.1 hb with hb|hb
   ·simp only[aab]at hb;obtain⟨rfl,rfl⟩:=hb;simp_all[ue,IV]
   simp_all
mutual
theorem KH{id:Nat}:∀{v:V},v.wJ id=true→v.has id=true
 |.agg cs,h=>vp (cs:=cs) (by simpa[V.wJ]using h)
 |.aP cs,h=>vp (cs:=cs) (by simpa[V.wJ]using h)
 |.fn _ cs,h=>vp (cs:=cs) (by simpa[V.wJ]using h)
 |.wI _ _ _,h=>h
 |.Ar _ _ _ _ _ _,h=>h
 |.pv _,h=>by cases h
 |.iq,h=>by cases h
 |.op _ _,h=>by cases h
 |.oe _ _ _,h=>by cases h
 |.os _,h=>by cases h
 |.fL _ _ _,h=>by cases h
 |.om _,h=>by cases h
 |.yl _,h=>by cases h
 |.it _,h=>by cases h
 |.top,h=>by cases h
theorem vp{id:Nat}:∀{cs:List V},As id cs=true→b8 id cs=true
 |[],h=>by cases h
 |c::r,h=>by
  simp only[As,ajt]at h;simp only[b8,ajt];rcases h with h|h
  ·exact .inl (KH h)
  ·exact .inr (vp h)
end
variable{id:Nat}
theorem C4{v:V}(h:v.has id=false):sV id v=v:=by unfold sV;rw[h];rfl
theorem C5{id:Nat}:∀{cs:List V},b8 id cs=false→cs.map (sV id)=cs
 |[],_=>rfl
 |c::r,h=>by simp only[b8,ajT]at h;simp only[ajr,C4 h.1,C5 h.2]
theorem KI{b:bH}(h:b.names id=false):gq id b=b:=by
 cases b with
 |box cs=>simp only[gq,C5 (show b8 id cs=false from h)]
 |_=>rfl
theorem AO{v:V}(h:v.has id=false):oB id v=v:=by
 unfold oB;cases h2:v.wJ id with
 |false=>rfl
 |true=>rw[KH h2]at h;cases h
theorem AP{id:Nat}:∀{cs:List V},b8 id cs=false→cs.map (oB id)=cs
 |[],_=>rfl
 |c::r,h=>by simp only[b8,ajT]at h;simp only[ajr,AO h.1,AP h.2]
theorem IW{b:bH}(h:b.names id=false):dI id b=b:=by
 cases b with
 |box cs=>simp only[dI,AP (show b8 id cs=false from h)]
 |_=>rfl
theorem E1:∀{kl:Kl}{f:Fr}{t:Nat},(∀id,(∃b,(b,id)∈kl)→(f t).has id=false)→kf kl f t=f t
 |[],_,_,_=>rfl
 |(true,id)::r,f,t,h=>by have h0:eN id f t=f t:=C4 (h id ⟨true,by simp⟩);rw[kf,E1 (kl:=r) (f:=eN id f) fun j hj=>by rw[h0];exact h j (let⟨b,hb⟩:=hj;⟨b,by simp[hb]⟩),h0]
 |(false,id)::r,f,t,h=>by have h0:ir id f t=f t:=AO (h id ⟨false,by simp⟩);rw[kf,E1 (kl:=r) (f:=ir id f) fun j hj=>by rw[h0];exact h j (let⟨b,hb⟩:=hj;⟨b,by simp[hb]⟩),h0]
theorem AQ:∀{kl:Kl}{f g:Fr}{t:Nat},f t=g t→kf kl f t=kf kl g t
 |[],_,_,_,h=>h
 |(true,id)::r,f,g,t,h=>AQ (kl:=r) (f:=eN id f) (g:=eN id g) (by simp only[eN,h])
 |(false,id)::r,f,g,t,h=>AQ (kl:=r) (f:=ir id f) (g:=ir id g) (by simp only[ir,h])
theorem E2:∀{kl:Kl}{m:Mem}{j:Nat},(∀id,(∃b,(b,id)∈kl)→j≠id∧∀b,m j=some b→b.names id=false)→km kl m j=m j
 |[],_,_,_=>rfl
 |(true,id)::r,m,j,h=>by
  obtain⟨h1,h2⟩:=h id ⟨true,by simp⟩;have h0:bg (bD id m) id j=m j:=by
   rw[gi h1];unfold bD;cases hm:m j with
   |none=>rfl
   |some b=>simp only[KI (h2 b hm)]
  rw[km,E2 (kl:=r) (m:=bg (bD id m) id) fun i hi=>by rw[h0];exact h i (let⟨b,hb⟩:=hi;⟨b,by simp[hb]⟩),h0]
 |(false,id)::r,m,j,h=>by
  obtain⟨h1,h2⟩:=h id ⟨false,by simp⟩;have h0:eV id m j=m j:=by
   unfold eV;cases hm:m j with
   |none=>rfl
   |some b=>simp only[IW (h2 b hm)]
  rw[km,E2 (kl:=r) (m:=eV id m) fun i hi=>by rw[h0];exact h i (let⟨b,hb⟩:=hi;⟨b,by simp[hb]⟩),h0]
theorem E3:∀{kl:Kl}{m n:Mem}{j:Nat},m j=n j→km kl m j=km kl n j
 |[],_,_,_,h=>h
 |(true,id)::r,m,n,j,h=>E3 (kl:=r) (m:=bg (bD id m) id) (n:=bg (bD id n) id) (by
  by_cases e:j=id
  ·subst e;simp
  simp_all[gi,bD])
 |(false,id)::r,m,n,j,h=>E3 (kl:=r) (m:=eV id m) (n:=eV id n) (by simp only[eV,h])
variable{r:Rec}
theorem Rec.KJ{f:Fr}{t:Nat}(h:r.o.dst=some t):r.fs f t=r.v:=by unfold Rec.fs;rw[h,ko]
theorem Rec.Pm{f:Fr}{t:Nat}(h:r.o.dst≠some t)(hc:∀id,r.HE id→(f t).has id=false):r.fs f t=f t:=by unfold Rec.fs;rw[fQ h];exact E1 hc
theorem Rec.E4{f g:Fr}{t:Nat}(h:f t=g t):r.fs f t=r.fs g t:=by
 by_cases e:r.o.dst=some t
 ·rw[KJ e,KJ e]
 ·unfold Rec.fs;grind [fQ,AQ]
theorem Rec.aaC{j:Nat}(h:∃b,(j,b)∈r.wr):∃b',(j,b')∈r.wr∧∀m,r.ms m j=some b':=let⟨b',h1,h2⟩:=Uw h;⟨b',h1,fun m=>h2 _⟩
theorem Rec.Ux{m:Mem}{j:Nat}(h:∀b,(j,b)∉r.wr)(hc:∀id,r.HE id→j≠id∧∀b,m j=some b→b.names id=false):r.ms m j=m j:=by unfold Rec.ms;rw[IV h];exact E2 hc
theorem Rec.E5{m n:Mem}{j:Nat}(h:m j=n j):r.ms m j=r.ms n j:=by
 by_cases e:∃b,(j,b)∈r.wr
 ·obtain⟨b,_,e⟩:=Rec.aaC e;rw[e,e]
 ·have e':∀b,(j,b)∉r.wr:=fun b hb=>e ⟨b,hb⟩;unfold Rec.ms;grind [IV,E3]
section
variable {S S':Nat→Bool}
theorem KK{f:Fr}:∀{l l':List Rec},mU f (l++l')=mU (mU f l) l':=by
 intro l;induction l generalizing f with
 |nil=>intro l';rfl
 |cons r l ih=>intro l';exact ih
theorem KL{m:Mem}:∀{l l':List Rec},qK m (l++l')=qK (qK m l) l':=by
 intro l;induction l generalizing m with
 |nil=>intro l';rfl
 |cons r l ih=>intro l';exact ih
theorem xc{f:Fr}:∀{l l':List Rec},pC S f (l++l')=pC S (pC S f l) l':=by
 intro l;induction l generalizing f with
 |nil=>intro l';rfl
 |cons r l ih=>intro l';exact ih
theorem xd{m:Mem}:∀{l l':List Rec},pD S m (l++l')=pD S (pD S m l) l':=by
 intro l;induction l generalizing m with
 |nil=>intro l';rfl
 |cons r l ih=>intro l';exact ih
theorem HF{t:Nat}:∀{l:List Rec}{f:Fr},(∀q∈l,q.o.dst≠some t∧q.kl=[])→mU f l t=f t
 |[],_,_=>rfl
 |r::l,f,h=>by rw[mU,HF fun q hq=>h q (by simp[hq])];obtain⟨h1,h2⟩:=h r (by simp);exact Rec.Pm h1 fun id⟨b,hid⟩=>by rw[h2]at hid;cases hid
theorem qY{t:Nat}:∀{l:List Rec}{f:Fr},(∀q∈l,S q.i=true→q.o.dst≠some t∧∀id,q.HE id→(f t).has id=false)→pC S f l t=f t
 |[],_,_=>rfl
 |r::l,f,h=>by
  have h0:(bif S r.i then r.fs f else f) t=f t:=by
   cases e:S r.i with
   |false=>rfl
   |true=>simp_all[Rec.Pm]
  rw[pC,qY fun q hq hs=>by rw[h0];exact h q (by simp[hq]) hs,h0]
theorem E6{t:Nat}:∀{l:List Rec}{f g:Fr},f t=g t→(∀q∈l,S q.i=false→q.o.dst≠some t∧q.kl=[])→pC S f l t=mU g l t
 |[],_,_,h,_=>h
 |r::l,f,g,h,hs=>by
  rw[pC,mU];refine E6 ?_ fun q hq=>hs q (by simp[hq]);cases e:S r.i with
  |true=>exact Rec.E4 h
  |false=>obtain⟨h1,h2⟩:=hs r (by simp) e;rw[Rec.Pm h1 fun id⟨b,hid⟩=>by rw[h2]at hid;cases hid];exact h
theorem zR{t:Nat}:∀{l:List Rec}{f g:Fr},f t=g t→(∀q∈l,S q.i=S' q.i)→pC S f l t=pC S' g l t
 |[],_,_,h,_=>h
 |r::l,f,g,h,hs=>by
  rw[pC,pC];refine zR ?_ fun q hq=>hs q (by simp[hq]);rw[hs r (by simp)];cases S' r.i
  ·exact h
  ·exact Rec.E4 h
theorem qZ{j:Nat}:∀{l:List Rec}{m:Mem},(∀q∈l,S q.i=true→(∀b,(j,b)∉q.wr)∧∀id,q.HE id→j≠id∧∀b,m j=some b→b.names id=false)→pD S m l j=m j
 |[],_,_=>rfl
 |r::l,m,h=>by
  have h0:(bif S r.i then r.ms m else m) j=m j:=by
   cases e:S r.i with
   |false=>rfl
   |true=>simp_all[Rec.Ux]
  rw[pD,qZ fun q hq hs=>by rw[h0];exact h q (by simp[hq]) hs,h0]
theorem E7{j:Nat}:∀{l:List Rec}{m n:Mem},m j=n j→(∀q∈l,S q.i=false→(∀b,(j,b)∉q.wr)∧q.kl=[])→pD S m l j=qK n l j
 |[],_,_,h,_=>h
 |r::l,m,n,h,hs=>by
  rw[pD,qK];refine E7 ?_ fun q hq=>hs q (by simp[hq]);cases e:S r.i with
  |true=>exact Rec.E5 h
  |false=>obtain⟨h1,h2⟩:=hs r (by simp) e;rw[Rec.Ux h1 fun id⟨b,hid⟩=>by rw[h2]at hid;cases hid];exact h
theorem zS{j:Nat}:∀{l:List Rec}{m n:Mem},m j=n j→(∀q∈l,S q.i=S' q.i)→pD S m l j=pD S' n l j
 |[],_,_,h,_=>h
 |r::l,m,n,h,hs=>by
  rw[pD,pD];refine zS ?_ fun q hq=>hs q (by simp[hq]);rw[hs r (by simp)];cases S' r.i
  ·exact h
  ·exact Rec.E5 h
end
section
variable {E:Env} {ops:Array Oper} {w0:bx}
def HG(E:Env)(ops:Array Oper)(w0:bx)(r:Rec)(f:Fr)(m:Mem):Prop:=∀(f2:Fr)(m2:Mem),(∀t∈r.o.looksAt ops,f2 t=f t)→(∀x∈r.ft,m2 x.2=m x.2)→∀(μ:Ro)(φ:Nat→aA)(a:Act)(w:World)(K:Act→World→Prop)(Q:Exit→Act→World→Prop),Rel E.P E.aG E.fn.ntmps w0 μ φ f2 m2 a w→(∀μ' φ' a' w',Rel E.P E.aG E.fn.ntmps w0 μ' φ' (r.fs f2) (r.ms m2) a' w'→K a' w')→if Region.wanted r.o (yielded ops a.tmps)then∀rd:Option Nat,r.o.wpIn (FR rd) 0 E.P a w K Q else K (a.put r.o.dst undef) w
def fR(E:Env)(ops:Array Oper)(w0:bx):Fr→Mem→List Rec→Prop
 |_,_,[]=>True
 |f,m,r::l=>HG E ops w0 r f m∧(∀id b,(id,b)∈r.wr→(true,id)∈r.ft)∧fR E ops w0 (r.fs f) (r.ms m) l
theorem fR.append{f:Fr}{m:Mem}{l l':List Rec}:fR E ops w0 f m (l++l')↔fR E ops w0 f m l∧fR E ops w0 (mU f l) (qK m l) l':=by
 induction l generalizing f m with
 |nil=>simp[fR,mU,qK]
 |cons r l ih=>simp_all[akO,fR,mU,qK,and_assoc]
def Clean(ops:Array Oper)(id:Nat)(r:Rec)(f:Fr)(m:Mem):Prop:=(∀t∈r.o.looksAt ops,(f t).has id=false)∧r.v.has id=false∧(∀x∈r.ft,x.2≠id∧∀b,m x.2=some b→b.names id=false)∧∀j b,(j,b)∈r.wr→(∀m,r.ms m j=some b)→j≠id∧b.names id=false
def pg(ops:Array Oper):Fr→Mem→List Rec→Prop
 |_,_,[]=>True
 |f,m,r::l=>(∀q∈l,∀id,q.HE id→reach ops 4 q.o r.i=true∨Clean ops id r f m)∧pg ops (r.fs f) (r.ms m) l
theorem pg.append{f:Fr}{m:Mem}{l l':List Rec}(h:pg ops f m (l++l')):pg ops (mU f l) (qK m l) l':=by
 induction l generalizing f m with
 |nil=>exact h
 |cons r l ih=>exact ih h.2
def Ord(ops:Array Oper)(q r:Rec):Prop:=reach ops 4 r.o q.i=true∨(q.o.apart ops r.o=true∧(∀id b,(id,b)∈q.wr→∀x∈r.ft,x.2≠id)∧∀id b,(id,b)∈r.wr→∀x∈q.ft,x.2≠id)
theorem RN{o:Oper}{j:Nat}(h:Ee o j=true):∃e∈o.after,Region.binds .any e=true∧e.on=j:=by unfold Ee at h;obtain⟨e,he,h⟩:=akB.1 h;have he:e∈o.after:=akE.1 he;simp only[OF]at h;grind [Nat.eq_of_beq_eq_true]
abbrev aD(l:Array Bool):Nat→Bool:=fun i=>l.getD i false
def zT(ops:Array Oper)(listed:Array Bool):Prop:=∀i o,ops[i]?=some o→aD listed i=true→∀e∈o.after,Region.binds .any e=true→aD listed e.on=true
theorem rP(listed:Array Bool)(wG:zT ops listed):∀(n:Nat)(o:Oper)(j:Nat),(∀e∈o.after,Region.binds .any e=true→aD listed e.on=true)→reach ops n o j=true→aD listed j=true:=by
 have adW:∀(o:Oper)(j:Nat),(∀e∈o.after,Region.binds .any e=true→aD listed e.on=true)→Ee o j=true→aD listed j=true:=fun o j ho h=>by grind [RN]
 intro n;induction n with
 |zero=>exact fun o j ho h=>adW o j ho h
 |succ n ihn=>
  intro o j ho h;simp only[reach,ajt]at h;rcases h with h|h
  ·exact adW o j ho h
  ·obtain⟨e,he,h⟩:=akB.1 h;simp only[OF]at h;obtain⟨hb,h⟩:=h;have he:e∈o.after:=akE.1 he;split at h
   ·rename_i p hp;exact ihn p j (wG e.on p hp (ho e he hb)) h
   ·cases h
theorem Uy{rd:Option Nat}{recs:List Rec}{f0:Fr}{m0:Mem}{Q:Exit→Act→World→Prop}{base:Nat→Bool}(bT:recs.Pairwise fun q r=>q.i<r.i)(pR:∀r∈recs,ops[r.i]?=some r.o)(aaD:∀r∈recs,base r.i=false)(aaE:∀i o,ops[i]?=some o→base i=false→(∀r∈recs,r.i≠i)→(∀r∈recs,reach ops 8 o r.i=true)∨∃j,reach ops 8 o j=true∧base j=false∧∀r∈recs,r.i≠j)(adX:recs.Pairwise (Ord ops))(Nk:recs.Pairwise fun q r=>q.kl≠[]→reach ops 4 r.o q.i=true)(ahf:pg ops f0 m0 recs)(Uz:∀r∈recs,∀e∈r.o.after,Region.binds .any e=true→e.on<r.i∧(base e.on=true∨∃q∈recs,q.i=e.on))(wZ:fR E ops w0 f0 m0 recs)(hQ:∀(fuel:Nat)(listed:Array Bool),listed.size=ops.size→listed.toList.countP (fun b=> !b)≤fuel→zT ops listed→(∀i,aD listed i=true↔base i=true∨∃r∈recs,r.i=i)→∀μ φ a w,Rel E.P E.aG E.fn.ntmps w0 μ φ (mU f0 recs) (qK m0 recs) a w→wpAnyIn (FR rd) 0 E.P .any ops Q fuel listed a w):∀(fuel:Nat)(listed:Array Bool),listed.size=ops.size→listed.toList.countP (fun b=> !b)≤fuel→zT ops listed→(∀i,base i=true→aD listed i=true)→(∀i,aD listed i=true→base i=true∨∃r∈recs,r.i=i)→∀(μ:Ro)(φ:Nat→aA)(a:Act)(w:World),Rel E.P E.aG E.fn.ntmps w0 μ φ (pC (aD listed) f0 recs) (pD (aD listed) m0 recs) a w→wpAnyIn (FR rd) 0 E.P .any ops Q fuel listed a w:=by
 have done:∀(fuel:Nat)(listed:Array Bool),listed.size=ops.size→listed.toList.countP (fun b=> !b)≤fuel→zT ops listed→(∀i,base i=true→aD listed i=true)→(∀i,aD listed i=true→base i=true∨∃r∈recs,r.i=i)→(∀r∈recs,aD listed r.i=true)→∀(μ:Ro)(φ:Nat→aA)(a:Act)(w:World),Rel E.P E.aG E.fn.ntmps w0 μ φ (pC (aD listed) f0 recs) (pD (aD listed) m0 recs) a w→wpAnyIn (FR rd) 0 E.P .any ops Q fuel listed a w:=by
  intro fuel listed hs hc wG hb ux hl μ φ a w hR;have e1:pC (aD listed) f0 recs=mU f0 recs:=funext fun t=>E6 rfl fun q hq hf=>by rw[hl q hq]at hf;cases hf
  have e2:pD (aD listed) m0 recs=qK m0 recs:=funext fun t=>E7 rfl fun q hq hf=>by rw[hl q hq]at hf;cases hf
  rw[e1,e2]at hR;exact hQ fuel listed hs hc wG (fun i=>⟨ux i,fun h=>h.elim (hb i) fun⟨r,hr,e⟩=>e▸hl r hr⟩) μ φ a w hR
 have Y9:∀(listed:Array Bool),listed.size=ops.size→(∀i,base i=true→aD listed i=true)→(∀r∈recs,r.i∉Region.ready .any ops listed)→∀(n:Nat)(r:Rec),r∈recs→r.i<n→aD listed r.i=true:=by
  intro listed hs hb hr n;induction n with
  |zero=>intro r _ h;omega
  |succ n ih=>
   intro r wF hi;cases hc:aD listed r.i with
   |true=>rfl
   |false=>
    exfalso;have bT:r.i<listed.size:=by rw[hs];exact(abi.1 (pR r wF)).1
    refine hr r wF (mem_ready.2 ⟨by simp only[aD,ajp,IT bT,aka]at hc⊢;exact hc,r.o,pR r wF,fun e he jG=>?_⟩);obtain⟨h1,h2⟩:=Uz r wF e he jG;rcases h2 with h2|⟨q,hq,hqi⟩
    ·exact hb _ h2
    ·have:=ih q hq (by omega);rwa[hqi]at this
 intro fuel;induction fuel with
 |zero=>
  intro listed hs hc wG hb ux μ φ a w hR;refine done 0 listed hs hc wG hb ux (fun r hr=>?_) μ φ a w hR;have bT:r.i<listed.size:=by rw[hs];exact(abi.1 (pR r hr)).1
  have:=alu.1 (Nat.le_zero.1 hc) listed[r.i] (by simp);simp only[aD,ajp,IT bT,aka];simpa using this
 |succ fuel ih=>
  intro listed hs hc wG hb ux μ φ a w hR;by_cases UA:∀r∈recs,aD listed r.i=true
  ·exact done (fuel+1) listed hs hc wG hb ux UA μ φ a w hR
  have adY:∃r∈recs,aD listed r.i=false:=by
   refine aj7 fun cJ=>UA fun r hr=>?_;cases hx:aD listed r.i with
   |true=>rfl
   |false=>exact absurd ⟨r,hr,hx⟩ cJ
  refine⟨fun h0=>absurd (fun r hr=>Y9 listed hs hb (fun r hr h=>by rw[h0]at h;cases h) (r.i+1) r hr (by omega)) UA,fun i hi=>?_⟩;obtain⟨UB,o,ho,E8⟩:=mem_ready.1 hi;have adZ:aD listed i=false:=by
   have bT:i<listed.size:=by rw[hs];exact(abi.1 ho).1
   simp only[aD,ajp,IT bT,aka]at UB⊢;exact UB
  have hex:∃r∈recs,r.i=i∧r.o=o:=by
   refine aj7 fun cJ=>?_;have JS:∀r∈recs,r.i≠i:=fun r hr e=>cJ ⟨r,hr,e,by have:=pR r hr;rw[e,ho]at this;exact(alc this).symm⟩;have hbi:base i=false:=by
    cases hx:base i with
    |false=>rfl
    |true=>rw[hb i hx]at adZ;cases adZ
   rcases aaE i o ho hbi JS with h|⟨j,h1,h2,h3⟩
   ·obtain⟨r,hr,hrl⟩:=adY;rw[rP listed wG 8 o r.i E8 (h r hr)]at hrl;cases hrl
   ·have:=rP listed wG 8 o j E8 h1;rcases ux j this with h|⟨r,hr,e⟩
    ·rw[h]at h2;cases h2
    ·exact h3 r hr e
  obtain⟨r,hr,rfl,rfl⟩:=hex;have UC:r.i<listed.size:=by rw[hs];exact(abi.1 ho).1
  have hSi:aD listed r.i=false:=by simp only[aD,ajp,IT UC,aka]at UB⊢;exact UB
  obtain⟨pre,post,nj⟩:=List.append_of_mem hr;subst nj;have UD:∀q∈pre,Ord ops q r:=fun q hq=>(akm.1 adX).2.2 q hq r (by simp);have Pn:∀q∈post,Ord ops r q:=fun q hq=>(akk.1 (akm.1 adX).2.1).1 q hq;have abI:∀q∈post,q.i≠r.i:=fun q hq=>by have:=(akk.1 (akm.1 bT).2.1).1 q hq;omega
  have ad0:∀q∈pre,q.i≠r.i:=fun q hq=>by have:=(akm.1 bT).2.2 q hq r (by simp);omega
  have ad1:∀q:Rec,reach ops 4 r.o q.i=true→aD listed q.i=true:=fun q h=>rP listed wG 4 r.o q.i E8 h;have Nl:∀q∈post,reach ops 4 q.o r.i=true→aD listed q.i=false:=fun q hq h=>by
   cases hc':aD listed q.i with
   |false=>rfl
   |true=>have:=rP listed wG 4 q.o r.i (wG q.i q.o (pR q (by simp[hq])) hc') h;rw[hSi]at this;cases this
  have aaF:∀(f:Fr),pC (aD listed) f (r::post)=pC (aD listed) f post:=fun f=>by rw[pC,hSi];rfl
  have UE:∀(m:Mem),pD (aD listed) m (r::post)=pD (aD listed) m post:=fun m=>by rw[pD,hSi];rfl
  obtain⟨_,abJ,hrw,_⟩:=fR.append.1 wZ;have hc:=ahf.append.1;have aaG:∀q∈pre,q.kl≠[]→reach ops 4 r.o q.i=true:=fun q hq=>(akm.1 Nk).2.2 q hq r (by simp);have UF:r.kl≠[]→∀q∈post,reach ops 4 q.o r.i=true:=fun h q hq=>(akk.1 (akm.1 Nk).2.1).1 q hq h;unfold wpOpIn;rw[pR r hr];simp only;have hf1:∀t∈r.o.looksAt ops,pC (aD listed) f0 pre t=mU f0 pre t:=fun t ht=>E6 rfl fun q hq hs=>by
   have JS:¬reach ops 4 r.o q.i=true:=fun h=>by rw[ad1 q h]at hs;cases hs
   refine⟨fun hd=>?_,?_⟩
   ·rcases UD q hq with h|⟨h,_⟩
    ·exact JS h
    ·exact absurd ht ((Oper.apart_spec h).1 t hd)
   ·exact aj7 fun cJ=>JS (aaG q hq cJ)
  have hm1:∀x∈r.ft,pD (aD listed) m0 pre x.2=qK m0 pre x.2:=fun x hx=>E7 rfl fun q hq hs=>by
   have JS:¬reach ops 4 r.o q.i=true:=fun h=>by rw[ad1 q h]at hs;cases hs
   refine⟨fun b hb=>?_,?_⟩
   ·rcases UD q hq with h|⟨_,h,_⟩
    ·exact JS h
    ·exact absurd rfl (h _ b hb x hx)
   ·exact aj7 fun cJ=>JS (aaG q hq cJ)
  have Yg:∀q∈post,aD listed q.i=true→¬reach ops 4 q.o r.i=true:=fun q hq hs h=>by rw[Nl q hq h]at hs;cases hs
  have hf2:∀t∈r.o.looksAt ops,pC (aD listed) f0 (pre++r::post) t=mU f0 pre t:=fun t ht=>by
   rw[xc,aaF,qY fun q hq hs=>⟨fun hd=>?_,fun id hid=>?_⟩]
   ·exact hf1 t ht
   ·rcases Pn q hq with h|⟨h,_⟩
    ·exact Yg q hq hs h
    ·exact absurd ht ((Oper.apart_spec h).2.2 t hd)
   ·rw[hf1 t ht];rcases hc q hq id hid with h|h
    ·exact absurd h (Yg q hq hs)
    ·exact h.1 t ht
  have cK:∀x∈r.ft,pD (aD listed) m0 (pre++r::post) x.2=qK m0 pre x.2:=fun x hx=>by
   rw[xd,UE,qZ fun q hq hs=>⟨fun b hb=>?_,fun id hid=>?_⟩]
   ·exact hm1 x hx
   ·rcases Pn q hq with h|⟨_,_,h⟩
    ·exact Yg q hq hs h
    ·exact absurd rfl (h _ b hb x hx)
   ·rw[hm1 x hx];rcases hc q hq id hid with h|h
    ·exact absurd h (Yg q hq hs)
    ·exact h.2.2.1 x hx
  have hwp:=abJ _ _ hf2 cK μ φ a w (wpAnyIn (FR rd) 0 E.P .any ops Q fuel (listed.setIfInBounds r.i true)) Q hR fun μ' φ' a' w' j6=>by
   have hS':∀j,aD (listed.setIfInBounds r.i true) j=if j=r.i then true else aD listed j:=fun j=>by
    simp only[aD,ajp,akx];by_cases e:r.i=j
    ·subst e;simp[UC]
    ·have e':¬j=r.i:=fun h=>e h.symm;simp[e,e']
   refine ih (listed.setIfInBounds r.i true) (by simp[hs]) ?_ ?_ ?_ ?_ μ' φ' a' w' ?_
   ·rw[alx,List.countP_set (by simpa using UC)];have:listed.toList[r.i]'(by simpa using UC)=false:=by simp only[aD,ajp,IT UC,aka]at hSi;simpa using hSi
    rw[this];simp only[ajC,IS,aji,cQ,S3];omega
   ·intro i' o' UG qH e he Mz;rw[hS']at qH⊢;split
    ·rfl
    ·split at qH
     ·rename_i hqi;subst hqi;have:o'=r.o:=by rw[pR r hr]at UG;exact(alc UG).symm
      subst this;exact E8 e he Mz
     ·exact wG i' o' UG qH e he Mz
   ·intro i' qH;rw[hS'];split
    ·rfl
    ·exact hb i' qH
   ·intro i' qH;rw[hS']at qH;split at qH
    ·rename_i hqi;exact Or.inr ⟨r,hr,hqi.symm⟩
    ·exact ux i' qH
   ·have aaH:∀q∈pre,aD (listed.setIfInBounds r.i true) q.i=aD listed q.i:=fun q hq=>by rw[hS',No (ad0 q hq)]
    have xe:∀q∈post,aD (listed.setIfInBounds r.i true) q.i=aD listed q.i:=fun q hq=>by rw[hS',No (abI q hq)]
    have hSr:aD (listed.setIfInBounds r.i true) r.i=true:=by rw[hS',GW rfl]
    have e1:pC (aD (listed.setIfInBounds r.i true)) f0 (pre++r::post)=r.fs (pC (aD listed) f0 (pre++r::post)):=funext fun t=>by
     have hg:pC (aD (listed.setIfInBounds r.i true)) f0 pre=pC (aD listed) f0 pre:=funext fun s=>zR rfl aaH;rw[xc,xc,aaF,pC,hSr,hg];simp only[cond];by_cases hk:r.kl=[]
     ·by_cases hd:r.o.dst=some t
      ·rw[Rec.KJ hd,qY fun q hq hs=>⟨fun hqd=>?_,fun id hid=>?_⟩,Rec.KJ hd]
       ·rw[xe q hq]at hs;rcases Pn q hq with h|⟨h,_⟩
        ·exact Yg q hq hs h
        ·exact absurd hqd ((Oper.apart_spec h).2.1 t hd)
       ·rw[xe q hq]at hs;rw[Rec.KJ hd];rcases hc q hq id hid with h|h
        ·exact absurd h (Yg q hq hs)
        ·exact h.2.1
      ·have DS:∀(g:Fr),r.fs g t=g t:=fun g=>Rec.Pm hd fun id⟨b,hid⟩=>by rw[hk]at hid;cases hid
       rw[DS];exact zR (DS _) xe
     ·have UB:∀q∈post,aD listed q.i=false:=fun q hq=>Nl q hq (UF hk q hq);rw[qY fun q hq hs=>by rw[xe q hq,UB q hq]at hs;cases hs];exact Rec.E4 (qY fun q hq hs=>by rw[UB q hq]at hs;cases hs).symm
    have e2:pD (aD (listed.setIfInBounds r.i true)) m0 (pre++r::post)=r.ms (pD (aD listed) m0 (pre++r::post)):=funext fun j=>by
     have hg:pD (aD (listed.setIfInBounds r.i true)) m0 pre=pD (aD listed) m0 pre:=funext fun s=>zS rfl aaH;rw[xd,xd,UE,pD,hSr,hg];simp only[cond];by_cases hk:r.kl=[]
     ·by_cases hd:∃b,(j,b)∈r.wr
      ·obtain⟨b,hd,wH⟩:=Rec.aaC hd;rw[wH,qZ fun q hq hs=>⟨fun b' hqd=>?_,fun id hid=>?_⟩,wH]
       ·rw[xe q hq]at hs;rcases Pn q hq with h|⟨_,_,h⟩
        ·exact Yg q hq hs h
        ·exact absurd rfl (h j b' hqd (true,j) (hrw j b hd))
       ·rw[xe q hq]at hs;rcases hc q hq id hid with h|h
        ·exact absurd h (Yg q hq hs)
        ·obtain⟨h1,h2⟩:=h.2.2.2 j b hd wH;refine⟨h1,fun b' jG=>?_⟩;rw[wH]at jG;cases jG;exact h2
      ·have hd':∀b,(j,b)∉r.wr:=fun b hb=>hd ⟨b,hb⟩;have DS:∀(g:Mem),r.ms g j=g j:=fun g=>Rec.Ux hd' fun id⟨b,hid⟩=>by rw[hk]at hid;cases hid
       rw[DS];exact zS (DS _) xe
     ·have UB:∀q∈post,aD listed q.i=false:=fun q hq=>Nl q hq (UF hk q hq);rw[qZ fun q hq hs=>by rw[xe q hq,UB q hq]at hs;cases hs];exact Rec.E5 (qZ fun q hq hs=>by rw[UB q hq]at hs;cases hs).symm
    rw[e1,e2];exact j6
  split
  ·rename_i hw;rw[GW hw]at hwp;exact hwp rd
  ·rename_i hw;rw[No hw]at hwp;exact⟨fun _ _=>trivial,hwp⟩
end
section
variable {E:Env} {ops:Array Oper} {w0:bx}
variable{o:Oper}
theorem RO{t:Nat}(h:.tmp t∈o.op.operands):t∈o.looksAt ops:=by unfold Oper.looksAt;refine ajA.2 (.inl (List.mem_filterMap.2 ⟨.tmp t,by simpa using h,rfl⟩))
theorem xf{g:Nat×Bool}{t:Nat}(hg:o.guard=some g)(h:(ops[g.1]?).bind (·.dst)=some t):t∈o.looksAt ops:=by simp_all[Oper.looksAt]
variable{f F:Fr}
theorem yH(h:∀t∈o.looksAt ops,f t=F t):∀x∈o.op.operands,bC E f x=bC E F x:=by
 intro x hx;cases x with
 |tmp t=>simp_all[bC,RO]
 |_=>rfl
variable{A:List (Nat×Bool)}{φ:Nat→aA}{a:Act}{w:World}
theorem KM{f2:Fr}{m2:Mem}{μ:Ro}(hg:guardOf o A=none)(hA:rM E.fn.ntmps ops A f)(hR:Rel E.P E.aG E.fn.ntmps w0 μ φ f2 m2 a w)(hf:∀t∈o.looksAt ops,f2 t=f t):Region.wanted o (yielded ops a.tmps)=true:=by
 unfold guardOf at hg;unfold Region.wanted;split at hg
 ·rename_i hgd;simp[hgd]
 ·rename_i g hgd;split at hg
  ·rename_i bX;obtain⟨t,h1,h0,h2⟩:=hA g (by simpa using bX);have h3:=hR.fr t;grind [rn,xf,vn,rK]
  ·cases hg
variable{i:Nat}{ft:bq}{m:Mem}
theorem E9(hE:ke E){v:V}{wr:List (Nat×bH)}(hg:guardOf o A=none)(hA:rM E.fn.ntmps ops A f)(hd:wN E o=true)(hn:∀(f2:Fr)(m2:Mem),(∀x∈o.op.operands,bC E f2 x=bC E f x)→(∀x∈ft,m2 x.2=m x.2)→∀(R':Type)(k':V→Fr→Mem→bq→Option R'),Kf E true (cu E o.dst) o f2 m2 k'=k' v f2 (ue wr m2) ft):HG E ops w0 ⟨i,o,v,wr,ft,[]⟩ f m:=by
 intro f2 m2 hf hm μ φ a w K Q hR hK;have hw:Region.wanted o (yielded ops a.tmps)=true:=by
  unfold guardOf at hg;unfold Region.wanted;split at hg
  ·rename_i hgd;simp[hgd]
  ·rename_i g hgd;split at hg
   ·rename_i bX;obtain⟨t,h1,h0,h2⟩:=hA g (by simpa using bX);have h3:=hR.fr t;grind [rn,xf,vn,rK]
   ·cases hg
 simp only at hf hm hK⊢;rw[GW hw];exact fun rd=>(aaz hE (.inl rfl) (hn f2 m2 (yH hf) hm)).zP (Cd (hn f2 m2 (yH hf) hm Unit fun _ _ _ _=>some ())) rd w0 μ φ a w K Q hR fun y w' μ' φ' hle hM hF hv hl=>hK _ _ _ _ (hR.put hle (ju hd) hM hF hv hl)
theorem Nn(hd:wN E o=true)(EZ:RJ ops f o):HG E ops w0 ⟨i,o,.aP [],[],[],[]⟩ f m:=by
 intro f2 m2 hf hm μ φ a w K Q hR hK;simp only at hf hm hK⊢;have abK:RJ ops f2 o:=by obtain⟨g,hg,ht⟩:=EZ;exact⟨g,hg,fun t h=>by simp_all[xf]⟩
 rw[zn hR abK];simp only[cQ,S3];exact hK _ _ _ _ (hR.put (fun _ _ h=>h) (ju hd) hR.toav hR.kO EX (fun id hid=>by simp[V.has,b8]at hid))
def AR(x:Nat×Oper):Rec:=⟨x.1,x.2,.aP [],[],[],[]⟩
theorem HH{m:Mem}:∀(l:List (Nat×Oper))(F:Fr),(∀x∈l,wN E x.2=true)→(∀(pre post:List (Nat×Oper))(x:Nat×Oper),l=pre++x::post→RJ ops (iW F pre) x.2)→fR E ops w0 F m (l.map AR)∧mU F (l.map AR)=iW F l
 |[],F,_,_=>⟨trivial,rfl⟩
 |x::r,F,hd,EZ=>by obtain⟨h1,h2⟩:=HH (m:=m) r (jt F x.2.dst (.aP [])) (fun y hy=>hd y (by simp[hy])) (fun pre post y h=>by have:=EZ (x::pre) post y (by rw[h];rfl);rwa[iW]at this);exact⟨⟨Nn (hd x (by simp)) (EZ [] r x rfl),by simp[AR],h1⟩,h2⟩
theorem HI{m:Mem}:∀{l:List Rec},(∀q∈l,q.wr=[]∧q.kl=[])→qK m l=m
 |[],_=>rfl
 |r::l,h=>by
  obtain⟨h1,h2⟩:=h r (by simp);have:r.ms m=m:=by unfold Rec.ms;rw[h1,h2];rfl
  simp_all[qK,HI]
theorem fR.wr:∀{l:List Rec}{f:Fr}{m:Mem},fR E ops w0 f m l→∀q∈l,∀id b,(id,b)∈q.wr→(true,id)∈q.ft
 |[],_,_,_,q,hq=>by cases hq
 |r::l,f,m,h,q,hq=>by
  rcases aih.1 hq with rfl|hq
  ·exact h.2.1
  ·exact fR.wr h.2.2 q hq
def UH(q r:Rec):Prop:=reach ops 4 r.o q.i=true∨((∀id b,(id,b)∈q.wr→∀x∈r.ft,x.2≠id)∧∀id b,(id,b)∈r.wr→∀x∈q.ft,x.2≠id)
theorem KN{o:Oper}{w:Bool}{id:Nat}:∀{lg:Log},OY ops o w id lg=true→∀x∈lg,id≠x.2.2∨(w=false∧x.2.1=false)∨reach ops 4 o x.1=true
 |[],_,x,hx=>by cases hx
 |(j,w',sI)::lg,h,x,hx=>by
  simp only[OY,OF]at h;rcases aih.1 hx with rfl|hx
  ·have h1:=h.1;simp only[ajt,ajN,OF]at h1;grind [Nat.beq_refl]
  ·exact KN h.2 x hx
theorem Cg{o:Oper}{lg:Log}:∀{ft:bq},B1 ops o lg ft=true→∀y∈ft,∀x∈lg,y.2≠x.2.2∨(y.1=false∧x.2.1=false)∨reach ops 4 o x.1=true
 |[],_,y,hy=>by cases hy
 |(w,id)::ft,h,y,hy=>by
  simp only[B1,OF]at h;rcases aih.1 hy with rfl|hy
  ·exact KN h.1
  ·exact Cg h.2 y hy
theorem Fa{o:Oper}{id:Nat}:∀{lg:Log},DL ops o id lg=true→∀x∈lg,x.2.2=yn id→reach ops 4 o x.1=true
 |[],_,x,hx=>by cases hx
 |(j,w,n)::lg,h,x,hx=>by
  simp only[DL,OF,ajt,ajN]at h;intro he;rcases aih.1 hx with rfl|hx
  ·simp_all
  ·exact Fa h.2 x hx he
mutual
theorem Po{id:Nat}:∀(v:V),v.has id=true→id∈v.ids
 |.agg cs,h=>uD cs (by simpa only[V.has]using h)
 |.aP cs,h=>uD cs (by simpa only[V.has]using h)
 |.fn _ cs,h=>uD cs (by simpa only[V.has]using h)
 |.os j,h=>by have:=AI h;subst this;simp[V.ids]
 |.fL j _ _,h=>by have:=AI h;subst this;simp[V.ids]
 |.oe j _ _,h=>by have:=AI h;subst this;simp[V.ids]
 |.om j,h=>by have:=AI h;subst this;simp[V.ids]
 |.wI j _ _,h=>by have:=AI h;subst this;simp[V.ids]
 |.Ar j _ _ _ _ _,h=>by have:=AI h;subst this;simp[V.ids]
 |.op j _,h=>by have:=AI h;subst this;simp[V.ids]
 |.it j,h=>by have:=AI h;subst this;simp[V.ids]
 |.yl j,h=>by have:=AI h;subst this;simp[V.ids]
 |.pv _,h=>by cases h
 |.iq,h=>by cases h
 |.top,h=>by cases h
theorem uD{id:Nat}:∀(cs:List V),b8 id cs=true→id∈Kg cs
 |[],h=>by cases h
 |v::r,h=>by
  simp only[b8,ajt]at h;simp only[Kg,ajA];rcases h with h|h
  ·exact .inl (Po v h)
  ·exact .inr (uD r h)
end
variable{id:Nat}
theorem AS{b:bH}(h:b.names id=true):id∈Ef (some b):=by
 cases b with
 |box cs=>exact uD cs h
 |_=>cases h
theorem zU{m m':Mem}{id:Nat}:∀{ft:bq}{x:Bool×Nat},x∈ft→(id∈Ef (m x.2)∨id∈Ef (m' x.2))→id∈Iw m m' ft
 |y::ft,x,hx,h=>by
  simp only[Iw,ajA];rcases aih.1 hx with rfl|hx
  ·exact .inl h
  ·exact .inr (zU hx h)
theorem UI{v:V}{wr:List (Nat×bH)}(KO:∀t∈o.looksAt ops,f t=F t)(hwr:∀j b,(j,b)∈wr→(true,j)∈ft)(hn:id∉DK ops o f m (ue wr m) v ft)(hft:∀x∈ft,x.2≠id):Clean ops id ⟨i,o,v,wr,ft,[]⟩ F m:=by
 simp only[DK,ajA,ami]at hn;obtain⟨⟨h1,h2⟩,h3⟩:=hn;refine⟨fun t ht=>?_,?_,fun x hx=>⟨hft x hx,fun b hb=>?_⟩,fun j b hb wH=>⟨hft _ (hwr j b hb),?_⟩⟩
 ·cases e:(F t).has id with
  |false=>rfl
  |true=>exact absurd (uD _ (cy.2 ⟨f t,ajy.2 ⟨t,ht,rfl⟩,by rw[KO t ht];omega⟩)) h1
 ·cases e:v.has id with
  |false=>rfl
  |true=>exact absurd (Po _ e) h2
 ·cases e:b.names id with
  |false=>rfl
  |true=>grind [absurd,zU,AS]
 ·cases e:b.names id with
  |false=>rfl
  |true=>exact absurd (zU (hwr j b hb) (.inr (by have jG:ue wr m j=some b:=wH m;simp_all[AS]))) h3
variable{R:Type}
theorem Np{site:Nat}{rd:bq}(h:va E f m o=some (id,rd)){k:V→Fr→Mem→bq→Option R}{r:R}(hx:cr E false site o f m k=some r):(∀x∈rd,x.1=false)∧∃dx,k (.os id) (eN id f) (ao (bg (bD id m) id) id dx) [(true,0)]=some r∧∀(f2:Fr)(m2:Mem),(∀x∈o.op.operands,bC E f2 x=bC E f x)→(∀x∈(true,id)::rd,m2 x.2=m x.2)→∀(R':Type)(k':V→Fr→Mem→bq→Option R'),cr E false site o f2 m2 k'=k' (.os id) (eN id f2) (ao (bg (bD id m2) id) id dx) [(true,0)]:=by
 obtain⟨dst,op,type,pos,after,guard⟩:=o;unfold va at h;simp only at h;split at h
 ·rename_i c;obtain⟨callee,args,argTypes⟩:=c;simp only at h;split at h
  ·rename_i sI x t t' rJ Y0;split at h
   ·rename_i e hu;split at h
    ·rename_i new rd' Ht;split at h
     ·cases h
     ·rename_i hxh;simp only[cN,aab]at h;obtain⟨rfl,rfl⟩:=h;obtain⟨he1,he2,_⟩:=oE Ht;have ai6:∀m2:Mem,bg (bD sI m2) sI sI=none:=fun m2=>by simp_all
      have main:∀(f2:Fr)(m2:Mem),args.toList.map (bC E f2)=[.os sI,x]→m2 sI=m sI→fl m2 (aO E.P e) x=some (new,rd')→∀(R':Type)(k':V→Fr→Mem→bq→Option R'),cr E false site ⟨dst,.call ⟨.builtin .append,args,argTypes⟩,type,pos,after,guard⟩ f2 m2 k'=if !(decide (t'=t))then none else if(cY E e).isNone then none else match m sI with
       |some (.arr sz et es)=>if et=e∧sz=aO E.P e∧x.has sI=false then(if(es++new).length*Gt E.P e≤ah∧0<Gt E.P e then k' (.os sI) (eN sI f2) (ao (bg (bD sI m2) sI) sI (.arr sz e (es++new))) [(true,0)]else none)else none
       |_=>none:=by
       intro f2 m2 h1 h2 h3 R' k'
       simp only[cr,h1,Y0,Ax,akr,hu,h3,h2]
       split
       ·rfl
       ·split
        ·rfl
        ·split
         ·simp_all[fresh]
         simp
      rw[main f m rJ rfl Ht]at hx;refine⟨he2,?_⟩;split at hx
      ·cases hx
      ·rename_i hc1;split at hx
       ·cases hx
       ·rename_i Tm;split at hx
        ·rename_i sz et es hm;split at hx
         ·rename_i hc3;split at hx
          ·rename_i hc4;refine⟨_,hx,fun f2 m2 hf cK R' k'=>?_⟩;have ha:args.toList.map (bC E f2)=[.os sI,x]:=by grind [pf,Op.operands,Call.operands]
           rw[main f2 m2 ha (cK (true,sI) (by simp)) (he1 m2 fun y hy=>cK y (by simp[hy])) R' k'];simp_all
          ·cases hx
         ·cases hx
        ·cases hx
    ·cases h
   ·cases h
  ·cases h
 ·cases h
theorem we.kill(h:we f F)(id:Nat):we (eN id f) (eN id F):=fun t=>by
 rcases h t with e|e
 ·exact .inl (by simp only[eN,e])
 ·exact .inr (by simp only[eN,e];rfl)
theorem rM.kill{nt:Nat}(h:rM nt ops A f)(id:Nat):rM nt ops A (eN id f):=by intro g hg;obtain⟨t,h1,h0,h2⟩:=h g hg;exact⟨t,h1,h0,by simp only[eN,h2];rfl⟩
theorem UJ{x:Nat×bq}(h:va E f m o=some x):isApp E o=true:=by
 obtain⟨dst,op,type,pos,after,guard⟩:=o;unfold va at h;simp only at h;unfold isApp;split at h
 ·rename_i c;obtain⟨callee,args,argTypes⟩:=c;grind
 ·cases h
theorem IX{rd:bq}(h:va E f m o=some (id,rd)):∃c x t t',o.op=.call c∧c.callee=.builtin .append∧c.args.toList.map (bC E f)=[.os id,x]∧c.argTypes.toList=[t,t']:=by unfold va at h;grind
theorem RP{kl:Kl}(h:Ix E f m o=some (kl,ft)){k:V→Fr→Mem→bq→Option R}{r:R}(hx:Kf E false (cu E o.dst) o f m k=some r):isApp E o=true∧∃v wr ft1,k v (kf kl f) (ue wr (km kl m)) ft1=some r∧(∀x∈wr,(true,x.1)∈ft)∧(∀x∈kl,(true,x.2)∈ft)∧∀(f2:Fr)(m2:Mem),(∀x∈o.op.operands,bC E f2 x=bC E f x)→(∀x∈ft,m2 x.2=m x.2)→∀(R':Type)(k':V→Fr→Mem→bq→Option R'),Kf E false (cu E o.dst) o f2 m2 k'=k' v (kf kl f2) (ue wr (km kl m2)) ft1:=by
 unfold Ix at h;unfold Kf at hx;split at h
 ·rename_i sp yB;simp only[cN]at h;have hn:E.DJ (cu E o.dst)=true:=by grind
  rw[hn]at yB hx;simp only[cond]at yB hx;rw[yB]at hx;obtain⟨v,wr,h1,h2,h3,h4,_,_⟩:=Nh yB hx;rw[h]at h1 h2 h3 h4;refine⟨by unfold isApp;rw[hn];rfl,v,wr,ft,h1,h2,h3,fun f2 m2 hf hm R' k'=>?_⟩;have:=Nf yB hf (by rw[h];exact hm);simp_all[Kf,cond]
 ·rename_i yB;split at h
  ·rename_i id rd UK;simp only[cN,aab]at h;obtain⟨rfl,rfl⟩:=h;have e0:(bif false then none else bif E.DJ (cu E o.dst)then zB E (cu E o.dst) o f m else none)=(bif E.DJ (cu E o.dst)then zB E (cu E o.dst) o f m else none):=rfl;rw[e0,yB]at hx;simp only at hx;obtain⟨pB,dx,hk,hn⟩:=Np UK hx;refine⟨UJ UK,.os id,[(id,dx)],[(true,0)],hk,by simp,by simp,fun f2 m2 hf hm R' k'=>?_⟩;have UL:(bif E.DJ (cu E o.dst)then zB E (cu E o.dst) o f2 m2 else none)=none:=by
    cases Ks:E.DJ (cu E o.dst)with
    |false=>rfl
    |true=>
     simp only[cond];obtain⟨c,x,t,t',hc,ad2,rJ,Y6⟩:=IX UK;have ahg:c.args.toList.map (bC E f2)=[.os id,x]:=by simp_all[ajJ,Op.operands,Call.operands]
     have cK:m2 id=m id:=hm (true,id) (by simp);have hm3:∃sz et es,m id=some (.arr sz et es):=by obtain⟨dst,op,type,pos,after,guard⟩:=o;simp only at hc;subst hc;obtain⟨callee,args,argTypes⟩:=c;simp only at ad2 rJ Y6;subst ad2;simp only[cr,rJ,Y6,Ax,akr]at hx;grind
     obtain⟨sz,et,es,hm3⟩:=hm3;unfold zB;simp_all
   unfold Kf;have e1:(bif false then none else bif E.DJ (cu E o.dst)then zB E (cu E o.dst) o f2 m2 else none)=(bif E.DJ (cu E o.dst)then zB E (cu E o.dst) o f2 m2 else none):=rfl;rw[e1,UL];exact hn f2 m2 hf hm R' k'
  ·cases h
theorem we.zb(h:we f F)(id:Nat):we (ir id f) (ir id F):=fun t=>by
 rcases h t with e|e
 ·simp_all[ir]
 ·exact .inr (by simp only[ir,e];rfl)
theorem we.kf:∀{kl:Kl}{f F:Fr},we f F→we (Go.Ab.kf kl f) (Go.Ab.kf kl F)
 |[],_,_,h=>h
 |(true,id)::r,f,F,h=>we.kf (kl:=r) (f:=eN id f) (F:=eN id F) (h.kill id)
 |(false,id)::r,f,F,h=>we.kf (kl:=r) (f:=ir id f) (F:=ir id F) (h.zb id)
theorem rM.zb{nt:Nat}(h:rM nt ops A f)(id:Nat):rM nt ops A (ir id f):=by intro g hg;obtain⟨t,h1,h0,h2⟩:=h g hg;exact⟨t,h1,h0,by simp only[ir,h2];rfl⟩
theorem rM.kf{nt:Nat}{A:List (Nat×Bool)}:∀{kl:Kl}{f:Fr},rM nt ops A f→rM nt ops A (Go.Ab.kf kl f)
 |[],_,h=>h
 |(true,id)::r,f,h=>rM.kf (kl:=r) (f:=eN id f) (h.kill id)
 |(false,id)::r,f,h=>rM.kf (kl:=r) (f:=ir id f) (h.zb id)
theorem RQ(hE:ke E)(hY:uq E.P E.aG E.fn.ntmps E.yl w0){v:V}{wr:List (Nat×bH)}{kl:Kl}{ft1:bq}(hg:guardOf o A=none)(hA:rM E.fn.ntmps ops A F)(hd:wN E o=true)(RM:∀x∈o.op.operands,bC E f x=bC E F x)(hn:∀(f2:Fr)(m2:Mem),(∀x∈o.op.operands,bC E f2 x=bC E f x)→(∀x∈ft,m2 x.2=m x.2)→∀(R':Type)(k':V→Fr→Mem→bq→Option R'),Kf E false (cu E o.dst) o f2 m2 k'=k' v (kf kl f2) (ue wr (km kl m2)) ft1):HG E ops w0 ⟨i,o,v,wr,ft,kl⟩ F m:=by
 intro f2 m2 hf hm μ φ a w K Q hR hK;have hw:Region.wanted o (yielded ops a.tmps)=true:=KM hg hA hR hf;simp only at hf hm hK⊢;rw[GW hw];have hx:=hn f2 m2 (fun x hx=>by rw[yH hf x hx,RM x hx]) hm (V×Fr×Mem) fun v f m _=>some (v,f,m);rcases IU hE hx with⟨v,f',m',ft,h1,h2⟩|⟨_,h2⟩
 ·simp only[cN,aab]at h1;obtain⟨rfl,rfl,rfl⟩:=h1;exact fun rd=>h2.zP (Cd hx) rd w0 μ φ a w K Q hR fun y w' μ' φ' hle hM hF hv hl=>hK _ _ _ _ (hR.put hle (ju hd) hM hF hv hl)
 ·refine fun rd=>EU.zP h2 rd w0 μ φ a w K Q hY hR fun v f' m' y w' μ' φ' h1 hle hM hF hv hl=>?_;simp only[cN,aab]at h1;obtain⟨rfl,rfl,rfl⟩:=h1;exact hK _ _ _ _ (hR.put hle (ju hd) hM hF hv hl)
structure IY(ops:Array Oper)(mode:Nat)(F:Fr)(m:Mem)(lg:Log)(recs:List Rec):Prop where
 one:mode=1→∀q∈recs,q.wr=[]∧q.kl=[]
 ord:mode=2→recs.Pairwise (UH (ops:=ops))
 log:mode=2→∀q∈recs,∀y∈q.ft,∀x∈lg,y.2≠x.2.2∨(y.1=false∧x.2.1=false)∨reach ops 4 q.o x.1=true
 kl:recs.Pairwise fun q r=>q.kl≠[]→reach ops 4 r.o q.i=true
 cln:pg ops F m recs
 nam:∀q∈recs,∀id,q.HE id→mode=2∧ops.toList.any (isApp E)=true∧(true,id)∈q.ft∧∀x∈lg,x.2.2=yn id→reach ops 4 q.o x.1=true
theorem pg.none:∀{l:List Rec}{f:Fr}{m:Mem},(∀q∈l,q.kl=[])→pg ops f m l
 |[],_,_,_=>trivial
 |r::l,f,m,h=>⟨fun q hq id⟨b,hid⟩=>(by simp_all),pg.none fun q hq=>h q (by simp[hq])⟩
theorem nk(hE:ke E)(hY:uq E.P E.aG E.fn.ntmps E.yl w0){mode:Nat}(mP:mode=1∨mode=2):∀(fuel:Nat){R:Type}{A:List (Nat×Bool)}{l:List (Nat×Oper)}{f:Fr}{m:Mem}{lg:Log}{k:Fr→Mem→Option R}{r:R},bZ E ops mode fuel R A l f m lg k=some r→(∀x∈l,ops[x.1]?=some x.2)→(mode=1→∀x∈l,fe x.2=true)→abH ops A l→∀F:Fr,we f F→rM E.fn.ntmps ops A F→(∀x∈l,∀t∈x.2.looksAt ops,f t=F t)→∃(recs:List Rec)(f':Fr),k f' (qK m recs)=some r∧we f' (mU F recs)∧recs.map (fun r=>(r.i,r.o))=l∧fR E ops w0 F m recs∧IY (E:=E) ops mode F m lg recs
 |0,_,_,_,_,_,_,_,_,h,_,_,_,_,_,_,_=>by simp[bZ]at h
 |fuel+1,R,A,[],f,m,lg,k,r,h,_,_,_,F,hF,_,_=>by simp only[bZ]at h;exact⟨[],f,h,hF,rfl,trivial,by simp,fun _=>.nil,by simp,.nil,trivial,by simp⟩
 |fuel+1,R,A,(i,o)::rest,f,m,lg,k,r,h,hl,Ts,E0,F,hF,hA,KO=>by
  have hm1:(Nat.beq mode 1||Nat.beq mode 2)=true:=by simp_all
  simp only[bZ,hm1]at h;split at h
  ·rename_i hg;split at h
   ·rename_i hd;have ad3:∀x∈o.op.operands,bC E f x=bC E F x:=yH (KO (i,o) (by simp));split at h
    ·rename_i kl ft yB;have abL:mode=2:=by
      rcases mP with rfl|rfl
      ·cases yB
      rfl
     subst abL;have yB:Ix E f m o=some (kl,ft):=yB;split at h
     ·rename_i O4;simp only[OF,ajO]at O4;obtain⟨⟨ahh,ahi⟩,ahj⟩:=O4;obtain⟨UK,v,wr,ft1,hk,hwr,Nk,hn⟩:=RP yB h;obtain⟨recs,f',c1,c2,c3,c4,c5⟩:=nk hE hY (.inr rfl) fuel hk (fun x hx=>hl x (by simp[hx])) (fun hm=>by omega) (fun x hx=>E0 x (by simp[hx])) (jt (kf kl F) o.dst v) ((we.kf (kl:=kl) hF).put _ _) (rM.put (rM.kf (kl:=kl) hA) fun g qX t ht=>E0 (i,o) (by simp) g qX t ht) (fun x hx t ht=>by
       by_cases e:o.dst=some t
       ·rw[e,ko,ko]
       grind [fQ,AQ])
      have pR:∀q∈recs,reach ops 4 q.o i=true:=fun q hq=>ahj (q.i,q.o) (by grind);have ahk:ops.toList.any (isApp E)=true:=akB.2 ⟨o,agx (by rw[ajR];exact hl (i,o) (by simp)),UK⟩;refine⟨⟨i,o,v,wr,ft,kl⟩::recs,f',c1,c2,by simp[c3],⟨RQ hE hY hg hA hd ad3 hn,fun j b hb=>hwr _ hb,c4⟩,?_⟩;refine⟨fun hm=>(by omega),fun hm=>akk.2 ⟨fun q hq=>.inl (pR q hq),c5.ord hm⟩,fun hm q hq=>?_,akk.2 ⟨fun q hq _=>pR q hq,c5.kl⟩,⟨fun q hq sI _=>.inl (pR q hq),c5.cln⟩,fun q hq sI hid=>?_⟩
      ·rcases aih.1 hq with rfl|hq
       ·exact Cg ahh
       ·exact fun y hy x hx=>c5.log hm q hq y hy x (ajA.2 (.inr hx))
      ·rcases aih.1 hq with rfl|hq
       ·obtain⟨bb,hid⟩:=hid;exact⟨rfl,ahk,Nk _ hid,Fa (ahi _ hid)⟩
       ·obtain⟨g1,g2,g3,g4⟩:=c5.nam q hq sI hid;exact⟨g1,g2,g3,fun x hx=>g4 x (ajA.2 (.inr hx))⟩
     ·cases h
    ·rcases IU hE h with⟨v,f1,m1,ft,hk,RM⟩|⟨zj,_⟩
     rotate_left
     ·cases zj
     obtain⟨hf1,wr,ad4,hwr,hn⟩:=RM.drawn rfl;subst hf1;have Yi:∀(f2:Fr)(m2:Mem),(∀x∈o.op.operands,bC E f2 x=bC E F x)→(∀x∈ft,m2 x.2=m x.2)→∀(R':Type)(k':V→Fr→Mem→bq→Option R'),Kf E true (cu E o.dst) o f2 m2 k'=k' v f2 (ue wr m2) ft:=fun f2 m2 hf=>hn f2 m2 fun x hx=>by rw[hf x hx,ad3 x hx]
     have step:∀(wr':List (Nat×bH))(lg':Log),ue wr' m=m1→(mode=1→wr'=[])→(∀id b,(id,b)∈wr'→(true,id)∈ft)→HG E ops w0 ⟨i,o,v,wr',ft,[]⟩ F m→bZ E ops mode fuel R A rest (jt f1 o.dst v) m1 lg' k=some r→(mode=2→lg'=(bif ops.toList.any (isApp E)then(DK ops o f1 m m1 v ft).map (fun n=>(i,false,yn n))else[])++(ft.map (fun x=>(i,x))++lg)∧B1 ops o lg ft=true)→∃(recs:List Rec)(f':Fr),k f' (qK m recs)=some r∧we f' (mU F recs)∧recs.map (fun r=>(r.i,r.o))=(i,o)::rest∧fR E ops w0 F m recs∧IY (E:=E) ops mode F m lg recs:=by
      intro wr' lg' hwm M5 hw2 abJ Y8 Yo;obtain⟨recs,f',c1,c2,c3,c4,c5⟩:=nk hE hY mP fuel Y8 (fun x hx=>hl x (by simp[hx])) (fun hm x hx=>Ts hm x (by simp[hx])) (fun x hx=>E0 x (by simp[hx])) (jt F o.dst v) (hF.put _ _) (rM.put hA fun g qX t ht=>E0 (i,o) (by simp) g qX t ht) (fun x hx t ht=>by
       by_cases e:o.dst=some t
       ·rw[e,ko,ko]
       grind [fQ])
      subst hwm;refine⟨⟨i,o,v,wr',ft,[]⟩::recs,f',c1,c2,by simp[c3],⟨abJ,hw2,c4⟩,?_⟩;have ad5:mode=2→∀x∈lg,x∈lg':=fun hm x hx=>by simp_all
      have aaI:mode=2→∀x∈ft,(i,x)∈lg':=fun hm x hx=>by simp_all
      refine⟨fun hm q hq=>?_,fun hm=>akk.2 ⟨fun q hq=>?_,c5.ord hm⟩,fun hm q hq=>?_,akk.2 ⟨fun q hq h=>absurd rfl h,c5.kl⟩,⟨fun q hq id hid=>?_,c5.cln⟩,fun q hq id hid=>?_⟩
      ·rcases aih.1 hq with rfl|hq
       ·exact⟨M5 hm,rfl⟩
       ·exact c5.one hm q hq
      ·have d2:=c5.log hm;by_cases he:reach ops 4 q.o i=true
       ·exact .inl he
       ·refine .inr ⟨fun id b hb x hx hxi=>?_,fun id b hb x hx hxi=>?_⟩
        ·grind
        ·rcases d2 q hq (true,id) (fR.wr c4 q hq id b hb) (i,x) (aaI hm x hx)with h|h|h
         ·exact h hxi.symm
         ·cases h.1
         ·exact he h
      ·rcases aih.1 hq with rfl|hq
       ·exact Cg (Yo hm).2
       ·exact fun y hy x hx=>c5.log hm q hq y hy x (ad5 hm x hx)
      ·obtain⟨g1,g2,g3,g4⟩:=c5.nam q hq id hid;by_cases he:reach ops 4 q.o i=true
       ·exact .inl he
       ·refine .inr (UI (KO (i,o) (by simp)) hw2 (fun bX=>he (g4 (i,false,yn id) ?_ rfl)) fun x hx hxi=>?_)
        ·grind
        ·rcases c5.log g1 q hq (true,id) g3 (i,x) (aaI g1 x hx)with h|h|h
         ·exact h hxi.symm
         ·cases h.1
         ·exact he h
      ·rcases aih.1 hq with rfl|hq
       ·obtain⟨_,hid⟩:=hid;cases hid
       ·obtain⟨g1,g2,g3,g4⟩:=c5.nam q hq id hid;grind
     rcases mP with rfl|rfl
     ·simp only[Nat.beq,cQ,S3]at hk;split at hk
      ·rename_i hqf;have hwn:wr=[]:=by
        cases wr with
        |nil=>rfl
        |cons x l=>have:=zQ hqf _ (hwr x (by simp));cases this
       subst hwn;exact step [] lg ad4.symm (fun _=>rfl) (by simp) (E9 hE hg hA hd Yi) hk (by simp)
      ·cases hk
     ·simp only[Nat.beq,IS]at hk;split at hk
      ·rename_i hof;exact step wr _ ad4.symm (by simp) (fun id b hb=>hwr _ hb) (E9 hE hg hA hd Yi) hk fun _=>⟨rfl,hof⟩
      ·cases hk
   ·cases h
  ·rename_i j Dy hg;split at h
   ·rename_i tj htj;split at h
    ·rename_i b hb;generalize yB:CJ A ((i,o)::rest)=sp at h;obtain⟨body,Kh⟩:=sp;have nj:=EY yB;have hm0:Nat.beq mode 0=false:=by rcases mP with rfl|rfl<;>rfl
     simp only[hm0,akQ,cQ,S3]at h;split at h
     ·rename_i ip p nb;split at h
      ·rename_i c x y Uv;split at h
       ·rename_i hc;simp only[OF,ajO,ajN,ak7,ne_eq]at hc;obtain⟨⟨⟨⟨⟨⟨Ni,hpg⟩,HD⟩,hgi⟩,ahl⟩,hpd⟩,cK⟩:=hc;have abM:mode=1:=by simp_all
        subst abM;have Ni:=AI Ni;subst Ni;have hpg:guardOf p A=none:=by simpa using hpg
        obtain⟨rb,hrb,h⟩:=cT.1 h;have bX:∀z∈body,z∈(i,o)::rest:=fun z hz=>by rw[nj];simp[hz]
        have zo:∀z∈nb,z∈(i,o)::rest:=fun z hz=>by rw[nj];simp[hz]
        have Pl:(ip,p)∈(i,o)::rest:=by rw[nj];simp
        obtain⟨ahe,hb⟩:=EW hb;have hFc:F c=.pv (.bool b):=by
         rcases hF c with e|e
         ·rw[←e];omega
         simp_all
        have after:∀(sZ:List Rec)(q:Operand),sZ.map (fun r=>(r.i,r.o))=body→fR E ops w0 F m sZ→(∀q∈sZ,q.wr=[]∧q.kl=[])→bC E (mU F sZ) q=.pv (.bool rb)→(q=if b then x else y)→∃(recs:List Rec)(f':Fr),k f' (qK m recs)=some r∧we f' (mU F recs)∧recs.map (fun r=>(r.i,r.o))=body++(ip,p)::nb∧fR E ops w0 F m recs∧(∀q∈recs,q.wr=[]∧q.kl=[]):=by
         intro sZ q ahm ad6 hwn hq hqe;have ad7:∀t,(∀z∈body,z.2.dst≠some t)→mU F sZ t=F t:=fun t ht=>HF fun q hq=>⟨ht (q.i,q.o) (by grind),(hwn q hq).2⟩;have hA1:rM E.fn.ntmps ops A (mU F sZ):=fun g qX=>by obtain⟨t,h1,h0,h2⟩:=hA g qX;exact⟨t,h1,h0,by rw[ad7 t fun z hz=>E0 z (bX z hz) g qX t h1];omega⟩
         have TW:mU F sZ c=.pv (.bool b):=by grind
         have hrp:HG E ops w0 ⟨ip,p,.pv (.bool rb),[],[],[]⟩ (mU F sZ) m:=E9 hE hpg hA1 hpd fun f2 m2 hf hm R' k'=>by
          have ux:bC E f2 (.tmp c)=.pv (.bool b):=by simp_all[Op.operands,Y7]
          have hq2:bC E f2 q=.pv (.bool rb):=by grind [Op.operands]
          rw[KG Uv ux,←hqe,hq2];rfl
         obtain⟨recs,f',c1,c2,c3,c4,c5⟩:=nk hE hY (.inl rfl) fuel h (fun z hz=>hl z (zo z hz)) (fun hm z hz=>Ts hm z (zo z hz)) (fun z hz=>E0 z (zo z hz)) (jt (mU F sZ) p.dst (.pv (.bool rb))) (we.put (yG fun t ht=>by rw[ad7 t ht];exact hF t) _ _) (rM.put hA1 fun g qX t ht=>E0 (ip,p) Pl g qX t ht) (fun z hz t ht=>by
          by_cases e:p.dst=some t
          ·rw[e,ko,ko]
          ·have Pb:∀u∈body,u.2.dst≠some t:=fun u hu hud=>by grind [blind,List.all_eq_true,Bool.not_eq_true']
           grind [fQ,yF])
         have hmB:qK m sZ=m:=HI hwn;refine⟨sZ++⟨ip,p,.pv (.bool rb),[],[],[]⟩::recs,f',?_,?_,by simp[ahm,c3],?_,fun q hq=>?_⟩
         ·rw[KL,hmB];exact c1
         ·rw[KK];exact c2
         ·refine fR.append.2 ⟨ad6,?_⟩;rw[hmB];exact⟨hrp,by simp,c4⟩
         ·rcases ajA.1 hq with h|h
          ·exact hwn q h
          ·rcases aih.1 h with rfl|h
           ·simp
           ·exact c5.one rfl q h
        have fin:(∃(recs:List Rec)(f':Fr),k f' (qK m recs)=some r∧we f' (mU F recs)∧recs.map (fun r=>(r.i,r.o))=body++(ip,p)::nb∧fR E ops w0 F m recs∧(∀q∈recs,q.wr=[]∧q.kl=[]))→∃(recs:List Rec)(f':Fr),k f' (qK m recs)=some r∧we f' (mU F recs)∧recs.map (fun r=>(r.i,r.o))=(i,o)::rest∧fR E ops w0 F m recs∧IY (E:=E) ops 1 F m lg recs:=by rintro⟨recs,f',c1,c2,c3,c4,c5⟩;exact⟨recs,f',c1,c2,by rw[nj];omega,c4,fun _=>c5,fun h=>(by omega),fun h=>(by omega),alO (R:=fun _ _=>True) (fun{q r}hq hr _ h=>absurd (c5 q hq).2 h) (List.pairwise_of_forall fun _ _=>trivial),pg.none fun q hq=>(c5 q hq).2,fun q hq id⟨_,hid⟩=>(by simp_all)⟩
        have go:∀q,b=Dy→(q=if b then x else y)→bZ E ops 1 fuel Bool ((j,Dy)::A) body f m lg (fun f _=>y8 (bC E f q))=some rb→∃(recs:List Rec)(f':Fr),k f' (qK m recs)=some r∧we f' (mU F recs)∧recs.map (fun r=>(r.i,r.o))=body++(ip,p)::nb∧fR E ops w0 F m recs∧(∀q∈recs,q.wr=[]∧q.kl=[]):=by
         intro q hbp hq Y8;obtain⟨sZ,f1,c1,c2,c3,c4,c5⟩:=nk hE hY (.inl rfl) fuel Y8 (fun z hz=>hl z (bX z hz)) (fun hm z hz=>Ts hm z (bX z hz)) (fun z hz g qX t ht=>by
          rcases aih.1 qX with rfl|qX
          ·grind
          ·exact E0 z (bX z hz) g qX t ht) F hF (fun g qX=>by
          rcases aih.1 qX with rfl|qX
          ·simp_all
          ·exact hA g qX) (fun z hz=>KO z (bX z hz))
         refine after sZ q c3 c4 (c5.one rfl) ?_ hq;grind [AN,Uu]
        have no:∀q,b= !Dy→(q=if b then x else y)→y8 (bC E (na f body) q)=some rb→∃(recs:List Rec)(f':Fr),k f' (qK m recs)=some r∧we f' (mU F recs)∧recs.map (fun r=>(r.i,r.o))=body++(ip,p)::nb∧fR E ops w0 F m recs∧(∀q∈recs,q.wr=[]∧q.kl=[]):=by intro q hbp hq Y8;obtain⟨s1,s2⟩:=HH (E:=E) (w0:=w0) (m:=m) body F (fun z hz=>(HD z hz).1.2) (AM htj hgi (fun z hz=>hl z (bX z hz)) (fun z hz=>(HD z hz).2) (by rw[hFc,hbp]) (by simp));refine after (body.map AR) q (by simp[AR,alf]) s1 (fun u hu=>by obtain⟨z,_,rfl⟩:=ajy.1 hu;exact⟨rfl,rfl⟩) ?_ hq;rw[s2];have hv:=AN Y8;grind [we,na,iW,yG,vo,Uu]
        grind
       ·cases h
      ·cases h
     ·cases h
    ·cases h
   ·cases h
theorem tA{l:List Oper}:(i,o)∈(List.range l.length).zip l↔l[i]?=some o:=by
 rw[ajH];constructor
 ·grind
 ·intro h;refine⟨i,List.getElem?_zip_eq_some.2 ⟨?_,h⟩⟩;grind
theorem xg:∀{l done:List (Nat×Oper)},oV ops done l=true→(∀x∈l,∀d∈done,reach ops 4 x.2 d.1=true∨d.2.apart ops x.2=true)∧l.Pairwise (fun q r=>reach ops 4 r.2 q.1=true∨q.2.apart ops r.2=true)∧∀x∈l,∀e∈x.2.after,Region.binds .any e=true→e.on<x.1
 |[],_,_=>⟨by simp,.nil,by simp⟩
 |(i,o)::r,done,h=>by
  simp only[oV,OF]at h;obtain⟨⟨h1,h2⟩,h3⟩:=h;obtain⟨i1,i2,i3⟩:=xg h3;have GB:∀{done:List (Nat×Oper)},yo ops done o=true→∀d∈done,reach ops 4 o d.1=true∨d.2.apart ops o=true:=by
   intro done;induction done with
   |nil=>simp
   |cons x l ih=>intro h d hd;simp only[yo,OF,ajt]at h;grind
  refine⟨fun x hx d hd=>?_,akk.2 ⟨fun x hx=>i1 x hx (i,o) (by simp),i2⟩,fun x hx e he hb=>?_⟩
  ·grind
  ·rcases aih.1 hx with rfl|hx
   ·have:=ajO.1 h1 e (akE.2 he);simp_all
   ·exact i3 x hx e he hb
variable{rd:Option Nat}{fuel:Nat}{Q:Exit→Act→World→Prop}
theorem xh(hE:ke E)(hY:uq E.P E.aG E.fn.ntmps E.yl w0){mode:Nat}(mP:mode=1∨mode=2){l:List (Nat×Oper)}{base:Nat→Bool}(Ts:mode=1→∀x∈l,fe x.2=true){k:Fr→Mem→Option R}{r:R}(hmz:∀x∈l,ops[x.1]?=some x.2)(aiR:(l.map Prod.fst).Pairwise (·<·))(aaD:∀x∈l,base x.1=false)(aaE:∀i o,ops[i]?=some o→base i=false→(∀x∈l,x.1≠i)→(∀x∈l,reach ops 8 o x.1=true)∨∃j,reach ops 8 o j=true∧base j=false∧∀x∈l,x.1≠j)(ahn:∀x∈l,∀e∈x.2.after,Region.binds .any e=true→base e.on=true∨∃y∈l,y.1=e.on)(hi:oV ops [] l=true)(h:bZ E ops mode fuel R [] l f m [] k=some r)(hQ:∀(fuel:Nat)(listed:Array Bool),listed.size=ops.size→listed.toList.countP (fun b=> !b)≤fuel→zT ops listed→(∀i,aD listed i=true↔base i=true∨∃x∈l,x.1=i)→∀f' m' μ φ a w,k f' m'=some r→Rel E.P E.aG E.fn.ntmps w0 μ φ f' m' a w→wpAnyIn (FR rd) 0 E.P .any ops Q fuel listed a w):∀(fuel:Nat)(listed:Array Bool),listed.size=ops.size→listed.toList.countP (fun b=> !b)≤fuel→zT ops listed→(∀i,aD listed i=true↔base i=true)→∀(μ:Ro)(φ:Nat→aA)(a:Act)(w:World),Rel E.P E.aG E.fn.ntmps w0 μ φ f m a w→wpAnyIn (FR rd) 0 E.P .any ops Q fuel listed a w:=by
 intro ad8 listed hs hc wG hb μ φ a w hR;obtain⟨recs,f',c1,c2,c3,c4,c5⟩:=nk (w0:=w0) hE hY mP fuel h hmz Ts (by intro x hx g hg;cases hg) f (we.refl f) (by intro g hg;cases hg) (fun _ _ _ _=>rfl);obtain⟨_,i2,i3⟩:=xg hi;have bX:∀q∈recs,(q.i,q.o)∈l:=fun q hq=>by grind
 have hof:∀x∈l,∃q∈recs,q.i=x.1:=fun x hx=>by grind
 have GB:recs.Pairwise fun q r=>reach ops 4 r.o q.i=true∨q.o.apart ops r.o=true:=by grind
 have hmo:recs.Pairwise (UH (ops:=ops)):=by
  rcases mP with hm|hm
  ·exact alO (fun{q r}hq hr _=>.inr ⟨fun id b hb=>(by rw[(c5.one hm q hq).1]at hb;cases hb),fun id b hb=>(by rw[(c5.one hm r hr).1]at hb;cases hb)⟩) GB
  ·exact c5.ord hm
 refine Uy (E:=E) (w0:=w0) (recs:=recs) (f0:=f) (m0:=m) (base:=base) ?_ (fun q hq=>hmz _ (bX q hq)) (fun q hq=>aaD _ (bX q hq)) (fun i o ho hbi cJ=>?_) ?_ c5.kl c5.cln (fun q hq e he Mz=>⟨i3 _ (bX q hq) e he Mz,?_⟩) c4 ?_ ad8 listed hs hc wG (fun i hi=>(hb i).2 hi) (fun i hi=>Or.inl ((hb i).1 hi)) μ φ a w ?_
 ·grind
 ·grind
 ·refine List.Pairwise.imp (fun{q r}h=>?_) (List.Pairwise.and GB hmo);obtain⟨h1,h2⟩:=h;rcases h1 with h1|h1
  ·exact .inl h1
  ·rcases h2 with h2|h2
   ·exact .inl h2
   ·exact .inr ⟨h1,h2⟩
 ·rcases ahn _ (bX q hq) e he Mz with h1|⟨y,hy,h1⟩
  ·exact Or.inl h1
  grind
 ·intro aaJ Pp hs2 Tm aho ux μ2 φ2 a2 w2 Hy;refine hQ aaJ Pp hs2 Tm aho (fun i=>?_) _ _ μ2 φ2 a2 w2 c1 (Hy.weaken c2);grind
 ·have hS:∀q∈recs,aD listed q.i=false:=fun q hq=>by grind
  rw[show pC (aD listed) f recs=f from funext fun t=>qY fun q hq hs=>(by simp_all),show pD (aD listed) m recs=m from funext fun t=>qZ fun q hq hs=>(by simp_all)];omega
variable{x:Nat×Oper}
theorem Ch(hx:x∈(List.range ops.size).zip ops.toList):ops[x.1]?=some x.2:=by have:=(tA (l:=ops.toList) (i:=x.1) (o:=x.2)).1 (by omega);simp_all
theorem rQ(ho:ops[i]?=some o):(i,o)∈(List.range ops.size).zip ops.toList:=by have:=(tA (l:=ops.toList) (i:=i) (o:=o)).2 (by simp_all);omega
theorem zip_fst:((List.range ops.size).zip ops.toList).map Prod.fst=List.range ops.size:=by rw[List.map_fst_zip (by simp)]
variable{P:Program}
theorem Fb{F:Fence}{n:Nat}{listed:Array Bool}(hs:listed.size=ops.size)(wa:∀i o,ops[i]?=some o→aD listed i=true)(hq:Q .normal a w):wpAnyIn F n P .any ops Q fuel listed a w:=by
 have hr:Region.ready .any ops listed=[]:=by apply List.eq_nil_iff_forall_not_mem.2;intro j hj;obtain⟨h0,o,ho,_⟩:=mem_ready.1 hj;grind
 cases fuel with
 |zero=>exact⟨hr,hq⟩
 |succ fuel=>exact⟨fun _=>hq,fun i hi=>by rw[hr]at hi;cases hi⟩
theorem xl(n j:Nat):aD (Array.replicate n false) j=false:=by simp only[aD,ajp,Array.getElem?_replicate];split<;>rfl
theorem count_le(n:Nat):(Array.replicate n false).toList.countP (fun b=> !b)≤n:=by grind [List.countP_le_length,Array.replicate]
theorem C6:zT ops (Array.replicate ops.size false):=fun i o _ h=>by rw[xl]at h;cases h
theorem Fc(hE:ke E)(hY:uq E.P E.aG E.fn.ntmps E.yl w0){mode:Nat}(mP:mode=1∨mode=2)(Ts:mode=1→∀o∈ops,fe o=true){k:Fr→Mem→Option R}{r:R}(hi:oV ops [] ((List.range ops.size).zip ops.toList)=true)(h:bZ E ops mode fuel R [] ((List.range ops.size).zip ops.toList) f m [] k=some r){μ:Ro}(hR:Rel E.P E.aG E.fn.ntmps w0 μ φ f m a w)(hQ:∀f' m' μ' φ' a' w',k f' m'=some r→Rel E.P E.aG E.fn.ntmps w0 μ' φ' f' m' a' w'→Q .normal a' w'):wpAnyIn (FR rd) 0 E.P .any ops Q ops.size (Array.replicate ops.size false) a w:=by
 refine xh (w0:=w0) (base:=fun _=>false) hE hY mP (fun hm x hx=>Ts hm x.2 (alV (Ch hx))) (fun x hx=>Ch hx) (by rw[zip_fst];exact ald) (fun _ _=>rfl) (fun i o ho _ cJ=>absurd rfl (cJ _ (rQ ho))) (fun x hx e he hb=>Or.inr ?_) hi h ?_ ops.size _ (by simp) (count_le _) C6 (fun i=>by rw[xl]) μ φ a w hR
 ·obtain⟨_,_,i3⟩:=xg hi;have h1:=i3 x hx e he hb;have h2:x.1<ops.size:=(abi.1 (Ch hx)).1;exact⟨_,rQ (IT (show e.on<ops.size by omega)),rfl⟩
 ·intro aaJ Pp hs2 _ _ ux f' m' μ2 φ2 a2 w2 hk Hy;exact Fb hs2 (fun i o ho=>(ux i).2 (Or.inr ⟨_,rQ ho,rfl⟩)) (hQ _ _ _ _ _ _ hk Hy)
theorem DT{j:Nat}(h:((List.range ops.size).zip ops.toList)[j]?=some x):x.1=j:=by grind
theorem pE{p:Nat}:x∈((List.range ops.size).zip ops.toList).take p↔x∈(List.range ops.size).zip ops.toList∧x.1<p:=by
 constructor
 ·grind [List.getElem?_of_mem,List.getElem?_take_of_lt,List.mem_of_getElem?,DT]
 ·rintro⟨h,hx⟩;obtain⟨j,hj⟩:=ajB h;have:=DT hj;exact agx (i:=j) (by simp_all)
theorem uE{p:Nat}:x∈((List.range ops.size).zip ops.toList).drop p↔x∈(List.range ops.size).zip ops.toList∧p≤x.1:=by
 constructor
 ·grind [List.getElem?_of_mem,List.mem_of_getElem?,DT]
 ·rintro⟨h,hx⟩;obtain⟨j,hj⟩:=ajB h;have:=DT hj;exact agx (i:=j-p) (by simp_all)
variable{K:Act→World→Prop}{Q':Exit→Act→World→Prop}
theorem Oper.Nq{F:Fence}{n:Nat}(h:∀e a w,e≠.normal→Q' e a w→Q e a w)(hh:o.wpIn F n P a w K Q'):o.wpIn F n P a w K Q:=by
 unfold Oper.wpIn at*;refine⟨hh.1,?_⟩;have hh:=hh.2;have ad9:LetsOut Q'→LetsOut Q:=fun⟨a,w,hq⟩=>⟨a,w,h _ _ _ (by simp) hq⟩;generalize (o.semAt F.round a.eval).run P w=r at*;cases r with
 |ok x w'=>
  cases x<;>simp only[Oper.uponIn]at hh⊢<;>first
   |exact hh
   |exact⟨hh.1,CallsIn.mono hh.2 (fun e w'' he=>by cases e<;>first|exact ad9 he|exact h _ _ _ (by simp) he|exact he)⟩
   |exact⟨hh.1,RoundIn.mono hh.2 (fun e w'' he=>by cases e<;>first|exact ad9 he|exact h _ _ _ (by simp) he|exact he)⟩
 |halt x w'=>cases x<;>simp only[Oper.uponIn]at hh⊢<;>simp_all
theorem IZ{F:Fence}{n:Nat}(h:∀e a w,e≠.normal→Q' e a w→Q e a w)(hh:wpOpIn F n P ops Q' i K a w):wpOpIn F n P ops Q i K a w:=by
 unfold wpOpIn at*;split
 ·simpa[*]using hh
 ·rename_i o ho;simp only[ho]at hh;split
  ·rename_i hw;simp only[hw,IS]at hh;exact Oper.Nq h hh
  simp_all
theorem Nr(hE:ke E)(hY:uq E.P E.aG E.fn.ntmps E.yl w0){p:Nat}(Za:TI ops p=true){k:Fr→Mem→Option R}{r:R}(hi1:oV ops [] (((List.range ops.size).zip ops.toList).take p)=true)(hi3:oV ops [] (((List.range ops.size).zip ops.toList).drop (p+1))=true){n1 n2 n3:Nat}(h:(bZ E ops 2 n1 R [] (((List.range ops.size).zip ops.toList).take p) f m [] fun f m=>bZ E ops 0 n2 R [] ((((List.range ops.size).zip ops.toList).drop p).take 1) f m [] fun f m=>bZ E ops 2 n3 R [] (((List.range ops.size).zip ops.toList).drop (p+1)) f m [] k)=some r){μ:Ro}(hR:Rel E.P E.aG E.fn.ntmps w0 μ φ f m a w)(hQ:∀f' m' μ' φ' a' w',k f' m'=some r→Rel E.P E.aG E.fn.ntmps w0 μ' φ' f' m' a' w'→Q .normal a' w'):wpAnyIn (FR rd) 0 E.P .any ops Q ops.size (Array.replicate ops.size false) a w:=by
 unfold TI at Za;cases ho:ops[p]? with
 |none=>simp_all
 |some o=>
  rw[ho]at Za;simp only[OF]at Za;obtain⟨⟨_,IQ⟩,hpa⟩:=Za;have hpn:p<ops.size:=(abi.1 ho).1;have Uz:∀e∈o.after,Region.binds .any e=true→e.on<p:=fun e he hb=>by have:=ajO.1 IQ e (akE.2 he);simp_all
  have ahp:∀i,i<p→reach ops 8 o i=true:=fun i hi=>by have:=ajO.1 hpa _ (rQ (IT (show i<ops.size by omega)));simp_all
  have ahq:∀i o',ops[i]?=some o'→p<i→reach ops 8 o' p=true:=fun i o' UG hi=>by
   have:=ajO.1 hpa _ (rQ UG);simp only at this;have hb:Nat.blt i p=false:=by
    cases hx:Nat.blt i p with
    |false=>rfl
    |true=>have:i<p:=al3 hx;omega
   have ux:Nat.beq i p=false:=by
    cases hx:Nat.beq i p with
    |false=>rfl
    |true=>simp_all
   simp_all
  refine xh (w0:=w0) (base:=fun _=>false) hE hY (.inr rfl) (fun h=>by omega) (fun x hx=>Ch (pE.1 hx).1) (by simp[ak9,zip_fst,ald,List.take_sublist]) (fun _ _=>rfl) (fun i o' UG _ cJ=>?_) (fun x hx e he hb=>Or.inr ?_) hi1 h ?_ ops.size _ (by simp) (count_le _) C6 (fun i=>by rw[xl]) μ φ a w hR
  ·have hip:¬i<p:=fun hc=>cJ _ (pE.2 ⟨rQ UG,hc⟩) rfl;by_cases hi:i=p
   ·subst hi;rw[ho]at UG;cases UG;exact Or.inl fun x hx=>ahp _ (pE.1 hx).2
   ·exact Or.inr ⟨p,ahq i o' UG (by omega),rfl,fun x hx=>by have:=(pE.1 hx).2;omega⟩
  ·obtain⟨_,_,i3⟩:=xg hi1;have h1:=i3 x hx e he hb;have h2:=(pE.1 hx).2;exact⟨_,pE.2 ⟨rQ (IT (show e.on<ops.size by omega)),by omega⟩,rfl⟩
  ·intro fuel listed hs hc wG hb f1 m1 μ1 φ1 a1 w1 Ry Nj;have bT:∀i,aD listed i=true↔i<p:=fun i=>by
    rw[hb i];constructor
    ·rintro(h|⟨x,hx,rfl⟩)
     ·cases h
     ·exact(pE.1 hx).2
    ·intro hi;exact Or.inr ⟨_,pE.2 ⟨rQ (IT (show i<ops.size by omega)),hi⟩,rfl⟩
   have pM:p<listed.size:=by omega
   have hpu:aD listed p=false:=by grind
   have ai7:listed[p]=false:=by simp_all
   cases fuel with
   |zero=>have:=alu.1 (Nat.le_zero.1 hc) listed[p] (by simp);simp_all
   |succ fuel=>
    have ahr:p∈Region.ready .any ops listed:=mem_ready.2 ⟨by simp_all,o,ho,fun e he Mz=>(bT e.on).2 (Uz e he Mz)⟩;refine⟨(fun h0=>by simp_all),fun i hi=>?_⟩;obtain⟨UB,o',UG,E8⟩:=mem_ready.1 hi;have pR:i<listed.size:=by grind
    have hiu:aD listed i=false:=by simp_all
    have hip:i=p:=by refine aj7 fun cJ=>?_;grind [rP]
    subst hip;have hL:(((List.range ops.size).zip ops.toList).drop i).take 1=[(i,o)]:=by
     have hlen:i<((List.range ops.size).zip ops.toList).length:=by simp;omega
     rw[aj8 hlen];simp_all
    rw[hL]at Ry;have hS':∀j,aD (listed.setIfInBounds i true) j=if j=i then true else aD listed j:=fun j=>by simp only[aD,ajp,akx];grind
    have hle:∀j,aD (listed.setIfInBounds i true) j=true↔j≤i:=fun j=>by grind
    have aea:=iS (rd:=rd) (w0:=w0) hE hY _ (.inl rfl) Ry (by simp_all) (by intro x hx g hg;cases hg) (fun h=>by omega) μ1 φ1 a1 w1 (fun e a w=>(e=.normal∧wpAnyIn (FR rd) 0 E.P .any ops Q fuel (listed.setIfInBounds i true) a w)∨(e≠.normal∧Q e a w)) [] Nj (by intro g hg;cases hg) fun f2 m2 μ2 φ2 a2 w2 Rz Hy _ _=>Or.inl ⟨rfl,?_⟩
    ·rw[akl,ajr,amd,wpOpsIn_cons]at aea;refine wpOpIn_mono (fun a w hq=>?_) (IZ (fun e a w cJ hq=>?_) aea)
     ·rcases hq with⟨_,h⟩|⟨h,_⟩
      ·omega
      ·exact absurd rfl h
     simp_all
    ·refine xh (w0:=w0) (base:=fun j=>decide (j≤i)) hE hY (.inr rfl) (fun h=>by omega) (fun x hx=>Ch (uE.1 hx).1) (by grind [List.map_drop,zip_fst,List.pairwise_lt_range,List.drop_sublist]) (fun x hx=>by have:=(uE.1 hx).2;simp;omega) (fun j oj hj hbj cJ=>?_) (fun x hx e he Mz=>?_) hi3 Rz ?_ fuel _ (by simp[hs]) ?_ ?_ (fun j=>by rw[hle j];simp) μ2 φ2 a2 w2 Hy
     ·simp only[akj]at hbj;exact absurd rfl (cJ _ (uE.2 ⟨rQ hj,by omega⟩))
     ·obtain⟨_,_,i3⟩:=xg hi3;have h1:=i3 x hx e he Mz;have h2:x.1<ops.size:=(abi.1 (Ch (uE.1 hx).1)).1;by_cases hei:e.on≤i
      ·simp_all
      ·exact Or.inr ⟨_,uE.2 ⟨rQ (IT (show e.on<ops.size by omega)),by omega⟩,rfl⟩
     ·intro aiS agW hs3 _ _ hb3 f3 m3 μ3 φ3 a3 w3 hk3 hR3;refine Fb hs3 (fun j oj hj=>(hb3 j).2 ?_) (hQ _ _ _ _ _ _ hk3 hR3);by_cases hji:j≤i
      ·simp_all
      ·exact Or.inr ⟨_,uE.2 ⟨rQ hj,by omega⟩,rfl⟩
     ·grind
     ·intro j oj hj hlj e he Mz;rw[hle]at hlj⊢;by_cases hji:j=i
      ·grind
      ·have h1:=wG j oj hj ((bT j).2 (by omega)) e he Mz;grind
end
end Go.Ab
