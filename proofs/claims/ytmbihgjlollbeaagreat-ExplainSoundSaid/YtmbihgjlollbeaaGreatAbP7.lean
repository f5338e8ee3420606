import Derived.Test.YtmbihgjlollbeaaGreatAbP6
import Derived.OrdersIn
set_option linter.all false
namespace Go.Ab
open Go.RowKit (Below)
def wH(f F:Fr):Prop:=∀t,f t=F t∨f t=.top
theorem wH.refl(f:Fr):wH f f:=fun _=>.inl rfl
theorem wH.put{f F:Fr}(h:wH f F)(d:Option Nat)(v:V):wH (jB f d v) (jB F d v):=by
 intro t;cases d with
 |none=>exact h t
 |some d=>
  simp only[jB,gu];cases Nat.beq t d
  ·exact h t
  simp
theorem fV{f:Fr}{d:Option Nat}{v:V}{t:Nat}(h:d≠some t):jB f d v t=f t:=by
 cases d with
 |none=>rfl
 |some d=>exact se (fun e=>h (by rw[e]))
theorem kz{f:Fr}{v:V}{t:Nat}:jB f (some t) v t=v:=by simp[jB,gu,Nat.beq_refl]
section
variable {E:Env} {ops:Array Oper} {w0:bA}
variable{nt:Nat}{μ:Ro}{φ:Nat→aA}{f:Fr}{m:Mem}{a:Act}
theorem Rel.weaken{f':Fr}{w:World}(h:Rel E.P E.aG nt w0 μ φ f m a w)(hf:wH f' f):Rel E.P E.aG nt w0 μ φ f' m a w:=
 {h with
  fr:=fun t=>by
   rcases hf t with e|e
   ·rw[e];exact h.fr t
   ·rw[e];exact .top,
  live:=fun t id hid=>by
   rcases hf t with e|e
   ·rw[e]at hid;exact h.live t id hid
   simp_all}
variable{t:Nat}
theorem Fk{d:Nat}{y:Value}(hd:d<a.tmps.size):(a.put (some d) y).tmps.getD t undef=if t=d then y else a.tmps.getD t undef:=by simp only[Act.put,akl,alo];grind
theorem Rel.put{nt:Nat}{μ μ':Ro}{φ φ':Nat→aA}{f f':Fr}{m m':Mem}{a:Act}{w w':World}(h:Rel E.P E.aG nt w0 μ φ f m a w)(hle:Lh μ μ'){dst:Option Nat}{v:V}{y:Value}(hd:∀d,dst=some d→d<nt)(hM:av E.P E.aG w0 μ' φ' m' w')(hF:bR E.P μ' φ' m' f' (bM nt w0 a))(hv:af E.P μ' φ' v y)(hl:∀id,v.has id=true→(m' id).isSome=true):Rel E.P E.aG nt w0 μ' φ' (jB f' dst v) m' (a.put dst y) w':=by
 refine{toav:=hM,size:=?_,defers:=?_,nf:=h.nf,fr:=fun t=>?_,live:=fun t id hid=>?_}
 ·cases dst<;>simp[Act.put,h.size]
 ·cases dst<;>exact h.defers.mono hle
 ·cases dst with
  |none=>exact hF.fr t
  |some d=>
   have bZ:d<a.tmps.size:=by rw[h.size];exact hd d rfl
   have hf:=hF.fr t;by_cases e:t=d
   ·subst e;rw[rX (hd t rfl),Fk bZ,AI rfl,kz];omega
   ·rw[fV (by grind)];unfold bM at hf⊢;split
    ·rename_i ht;rw[AI ht]at hf;rw[Fk bZ,IS e];omega
    simp_all
 ·by_cases e:dst=some t
  ·grind [kz,id]
  ·rw[fV e]at hid;exact hF.live t id hid
theorem Z9(h:t<E.fn.ntmps):bC E f (.tmp t)=f t:=by simp only[bC];rw[show Nat.blt t E.fn.ntmps=true by rw[ak6];omega];rfl
theorem Fl{p:PV}(h:bC E f (.tmp t)=.pv p):t<E.fn.ntmps∧f t=.pv p:=by grind [bC,Nat.blt,Nat.blt_eq]
theorem VC{F:Fr}(h:wH f F)(q:Operand):bC E f q=bC E F q∨bC E f q=.top:=by
 cases q with
 |tmp t=>
  simp only[bC];cases Nat.blt t E.fn.ntmps with
  |true=>exact h t
  |false=>simp
 |_=>exact .inl rfl
def sr(nt:Nat)(ops:Array Oper)(A:List (Nat×Bool))(f:Fr):Prop:=∀g∈A,∃t,(ops[g.1]?).bind (·.dst)=some t∧t<nt∧f t=.pv (.bool g.2)
def Bf(ops:Array Oper)(A:List (Nat×Bool))(a:Act):Prop:=∀g∈A,∃t,(ops[g.1]?).bind (·.dst)=some t∧a.tmps.getD t undef=.bool g.2
def ac2(ops:Array Oper)(A:List (Nat×Bool))(l:List (Nat×Oper)):Prop:=∀x∈l,∀g∈A,∀t,(ops[g.1]?).bind (·.dst)=some t→x.2.dst≠some t
variable{d:Option Nat}{A:List (Nat×Bool)}
theorem sr.put(h:sr nt ops A f){v:V}(hd:∀g∈A,∀t,(ops[g.1]?).bind (·.dst)=some t→d≠some t):sr nt ops A (jB f d v):=by intro g hg;obtain⟨t,h1,h0,h2⟩:=h g hg;grind [fV]
variable{o:Oper}
theorem jC(h:xt E o=true):∀d,o.dst=some d→d<E.fn.ntmps:=by grind [xt,Nat.blt_eq]
variable{b:Bool}
theorem vK{j:Nat}(h:(ops[j]?).bind (·.dst)=some t)(hb:a.tmps.getD t undef=.bool b):yielded ops a.tmps j=some b:=by
 simp only[yielded,h,akj];have:a.tmps[t]?=some (.bool b):=by rw[akl]at hb;grind [undef]
 rw[this]
theorem Cu(ho:guardOf o A=none)(hA:Bf ops A a):Region.wanted o (yielded ops a.tmps)=true:=by
 unfold guardOf at ho;unfold Region.wanted;split at ho
 ·rename_i hg;simp[hg]
 ·rename_i g hg;split at ho
  ·rename_i bW;obtain⟨t,h1,h2⟩:=hA g (by simpa using bW);simp_all[vK]
  ·cases ho
theorem Bf.put(h:Bf ops A a){y:Value}(hs:∀t,d=some t→t<a.tmps.size)(hd:∀g∈A,∀t,(ops[g.1]?).bind (·.dst)=some t→d≠some t):Bf ops A (a.put d y):=by
 intro g hg;obtain⟨t,h1,h2⟩:=h g hg;refine⟨t,h1,?_⟩;cases d with
 |none=>exact h2
 |some d=>rw[Fk (hs d rfl),IS fun e=>hd g hg t h1 (by rw[e])];omega
def SO(ops:Array Oper)(f:Fr)(o:Oper):Prop:=∃g,o.guard=some g∧∀t,(ops[g.1]?).bind (·.dst)=some t→f t=.aO []∨f t=.pv (.bool (!g.2))
theorem SP{P:Program}{x:Value}(h:af P μ φ (.aO []) x):x=undef:=by
 cases h with
 | @aO _ xs h1 _=>have:xs= #[]:=ame (by simpa using h1.symm);subst this;rfl
theorem Fm{P:Program}:af P μ φ (.aO []) undef:=.aO rfl (by simp)
theorem zQ{w:World}(h:Rel E.P E.aG nt w0 μ φ f m a w)(hd:SO ops f o):Region.wanted o (yielded ops a.tmps)=false:=by
 obtain⟨g,hg,ht⟩:=hd;simp only[Region.wanted,hg];cases hs:(ops[g.1]?).bind (·.dst)with
 |none=>simp[yielded,hs]
 |some t=>
  have hy:nt≤t→yielded ops a.tmps g.1=none:=fun hle=>by simp only[yielded,hs,akj];rw[Array.getElem?_eq_none (by rw[h.size];omega)]
  by_cases G8:nt≤t
  ·rw[hy G8];rfl
  have bZ:t<nt:=Nat.lt_of_not_le G8;have h3:=h.fr t;rw[rX bZ]at h3;rcases ht t hs with e|e
  ·rw[e]at h3;have h4:=SP h3;have:yielded ops a.tmps g.1=none:=by
    simp only[yielded,hs,akj];rw[akl]at h4;cases e:a.tmps[t]? with
    |none=>rfl
    |some x=>rw[e]at h4;simp only[ak2]at h4;subst h4;rfl
   rw[this];rfl
  ·rw[e]at h3;rw[vK hs (so h3)];simp
theorem vL{t:Nat}:∀{l:List (Nat×Oper)}{f:Fr},(∀x∈l,x.2.dst≠some t)→iZ f l t=f t
 |[],_,_=>rfl
 |x::r,f,h=>by rw[iZ,vL (fun y hy=>h y (by simp[hy])),fV (h x (by simp))]
theorem zb{t:Nat}:∀{l:List (Nat×Oper)}{f:Fr},(∀x∈l,x.2.dst≠some t)→nq f l t=f t
 |[],_,_=>rfl
 |x::r,f,h=>by rw[nq,zb (fun y hy=>h y (by simp[hy])),fV (h x (by simp))]
theorem Cv{t:Nat}:∀{l:List (Nat×Oper)}{f:Fr},(f t=.top∨∃x∈l,x.2.dst=some t)→nq f l t=.top
 |[],_,h=>by
  rcases h with h|⟨x,hx,_⟩
  ·exact h
  ·cases hx
 |x::r,f,h=>by
  rw[nq];by_cases e:x.2.dst=some t
  ·simp_all[Cv,kz]
  ·refine Cv ?_;rcases h with h|⟨y,hy,hd⟩
   ·simp_all[fV]
   grind
theorem zd{l:List (Nat×Oper)}{F:Fr}(h:∀t,(∀x∈l,x.2.dst≠some t)→f t=F t∨f t=.top):wH (nq f l) F:=by intro t;grind [Cv,zb]
theorem Bg{g:Nat×Bool}{tj:Nat}(hj:(ops[g.1]?).bind (·.dst)=some tj):∀{l:List (Nat×Oper)}{done:List Nat}{f:Fr},xr g done l=true→(∀x∈l,ops[x.1]?=some x.2)→(∀x∈l,x.2.dst≠some tj)→f tj=.pv (.bool (!g.2))→(∀j∈done,∀t,(ops[j]?).bind (·.dst)=some t→f t=.aO [])→∀(pre post:List (Nat×Oper))(x:Nat×Oper),l=pre++x::post→SO ops (iZ f pre) x.2
 |[],_,_,_,_,_,_,_,pre,post,x,h=>by simp at h
 |y::r,done,f,hg,hl,hd,hb,Vy,pre,post,x,h=>by
  simp only[xr,No]at hg;cases pre with
  |nil=>
   simp only[alz,alc]at h;obtain⟨rfl,rfl⟩:=h;rw[iZ];have h1:=hg.1;split at h1
   ·rename_i hh hgd;refine⟨hh,hgd,fun t ht=>?_⟩;rcases Bool.or_eq_true_iff.1 h1 with h2|h2
    ·simp_all
    grind
   ·cases h1
  |cons z pre=>
   simp only[alN,alc]at h;obtain⟨rfl,h⟩:=h;rw[iZ];refine Bg hj hg.2 (fun x hx=>hl x (by simp[hx])) (fun x hx=>hd x (by simp[hx])) (by simp_all[fV]) (fun j hjm t ht=>?_) pre post x h;by_cases e:y.2.dst=some t
   ·rw[e,kz]
   ·rw[fV e];grind
theorem Fo{A:List (Nat×Bool)}:∀{l a b:List (Nat×Oper)},C0 A l=(a,b)→l=a++b
 |[],a,b,h=>by simp[C0]at h;simp_all
 |x::r,a,b,h=>by
  simp only[C0]at h;split at h
  ·cases hs:C0 A r with
   |mk a' b'=>rw[hs]at h;simp only[Ua]at h;obtain⟨rfl,rfl⟩:=h;rw[Fo hs];rfl
  simp_all
theorem Bh{v:V}(h:zB v=some b):v=.pv (.bool b):=by unfold zB at h;grind
theorem abQ(hE:ku E){site:Nat}{draw:Bool}{v:V}{f':Fr}{m':Mem}{ft:bq}(hn:draw=true∨∃c x y,o.op=.pick c x y)(h:∀(R':Type)(k':V→Fr→Mem→bq→Option R'),KS E draw site o f m k'=k' v f' m' ft):vI E draw site o f m v f' m' ft:=by
 have hx:=Jo hE (h (V×Fr×Mem×bq) fun v f m ft=>some (v,f,m,ft));rcases hx with⟨v1,f1,m1,ft1,h1,h2⟩|⟨h1,h2,_⟩
 rotate_left
 ·simp_all
 simp_all
theorem Li{R:Type}{site:Nat}{draw:Bool}{p:Oper}{c:Nat}{x y:Operand}{k:V→Fr→Mem→bq→Option R}(hp:p.op=.pick (.tmp c) x y)(hb:bC E f (.tmp c)=.pv (.bool b)):KS E draw site p f m k=k (bC E f (if b then x else y)) f m []:=by
 have y7:Ae E site p f m=none:=by simp only[Ae,hp]
 unfold KS;rw[y7];have e:(bif draw then none else bif E.B9 site then(none:Option Sp)else none)=none:=by simp
 rw[e];simp only[cv,hp,hb];cases b<;>rfl
end
section
variable {E:Env} {ops:Array Oper} {w0:bA}
theorem xH{rd:Option Nat}{Q:Exit→Act→World→Prop}{tail:List Nat}:∀(l:List (Nat×Oper))(f:Fr),(∀x∈l,ops[x.1]?=some x.2)→(∀x∈l,xt E x.2=true)→(∀(pre post:List (Nat×Oper))(x:Nat×Oper),l=pre++x::post→SO ops (iZ f pre) x.2)→∀{μ:Ro}{φ:Nat→aA}{m:Mem}{a:Act}{w:World},Rel E.P E.aG E.fn.ntmps w0 μ φ f m a w→∀(A:List (Nat×Bool)),Bf ops A a→ac2 ops A l→(∀a',Rel E.P E.aG E.fn.ntmps w0 μ φ (iZ f l) m a' w→Bf ops A a'→wpOpsIn (FR rd) 0 E.P ops Q tail a' w)→wpOpsIn (FR rd) 0 E.P ops Q (l.map (·.1)++tail) a w
 |[],f,_,_,_,_,_,_,a,_,hR,_,hA,_,hK=>hK a hR hA
 |x::r,f,hl,hd,Fq,μ,φ,m,a,w,hR,A,hA,Fs,hK=>by simp only[akn,alN,wpOpsIn];rw[hl x (by simp)];simp only;rw[zQ hR (Fq [] r x rfl)];simp only[cQ,abp];refine And.intro (fun _ _=>trivial) (xH r (jB f x.2.dst (.aO [])) (fun y hy=>hl y (by simp[hy])) (fun y hy=>hd y (by simp[hy])) (fun pre post y h=>?_) (hR.put (fun _ _ h=>h) (jC (hd x (by simp))) hR.toav hR.kX Fm (fun id hid=>by simp[V.has,b8]at hid)) A (hA.put (fun t ht=>by rw[hR.size];exact jC (hd x (by simp)) t ht) fun g rH t ht=>Fs x (by simp) g rH t ht) (fun y hy=>Fs y (by simp[hy])) hK);have:=Fq (x::pre) post y (by rw[h];rfl);rwa[iZ]at this
theorem As:∀{ft:bq},A3 ft=true→∀x∈ft,x.1=false
 |[],_,x,hx=>by cases hx
 |(w,id)::r,h,x,hx=>by
  simp only[A3,No,akK]at h;rcases ake.1 hx with rfl|hx
  ·exact h.1
  ·exact As h.2 x hx
theorem iV(hE:ku E){rd:Option Nat}(hY:uL E.P E.aG E.fn.ntmps E.yl w0):∀(fuel:Nat){mode:Nat}(nc:mode=0∨mode=3){R:Type}{A:List (Nat×Bool)}{l:List (Nat×Oper)}{f:Fr}{m:Mem}{lg:Log}{k:Fr→Mem→Option R}{r:R},bY E ops mode fuel R A l f m lg k=some r→(∀x∈l,ops[x.1]?=some x.2)→ac2 ops A l→(mode=3→∀x∈l,fk x.2=true)→∀(μ:Ro)(φ:Nat→aA)(a:Act)(w:World)(Q:Exit→Act→World→Prop)(tail:List Nat),Rel E.P E.aG E.fn.ntmps w0 μ φ f m a w→Bf ops A a→(∀(f':Fr)(m':Mem)(μ':Ro)(φ':Nat→aA)(a':Act)(w':World),k f' m'=some r→Rel E.P E.aG E.fn.ntmps w0 μ' φ' f' m' a' w'→Bf ops A a'→(mode=3→m'=m∧∀t,(∀x∈l,x.2.dst≠some t)→f' t=f t)→wpOpsIn (FR rd) 0 E.P ops Q tail a' w')→wpOpsIn (FR rd) 0 E.P ops Q (l.map (·.1)++tail) a w
 |0,_,_,_,_,_,_,_,_,_,_,h,_,_,_,_,_,_,_,_,_,_,_,_=>by simp[bY]at h
 |fuel+1,mode,nc,R,A,[],f,m,lg,k,r,h,_,_,_,μ,φ,a,w,Q,tail,hR,hA,hK=>by simp only[bY]at h;grind
 |fuel+1,mode,nc,R,A,(i,o)::rest,f,m,lg,k,r,h,hl,Fs,Ux,μ,φ,a,w,Q,tail,hR,hA,hK=>by
  simp only[bY]at h;split at h
  ·rename_i hg;split at h
   ·rename_i hd;have Zr:Nat.beq mode 2=false:=by rcases nc with rfl|rfl<;>rfl
    simp only[Zr,cond_false]at h;rw[←Zr]at h;have hdf:=Ct h;rcases Jo hE h with⟨v,f1,m1,ft,hk,SQ⟩|⟨_,qk⟩
    rotate_left
    ·simp only[akn,alN,wpOpsIn];rw[hl (i,o) (by simp)];simp only;rw[Cu hg hA,AI rfl];refine Fj.Ar qk rd w0 μ φ a w _ Q hY hR fun v f1 m1 y w' μ' φ' hk hle hM hF hv Ja=>?_;have cL:Nat.beq mode 2=false:=by omega
     rw[cL]at hk;simp only[cQ,abp]at hk;rcases nc with rfl|rfl
     ·simp only[Nat.beq,Ko]at hk;exact iV hE hY fuel (.inl rfl) hk (fun x hx=>hl x (by simp[hx])) (fun x hx=>Fs x (by simp[hx])) (fun hm x hx=>Ux hm x (by omega)) _ _ _ _ Q tail (hR.put hle (jC hd) hM hF hv Ja) (hA.put (fun t ht=>by rw[hR.size];exact jC hd t ht) fun g rH t ht=>Fs (i,o) (by simp) g rH t ht) fun f' m' μ2 φ2 a' w2 DT kn Ai wA=>hK f' m' μ2 φ2 a' w2 DT kn Ai fun h=>by omega
     ·simp[Nat.beq,A3]at hk
    have cL:Nat.beq mode 2=false:=by omega
    rw[cL]at hk;simp only[cQ,abp]at hk;have hq:(mode=3→f1=f∧m1=m)∧bY E ops mode fuel R A rest (jB f1 o.dst v) m1 lg k=some r:=by
     rcases nc with rfl|rfl
     ·simp_all
     ·simp only[Nat.beq,cQ,abp]at hk;split at hk
      ·rename_i hqf;exact⟨fun h=>SQ.same (Ux rfl (i,o) (by simp)) (As hqf),hk⟩
      ·cases hk
    obtain⟨abR,hk⟩:=hq;simp only[akn,alN,wpOpsIn];rw[hl (i,o) (by simp)];simp only;rw[Cu hg hA,AI rfl];refine SQ.Ar hdf rd w0 μ φ a w _ Q hR fun y w' μ' φ' hle hM hF hv Ja=>?_;refine iV hE hY fuel nc hk (fun x hx=>hl x (by simp[hx])) (fun x hx=>Fs x (by simp[hx])) (fun hm x hx=>Ux hm x (by simp[hx])) _ _ _ _ Q tail (hR.put hle (jC hd) hM hF hv Ja) (hA.put (fun t ht=>by rw[hR.size];exact jC hd t ht) fun g rH t ht=>Fs (i,o) (by simp) g rH t ht) fun f' m' μ2 φ2 a' w2 DT kn Ai wA=>?_;refine hK f' m' μ2 φ2 a' w2 DT kn Ai fun hm3=>?_;obtain⟨e1,e2⟩:=abR hm3;obtain⟨e3,e4⟩:=wA hm3;refine⟨by rw[e3,e2],fun t ht=>?_⟩;rw[e4 t fun x hx=>ht x (by simp[hx]),fV (ht (i,o) (by simp)),e1]
   ·cases h
  ·rename_i j DP hg;split at h
   ·rename_i tj htj;split at h
    ·rename_i b hb;have aic:tj<E.fn.ntmps:=by grind [bC,Nat.blt,Nat.blt_eq]
     have hbf:f tj=.pv (.bool b):=by grind [bC,Nat.blt,Nat.blt_eq]
     have hba:a.tmps.getD tj undef=.bool b:=by have:=(al hR (.tmp tj)).1;rw[hb]at this;exact so this
     generalize y7:C0 A ((i,o)::rest)=sp at h;obtain⟨body,KU⟩:=sp;have nC:=Fo y7;simp only at h;split at h
     ·rename_i abS;split at h
      ·rename_i hc;simp only[No,akJ,akK,al3,ne_eq]at hc abS;obtain⟨⟨Nb,hgi⟩,ae5⟩:=hc;have hm0:mode=0:=IN abS.1;subst hm0;have bW:∀z∈body,z∈(i,o)::rest:=fun z hz=>by rw[nC];simp[hz]
       have zR:∀z∈KU,z∈(i,o)::rest:=fun z hz=>by rw[nC];simp[hz]
       by_cases hbp:b=DP
       ·have:Hv DP b=true:=by subst hbp;cases b<;>rfl
        rw[this]at h;simp only[cond]at h;have hfs:gu f tj (.pv (.bool DP))=f:=funext fun t=>by
         unfold gu;cases e:Nat.beq t tj with
         |false=>rfl
         |true=>simp_all
        rw[hfs]at h;refine iV hE hY fuel nc h hl (fun z hz g rH t ht=>?_) (fun h=>by omega) _ _ _ _ Q tail hR (fun g rH=>?_) fun f' m' μ2 φ2 a' w2 DT kn Ai wA=>hK f' m' μ2 φ2 a' w2 DT kn (fun g rH=>Ai g (by simp[rH])) fun h=>by omega
        ·rcases ake.1 rH with rfl|rH
         ·grind
         ·exact Fs z hz g rH t ht
        ·rcases ake.1 rH with rfl|rH
         ·simp_all
         ·exact hA g rH
       ·have:Hv DP b=false:=by cases b<;>cases DP<;>first|rfl|exact absurd rfl hbp
        rw[this]at h;simp only[cond]at h;have hbn:b= !DP:=by cases b<;>cases DP<;>simp_all
        have hfs:gu f tj (.pv (.bool !DP))=f:=funext fun t=>by
         unfold gu;cases e:Nat.beq t tj with
         |false=>rfl
         |true=>simp_all
        rw[hfs]at h;rw[nC,akZ,akh];refine xH body f (fun z hz=>hl z (bW z hz)) Nb (Bg htj hgi (fun z hz=>hl z (bW z hz)) (fun z hz=>ae5 z (bW z hz)) (by rw[hbf,hbn]) (by simp)) hR A hA (fun z hz g rH t ht=>Fs z (bW z hz) g rH t ht) fun a' kn Ai=>?_
        ·refine iV hE hY fuel nc h (fun z hz=>hl z (zR z hz)) (fun z hz=>Fs z (zR z hz)) (fun h=>by omega) _ _ _ _ Q tail kn Ai fun f' m' μ2 φ2 a' w2 DT kn Ai wA=>hK f' m' μ2 φ2 a' w2 DT kn Ai fun h=>by omega
      ·cases h
     ·split at h
      ·rename_i ip p nr;split at h
       ·rename_i c x y VD;split at h
        ·rename_i hc;simp only[No,akJ,akK,al3,ne_eq]at hc;obtain⟨⟨⟨⟨⟨⟨NY,hpg⟩,H0⟩,hgi⟩,_⟩,hpd⟩,_⟩:=hc;have NY:=IN NY;subst NY;have hpg:guardOf p A=none:=by simpa using hpg
         obtain⟨rb,hrb,h⟩:=cT.1 h;have bW:∀z∈body,z∈(i,o)::rest:=fun z hz=>by rw[nC];simp[hz]
         have zR:∀z∈nr,z∈(i,o)::rest:=fun z hz=>by rw[nC];simp[hz]
         have Qf:(ip,p)∈(i,o)::rest:=by rw[nC];simp
         rw[nC,akZ,akh];have after:∀(f1:Fr)(μ1:Ro)(φ1:Nat→aA)(a1:Act)(w1:World)(q:Operand),Rel E.P E.aG E.fn.ntmps w0 μ1 φ1 f1 m a1 w1→Bf ops A a1→(∀t,(∀z∈body,z.2.dst≠some t)→f1 t=f t)→bC E f1 q=.pv (.bool rb)→(q=if b then x else y)→wpOpsIn (FR rd) 0 E.P ops Q (((ip,p)::nr).map (·.1)++tail) a1 w1:=by
          intro f1 μ1 φ1 a1 w1 q NZ hA1 hf1 hq hqe;have U4:bC E f1 (.tmp c)=.pv (.bool b):=by grind [bC,Nat.blt,Nat.blt_eq]
          simp only[akn,alN,wpOpsIn];rw[hl (ip,p) Qf];simp only;rw[Cu hpg hA1,AI rfl];have SQ:vI E (Nat.beq mode 1||Nat.beq mode 2) (cw E p.dst) p f1 m (.pv (.bool rb)) f1 m []:=abQ hE (.inr ⟨_,_,_,VD⟩) fun R' k'=>by rw[Li VD U4,←hqe,hq]
          refine SQ.Ar (fun c h=>by rw[VD]at h;cases h) rd w0 μ1 φ1 a1 w1 _ Q NZ fun z w' μ' φ' wA hM hF hv Ja=>?_;have hle:wH (jB (nq f body) p.dst (.pv (.bool rb))) (jB f1 p.dst (.pv (.bool rb))):=wH.put (zd fun t ht=>.inl (hf1 t ht).symm) _ _;refine iV hE hY fuel nc h (fun z hz=>hl z (zR z hz)) (fun z hz=>Fs z (zR z hz)) (fun hm z hz=>Ux hm z (zR z hz)) _ _ _ _ Q tail ((NZ.put wA (jC hpd) hM hF hv Ja).weaken hle) (hA1.put (fun t ht=>by rw[NZ.size];exact jC hpd t ht) fun g rH t ht=>Fs (ip,p) Qf g rH t ht) fun f' m' μ2 φ2 a' w2 DT kn Ai wA=>?_;grind [fV,zb]
         have go:∀q,b=DP→(q=if b then x else y)→bY E ops 3 fuel Bool ((j,DP)::A) body f m lg (fun f _=>zB (bC E f q))=some rb→wpOpsIn (FR rd) 0 E.P ops Q (body.map (·.1)++(((ip,p)::nr).map (·.1)++tail)) a w:=by
          intro q hbp hq hev;refine iV hE hY fuel (.inr rfl) hev (fun z hz=>hl z (bW z hz)) ?_ (fun _ z hz=>(H0 z hz).1.1) _ _ _ _ Q _ hR ?_ fun f' m' μ2 φ2 a' w2 DT kn Ai wA=>?_
          ·intro z hz g rH t ht;rcases ake.1 rH with rfl|rH
           ·grind
           ·exact Fs z (bW z hz) g rH t ht
          ·intro g rH;rcases ake.1 rH with rfl|rH
           ·simp_all
           ·exact hA g rH
          ·obtain⟨e1,e2⟩:=wA rfl;subst e1;exact after f' μ2 φ2 a' w2 q kn (fun g rH=>Ai g (by simp[rH])) e2 (Bh DT) hq
         have no:∀q,b= !DP→(q=if b then x else y)→zB (bC E (nq f body) q)=some rb→wpOpsIn (FR rd) 0 E.P ops Q (body.map (·.1)++(((ip,p)::nr).map (·.1)++tail)) a w:=by
          intro q hbp hq hev;refine xH body f (fun z hz=>hl z (bW z hz)) (fun z hz=>(H0 z hz).1.2) (Bg htj hgi (fun z hz=>hl z (bW z hz)) (fun z hz=>(H0 z hz).2) (by rw[hbf,hbp]) (by simp)) hR A hA (fun z hz g rH t ht=>Fs z (bW z hz) g rH t ht) fun a' kn Ai=>?_;refine after _ μ φ a' w q kn Ai (fun t ht=>vL ht) ?_ hq;have hv:=Bh hev;cases q with
          |tmp t=>
           simp only[bC]at hv⊢;have hle:wH (nq f body) (iZ f body):=zd fun t ht=>.inl (vL ht).symm;cases e:Nat.blt t E.fn.ntmps with
           |false=>rw[e]at hv;cases hv
           |true=>
            rw[e]at hv;simp only[cond]at hv⊢;rcases hle t with e|e
            ·rw[←e];omega
            simp_all
          |_=>exact hv
         have hbm:(bif Nat.beq mode 0 then 3 else mode)=3:=by rcases nc with rfl|rfl<;>rfl
         grind
        ·cases h
       ·cases h
      ·cases h
    ·cases h
   ·cases h
end
structure Rec where
 i:Nat
 o:Oper
 v:V
 wr:List (Nat×bH)
 ft:bq
 kl:Kl
def Rec.fs(r:Rec)(f:Fr):Fr:=jB (kf r.kl f) r.o.dst r.v
def Rec.ms(r:Rec)(m:Mem):Mem:=uD r.wr (km r.kl m)
def Rec.H2(r:Rec)(id:Nat):Prop:=∃b,(b,id)∈r.kl
def ni(f:Fr):List Rec→Fr
 |[]=>f
 |r::l=>ni (r.fs f) l
def qZ(m:Mem):List Rec→Mem
 |[]=>m
 |r::l=>qZ (r.ms m) l
def pQ(S:Nat→Bool)(f:Fr):List Rec→Fr
 |[]=>f
 |r::l=>pQ S (bif S r.i then r.fs f else f) l
def pR(S:Nat→Bool)(m:Mem):List Rec→Mem
 |[]=>m
 |r::l=>pR S (bif S r.i then r.ms m else m) l
theorem Jp:∀{wr:List (Nat×bH)}{m:Mem}{j:Nat},(∀b,(j,b)∉wr)→uD wr m j=m j
 |[],_,_,_=>rfl
 |(id,b)::r,m,j,h=>by rw[uD,Jp fun b' hb=>h b' (by simp[hb])];exact aq fun e=>h b (by simp[e])
theorem VE:∀{wr:List (Nat×bH)}{j:Nat},(∃b,(j,b)∈wr)→∃b',(j,b')∈wr∧∀m:Mem,uD wr m j=some b'
 |[],_,h=>by simp_all
 |(id,b)::r,j,h=>by
  by_cases hr:∃b,(j,b)∈r
  ·obtain⟨b',h1,h2⟩:=VE hr;exact⟨b',by simp[h1],fun m=>h2 _⟩
  ·obtain⟨b0,hb⟩:=h;rcases ake.1 hb with hb|hb
   ·simp only[Ua]at hb;obtain⟨rfl,rfl⟩:=hb;simp_all[uD,Jp]
   simp_all
mutual
theorem Lj{id:Nat}:∀{v:V},v.xo id=true→v.has id=true
 |.agg cs,h=>vM (cs:=cs) (by simpa[V.xo]using h)
 |.aO cs,h=>vM (cs:=cs) (by simpa[V.xo]using h)
 |.fn _ cs,h=>vM (cs:=cs) (by simpa[V.xo]using h)
 |.xn _ _ _,h=>h
 |.AX _ _ _ _ _ _,h=>h
 |.pv _,h=>by cases h
 |.iy,h=>by cases h
 |.op _ _,h=>by cases h
 |.oe _ _ _,h=>by cases h
 |.os _,h=>by cases h
 |.fR _ _ _,h=>by cases h
 |.om _,h=>by cases h
 |.yl _,h=>by cases h
 |.it _,h=>by cases h
 |.top,h=>by cases h
theorem vM{id:Nat}:∀{cs:List V},AY id cs=true→b8 id cs=true
 |[],h=>by cases h
 |c::r,h=>by
  simp only[AY,akp]at h;simp only[b8,akp];rcases h with h|h
  ·exact .inl (Lj h)
  ·exact .inr (vM h)
end
variable{id:Nat}
theorem Dl{v:V}(h:v.has id=false):tz id v=v:=by unfold tz;rw[h];rfl
theorem Dm{id:Nat}:∀{cs:List V},b8 id cs=false→cs.map (tz id)=cs
 |[],_=>rfl
 |c::r,h=>by simp only[b8,akN]at h;simp only[akn,Dl h.1,Dm h.2]
theorem Lk{b:bH}(h:b.names id=false):gv id b=b:=by
 cases b with
 |box cs=>simp only[gv,Dm (show b8 id cs=false from h)]
 |_=>rfl
theorem Bi{v:V}(h:v.has id=false):oN id v=v:=by
 unfold oN;cases h2:v.xo id with
 |false=>rfl
 |true=>rw[Lj h2]at h;cases h
theorem Bj{id:Nat}:∀{cs:List V},b8 id cs=false→cs.map (oN id)=cs
 |[],_=>rfl
 |c::r,h=>by simp only[b8,akN]at h;simp only[akn,Bi h.1,Bj h.2]
theorem Jq{b:bH}(h:b.names id=false):dM id b=b:=by
 cases b with
 |box cs=>simp only[dM,Bj (show b8 id cs=false from h)]
 |_=>rfl
theorem Ft:∀{kl:Kl}{f:Fr}{t:Nat},(∀id,(∃b,(b,id)∈kl)→(f t).has id=false)→kf kl f t=f t
 |[],_,_,_=>rfl
 |(true,id)::r,f,t,h=>by have h0:eS id f t=f t:=Dl (h id ⟨true,by simp⟩);rw[kf,Ft (kl:=r) (f:=eS id f) fun j hj=>by rw[h0];exact h j (let⟨b,hb⟩:=hj;⟨b,by simp[hb]⟩),h0]
 |(false,id)::r,f,t,h=>by have h0:iA id f t=f t:=Bi (h id ⟨false,by simp⟩);rw[kf,Ft (kl:=r) (f:=iA id f) fun j hj=>by rw[h0];exact h j (let⟨b,hb⟩:=hj;⟨b,by simp[hb]⟩),h0]
theorem Bk:∀{kl:Kl}{f g:Fr}{t:Nat},f t=g t→kf kl f t=kf kl g t
 |[],_,_,_,h=>h
 |(true,id)::r,f,g,t,h=>Bk (kl:=r) (f:=eS id f) (g:=eS id g) (by simp only[eS,h])
 |(false,id)::r,f,g,t,h=>Bk (kl:=r) (f:=iA id f) (g:=iA id g) (by simp only[iA,h])
theorem Fu:∀{kl:Kl}{m:Mem}{j:Nat},(∀id,(∃b,(b,id)∈kl)→j≠id∧∀b,m j=some b→b.names id=false)→km kl m j=m j
 |[],_,_,_=>rfl
 |(true,id)::r,m,j,h=>by
  obtain⟨h1,h2⟩:=h id ⟨true,by simp⟩;have h0:bh (bE id m) id j=m j:=by
   rw[gn h1];unfold bE;cases hm:m j with
   |none=>rfl
   |some b=>simp only[Lk (h2 b hm)]
  rw[km,Fu (kl:=r) (m:=bh (bE id m) id) fun i hi=>by rw[h0];exact h i (let⟨b,hb⟩:=hi;⟨b,by simp[hb]⟩),h0]
 |(false,id)::r,m,j,h=>by
  obtain⟨h1,h2⟩:=h id ⟨false,by simp⟩;have h0:fa id m j=m j:=by
   unfold fa;cases hm:m j with
   |none=>rfl
   |some b=>simp only[Jq (h2 b hm)]
  rw[km,Fu (kl:=r) (m:=fa id m) fun i hi=>by rw[h0];exact h i (let⟨b,hb⟩:=hi;⟨b,by simp[hb]⟩),h0]
theorem Fv:∀{kl:Kl}{m n:Mem}{j:Nat},m j=n j→km kl m j=km kl n j
 |[],_,_,_,h=>h
 |(true,id)::r,m,n,j,h=>Fv (kl:=r) (m:=bh (bE id m) id) (n:=bh (bE id n) id) (by
  by_cases e:j=id
  ·subst e;simp
  simp_all[gn,bE])
 |(false,id)::r,m,n,j,h=>Fv (kl:=r) (m:=fa id m) (n:=fa id n) (by simp only[fa,h])
variable{r:Rec}
theorem Rec.Ll{f:Fr}{t:Nat}(h:r.o.dst=some t):r.fs f t=r.v:=by unfold Rec.fs;rw[h,kz]
theorem Rec.Qg{f:Fr}{t:Nat}(h:r.o.dst≠some t)(hc:∀id,r.H2 id→(f t).has id=false):r.fs f t=f t:=by unfold Rec.fs;rw[fV h];exact Ft hc
theorem Rec.Fx{f g:Fr}{t:Nat}(h:f t=g t):r.fs f t=r.fs g t:=by
 by_cases e:r.o.dst=some t
 ·rw[Ll e,Ll e]
 ·unfold Rec.fs;grind [fV,Bk]
theorem Rec.abT{j:Nat}(h:∃b,(j,b)∈r.wr):∃b',(j,b')∈r.wr∧∀m,r.ms m j=some b':=let⟨b',h1,h2⟩:=VE h;⟨b',h1,fun m=>h2 _⟩
theorem Rec.VF{m:Mem}{j:Nat}(h:∀b,(j,b)∉r.wr)(hc:∀id,r.H2 id→j≠id∧∀b,m j=some b→b.names id=false):r.ms m j=m j:=by unfold Rec.ms;rw[Jp h];exact Fu hc
theorem Rec.Fy{m n:Mem}{j:Nat}(h:m j=n j):r.ms m j=r.ms n j:=by
 by_cases e:∃b,(j,b)∈r.wr
 ·obtain⟨b,_,e⟩:=Rec.abT e;rw[e,e]
 ·have e':∀b,(j,b)∉r.wr:=fun b hb=>e ⟨b,hb⟩;unfold Rec.ms;grind [Jp,Fv]
section
variable {S S':Nat→Bool}
theorem Ln{f:Fr}:∀{l l':List Rec},ni f (l++l')=ni (ni f l) l':=by
 intro l;induction l generalizing f with
 |nil=>intro l';rfl
 |cons r l ih=>intro l';exact ih
theorem Lp{m:Mem}:∀{l l':List Rec},qZ m (l++l')=qZ (qZ m l) l':=by
 intro l;induction l generalizing m with
 |nil=>intro l';rfl
 |cons r l ih=>intro l';exact ih
theorem xI{f:Fr}:∀{l l':List Rec},pQ S f (l++l')=pQ S (pQ S f l) l':=by
 intro l;induction l generalizing f with
 |nil=>intro l';rfl
 |cons r l ih=>intro l';exact ih
theorem xJ{m:Mem}:∀{l l':List Rec},pR S m (l++l')=pR S (pR S m l) l':=by
 intro l;induction l generalizing m with
 |nil=>intro l';rfl
 |cons r l ih=>intro l';exact ih
theorem H3{t:Nat}:∀{l:List Rec}{f:Fr},(∀q∈l,q.o.dst≠some t∧q.kl=[])→ni f l t=f t
 |[],_,_=>rfl
 |r::l,f,h=>by rw[ni,H3 fun q hq=>h q (by simp[hq])];obtain⟨h1,h2⟩:=h r (by simp);exact Rec.Qg h1 fun id⟨b,hid⟩=>by rw[h2]at hid;cases hid
theorem rI{t:Nat}:∀{l:List Rec}{f:Fr},(∀q∈l,S q.i=true→q.o.dst≠some t∧∀id,q.H2 id→(f t).has id=false)→pQ S f l t=f t
 |[],_,_=>rfl
 |r::l,f,h=>by
  have h0:(bif S r.i then r.fs f else f) t=f t:=by
   cases e:S r.i with
   |false=>rfl
   |true=>simp_all[Rec.Qg]
  rw[pQ,rI fun q hq hs=>by rw[h0];exact h q (by simp[hq]) hs,h0]
theorem Fz{t:Nat}:∀{l:List Rec}{f g:Fr},f t=g t→(∀q∈l,S q.i=false→q.o.dst≠some t∧q.kl=[])→pQ S f l t=ni g l t
 |[],_,_,h,_=>h
 |r::l,f,g,h,hs=>by
  rw[pQ,ni];refine Fz ?_ fun q hq=>hs q (by simp[hq]);cases e:S r.i with
  |true=>exact Rec.Fx h
  |false=>obtain⟨h1,h2⟩:=hs r (by simp) e;rw[Rec.Qg h1 fun id⟨b,hid⟩=>by rw[h2]at hid;cases hid];exact h
theorem Au{t:Nat}:∀{l:List Rec}{f g:Fr},f t=g t→(∀q∈l,S q.i=S' q.i)→pQ S f l t=pQ S' g l t
 |[],_,_,h,_=>h
 |r::l,f,g,h,hs=>by
  rw[pQ,pQ];refine Au ?_ fun q hq=>hs q (by simp[hq]);rw[hs r (by simp)];cases S' r.i
  ·exact h
  ·exact Rec.Fx h
theorem rJ{j:Nat}:∀{l:List Rec}{m:Mem},(∀q∈l,S q.i=true→(∀b,(j,b)∉q.wr)∧∀id,q.H2 id→j≠id∧∀b,m j=some b→b.names id=false)→pR S m l j=m j
 |[],_,_=>rfl
 |r::l,m,h=>by
  have h0:(bif S r.i then r.ms m else m) j=m j:=by
   cases e:S r.i with
   |false=>rfl
   |true=>simp_all[Rec.VF]
  rw[pR,rJ fun q hq hs=>by rw[h0];exact h q (by simp[hq]) hs,h0]
theorem FA{j:Nat}:∀{l:List Rec}{m n:Mem},m j=n j→(∀q∈l,S q.i=false→(∀b,(j,b)∉q.wr)∧q.kl=[])→pR S m l j=qZ n l j
 |[],_,_,h,_=>h
 |r::l,m,n,h,hs=>by
  rw[pR,qZ];refine FA ?_ fun q hq=>hs q (by simp[hq]);cases e:S r.i with
  |true=>exact Rec.Fy h
  |false=>obtain⟨h1,h2⟩:=hs r (by simp) e;rw[Rec.VF h1 fun id⟨b,hid⟩=>by rw[h2]at hid;cases hid];exact h
theorem Av{j:Nat}:∀{l:List Rec}{m n:Mem},m j=n j→(∀q∈l,S q.i=S' q.i)→pR S m l j=pR S' n l j
 |[],_,_,h,_=>h
 |r::l,m,n,h,hs=>by
  rw[pR,pR];refine Av ?_ fun q hq=>hs q (by simp[hq]);rw[hs r (by simp)];cases S' r.i
  ·exact h
  ·exact Rec.Fy h
end
section
variable {E:Env} {ops:Array Oper} {w0:bA}
def H4(E:Env)(ops:Array Oper)(w0:bA)(r:Rec)(f:Fr)(m:Mem):Prop:=∀(f2:Fr)(m2:Mem),(∀t∈r.o.looksAt ops,f2 t=f t)→(∀x∈r.ft,m2 x.2=m x.2)→∀(μ:Ro)(φ:Nat→aA)(a:Act)(w:World)(K:Act→World→Prop)(Q:Exit→Act→World→Prop),Rel E.P E.aG E.fn.ntmps w0 μ φ f2 m2 a w→(∀μ' φ' a' w',Rel E.P E.aG E.fn.ntmps w0 μ' φ' (r.fs f2) (r.ms m2) a' w'→K a' w')→if Region.wanted r.o (yielded ops a.tmps)then∀rd:Option Nat,r.o.wpIn (FR rd) 0 E.P a w K Q else K (a.put r.o.dst undef) w
def fW(E:Env)(ops:Array Oper)(w0:bA):Fr→Mem→List Rec→Prop
 |_,_,[]=>True
 |f,m,r::l=>H4 E ops w0 r f m∧(∀id b,(id,b)∈r.wr→(true,id)∈r.ft)∧fW E ops w0 (r.fs f) (r.ms m) l
theorem fW.append{f:Fr}{m:Mem}{l l':List Rec}:fW E ops w0 f m (l++l')↔fW E ops w0 f m l∧fW E ops w0 (ni f l) (qZ m l) l':=by
 induction l generalizing f m with
 |nil=>simp[fW,ni,qZ]
 |cons r l ih=>simp_all[alN,fW,ni,qZ,and_assoc]
def Clean(ops:Array Oper)(id:Nat)(r:Rec)(f:Fr)(m:Mem):Prop:=(∀t∈r.o.looksAt ops,(f t).has id=false)∧r.v.has id=false∧(∀x∈r.ft,x.2≠id∧∀b,m x.2=some b→b.names id=false)∧∀j b,(j,b)∈r.wr→(∀m,r.ms m j=some b)→j≠id∧b.names id=false
def pE(ops:Array Oper):Fr→Mem→List Rec→Prop
 |_,_,[]=>True
 |f,m,r::l=>(∀q∈l,∀id,q.H2 id→reach ops 4 q.o r.i=true∨Clean ops id r f m)∧pE ops (r.fs f) (r.ms m) l
theorem pE.append{f:Fr}{m:Mem}{l l':List Rec}(h:pE ops f m (l++l')):pE ops (ni f l) (qZ m l) l':=by
 induction l generalizing f m with
 |nil=>exact h
 |cons r l ih=>exact ih h.2
def Ord(ops:Array Oper)(q r:Rec):Prop:=reach ops 4 r.o q.i=true∨(q.o.apart ops r.o=true∧(∀id b,(id,b)∈q.wr→∀x∈r.ft,x.2≠id)∧∀id b,(id,b)∈r.wr→∀x∈q.ft,x.2≠id)
theorem SR{o:Oper}{j:Nat}(h:EE o j=true):∃e∈o.after,Region.binds .any e=true∧e.on=j:=by unfold EE at h;obtain⟨e,he,h⟩:=als.1 h;have he:e∈o.after:=alx.1 he;simp only[No]at h;grind [Nat.eq_of_beq_eq_true]
abbrev aD(l:Array Bool):Nat→Bool:=fun i=>l.getD i false
def Aw(ops:Array Oper)(listed:Array Bool):Prop:=∀i o,ops[i]?=some o→aD listed i=true→∀e∈o.after,Region.binds .any e=true→aD listed e.on=true
theorem su(listed:Array Bool)(xl:Aw ops listed):∀(n:Nat)(o:Oper)(j:Nat),(∀e∈o.after,Region.binds .any e=true→aD listed e.on=true)→reach ops n o j=true→aD listed j=true:=by
 have ae6:∀(o:Oper)(j:Nat),(∀e∈o.after,Region.binds .any e=true→aD listed e.on=true)→EE o j=true→aD listed j=true:=fun o j ho h=>by grind [SR]
 intro n;induction n with
 |zero=>exact fun o j ho h=>ae6 o j ho h
 |succ n ihn=>
  intro o j ho h;simp only[reach,akp]at h;rcases h with h|h
  ·exact ae6 o j ho h
  ·obtain⟨e,he,h⟩:=als.1 h;simp only[No]at h;obtain⟨hb,h⟩:=h;have he:e∈o.after:=alx.1 he;split at h
   ·rename_i p hp;exact ihn p j (xl e.on p hp (ho e he hb)) h
   ·cases h
theorem VG{rd:Option Nat}{recs:List Rec}{f0:Fr}{m0:Mem}{Q:Exit→Act→World→Prop}{base:Nat→Bool}(bZ:recs.Pairwise fun q r=>q.i≠r.i)(qk:∀r∈recs,ops[r.i]?=some r.o)(abU:∀r∈recs,base r.i=false)(abV:∀i o,ops[i]?=some o→base i=false→(∀r∈recs,r.i≠i)→(∀r∈recs,reach ops 8 o r.i=true)∨∃j,reach ops 8 o j=true∧base j=false∧∀r∈recs,r.i≠j)(ae7:recs.Pairwise (Ord ops))(N0:recs.Pairwise fun q r=>q.kl≠[]→reach ops 4 r.o q.i=true)(aid:pE ops f0 m0 recs)(VH:∀r∈recs,∀e∈r.o.after,Region.binds .any e=true→e.on<r.i∧(base e.on=true∨∃q∈recs,q.i=e.on))(tt:fW E ops w0 f0 m0 recs)(hQ:∀(fuel:Nat)(listed:Array Bool),listed.size=ops.size→listed.toList.countP (fun b=> !b)≤fuel→Aw ops listed→(∀i,aD listed i=true↔base i=true∨∃r∈recs,r.i=i)→∀μ φ a w,Rel E.P E.aG E.fn.ntmps w0 μ φ (ni f0 recs) (qZ m0 recs) a w→wpAnyIn (FR rd) 0 E.P .any ops Q fuel listed a w):∀(fuel:Nat)(listed:Array Bool),listed.size=ops.size→listed.toList.countP (fun b=> !b)≤fuel→Aw ops listed→(∀i,base i=true→aD listed i=true)→(∀i,aD listed i=true→base i=true∨∃r∈recs,r.i=i)→∀(μ:Ro)(φ:Nat→aA)(a:Act)(w:World),Rel E.P E.aG E.fn.ntmps w0 μ φ (pQ (aD listed) f0 recs) (pR (aD listed) m0 recs) a w→wpAnyIn (FR rd) 0 E.P .any ops Q fuel listed a w:=by
 have done:∀(fuel:Nat)(listed:Array Bool),listed.size=ops.size→listed.toList.countP (fun b=> !b)≤fuel→Aw ops listed→(∀i,base i=true→aD listed i=true)→(∀i,aD listed i=true→base i=true∨∃r∈recs,r.i=i)→(∀r∈recs,aD listed r.i=true)→∀(μ:Ro)(φ:Nat→aA)(a:Act)(w:World),Rel E.P E.aG E.fn.ntmps w0 μ φ (pQ (aD listed) f0 recs) (pR (aD listed) m0 recs) a w→wpAnyIn (FR rd) 0 E.P .any ops Q fuel listed a w:=by
  intro fuel listed hs hc xl hb uQ hl μ φ a w hR;have e1:pQ (aD listed) f0 recs=ni f0 recs:=funext fun t=>Fz rfl fun q hq hf=>by rw[hl q hq]at hf;cases hf
  have e2:pR (aD listed) m0 recs=qZ m0 recs:=funext fun t=>FA rfl fun q hq hf=>by rw[hl q hq]at hf;cases hf
  rw[e1,e2]at hR;exact hQ fuel listed hs hc xl (fun i=>⟨uQ i,fun h=>h.elim (hb i) fun⟨r,hr,e⟩=>e▸hl r hr⟩) μ φ a w hR
 have aaa:∀(listed:Array Bool),listed.size=ops.size→(∀i,base i=true→aD listed i=true)→(∀r∈recs,r.i∉Region.ready .any ops listed)→∀(n:Nat)(r:Rec),r∈recs→r.i<n→aD listed r.i=true:=by
  intro listed hs hb hr n;induction n with
  |zero=>intro r _ h;omega
  |succ n ih=>
   intro r zJ hi;cases hc:aD listed r.i with
   |true=>rfl
   |false=>
    exfalso;have bZ:r.i<listed.size:=by rw[hs];exact(abq.1 (qk r zJ)).1
    refine hr r zJ (mem_ready.2 ⟨by simp only[aD,akl,OF bZ,ak2]at hc⊢;exact hc,r.o,qk r zJ,fun e he jc=>?_⟩);obtain⟨h1,h2⟩:=VH r zJ e he jc;rcases h2 with h2|⟨q,hq,hqi⟩
    ·exact hb _ h2
    ·have:=ih q hq (by omega);rwa[hqi]at this
 intro fuel;induction fuel with
 |zero=>
  intro listed hs hc xl hb uQ μ φ a w hR;refine done 0 listed hs hc xl hb uQ (fun r hr=>?_) μ φ a w hR;have bZ:r.i<listed.size:=by rw[hs];exact(abq.1 (qk r hr)).1
  have:=am6.1 (Nat.le_zero.1 hc) listed[r.i] (by simp);simp only[aD,akl,OF bZ,ak2];simpa using this
 |succ fuel ih=>
  intro listed hs hc xl hb uQ μ φ a w hR;by_cases VI:∀r∈recs,aD listed r.i=true
  ·exact done (fuel+1) listed hs hc xl hb uQ VI μ φ a w hR
  have ae8:∃r∈recs,aD listed r.i=false:=by
   refine akY fun cK=>VI fun r hr=>?_;cases hx:aD listed r.i with
   |true=>rfl
   |false=>exact absurd ⟨r,hr,hx⟩ cK
  refine⟨fun h0=>absurd (fun r hr=>aaa listed hs hb (fun r hr h=>by rw[h0]at h;cases h) (r.i+1) r hr (by omega)) VI,fun i hi=>?_⟩;obtain⟨VJ,o,ho,FB⟩:=mem_ready.1 hi;have ae9:aD listed i=false:=by
   have bZ:i<listed.size:=by rw[hs];exact(abq.1 ho).1
   simp only[aD,akl,OF bZ,ak2]at VJ⊢;exact VJ
  have hex:∃r∈recs,r.i=i∧r.o=o:=by
   refine akY fun cK=>?_;have Na:∀r∈recs,r.i≠i:=fun r hr e=>cK ⟨r,hr,e,by have:=qk r hr;rw[e,ho]at this;exact(al9 this).symm⟩;have hbi:base i=false:=by
    cases hx:base i with
    |false=>rfl
    |true=>rw[hb i hx]at ae9;cases ae9
   rcases abV i o ho hbi Na with h|⟨j,h1,h2,h3⟩
   ·obtain⟨r,hr,hrl⟩:=ae8;rw[su listed xl 8 o r.i FB (h r hr)]at hrl;cases hrl
   ·have:=su listed xl 8 o j FB h1;rcases uQ j this with h|⟨r,hr,e⟩
    ·rw[h]at h2;cases h2
    ·exact h3 r hr e
  obtain⟨r,hr,rfl,rfl⟩:=hex;have VK:r.i<listed.size:=by rw[hs];exact(abq.1 ho).1
  have hSi:aD listed r.i=false:=by simp only[aD,akl,OF VK,ak2]at VJ⊢;exact VJ
  obtain⟨pre,post,nC⟩:=List.append_of_mem hr;subst nC;have VL:∀q∈pre,Ord ops q r:=fun q hq=>(alf.1 ae7).2.2 q hq r (by simp);have Qh:∀q∈post,Ord ops r q:=fun q hq=>(ak8.1 (alf.1 ae7).2.1).1 q hq;have ac3:∀q∈post,q.i≠r.i:=fun q hq=>((ak8.1 (alf.1 bZ).2.1).1 q hq).symm;have afa:∀q∈pre,q.i≠r.i:=fun q hq=>(alf.1 bZ).2.2 q hq r (by simp);have afb:∀q:Rec,reach ops 4 r.o q.i=true→aD listed q.i=true:=fun q h=>su listed xl 4 r.o q.i FB h;have N1:∀q∈post,reach ops 4 q.o r.i=true→aD listed q.i=false:=fun q hq h=>by
   cases hc':aD listed q.i with
   |false=>rfl
   |true=>have:=su listed xl 4 q.o r.i (xl q.i q.o (qk q (by simp[hq])) hc') h;rw[hSi]at this;cases this
  have abW:∀(f:Fr),pQ (aD listed) f (r::post)=pQ (aD listed) f post:=fun f=>by rw[pQ,hSi];rfl
  have VM:∀(m:Mem),pR (aD listed) m (r::post)=pR (aD listed) m post:=fun m=>by rw[pR,hSi];rfl
  obtain⟨_,VN,hrw,_⟩:=fW.append.1 tt;have hc:=aid.append.1;have abX:∀q∈pre,q.kl≠[]→reach ops 4 r.o q.i=true:=fun q hq=>(alf.1 N0).2.2 q hq r (by simp);have VO:r.kl≠[]→∀q∈post,reach ops 4 q.o r.i=true:=fun h q hq=>(ak8.1 (alf.1 N0).2.1).1 q hq h;unfold wpOpIn;rw[qk r hr];simp only;have hf1:∀t∈r.o.looksAt ops,pQ (aD listed) f0 pre t=ni f0 pre t:=fun t ht=>Fz rfl fun q hq hs=>by
   have Na:¬reach ops 4 r.o q.i=true:=fun h=>by rw[afb q h]at hs;cases hs
   refine⟨fun hd=>?_,?_⟩
   ·rcases VL q hq with h|⟨h,_⟩
    ·exact Na h
    ·exact absurd ht ((Oper.apart_spec h).1 t hd)
   ·exact akY fun cK=>Na (abX q hq cK)
  have hm1:∀x∈r.ft,pR (aD listed) m0 pre x.2=qZ m0 pre x.2:=fun x hx=>FA rfl fun q hq hs=>by
   have Na:¬reach ops 4 r.o q.i=true:=fun h=>by rw[afb q h]at hs;cases hs
   refine⟨fun b hb=>?_,?_⟩
   ·rcases VL q hq with h|⟨_,h,_⟩
    ·exact Na h
    ·exact absurd rfl (h _ b hb x hx)
   ·exact akY fun cK=>Na (abX q hq cK)
  have Zk:∀q∈post,aD listed q.i=true→¬reach ops 4 q.o r.i=true:=fun q hq hs h=>by rw[N1 q hq h]at hs;cases hs
  have hf2:∀t∈r.o.looksAt ops,pQ (aD listed) f0 (pre++r::post) t=ni f0 pre t:=fun t ht=>by
   rw[xI,abW,rI fun q hq hs=>⟨fun hd=>?_,fun id hid=>?_⟩]
   ·exact hf1 t ht
   ·rcases Qh q hq with h|⟨h,_⟩
    ·exact Zk q hq hs h
    ·exact absurd ht ((Oper.apart_spec h).2.2 t hd)
   ·rw[hf1 t ht];rcases hc q hq id hid with h|h
    ·exact absurd h (Zk q hq hs)
    ·exact h.1 t ht
  have cL:∀x∈r.ft,pR (aD listed) m0 (pre++r::post) x.2=qZ m0 pre x.2:=fun x hx=>by
   rw[xJ,VM,rJ fun q hq hs=>⟨fun b hb=>?_,fun id hid=>?_⟩]
   ·exact hm1 x hx
   ·rcases Qh q hq with h|⟨_,_,h⟩
    ·exact Zk q hq hs h
    ·exact absurd rfl (h _ b hb x hx)
   ·rw[hm1 x hx];rcases hc q hq id hid with h|h
    ·exact absurd h (Zk q hq hs)
    ·exact h.2.2.1 x hx
  have hwp:=VN _ _ hf2 cL μ φ a w (wpAnyIn (FR rd) 0 E.P .any ops Q fuel (listed.setIfInBounds r.i true)) Q hR fun μ' φ' a' w' kn=>by
   have hS':∀j,aD (listed.setIfInBounds r.i true) j=if j=r.i then true else aD listed j:=fun j=>by
    simp only[aD,akl,alo];by_cases e:r.i=j
    ·subst e;simp[VK]
    ·have e':¬j=r.i:=fun h=>e h.symm;simp[e,e']
   refine ih (listed.setIfInBounds r.i true) (by simp[hs]) ?_ ?_ ?_ ?_ μ' φ' a' w' ?_
   ·rw[ams,List.countP_set (by simpa using VK)];have:listed.toList[r.i]'(by simpa using VK)=false:=by simp only[aD,akl,OF VK,ak2]at hSi;simpa using hSi
    rw[this];simp only[akz,Ko,akf,cQ,abp];omega
   ·intro i' o' VP qV e he Nb;rw[hS']at qV⊢;split
    ·rfl
    ·split at qV
     ·rename_i hqi;subst hqi;have:o'=r.o:=by rw[qk r hr]at VP;exact(al9 VP).symm
      subst this;exact FB e he Nb
     ·exact xl i' o' VP qV e he Nb
   ·intro i' qV;rw[hS'];split
    ·rfl
    ·exact hb i' qV
   ·intro i' qV;rw[hS']at qV;split at qV
    ·rename_i hqi;exact Or.inr ⟨r,hr,hqi.symm⟩
    ·exact uQ i' qV
   ·have abY:∀q∈pre,aD (listed.setIfInBounds r.i true) q.i=aD listed q.i:=fun q hq=>by rw[hS',IS (afa q hq)]
    have xK:∀q∈post,aD (listed.setIfInBounds r.i true) q.i=aD listed q.i:=fun q hq=>by rw[hS',IS (ac3 q hq)]
    have hSr:aD (listed.setIfInBounds r.i true) r.i=true:=by rw[hS',AI rfl]
    have e1:pQ (aD (listed.setIfInBounds r.i true)) f0 (pre++r::post)=r.fs (pQ (aD listed) f0 (pre++r::post)):=funext fun t=>by
     have hg:pQ (aD (listed.setIfInBounds r.i true)) f0 pre=pQ (aD listed) f0 pre:=funext fun s=>Au rfl abY;rw[xI,xI,abW,pQ,hSr,hg];simp only[cond];by_cases hk:r.kl=[]
     ·by_cases hd:r.o.dst=some t
      ·rw[Rec.Ll hd,rI fun q hq hs=>⟨fun hqd=>?_,fun id hid=>?_⟩,Rec.Ll hd]
       ·rw[xK q hq]at hs;rcases Qh q hq with h|⟨h,_⟩
        ·exact Zk q hq hs h
        ·exact absurd hqd ((Oper.apart_spec h).2.1 t hd)
       ·rw[xK q hq]at hs;rw[Rec.Ll hd];rcases hc q hq id hid with h|h
        ·exact absurd h (Zk q hq hs)
        ·exact h.2.1
      ·have Ee:∀(g:Fr),r.fs g t=g t:=fun g=>Rec.Qg hd fun id⟨b,hid⟩=>by rw[hk]at hid;cases hid
       rw[Ee];exact Au (Ee _) xK
     ·have VJ:∀q∈post,aD listed q.i=false:=fun q hq=>N1 q hq (VO hk q hq);rw[rI fun q hq hs=>by rw[xK q hq,VJ q hq]at hs;cases hs];exact Rec.Fx (rI fun q hq hs=>by rw[VJ q hq]at hs;cases hs).symm
    have e2:pR (aD (listed.setIfInBounds r.i true)) m0 (pre++r::post)=r.ms (pR (aD listed) m0 (pre++r::post)):=funext fun j=>by
     have hg:pR (aD (listed.setIfInBounds r.i true)) m0 pre=pR (aD listed) m0 pre:=funext fun s=>Av rfl abY;rw[xJ,xJ,VM,pR,hSr,hg];simp only[cond];by_cases hk:r.kl=[]
     ·by_cases hd:∃b,(j,b)∈r.wr
      ·obtain⟨b,hd,xm⟩:=Rec.abT hd;rw[xm,rJ fun q hq hs=>⟨fun b' hqd=>?_,fun id hid=>?_⟩,xm]
       ·rw[xK q hq]at hs;rcases Qh q hq with h|⟨_,_,h⟩
        ·exact Zk q hq hs h
        ·exact absurd rfl (h j b' hqd (true,j) (hrw j b hd))
       ·rw[xK q hq]at hs;rcases hc q hq id hid with h|h
        ·exact absurd h (Zk q hq hs)
        ·obtain⟨h1,h2⟩:=h.2.2.2 j b hd xm;refine⟨h1,fun b' jc=>?_⟩;rw[xm]at jc;cases jc;exact h2
      ·have hd':∀b,(j,b)∉r.wr:=fun b hb=>hd ⟨b,hb⟩;have Ee:∀(g:Mem),r.ms g j=g j:=fun g=>Rec.VF hd' fun id⟨b,hid⟩=>by rw[hk]at hid;cases hid
       rw[Ee];exact Av (Ee _) xK
     ·have VJ:∀q∈post,aD listed q.i=false:=fun q hq=>N1 q hq (VO hk q hq);rw[rJ fun q hq hs=>by rw[xK q hq,VJ q hq]at hs;cases hs];exact Rec.Fy (rJ fun q hq hs=>by rw[VJ q hq]at hs;cases hs).symm
    rw[e1,e2];exact kn
  split
  ·rename_i hw;rw[AI hw]at hwp;exact hwp rd
  ·rename_i hw;rw[IS hw]at hwp;exact⟨fun _ _=>trivial,hwp⟩
end
section
variable {E:Env} {ops:Array Oper} {w0:bA}
variable{o:Oper}
theorem SS{t:Nat}(h:.tmp t∈o.op.operands):t∈o.looksAt ops:=by unfold Oper.looksAt;refine aku.2 (.inl (List.mem_filterMap.2 ⟨.tmp t,by simpa using h,rfl⟩))
theorem xL{g:Nat×Bool}{t:Nat}(hg:o.guard=some g)(h:(ops[g.1]?).bind (·.dst)=some t):t∈o.looksAt ops:=by simp_all[Oper.looksAt]
variable{f F:Fr}
theorem ze(h:∀t∈o.looksAt ops,f t=F t):∀x∈o.op.operands,bC E f x=bC E F x:=by
 intro x hx;cases x with
 |tmp t=>simp_all[bC,SS]
 |_=>rfl
variable{A:List (Nat×Bool)}{φ:Nat→aA}{a:Act}{w:World}
theorem Lq{f2:Fr}{m2:Mem}{μ:Ro}(hg:guardOf o A=none)(hA:sr E.fn.ntmps ops A f)(hR:Rel E.P E.aG E.fn.ntmps w0 μ φ f2 m2 a w)(hf:∀t∈o.looksAt ops,f2 t=f t):Region.wanted o (yielded ops a.tmps)=true:=by
 unfold guardOf at hg;unfold Region.wanted;split at hg
 ·rename_i hgd;simp[hgd]
 ·rename_i g hgd;split at hg
  ·rename_i bW;obtain⟨t,h1,h0,h2⟩:=hA g (by simpa using bW);have h3:=hR.fr t;grind [rX,xL,vK,so]
  ·cases hg
variable{i:Nat}{ft:bq}{m:Mem}
theorem FC(hE:ku E){v:V}{wr:List (Nat×bH)}(hg:guardOf o A=none)(hA:sr E.fn.ntmps ops A f)(hd:xt E o=true)(hn:∀(f2:Fr)(m2:Mem),(∀x∈o.op.operands,bC E f2 x=bC E f x)→(∀x∈ft,m2 x.2=m x.2)→∀(R':Type)(k':V→Fr→Mem→bq→Option R'),KS E true (cw E o.dst) o f2 m2 k'=k' v f2 (uD wr m2) ft):H4 E ops w0 ⟨i,o,v,wr,ft,[]⟩ f m:=by
 intro f2 m2 hf hm μ φ a w K Q hR hK;have hw:Region.wanted o (yielded ops a.tmps)=true:=by
  unfold guardOf at hg;unfold Region.wanted;split at hg
  ·rename_i hgd;simp[hgd]
  ·rename_i g hgd;split at hg
   ·rename_i bW;obtain⟨t,h1,h0,h2⟩:=hA g (by simpa using bW);have h3:=hR.fr t;grind [rX,xL,vK,so]
   ·cases hg
 simp only at hf hm hK⊢;rw[AI hw];exact fun rd=>(abQ hE (.inl rfl) (hn f2 m2 (ze hf) hm)).Ar (Ct (hn f2 m2 (ze hf) hm Unit fun _ _ _ _=>some ())) rd w0 μ φ a w K Q hR fun y w' μ' φ' hle hM hF hv hl=>hK _ _ _ _ (hR.put hle (jC hd) hM hF hv hl)
theorem N2(hd:xt E o=true)(Fq:SO ops f o):H4 E ops w0 ⟨i,o,.aO [],[],[],[]⟩ f m:=by
 intro f2 m2 hf hm μ φ a w K Q hR hK;simp only at hf hm hK⊢;have ac4:SO ops f2 o:=by obtain⟨g,hg,ht⟩:=Fq;exact⟨g,hg,fun t h=>by simp_all[xL]⟩
 rw[zQ hR ac4];simp only[cQ,abp];exact hK _ _ _ _ (hR.put (fun _ _ h=>h) (jC hd) hR.toav hR.kX Fm (fun id hid=>by simp[V.has,b8]at hid))
def Bl(x:Nat×Oper):Rec:=⟨x.1,x.2,.aO [],[],[],[]⟩
theorem H5{m:Mem}:∀(l:List (Nat×Oper))(F:Fr),(∀x∈l,xt E x.2=true)→(∀(pre post:List (Nat×Oper))(x:Nat×Oper),l=pre++x::post→SO ops (iZ F pre) x.2)→fW E ops w0 F m (l.map Bl)∧ni F (l.map Bl)=iZ F l
 |[],F,_,_=>⟨trivial,rfl⟩
 |x::r,F,hd,Fq=>by obtain⟨h1,h2⟩:=H5 (m:=m) r (jB F x.2.dst (.aO [])) (fun y hy=>hd y (by simp[hy])) (fun pre post y h=>by have:=Fq (x::pre) post y (by rw[h];rfl);rwa[iZ]at this);exact⟨⟨N2 (hd x (by simp)) (Fq [] r x rfl),by simp[Bl],h1⟩,h2⟩
theorem H6{m:Mem}:∀{l:List Rec},(∀q∈l,q.wr=[]∧q.kl=[])→qZ m l=m
 |[],_=>rfl
 |r::l,h=>by
  obtain⟨h1,h2⟩:=h r (by simp);have:r.ms m=m:=by unfold Rec.ms;rw[h1,h2];rfl
  simp_all[qZ,H6]
theorem fW.wr:∀{l:List Rec}{f:Fr}{m:Mem},fW E ops w0 f m l→∀q∈l,∀id b,(id,b)∈q.wr→(true,id)∈q.ft
 |[],_,_,_,q,hq=>by cases hq
 |r::l,f,m,h,q,hq=>by
  rcases ake.1 hq with rfl|hq
  ·exact h.2.1
  ·exact fW.wr h.2.2 q hq
def VQ(q r:Rec):Prop:=reach ops 4 r.o q.i=true∨((∀id b,(id,b)∈q.wr→∀x∈r.ft,x.2≠id)∧∀id b,(id,b)∈r.wr→∀x∈q.ft,x.2≠id)
theorem Lr{o:Oper}{w:Bool}{id:Nat}:∀{lg:Log},PT ops o w id lg=true→∀x∈lg,id≠x.2.2∨(w=false∧x.2.1=false)∨reach ops 4 o x.1=true
 |[],_,x,hx=>by cases hx
 |(j,w',tl)::lg,h,x,hx=>by
  simp only[PT,No]at h;rcases ake.1 hx with rfl|hx
  ·have h1:=h.1;simp only[akp,akK,No]at h1;grind [Nat.beq_refl]
  ·exact Lr h.2 x hx
theorem Cw{o:Oper}{lg:Log}:∀{ft:bq},Ch ops o lg ft=true→∀y∈ft,∀x∈lg,y.2≠x.2.2∨(y.1=false∧x.2.1=false)∨reach ops 4 o x.1=true
 |[],_,y,hy=>by cases hy
 |(w,id)::ft,h,y,hy=>by
  simp only[Ch,No]at h;rcases ake.1 hy with rfl|hy
  ·exact Lr h.1
  ·exact Cw h.2 y hy
theorem FD{o:Oper}{id:Nat}:∀{lg:Log},D7 ops o id lg=true→∀x∈lg,x.2.2=yP id→reach ops 4 o x.1=true
 |[],_,x,hx=>by cases hx
 |(j,w,n)::lg,h,x,hx=>by
  simp only[D7,No,akp,akK]at h;intro he;rcases ake.1 hx with rfl|hx
  ·simp_all
  ·exact FD h.2 x hx he
mutual
theorem Qi{id:Nat}:∀(v:V),v.has id=true→id∈v.ids
 |.agg cs,h=>uW cs (by simpa only[V.has]using h)
 |.aO cs,h=>uW cs (by simpa only[V.has]using h)
 |.fn _ cs,h=>uW cs (by simpa only[V.has]using h)
 |.os j,h=>by have:=IN h;subst this;simp[V.ids]
 |.fR j _ _,h=>by have:=IN h;subst this;simp[V.ids]
 |.oe j _ _,h=>by have:=IN h;subst this;simp[V.ids]
 |.om j,h=>by have:=IN h;subst this;simp[V.ids]
 |.xn j _ _,h=>by have:=IN h;subst this;simp[V.ids]
 |.AX j _ _ _ _ _,h=>by have:=IN h;subst this;simp[V.ids]
 |.op j _,h=>by have:=IN h;subst this;simp[V.ids]
 |.it j,h=>by have:=IN h;subst this;simp[V.ids]
 |.yl j,h=>by have:=IN h;subst this;simp[V.ids]
 |.pv _,h=>by cases h
 |.iy,h=>by cases h
 |.top,h=>by cases h
theorem uW{id:Nat}:∀(cs:List V),b8 id cs=true→id∈KT cs
 |[],h=>by cases h
 |v::r,h=>by
  simp only[b8,akp]at h;simp only[KT,aku];rcases h with h|h
  ·exact .inl (Qi v h)
  ·exact .inr (uW r h)
end
variable{id:Nat}
theorem Bm{b:bH}(h:b.names id=true):id∈EF (some b):=by
 cases b with
 |box cs=>exact uW cs h
 |_=>cases h
theorem Ax{m m':Mem}{id:Nat}:∀{ft:bq}{x:Bool×Nat},x∈ft→(id∈EF (m x.2)∨id∈EF (m' x.2))→id∈I4 m m' ft
 |y::ft,x,hx,h=>by
  simp only[I4,aku];rcases ake.1 hx with rfl|hx
  ·exact .inl h
  ·exact .inr (Ax hx h)
theorem VR{v:V}{wr:List (Nat×bH)}(Lt:∀t∈o.looksAt ops,f t=F t)(hwr:∀j b,(j,b)∈wr→(true,j)∈ft)(hn:id∉D6 ops o f m (uD wr m) v ft)(hft:∀x∈ft,x.2≠id):Clean ops id ⟨i,o,v,wr,ft,[]⟩ F m:=by
 simp only[D6,aku,ana]at hn;obtain⟨⟨h1,h2⟩,h3⟩:=hn;refine⟨fun t ht=>?_,?_,fun x hx=>⟨hft x hx,fun b hb=>?_⟩,fun j b hb xm=>⟨hft _ (hwr j b hb),?_⟩⟩
 ·cases e:(F t).has id with
  |false=>rfl
  |true=>exact absurd (uW _ (cz.2 ⟨f t,akt.2 ⟨t,ht,rfl⟩,by rw[Lt t ht];omega⟩)) h1
 ·cases e:v.has id with
  |false=>rfl
  |true=>exact absurd (Qi _ e) h2
 ·cases e:b.names id with
  |false=>rfl
  |true=>grind [absurd,Ax,Bm]
 ·cases e:b.names id with
  |false=>rfl
  |true=>exact absurd (Ax (hwr j b hb) (.inr (by have jc:uD wr m j=some b:=xm m;simp_all[Bm]))) h3
variable{R:Type}
theorem N3{site:Nat}{rd:bq}(h:vw E f m o=some (id,rd)){k:V→Fr→Mem→bq→Option R}{r:R}(hx:cv E false site o f m k=some r):(∀x∈rd,x.1=false)∧∃dy,k (.os id) (eS id f) (ao (bh (bE id m) id) id dy) [(true,0)]=some r∧∀(f2:Fr)(m2:Mem),(∀x∈o.op.operands,bC E f2 x=bC E f x)→(∀x∈(true,id)::rd,m2 x.2=m x.2)→∀(R':Type)(k':V→Fr→Mem→bq→Option R'),cv E false site o f2 m2 k'=k' (.os id) (eS id f2) (ao (bh (bE id m2) id) id dy) [(true,0)]:=by
 obtain⟨dst,op,type,pos,after,guard⟩:=o;unfold vw at h;simp only at h;split at h
 ·rename_i c;obtain⟨callee,args,argTypes⟩:=c;simp only at h;split at h
  ·rename_i tl x t t' sn Z2;split at h
   ·rename_i e hu;split at h
    ·rename_i new rd' HQ;split at h
     ·cases h
     ·rename_i hxh;simp only[cO,Ua]at h;obtain⟨rfl,rfl⟩:=h;obtain⟨he1,he2,_⟩:=oQ HQ;have aj1:∀m2:Mem,bh (bE tl m2) tl tl=none:=fun m2=>by simp_all
      have main:∀(f2:Fr)(m2:Mem),args.toList.map (bC E f2)=[.os tl,x]→m2 tl=m tl→fv m2 (aN E.P e) x=some (new,rd')→∀(R':Type)(k':V→Fr→Mem→bq→Option R'),cv E false site ⟨dst,.call ⟨.builtin .append,args,argTypes⟩,type,pos,after,guard⟩ f2 m2 k'=if !(decide (t'=t))then none else if(cZ E e).isNone then none else match m tl with
       |some (.arr sz et es)=>if et=e∧sz=aN E.P e∧x.has tl=false then(if(es++new).length*GZ E.P e≤ae∧0<GZ E.P e then k' (.os tl) (eS tl f2) (ao (bh (bE tl m2) tl) tl (.arr sz e (es++new))) [(true,0)]else none)else none
       |_=>none:=by
       intro f2 m2 h1 h2 h3 R' k'
       simp only[cv,h1,Z2,A2,alj,hu,h3,h2]
       split
       ·rfl
       ·split
        ·rfl
        ·split
         ·simp_all[fresh]
         simp
      rw[main f m sn rfl HQ]at hx;refine⟨he2,?_⟩;split at hx
      ·cases hx
      ·rename_i hc1;split at hx
       ·cases hx
       ·rename_i Us;split at hx
        ·rename_i sz et es hm;split at hx
         ·rename_i hc3;split at hx
          ·rename_i hc4;refine⟨_,hx,fun f2 m2 hf cL R' k'=>?_⟩;have ha:args.toList.map (bC E f2)=[.os tl,x]:=by grind [pD,Op.operands,Call.operands]
           rw[main f2 m2 ha (cL (true,tl) (by simp)) (he1 m2 fun y hy=>cL y (by simp[hy])) R' k'];simp_all
          ·cases hx
         ·cases hx
        ·cases hx
    ·cases h
   ·cases h
  ·cases h
 ·cases h
theorem wH.kill(h:wH f F)(id:Nat):wH (eS id f) (eS id F):=fun t=>by
 rcases h t with e|e
 ·exact .inl (by simp only[eS,e])
 ·exact .inr (by simp only[eS,e];rfl)
theorem sr.kill{nt:Nat}(h:sr nt ops A f)(id:Nat):sr nt ops A (eS id f):=by intro g hg;obtain⟨t,h1,h0,h2⟩:=h g hg;exact⟨t,h1,h0,by simp only[eS,h2];rfl⟩
theorem VS{x:Nat×bq}(h:vw E f m o=some x):isApp E o=true:=by
 obtain⟨dst,op,type,pos,after,guard⟩:=o;unfold vw at h;simp only at h;unfold isApp;split at h
 ·rename_i c;obtain⟨callee,args,argTypes⟩:=c;grind
 ·cases h
theorem Jr{rd:bq}(h:vw E f m o=some (id,rd)):∃c x t t',o.op=.call c∧c.callee=.builtin .append∧c.args.toList.map (bC E f)=[.os id,x]∧c.argTypes.toList=[t,t']:=by unfold vw at h;grind
theorem SU{kl:Kl}(h:I5 E f m o=some (kl,ft)){k:V→Fr→Mem→bq→Option R}{r:R}(hx:KS E false (cw E o.dst) o f m k=some r):isApp E o=true∧∃v wr ft1,k v (kf kl f) (uD wr (km kl m)) ft1=some r∧(∀x∈wr,(true,x.1)∈ft)∧(∀x∈kl,(true,x.2)∈ft)∧∀(f2:Fr)(m2:Mem),(∀x∈o.op.operands,bC E f2 x=bC E f x)→(∀x∈ft,m2 x.2=m x.2)→∀(R':Type)(k':V→Fr→Mem→bq→Option R'),KS E false (cw E o.dst) o f2 m2 k'=k' v (kf kl f2) (uD wr (km kl m2)) ft1:=by
 unfold I5 at h;unfold KS at hx;split at h
 ·rename_i sp y7;simp only[cO]at h;have hn:E.B9 (cw E o.dst)=true:=by grind
  rw[hn]at y7 hx;simp only[cond]at y7 hx;rw[y7]at hx;obtain⟨v,wr,h1,h2,h3,h4,_,_⟩:=NX y7 hx;rw[h]at h1 h2 h3 h4;refine⟨by unfold isApp;rw[hn];rfl,v,wr,ft,h1,h2,h3,fun f2 m2 hf hm R' k'=>?_⟩;have:=NV y7 hf (by rw[h];exact hm);simp_all[KS,cond]
 ·rename_i y7;split at h
  ·rename_i id rd VT;simp only[cO,Ua]at h;obtain⟨rfl,rfl⟩:=h;have e0:(bif false then none else bif E.B9 (cw E o.dst)then Ae E (cw E o.dst) o f m else none)=(bif E.B9 (cw E o.dst)then Ae E (cw E o.dst) o f m else none):=rfl;rw[e0,y7]at hx;simp only at hx;obtain⟨pP,dy,hk,hn⟩:=N3 VT hx;refine⟨VS VT,.os id,[(id,dy)],[(true,0)],hk,by simp,by simp,fun f2 m2 hf hm R' k'=>?_⟩;have VU:(bif E.B9 (cw E o.dst)then Ae E (cw E o.dst) o f2 m2 else none)=none:=by
    cases K4:E.B9 (cw E o.dst)with
    |false=>rfl
    |true=>
     simp only[cond];obtain⟨c,x,t,t',hc,afc,sn,Z8⟩:=Jr VT;have aie:c.args.toList.map (bC E f2)=[.os id,x]:=by simp_all[akF,Op.operands,Call.operands]
     have cL:m2 id=m id:=hm (true,id) (by simp);have hm3:∃sz et es,m id=some (.arr sz et es):=by obtain⟨dst,op,type,pos,after,guard⟩:=o;simp only at hc;subst hc;obtain⟨callee,args,argTypes⟩:=c;simp only at afc sn Z8;subst afc;simp only[cv,sn,Z8,A2,alj]at hx;grind
     obtain⟨sz,et,es,hm3⟩:=hm3;unfold Ae;simp_all
   unfold KS;have e1:(bif false then none else bif E.B9 (cw E o.dst)then Ae E (cw E o.dst) o f2 m2 else none)=(bif E.B9 (cw E o.dst)then Ae E (cw E o.dst) o f2 m2 else none):=rfl;rw[e1,VU];exact hn f2 m2 hf hm R' k'
  ·cases h
theorem wH.zF(h:wH f F)(id:Nat):wH (iA id f) (iA id F):=fun t=>by
 rcases h t with e|e
 ·simp_all[iA]
 ·exact .inr (by simp only[iA,e];rfl)
theorem wH.kf:∀{kl:Kl}{f F:Fr},wH f F→wH (Go.Ab.kf kl f) (Go.Ab.kf kl F)
 |[],_,_,h=>h
 |(true,id)::r,f,F,h=>wH.kf (kl:=r) (f:=eS id f) (F:=eS id F) (h.kill id)
 |(false,id)::r,f,F,h=>wH.kf (kl:=r) (f:=iA id f) (F:=iA id F) (h.zF id)
theorem sr.zF{nt:Nat}(h:sr nt ops A f)(id:Nat):sr nt ops A (iA id f):=by intro g hg;obtain⟨t,h1,h0,h2⟩:=h g hg;exact⟨t,h1,h0,by simp only[iA,h2];rfl⟩
theorem sr.kf{nt:Nat}{A:List (Nat×Bool)}:∀{kl:Kl}{f:Fr},sr nt ops A f→sr nt ops A (Go.Ab.kf kl f)
 |[],_,h=>h
 |(true,id)::r,f,h=>sr.kf (kl:=r) (f:=eS id f) (h.kill id)
 |(false,id)::r,f,h=>sr.kf (kl:=r) (f:=iA id f) (h.zF id)
theorem SV(hE:ku E)(hY:uL E.P E.aG E.fn.ntmps E.yl w0){v:V}{wr:List (Nat×bH)}{kl:Kl}{ft1:bq}(hg:guardOf o A=none)(hA:sr E.fn.ntmps ops A F)(hd:xt E o=true)(SQ:∀x∈o.op.operands,bC E f x=bC E F x)(hn:∀(f2:Fr)(m2:Mem),(∀x∈o.op.operands,bC E f2 x=bC E f x)→(∀x∈ft,m2 x.2=m x.2)→∀(R':Type)(k':V→Fr→Mem→bq→Option R'),KS E false (cw E o.dst) o f2 m2 k'=k' v (kf kl f2) (uD wr (km kl m2)) ft1):H4 E ops w0 ⟨i,o,v,wr,ft,kl⟩ F m:=by
 intro f2 m2 hf hm μ φ a w K Q hR hK;have hw:Region.wanted o (yielded ops a.tmps)=true:=Lq hg hA hR hf;simp only at hf hm hK⊢;rw[AI hw];have hx:=hn f2 m2 (fun x hx=>by rw[ze hf x hx,SQ x hx]) hm (V×Fr×Mem) fun v f m _=>some (v,f,m);rcases Jo hE hx with⟨v,f',m',ft,h1,h2⟩|⟨_,h2⟩
 ·simp only[cO,Ua]at h1;obtain⟨rfl,rfl,rfl⟩:=h1;exact fun rd=>h2.Ar (Ct hx) rd w0 μ φ a w K Q hR fun y w' μ' φ' hle hM hF hv hl=>hK _ _ _ _ (hR.put hle (jC hd) hM hF hv hl)
 ·refine fun rd=>Fj.Ar h2 rd w0 μ φ a w K Q hY hR fun v f' m' y w' μ' φ' h1 hle hM hF hv hl=>?_;simp only[cO,Ua]at h1;obtain⟨rfl,rfl,rfl⟩:=h1;exact hK _ _ _ _ (hR.put hle (jC hd) hM hF hv hl)
structure Js(ops:Array Oper)(mode:Nat)(F:Fr)(m:Mem)(lg:Log)(recs:List Rec):Prop where
 one:mode=1→∀q∈recs,q.wr=[]∧q.kl=[]
 ord:mode=2→recs.Pairwise (VQ (ops:=ops))
 log:mode=2→∀q∈recs,∀y∈q.ft,∀x∈lg,y.2≠x.2.2∨(y.1=false∧x.2.1=false)∨reach ops 4 q.o x.1=true
 kl:recs.Pairwise fun q r=>q.kl≠[]→reach ops 4 r.o q.i=true
 cln:pE ops F m recs
 nam:∀q∈recs,∀id,q.H2 id→mode=2∧ops.toList.any (isApp E)=true∧(true,id)∈q.ft∧∀x∈lg,x.2.2=yP id→reach ops 4 q.o x.1=true
theorem pE.none:∀{l:List Rec}{f:Fr}{m:Mem},(∀q∈l,q.kl=[])→pE ops f m l
 |[],_,_,_=>trivial
 |r::l,f,m,h=>⟨fun q hq id⟨b,hid⟩=>(by simp_all),pE.none fun q hq=>h q (by simp[hq])⟩
theorem nD(hE:ku E)(hY:uL E.P E.aG E.fn.ntmps E.yl w0){mode:Nat}(nc:mode=1∨mode=2):∀(fuel:Nat){R:Type}{A:List (Nat×Bool)}{l:List (Nat×Oper)}{f:Fr}{m:Mem}{lg:Log}{k:Fr→Mem→Option R}{r:R},bY E ops mode fuel R A l f m lg k=some r→(∀x∈l,ops[x.1]?=some x.2)→(mode=1→∀x∈l,fk x.2=true)→ac2 ops A l→∀F:Fr,wH f F→sr E.fn.ntmps ops A F→(∀x∈l,∀t∈x.2.looksAt ops,f t=F t)→∃(recs:List Rec)(f':Fr),k f' (qZ m recs)=some r∧wH f' (ni F recs)∧recs.map (fun r=>(r.i,r.o))=l∧fW E ops w0 F m recs∧Js (E:=E) ops mode F m lg recs
 |0,_,_,_,_,_,_,_,_,h,_,_,_,_,_,_,_=>by simp[bY]at h
 |fuel+1,R,A,[],f,m,lg,k,r,h,_,_,_,F,hF,_,_=>by simp only[bY]at h;exact⟨[],f,h,hF,rfl,trivial,by simp,fun _=>.nil,by simp,.nil,trivial,by simp⟩
 |fuel+1,R,A,(i,o)::rest,f,m,lg,k,r,h,hl,Ux,Fs,F,hF,hA,Lt=>by
  have hm1:(Nat.beq mode 1||Nat.beq mode 2)=true:=by simp_all
  simp only[bY,hm1]at h;split at h
  ·rename_i hg;split at h
   ·rename_i hd;have afd:∀x∈o.op.operands,bC E f x=bC E F x:=ze (Lt (i,o) (by simp));split at h
    ·rename_i kl ft y7;have ac5:mode=2:=by
      rcases nc with rfl|rfl
      ·cases y7
      rfl
     subst ac5;have y7:I5 E f m o=some (kl,ft):=y7;split at h
     ·rename_i P0;simp only[No,akJ]at P0;obtain⟨⟨aif,aih⟩,aii⟩:=P0;obtain⟨VT,v,wr,ft1,hk,hwr,N0,hn⟩:=SU y7 h;obtain⟨recs,f',c1,c2,c3,c4,c5⟩:=nD hE hY (.inr rfl) fuel hk (fun x hx=>hl x (by simp[hx])) (fun hm=>by omega) (fun x hx=>Fs x (by simp[hx])) (jB (kf kl F) o.dst v) ((wH.kf (kl:=kl) hF).put _ _) (sr.put (sr.kf (kl:=kl) hA) fun g rH t ht=>Fs (i,o) (by simp) g rH t ht) (fun x hx t ht=>by
       by_cases e:o.dst=some t
       ·rw[e,kz,kz]
       grind [fV,Bk])
      have qk:∀q∈recs,reach ops 4 q.o i=true:=fun q hq=>aii (q.i,q.o) (by grind);have aij:ops.toList.any (isApp E)=true:=als.2 ⟨o,aeB (by rw[akL];exact hl (i,o) (by simp)),VT⟩;refine⟨⟨i,o,v,wr,ft,kl⟩::recs,f',c1,c2,by simp[c3],⟨SV hE hY hg hA hd afd hn,fun j b hb=>hwr _ hb,c4⟩,?_⟩;refine⟨fun hm=>(by omega),fun hm=>ak8.2 ⟨fun q hq=>.inl (qk q hq),c5.ord hm⟩,fun hm q hq=>?_,ak8.2 ⟨fun q hq _=>qk q hq,c5.kl⟩,⟨fun q hq tl _=>.inl (qk q hq),c5.cln⟩,fun q hq tl hid=>?_⟩
      ·rcases ake.1 hq with rfl|hq
       ·exact Cw aif
       ·exact fun y hy x hx=>c5.log hm q hq y hy x (aku.2 (.inr hx))
      ·rcases ake.1 hq with rfl|hq
       ·obtain⟨bb,hid⟩:=hid;exact⟨rfl,aij,N0 _ hid,FD (aih _ hid)⟩
       ·obtain⟨g1,g2,g3,g4⟩:=c5.nam q hq tl hid;exact⟨g1,g2,g3,fun x hx=>g4 x (aku.2 (.inr hx))⟩
     ·cases h
    ·rcases Jo hE h with⟨v,f1,m1,ft,hk,SQ⟩|⟨zN,_⟩
     rotate_left
     ·cases zN
     obtain⟨hf1,wr,afe,hwr,hn⟩:=SQ.drawn rfl;subst hf1;have Zm:∀(f2:Fr)(m2:Mem),(∀x∈o.op.operands,bC E f2 x=bC E F x)→(∀x∈ft,m2 x.2=m x.2)→∀(R':Type)(k':V→Fr→Mem→bq→Option R'),KS E true (cw E o.dst) o f2 m2 k'=k' v f2 (uD wr m2) ft:=fun f2 m2 hf=>hn f2 m2 fun x hx=>by rw[hf x hx,afd x hx]
     have step:∀(wr':List (Nat×bH))(lg':Log),uD wr' m=m1→(mode=1→wr'=[])→(∀id b,(id,b)∈wr'→(true,id)∈ft)→H4 E ops w0 ⟨i,o,v,wr',ft,[]⟩ F m→bY E ops mode fuel R A rest (jB f1 o.dst v) m1 lg' k=some r→(mode=2→lg'=(bif ops.toList.any (isApp E)then(D6 ops o f1 m m1 v ft).map (fun n=>(i,false,yP n))else[])++(ft.map (fun x=>(i,x))++lg)∧Ch ops o lg ft=true)→∃(recs:List Rec)(f':Fr),k f' (qZ m recs)=some r∧wH f' (ni F recs)∧recs.map (fun r=>(r.i,r.o))=(i,o)::rest∧fW E ops w0 F m recs∧Js (E:=E) ops mode F m lg recs:=by
      intro wr' lg' hwm NM hw2 VN hev Jt;obtain⟨recs,f',c1,c2,c3,c4,c5⟩:=nD hE hY nc fuel hev (fun x hx=>hl x (by simp[hx])) (fun hm x hx=>Ux hm x (by simp[hx])) (fun x hx=>Fs x (by simp[hx])) (jB F o.dst v) (hF.put _ _) (sr.put hA fun g rH t ht=>Fs (i,o) (by simp) g rH t ht) (fun x hx t ht=>by
       by_cases e:o.dst=some t
       ·rw[e,kz,kz]
       grind [fV])
      subst hwm;refine⟨⟨i,o,v,wr',ft,[]⟩::recs,f',c1,c2,by simp[c3],⟨VN,hw2,c4⟩,?_⟩;have aff:mode=2→∀x∈lg,x∈lg':=fun hm x hx=>by simp_all
      have abZ:mode=2→∀x∈ft,(i,x)∈lg':=fun hm x hx=>by simp_all
      refine⟨fun hm q hq=>?_,fun hm=>ak8.2 ⟨fun q hq=>?_,c5.ord hm⟩,fun hm q hq=>?_,ak8.2 ⟨fun q hq h=>absurd rfl h,c5.kl⟩,⟨fun q hq id hid=>?_,c5.cln⟩,fun q hq id hid=>?_⟩
      ·rcases ake.1 hq with rfl|hq
       ·exact⟨NM hm,rfl⟩
       ·exact c5.one hm q hq
      ·have d2:=c5.log hm;by_cases he:reach ops 4 q.o i=true
       ·exact .inl he
       ·refine .inr ⟨fun id b hb x hx hxi=>?_,fun id b hb x hx hxi=>?_⟩
        ·grind
        ·rcases d2 q hq (true,id) (fW.wr c4 q hq id b hb) (i,x) (abZ hm x hx)with h|h|h
         ·exact h hxi.symm
         ·cases h.1
         ·exact he h
      ·rcases ake.1 hq with rfl|hq
       ·exact Cw (Jt hm).2
       ·exact fun y hy x hx=>c5.log hm q hq y hy x (aff hm x hx)
      ·obtain⟨g1,g2,g3,g4⟩:=c5.nam q hq id hid;by_cases he:reach ops 4 q.o i=true
       ·exact .inl he
       ·refine .inr (VR (Lt (i,o) (by simp)) hw2 (fun bW=>he (g4 (i,false,yP id) ?_ rfl)) fun x hx hxi=>?_)
        ·grind
        ·rcases c5.log g1 q hq (true,id) g3 (i,x) (abZ g1 x hx)with h|h|h
         ·exact h hxi.symm
         ·cases h.1
         ·exact he h
      ·rcases ake.1 hq with rfl|hq
       ·obtain⟨_,hid⟩:=hid;cases hid
       ·obtain⟨g1,g2,g3,g4⟩:=c5.nam q hq id hid;grind
     rcases nc with rfl|rfl
     ·simp only[Nat.beq,cQ,abp]at hk;split at hk
      ·rename_i hqf;have hwn:wr=[]:=by
        cases wr with
        |nil=>rfl
        |cons x l=>have:=As hqf _ (hwr x (by simp));cases this
       subst hwn;exact step [] lg afe.symm (fun _=>rfl) (by simp) (FC hE hg hA hd Zm) hk (by simp)
      ·cases hk
     ·simp only[Nat.beq,Ko]at hk;split at hk
      ·rename_i hof;exact step wr _ afe.symm (by simp) (fun id b hb=>hwr _ hb) (FC hE hg hA hd Zm) hk fun _=>⟨rfl,hof⟩
      ·cases hk
   ·cases h
  ·rename_i j DP hg;split at h
   ·rename_i tj htj;split at h
    ·rename_i b hb;generalize y7:C0 A ((i,o)::rest)=sp at h;obtain⟨body,KU⟩:=sp;have nC:=Fo y7;have hm0:Nat.beq mode 0=false:=by rcases nc with rfl|rfl<;>rfl
     simp only[hm0,amc,cQ,abp]at h;split at h
     ·rename_i ip p nr;split at h
      ·rename_i c x y VD;split at h
       ·rename_i hc;simp only[No,akJ,akK,al3,ne_eq]at hc;obtain⟨⟨⟨⟨⟨⟨NY,hpg⟩,H0⟩,hgi⟩,aik⟩,hpd⟩,cL⟩:=hc;have ac6:mode=1:=by simp_all
        subst ac6;have NY:=IN NY;subst NY;have hpg:guardOf p A=none:=by simpa using hpg
        obtain⟨rb,hrb,h⟩:=cT.1 h;have bW:∀z∈body,z∈(i,o)::rest:=fun z hz=>by rw[nC];simp[hz]
        have zR:∀z∈nr,z∈(i,o)::rest:=fun z hz=>by rw[nC];simp[hz]
        have Qf:(ip,p)∈(i,o)::rest:=by rw[nC];simp
        obtain⟨aic,hb⟩:=Fl hb;have hFc:F c=.pv (.bool b):=by
         rcases hF c with e|e
         ·rw[←e];omega
         simp_all
        have after:∀(tD:List Rec)(q:Operand),tD.map (fun r=>(r.i,r.o))=body→fW E ops w0 F m tD→(∀q∈tD,q.wr=[]∧q.kl=[])→bC E (ni F tD) q=.pv (.bool rb)→(q=if b then x else y)→∃(recs:List Rec)(f':Fr),k f' (qZ m recs)=some r∧wH f' (ni F recs)∧recs.map (fun r=>(r.i,r.o))=body++(ip,p)::nr∧fW E ops w0 F m recs∧(∀q∈recs,q.wr=[]∧q.kl=[]):=by
         intro tD q ail afg hwn hq hqe;have afh:∀t,(∀z∈body,z.2.dst≠some t)→ni F tD t=F t:=fun t ht=>H3 fun q hq=>⟨ht (q.i,q.o) (by grind),(hwn q hq).2⟩;have hA1:sr E.fn.ntmps ops A (ni F tD):=fun g rH=>by obtain⟨t,h1,h0,h2⟩:=hA g rH;exact⟨t,h1,h0,by rw[afh t fun z hz=>Fs z (bW z hz) g rH t h1];omega⟩
         have U4:ni F tD c=.pv (.bool b):=by grind
         have hrp:H4 E ops w0 ⟨ip,p,.pv (.bool rb),[],[],[]⟩ (ni F tD) m:=FC hE hpg hA1 hpd fun f2 m2 hf hm R' k'=>by
          have uQ:bC E f2 (.tmp c)=.pv (.bool b):=by simp_all[Op.operands,Z9]
          have hq2:bC E f2 q=.pv (.bool rb):=by grind [Op.operands]
          rw[Li VD uQ,←hqe,hq2];rfl
         obtain⟨recs,f',c1,c2,c3,c4,c5⟩:=nD hE hY (.inl rfl) fuel h (fun z hz=>hl z (zR z hz)) (fun hm z hz=>Ux hm z (zR z hz)) (fun z hz=>Fs z (zR z hz)) (jB (ni F tD) p.dst (.pv (.bool rb))) (wH.put (zd fun t ht=>by rw[afh t ht];exact hF t) _ _) (sr.put hA1 fun g rH t ht=>Fs (ip,p) Qf g rH t ht) (fun z hz t ht=>by
          by_cases e:p.dst=some t
          ·rw[e,kz,kz]
          ·have hnb:∀u∈body,u.2.dst≠some t:=fun u hu hud=>by grind [blind,List.all_eq_true,Bool.not_eq_true']
           grind [fV,zb])
         have hmB:qZ m tD=m:=H6 hwn;refine⟨tD++⟨ip,p,.pv (.bool rb),[],[],[]⟩::recs,f',?_,?_,by simp[ail,c3],?_,fun q hq=>?_⟩
         ·rw[Lp,hmB];exact c1
         ·rw[Ln];exact c2
         ·refine fW.append.2 ⟨afg,?_⟩;rw[hmB];exact⟨hrp,by simp,c4⟩
         ·rcases aku.1 hq with h|h
          ·exact hwn q h
          ·rcases ake.1 h with rfl|h
           ·simp
           ·exact c5.one rfl q h
        have fin:(∃(recs:List Rec)(f':Fr),k f' (qZ m recs)=some r∧wH f' (ni F recs)∧recs.map (fun r=>(r.i,r.o))=body++(ip,p)::nr∧fW E ops w0 F m recs∧(∀q∈recs,q.wr=[]∧q.kl=[]))→∃(recs:List Rec)(f':Fr),k f' (qZ m recs)=some r∧wH f' (ni F recs)∧recs.map (fun r=>(r.i,r.o))=(i,o)::rest∧fW E ops w0 F m recs∧Js (E:=E) ops 1 F m lg recs:=by rintro⟨recs,f',c1,c2,c3,c4,c5⟩;exact⟨recs,f',c1,c2,by rw[nC];omega,c4,fun _=>c5,fun h=>(by omega),fun h=>(by omega),amC (R:=fun _ _=>True) (fun{q r}hq hr _ h=>absurd (c5 q hq).2 h) (List.pairwise_of_forall fun _ _=>trivial),pE.none fun q hq=>(c5 q hq).2,fun q hq id⟨_,hid⟩=>(by simp_all)⟩
        have go:∀q,b=DP→(q=if b then x else y)→bY E ops 1 fuel Bool ((j,DP)::A) body f m lg (fun f _=>zB (bC E f q))=some rb→∃(recs:List Rec)(f':Fr),k f' (qZ m recs)=some r∧wH f' (ni F recs)∧recs.map (fun r=>(r.i,r.o))=body++(ip,p)::nr∧fW E ops w0 F m recs∧(∀q∈recs,q.wr=[]∧q.kl=[]):=by
         intro q hbp hq hev;obtain⟨tD,f1,c1,c2,c3,c4,c5⟩:=nD hE hY (.inl rfl) fuel hev (fun z hz=>hl z (bW z hz)) (fun hm z hz=>Ux hm z (bW z hz)) (fun z hz g rH t ht=>by
          rcases ake.1 rH with rfl|rH
          ·grind
          ·exact Fs z (bW z hz) g rH t ht) F hF (fun g rH=>by
          rcases ake.1 rH with rfl|rH
          ·simp_all
          ·exact hA g rH) (fun z hz=>Lt z (bW z hz))
         refine after tD q c3 c4 (c5.one rfl) ?_ hq;grind [Bh,VC]
        have no:∀q,b= !DP→(q=if b then x else y)→zB (bC E (nq f body) q)=some rb→∃(recs:List Rec)(f':Fr),k f' (qZ m recs)=some r∧wH f' (ni F recs)∧recs.map (fun r=>(r.i,r.o))=body++(ip,p)::nr∧fW E ops w0 F m recs∧(∀q∈recs,q.wr=[]∧q.kl=[]):=by intro q hbp hq hev;obtain⟨s1,s2⟩:=H5 (E:=E) (w0:=w0) (m:=m) body F (fun z hz=>(H0 z hz).1.2) (Bg htj hgi (fun z hz=>hl z (bW z hz)) (fun z hz=>(H0 z hz).2) (by rw[hFc,hbp]) (by simp));refine after (body.map Bl) q (by simp[Bl,amb]) s1 (fun u hu=>by obtain⟨z,_,rfl⟩:=akt.1 hu;exact⟨rfl,rfl⟩) ?_ hq;rw[s2];have hv:=Bh hev;grind [wH,nq,iZ,zd,vL,VC]
        grind
       ·cases h
      ·cases h
     ·cases h
    ·cases h
   ·cases h
theorem tX{l:List Oper}:(i,o)∈(List.range l.length).zip l↔l[i]?=some o:=by
 rw[akC];constructor
 ·grind
 ·intro h;refine⟨i,List.getElem?_zip_eq_some.2 ⟨?_,h⟩⟩;grind
theorem xM:∀{l done:List (Nat×Oper)},pt ops done l=true→(∀x∈l,∀d∈done,reach ops 4 x.2 d.1=true∨d.2.apart ops x.2=true)∧l.Pairwise (fun q r=>reach ops 4 r.2 q.1=true∨q.2.apart ops r.2=true)∧∀x∈l,∀e∈x.2.after,Region.binds .any e=true→e.on<x.1
 |[],_,_=>⟨by simp,.nil,by simp⟩
 |(i,o)::r,done,h=>by
  simp only[pt,No]at h;obtain⟨⟨h1,h2⟩,h3⟩:=h;obtain⟨i1,i2,i3⟩:=xM h3;have G7:∀{done:List (Nat×Oper)},yQ ops done o=true→∀d∈done,reach ops 4 o d.1=true∨d.2.apart ops o=true:=by
   intro done;induction done with
   |nil=>simp
   |cons x l ih=>intro h d hd;simp only[yQ,No,akp]at h;grind
  refine⟨fun x hx d hd=>?_,ak8.2 ⟨fun x hx=>i1 x hx (i,o) (by simp),i2⟩,fun x hx e he hb=>?_⟩
  ·grind
  ·rcases ake.1 hx with rfl|hx
   ·have:=akJ.1 h1 e (alx.2 he);simp_all
   ·exact i3 x hx e he hb
variable{rd:Option Nat}{fuel:Nat}{Q:Exit→Act→World→Prop}
theorem xR(hE:ku E)(hY:uL E.P E.aG E.fn.ntmps E.yl w0){mode:Nat}(nc:mode=1∨mode=2){l:List (Nat×Oper)}{base:Nat→Bool}(Ux:mode=1→∀x∈l,fk x.2=true){k:Fr→Mem→Option R}{r:R}(hmz:∀x∈l,ops[x.1]?=some x.2)(ajM:(l.map Prod.fst).Pairwise (·≠·))(abU:∀x∈l,base x.1=false)(abV:∀i o,ops[i]?=some o→base i=false→(∀x∈l,x.1≠i)→(∀x∈l,reach ops 8 o x.1=true)∨∃j,reach ops 8 o j=true∧base j=false∧∀x∈l,x.1≠j)(aim:∀x∈l,∀e∈x.2.after,Region.binds .any e=true→base e.on=true∨∃y∈l,y.1=e.on)(hi:pt ops [] l=true)(h:bY E ops mode fuel R [] l f m [] k=some r)(hQ:∀(fuel:Nat)(listed:Array Bool),listed.size=ops.size→listed.toList.countP (fun b=> !b)≤fuel→Aw ops listed→(∀i,aD listed i=true↔base i=true∨∃x∈l,x.1=i)→∀f' m' μ φ a w,k f' m'=some r→Rel E.P E.aG E.fn.ntmps w0 μ φ f' m' a w→wpAnyIn (FR rd) 0 E.P .any ops Q fuel listed a w):∀(fuel:Nat)(listed:Array Bool),listed.size=ops.size→listed.toList.countP (fun b=> !b)≤fuel→Aw ops listed→(∀i,aD listed i=true↔base i=true)→∀(μ:Ro)(φ:Nat→aA)(a:Act)(w:World),Rel E.P E.aG E.fn.ntmps w0 μ φ f m a w→wpAnyIn (FR rd) 0 E.P .any ops Q fuel listed a w:=by
 intro afi listed hs hc xl hb μ φ a w hR;obtain⟨recs,f',c1,c2,c3,c4,c5⟩:=nD (w0:=w0) hE hY nc fuel h hmz Ux (by intro x hx g hg;cases hg) f (wH.refl f) (by intro g hg;cases hg) (fun _ _ _ _=>rfl);obtain⟨_,i2,i3⟩:=xM hi;have bW:∀q∈recs,(q.i,q.o)∈l:=fun q hq=>by grind
 have hof:∀x∈l,∃q∈recs,q.i=x.1:=fun x hx=>by grind
 have G7:recs.Pairwise fun q r=>reach ops 4 r.o q.i=true∨q.o.apart ops r.o=true:=by grind
 have hmo:recs.Pairwise (VQ (ops:=ops)):=by
  rcases nc with hm|hm
  ·exact amC (fun{q r}hq hr _=>.inr ⟨fun id b hb=>(by rw[(c5.one hm q hq).1]at hb;cases hb),fun id b hb=>(by rw[(c5.one hm r hr).1]at hb;cases hb)⟩) G7
  ·exact c5.ord hm
 refine VG (E:=E) (w0:=w0) (recs:=recs) (f0:=f) (m0:=m) (base:=base) ?_ (fun q hq=>hmz _ (bW q hq)) (fun q hq=>abU _ (bW q hq)) (fun i o ho hbi cK=>?_) ?_ c5.kl c5.cln (fun q hq e he Nb=>⟨i3 _ (bW q hq) e he Nb,?_⟩) c4 ?_ afi listed hs hc xl (fun i hi=>(hb i).2 hi) (fun i hi=>Or.inl ((hb i).1 hi)) μ φ a w ?_
 ·grind
 ·grind
 ·refine List.Pairwise.imp (fun{q r}h=>?_) (List.Pairwise.and G7 hmo);obtain⟨h1,h2⟩:=h;rcases h1 with h1|h1
  ·exact .inl h1
  ·rcases h2 with h2|h2
   ·exact .inl h2
   ·exact .inr ⟨h1,h2⟩
 ·rcases aim _ (bW q hq) e he Nb with h1|⟨y,hy,h1⟩
  ·exact Or.inl h1
  grind
 ·intro ab0 Qj hs2 Us ain uQ μ2 φ2 a2 w2 HV;refine hQ ab0 Qj hs2 Us ain (fun i=>?_) _ _ μ2 φ2 a2 w2 c1 (HV.weaken c2);grind
 ·have hS:∀q∈recs,aD listed q.i=false:=fun q hq=>by grind
  rw[show pQ (aD listed) f recs=f from funext fun t=>rI fun q hq hs=>(by simp_all),show pR (aD listed) m recs=m from funext fun t=>rJ fun q hq hs=>(by simp_all)];omega
variable{x:Nat×Oper}
theorem xS(hx:x∈(List.range ops.size).zip ops.toList):ops[x.1]?=some x.2:=by have:=(tX (l:=ops.toList) (i:=x.1) (o:=x.2)).1 (by omega);simp_all
theorem sw(ho:ops[i]?=some o):(i,o)∈(List.range ops.size).zip ops.toList:=by have:=(tX (l:=ops.toList) (i:=i) (o:=o)).2 (by simp_all);omega
theorem zip_fst:((List.range ops.size).zip ops.toList).map Prod.fst=List.range ops.size:=by rw[List.map_fst_zip (by simp)]
variable{P:Program}
theorem FE{F:Fence}{n:Nat}{listed:Array Bool}(hs:listed.size=ops.size)(zu:∀i o,ops[i]?=some o→aD listed i=true)(hq:Q .normal a w):wpAnyIn F n P .any ops Q fuel listed a w:=by
 have hr:Region.ready .any ops listed=[]:=by apply List.eq_nil_iff_forall_not_mem.2;intro j hj;obtain⟨h0,o,ho,_⟩:=mem_ready.1 hj;grind
 cases fuel with
 |zero=>exact⟨hr,hq⟩
 |succ fuel=>exact⟨fun _=>hq,fun i hi=>by rw[hr]at hi;cases hi⟩
theorem xU(n j:Nat):aD (Array.replicate n false) j=false:=by simp only[aD,akl,Array.getElem?_replicate];split<;>rfl
theorem count_le(n:Nat):(Array.replicate n false).toList.countP (fun b=> !b)≤n:=by grind [List.countP_le_length,Array.replicate]
theorem Dn:Aw ops (Array.replicate ops.size false):=fun i o _ h=>by rw[xU]at h;cases h
theorem rK:x∈A4 E ops↔x∈(List.range ops.size).zip ops.toList:=by
 unfold A4;cases E.B9 (2000000000000000000000000000000+E.fid)with
 |false=>exact Iff.rfl
 |true=>simp only[cond_true,aku,alF];cases I7 E ops x<;>simp
theorem VV:((A4 E ops).map Prod.fst).Pairwise (·≠·):=by
 have h0:(((List.range ops.size).zip ops.toList).map Prod.fst).Pairwise (·≠·):=by rw[zip_fst];exact List.pairwise_lt_range.imp anb
 unfold A4;cases E.B9 (2000000000000000000000000000000+E.fid)with
 |false=>exact h0
 |true=>
  simp only[cond_true,akZ,alf];refine⟨h0.sublist (List.filter_sublist.map _),h0.sublist (List.filter_sublist.map _),fun a ha b hb e=>?_⟩;obtain⟨x,hx,rfl⟩:=akt.1 ha;obtain⟨y,hy,rfl⟩:=akt.1 hb;obtain⟨hx,px⟩:=alF.1 hx;obtain⟨hy,py⟩:=alF.1 hy;have hxy:x=y:=by have h1:=xS hx;have h2:=xS hy;rw[e,h2]at h1;exact Prod.ext e (al9 h1).symm
  subst hxy;simp_all
theorem FF(hE:ku E)(hY:uL E.P E.aG E.fn.ntmps E.yl w0){mode:Nat}(nc:mode=1∨mode=2)(Ux:mode=1→∀o∈ops,fk o=true){k:Fr→Mem→Option R}{r:R}(hi:pt ops [] (A4 E ops)=true)(h:bY E ops mode fuel R [] (A4 E ops) f m [] k=some r){μ:Ro}(hR:Rel E.P E.aG E.fn.ntmps w0 μ φ f m a w)(hQ:∀f' m' μ' φ' a' w',k f' m'=some r→Rel E.P E.aG E.fn.ntmps w0 μ' φ' f' m' a' w'→Q .normal a' w'):wpAnyIn (FR rd) 0 E.P .any ops Q ops.size (Array.replicate ops.size false) a w:=by
 refine xR (w0:=w0) (base:=fun _=>false) hE hY nc (fun hm x hx=>Ux hm x.2 (amU (xS (rK.1 hx)))) (fun x hx=>xS (rK.1 hx)) VV (fun _ _=>rfl) (fun i o ho _ cK=>absurd rfl (cK _ (rK.2 (sw ho)))) (fun x hx e he hb=>Or.inr ?_) hi h ?_ ops.size _ (by simp) (count_le _) Dn (fun i=>by rw[xU]) μ φ a w hR
 ·obtain⟨_,_,i3⟩:=xM hi;have h1:=i3 x hx e he hb;have h2:x.1<ops.size:=(abq.1 (xS (rK.1 hx))).1;exact⟨_,rK.2 (sw (OF (show e.on<ops.size by omega))),rfl⟩
 ·intro ab0 Qj hs2 _ _ uQ f' m' μ2 φ2 a2 w2 hk HV;exact FE hs2 (fun i o ho=>(uQ i).2 (Or.inr ⟨_,rK.2 (sw ho),rfl⟩)) (hQ _ _ _ _ _ _ hk HV)
theorem Ef{j:Nat}(h:((List.range ops.size).zip ops.toList)[j]?=some x):x.1=j:=by grind
theorem pS{p:Nat}:x∈((List.range ops.size).zip ops.toList).take p↔x∈(List.range ops.size).zip ops.toList∧x.1<p:=by
 constructor
 ·grind [List.getElem?_of_mem,List.getElem?_take_of_lt,List.mem_of_getElem?,Ef]
 ·rintro⟨h,hx⟩;obtain⟨j,hj⟩:=aky h;have:=Ef hj;exact aeB (i:=j) (by simp_all)
theorem uX{p:Nat}:x∈((List.range ops.size).zip ops.toList).drop p↔x∈(List.range ops.size).zip ops.toList∧p≤x.1:=by
 constructor
 ·grind [List.getElem?_of_mem,List.mem_of_getElem?,Ef]
 ·rintro⟨h,hx⟩;obtain⟨j,hj⟩:=aky h;have:=Ef hj;exact aeB (i:=j-p) (by simp_all)
variable{K:Act→World→Prop}{Q':Exit→Act→World→Prop}
theorem Oper.N4{F:Fence}{n:Nat}(h:∀e a w,e≠.normal→Q' e a w→Q e a w)(hh:o.wpIn F n P a w K Q'):o.wpIn F n P a w K Q:=by
 unfold Oper.wpIn at*;refine⟨hh.1,?_⟩;have hh:=hh.2;have afj:LetsOut Q'→LetsOut Q:=fun⟨a,w,hq⟩=>⟨a,w,h _ _ _ (by simp) hq⟩;generalize (o.semAt F.round a.eval).run P w=r at*;cases r with
 |ok x w'=>
  cases x<;>simp only[Oper.uponIn]at hh⊢<;>first
   |exact hh
   |exact⟨hh.1,CallsIn.mono hh.2 (fun e w'' he=>by cases e<;>first|exact afj he|exact h _ _ _ (by simp) he|exact he)⟩
   |exact⟨hh.1,RoundIn.mono hh.2 (fun e w'' he=>by cases e<;>first|exact afj he|exact h _ _ _ (by simp) he|exact he)⟩
 |halt x w'=>cases x<;>simp only[Oper.uponIn]at hh⊢<;>simp_all
theorem Ju{F:Fence}{n:Nat}(h:∀e a w,e≠.normal→Q' e a w→Q e a w)(hh:wpOpIn F n P ops Q' i K a w):wpOpIn F n P ops Q i K a w:=by
 unfold wpOpIn at*;split
 ·simpa[*]using hh
 ·rename_i o ho;simp only[ho]at hh;split
  ·rename_i hw;simp only[hw,Ko]at hh;exact Oper.N4 h hh
  simp_all
theorem N5(hE:ku E)(hY:uL E.P E.aG E.fn.ntmps E.yl w0){p:Nat}(aab:UO ops p=true){k:Fr→Mem→Option R}{r:R}(hi1:pt ops [] (((List.range ops.size).zip ops.toList).take p)=true)(hi3:pt ops [] (((List.range ops.size).zip ops.toList).drop (p+1))=true){n1 n2 n3:Nat}(h:(bY E ops 2 n1 R [] (((List.range ops.size).zip ops.toList).take p) f m [] fun f m=>bY E ops 0 n2 R [] ((((List.range ops.size).zip ops.toList).drop p).take 1) f m [] fun f m=>bY E ops 2 n3 R [] (((List.range ops.size).zip ops.toList).drop (p+1)) f m [] k)=some r){μ:Ro}(hR:Rel E.P E.aG E.fn.ntmps w0 μ φ f m a w)(hQ:∀f' m' μ' φ' a' w',k f' m'=some r→Rel E.P E.aG E.fn.ntmps w0 μ' φ' f' m' a' w'→Q .normal a' w'):wpAnyIn (FR rd) 0 E.P .any ops Q ops.size (Array.replicate ops.size false) a w:=by
 unfold UO at aab;cases ho:ops[p]? with
 |none=>simp_all
 |some o=>
  rw[ho]at aab;simp only[No]at aab;obtain⟨⟨_,Jn⟩,hpa⟩:=aab;have hpn:p<ops.size:=(abq.1 ho).1;have VH:∀e∈o.after,Region.binds .any e=true→e.on<p:=fun e he hb=>by have:=akJ.1 Jn e (alx.2 he);simp_all
  have aio:∀i,i<p→reach ops 8 o i=true:=fun i hi=>by have:=akJ.1 hpa _ (sw (OF (show i<ops.size by omega)));simp_all
  have aip:∀i o',ops[i]?=some o'→p<i→reach ops 8 o' p=true:=fun i o' VP hi=>by
   have:=akJ.1 hpa _ (sw VP);simp only at this;have hb:Nat.blt i p=false:=by
    cases hx:Nat.blt i p with
    |false=>rfl
    |true=>have:i<p:=amP hx;omega
   have uQ:Nat.beq i p=false:=by
    cases hx:Nat.beq i p with
    |false=>rfl
    |true=>simp_all
   simp_all
  refine xR (w0:=w0) (base:=fun _=>false) hE hY (.inr rfl) (fun h=>by omega) (fun x hx=>xS (pS.1 hx).1) (by rw[al8,zip_fst];exact(List.pairwise_lt_range.imp anb).sublist (List.take_sublist _ _)) (fun _ _=>rfl) (fun i o' VP _ cK=>?_) (fun x hx e he hb=>Or.inr ?_) hi1 h ?_ ops.size _ (by simp) (count_le _) Dn (fun i=>by rw[xU]) μ φ a w hR
  ·have hip:¬i<p:=fun hc=>cK _ (pS.2 ⟨sw VP,hc⟩) rfl;by_cases hi:i=p
   ·subst hi;rw[ho]at VP;cases VP;exact Or.inl fun x hx=>aio _ (pS.1 hx).2
   ·exact Or.inr ⟨p,aip i o' VP (by omega),rfl,fun x hx=>by have:=(pS.1 hx).2;omega⟩
  ·obtain⟨_,_,i3⟩:=xM hi1;have h1:=i3 x hx e he hb;have h2:=(pS.1 hx).2;exact⟨_,pS.2 ⟨sw (OF (show e.on<ops.size by omega)),by omega⟩,rfl⟩
  ·intro fuel listed hs hc xl hb f1 m1 μ1 φ1 a1 w1 SE NZ;have bZ:∀i,aD listed i=true↔i<p:=fun i=>by
    rw[hb i];constructor
    ·rintro(h|⟨x,hx,rfl⟩)
     ·cases h
     ·exact(pS.1 hx).2
    ·intro hi;exact Or.inr ⟨_,pS.2 ⟨sw (OF (show i<ops.size by omega)),hi⟩,rfl⟩
   have qe:p<listed.size:=by omega
   have hpu:aD listed p=false:=by grind
   have aj2:listed[p]=false:=by simp_all
   cases fuel with
   |zero=>have:=am6.1 (Nat.le_zero.1 hc) listed[p] (by simp);simp_all
   |succ fuel=>
    have aiq:p∈Region.ready .any ops listed:=mem_ready.2 ⟨by simp_all,o,ho,fun e he Nb=>(bZ e.on).2 (VH e he Nb)⟩;refine⟨(fun h0=>by simp_all),fun i hi=>?_⟩;obtain⟨VJ,o',VP,FB⟩:=mem_ready.1 hi;have qk:i<listed.size:=by grind
    have hiu:aD listed i=false:=by simp_all
    have hip:i=p:=by refine akY fun cK=>?_;grind [su]
    subst hip;have hL:(((List.range ops.size).zip ops.toList).drop i).take 1=[(i,o)]:=by
     have hlen:i<((List.range ops.size).zip ops.toList).length:=by simp;omega
     rw[ak0 hlen];simp_all
    rw[hL]at SE;have hS':∀j,aD (listed.setIfInBounds i true) j=if j=i then true else aD listed j:=fun j=>by simp only[aD,akl,alo];grind
    have hle:∀j,aD (listed.setIfInBounds i true) j=true↔j≤i:=fun j=>by grind
    have afk:=iV (rd:=rd) (w0:=w0) hE hY _ (.inl rfl) SE (by simp_all) (by intro x hx g hg;cases hg) (fun h=>by omega) μ1 φ1 a1 w1 (fun e a w=>(e=.normal∧wpAnyIn (FR rd) 0 E.P .any ops Q fuel (listed.setIfInBounds i true) a w)∨(e≠.normal∧Q e a w)) [] NZ (by intro g hg;cases hg) fun f2 m2 μ2 φ2 a2 w2 SF HV _ _=>Or.inl ⟨rfl,?_⟩
    ·rw[akP,akn,am8,wpOpsIn_cons]at afk;refine wpOpIn_mono (fun a w hq=>?_) (Ju (fun e a w cK hq=>?_) afk)
     ·rcases hq with⟨_,h⟩|⟨h,_⟩
      ·omega
      ·exact absurd rfl h
     simp_all
    ·refine xR (w0:=w0) (base:=fun j=>decide (j≤i)) hE hY (.inr rfl) (fun h=>by omega) (fun x hx=>xS (uX.1 hx).1) (by rw[amJ,zip_fst];exact(List.pairwise_lt_range.imp anb).sublist (List.drop_sublist _ _)) (fun x hx=>by have:=(uX.1 hx).2;simp;omega) (fun j oj hj hbj cK=>?_) (fun x hx e he Nb=>?_) hi3 SF ?_ fuel _ (by simp[hs]) ?_ ?_ (fun j=>by rw[hle j];simp) μ2 φ2 a2 w2 HV
     ·simp only[akx]at hbj;exact absurd rfl (cK _ (uX.2 ⟨sw hj,by omega⟩))
     ·obtain⟨_,_,i3⟩:=xM hi3;have h1:=i3 x hx e he Nb;have h2:x.1<ops.size:=(abq.1 (xS (uX.1 hx).1)).1;by_cases hei:e.on≤i
      ·simp_all
      ·exact Or.inr ⟨_,uX.2 ⟨sw (OF (show e.on<ops.size by omega)),by omega⟩,rfl⟩
     ·intro ajN ahU hs3 _ _ hb3 f3 m3 μ3 φ3 a3 w3 hk3 hR3;refine FE hs3 (fun j oj hj=>(hb3 j).2 ?_) (hQ _ _ _ _ _ _ hk3 hR3);by_cases hji:j≤i
      ·simp_all
      ·exact Or.inr ⟨_,uX.2 ⟨sw hj,by omega⟩,rfl⟩
     ·grind
     ·intro j oj hj hlj e he Nb;rw[hle]at hlj⊢;by_cases hji:j=i
      ·grind
      ·have h1:=xl j oj hj ((bZ j).2 (by omega)) e he Nb;grind
end
end Go.Ab
