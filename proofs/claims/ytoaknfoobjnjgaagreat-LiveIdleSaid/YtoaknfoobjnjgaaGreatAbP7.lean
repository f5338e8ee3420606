import Derived.Test.YtoaknfoobjnjgaaGreatAbP6
import Derived.OrdersIn
set_option linter.all false
namespace Go.Ab
open Go.RowKit (Below)
def wX(f F:Fr):Prop:=∀t,f t=F t∨f t=.top
theorem wX.refl(f:Fr):wX f f:=fun _=>.inl rfl
theorem wX.put{f F:Fr}(h:wX f F)(d:Option Nat)(v:V):wX (iO f d v) (iO F d v):=by
 intro t;cases d with
 |none=>exact h t
 |some d=>
  simp only[iO,gH];cases Nat.beq t d
  ·exact h t
  simp
theorem dO{f:Fr}{d:Option Nat}{v:V}{t:Nat}(h:d≠some t):iO f d v t=f t:=by
 cases d with
 |none=>rfl
 |some d=>exact s8 (fun e=>h (by rw[e]))
theorem iT{f:Fr}{v:V}{t:Nat}:iO f (some t) v t=v:=by simp[iO,gH,Nat.beq_refl]
section
variable {E:Env} {ops:Array Oper} {w0:bl}
variable{nt:Nat}{μ:Ro}{φ:Nat→aK}{f:Fr}{m:Mem}{a:Act}
theorem Rel.weaken{f':Fr}{w:World}(h:Rel E.P E.aF nt w0 μ φ f m a w)(hf:wX f' f):Rel E.P E.aF nt w0 μ φ f' m a w:=
 {h with
  fr:=fun t=>by
   rcases hf t with e|e
   ·rw[e];exact h.fr t
   ·rw[e];exact .top,
  live:=fun t id hid=>by
   rcases hf t with e|e
   ·rw[e]at hid;exact h.live t id hid
   simp_all}
variable{t:Nat}
theorem Hk{d:Nat}{y:Value}(hd:d<a.tmps.size):(a.put (some d) y).tmps.getD t undef=if t=d then y else a.tmps.getD t undef:=by simp only[Act.put,ams,anV];grind
theorem Rel.put{nt:Nat}{μ μ':Ro}{φ φ':Nat→aK}{f f':Fr}{m m':Mem}{a:Act}{w w':World}(h:Rel E.P E.aF nt w0 μ φ f m a w)(hle:N0 μ μ'){dst:Option Nat}{v:V}{y:Value}(hd:∀d,dst=some d→d<nt)(hM:aG E.P E.aF w0 μ' φ' m' w')(hF:b9 E.P μ' φ' m' f' (bV nt w0 a))(hv:aq E.P μ' φ' v y)(hl:∀id,v.has id=true→(m' id).isSome=true):Rel E.P E.aF nt w0 μ' φ' (iO f' dst v) m' (a.put dst y) w':=by
 refine{toaG:=hM,size:=?_,defers:=?_,lu:=h.lu,fr:=fun t=>?_,live:=fun t id hid=>?_}
 ·cases dst<;>simp[Act.put,h.size]
 ·cases dst<;>exact h.defers.mono hle
 ·cases dst with
  |none=>exact hF.fr t
  |some d=>
   have bK:d<a.tmps.size:=by rw[h.size];exact hd d rfl
   have hf:=hF.fr t;by_cases e:t=d
   ·subst e;rw[qZ (hd t rfl),Hk bK,BY rfl,iT];omega
   ·rw[dO (by grind)];unfold bV at hf⊢;split
    ·rename_i ht;rw[BY ht]at hf;rw[Hk bK,IT e];omega
    simp_all
 ·by_cases e:dst=some t
  ·grind [iT,id]
  ·rw[dO e]at hid;exact hF.live t id hid
theorem acZ(h:t<E.fn.ntmps):bF E f (.tmp t)=f t:=by simp only[bF];rw[show Nat.blt t E.fn.ntmps=true by rw[aoF];omega];rfl
theorem Hl{p:PV}(h:bF E f (.tmp t)=.pv p):t<E.fn.ntmps∧f t=.pv p:=by grind [bF,Nat.blt,Nat.blt_eq]
theorem XW{F:Fr}(h:wX f F)(q:Operand):bF E f q=bF E F q∨bF E f q=.top:=by
 cases q with
 |tmp t=>
  simp only[bF];cases Nat.blt t E.fn.ntmps with
  |true=>exact h t
  |false=>simp
 |_=>exact .inl rfl
def tx(nt:Nat)(ops:Array Oper)(A:List (Nat×Bool))(f:Fr):Prop:=∀g∈A,∃t,(ops[g.1]?).bind (·.dst)=some t∧t<nt∧f t=.pv (.bool g.2)
def CQ(ops:Array Oper)(A:List (Nat×Bool))(a:Act):Prop:=∀g∈A,∃t,(ops[g.1]?).bind (·.dst)=some t∧a.tmps.getD t undef=.bool g.2
def afq(ops:Array Oper)(A:List (Nat×Bool))(l:List (Nat×Oper)):Prop:=∀x∈l,∀g∈A,∀t,(ops[g.1]?).bind (·.dst)=some t→x.2.dst≠some t
variable{d:Option Nat}{A:List (Nat×Bool)}
theorem tx.put(h:tx nt ops A f){v:V}(hd:∀g∈A,∀t,(ops[g.1]?).bind (·.dst)=some t→d≠some t):tx nt ops A (iO f d v):=by intro g hg;obtain⟨t,h1,h0,h2⟩:=h g hg;grind [dO]
variable{o:Oper}
theorem gN(h:yr E o=true):∀d,o.dst=some d→d<E.fn.ntmps:=by grind [yr,Nat.blt_eq]
variable{b:Bool}
theorem xx{j:Nat}(h:(ops[j]?).bind (·.dst)=some t)(hb:a.tmps.getD t undef=.bool b):yielded ops a.tmps j=some b:=by
 simp only[yielded,h,anC];have:a.tmps[t]?=some (.bool b):=by rw[ams]at hb;grind [undef]
 rw[this]
theorem Ef(ho:guardOf o A=none)(hA:CQ ops A a):Region.wanted o (yielded ops a.tmps)=true:=by
 unfold guardOf at ho;unfold Region.wanted;split at ho
 ·rename_i hg;simp[hg]
 ·rename_i g hg;split at ho
  ·rename_i bu;obtain⟨t,h1,h2⟩:=hA g (by simpa using bu);simp_all[xx]
  ·cases ho
theorem CQ.put(h:CQ ops A a){y:Value}(hs:∀t,d=some t→t<a.tmps.size)(hd:∀g∈A,∀t,(ops[g.1]?).bind (·.dst)=some t→d≠some t):CQ ops A (a.put d y):=by
 intro g hg;obtain⟨t,h1,h2⟩:=h g hg;refine⟨t,h1,?_⟩;cases d with
 |none=>exact h2
 |some d=>rw[Hk (hs d rfl),IT fun e=>hd g hg t h1 (by rw[e])];omega
def U8(ops:Array Oper)(f:Fr)(o:Oper):Prop:=∃g,o.guard=some g∧∀t,(ops[g.1]?).bind (·.dst)=some t→f t=.aV []∨f t=.pv (.bool (!g.2))
theorem U9{P:Program}{x:Value}(h:aq P μ φ (.aV []) x):x=undef:=by
 cases h with
 | @aV _ xs h1 _=>have:xs= #[]:=apT (by simpa using h1.symm);subst this;rfl
theorem Hm{P:Program}:aq P μ φ (.aV []) undef:=.aV rfl (by simp)
theorem Be{w:World}(h:Rel E.P E.aF nt w0 μ φ f m a w)(hd:U8 ops f o):Region.wanted o (yielded ops a.tmps)=false:=by
 obtain⟨g,hg,ht⟩:=hd;simp only[Region.wanted,hg];cases hs:(ops[g.1]?).bind (·.dst)with
 |none=>simp[yielded,hs]
 |some t=>
  have hy:nt≤t→yielded ops a.tmps g.1=none:=fun hle=>by simp only[yielded,hs,anC];rw[aqr (by rw[h.size];omega)]
  by_cases G2:nt≤t
  ·rw[hy G2];rfl
  have bK:t<nt:=Nat.lt_of_not_le G2;have h3:=h.fr t;rw[qZ bK]at h3;rcases ht t hs with e|e
  ·rw[e]at h3;have h4:=U9 h3;have:yielded ops a.tmps g.1=none:=by
    simp only[yielded,hs,anC];rw[ams]at h4;cases e:a.tmps[t]? with
    |none=>rfl
    |some x=>rw[e]at h4;simp only[anY]at h4;subst h4;rfl
   rw[this];rfl
  ·rw[e]at h3;rw[xx hs (tv h3)];simp
theorem xy{t:Nat}:∀{l:List (Nat×Oper)}{f:Fr},(∀x∈l,x.2.dst≠some t)→jA f l t=f t
 |[],_,_=>rfl
 |x::r,f,h=>by rw[jA,xy (fun y hy=>h y (by simp[hy])),dO (h x (by simp))]
theorem iU{t:Nat}:∀{l:List (Nat×Oper)}{f:Fr},(∀x∈l,x.2.dst≠some t)→b8 f l t=f t
 |[],_,_=>rfl
 |x::r,f,h=>by rw[b8,iU (fun y hy=>h y (by simp[hy])),dO (h x (by simp))]
theorem nO{t:Nat}:∀{l:List (Nat×Oper)}{f:Fr},(f t=.top∨∃x∈l,x.2.dst=some t)→b8 f l t=.top
 |[],_,h=>by
  rcases h with h|⟨x,hx,_⟩
  ·exact h
  ·cases hx
 |x::r,f,h=>by
  rw[b8];by_cases e:x.2.dst=some t
  ·simp_all[nO,iT]
  ·refine nO ?_;rcases h with h|⟨y,hy,hd⟩
   ·simp_all[dO]
   grind
theorem Au{l:List (Nat×Oper)}{F:Fr}(h:∀t,(∀x∈l,x.2.dst≠some t)→f t=F t∨f t=.top):wX (b8 f l) F:=by intro t;grind [nO,iU]
theorem CR{g:Nat×Bool}{tj:Nat}(hj:(ops[g.1]?).bind (·.dst)=some tj):∀{l:List (Nat×Oper)}{done:List Nat}{f:Fr},yN g done l=true→(∀x∈l,ops[x.1]?=some x.2)→(∀x∈l,x.2.dst≠some tj)→f tj=.pv (.bool (!g.2))→(∀j∈done,∀t,(ops[j]?).bind (·.dst)=some t→f t=.aV [])→∀(pre post:List (Nat×Oper))(x:Nat×Oper),l=pre++x::post→U8 ops (jA f pre) x.2
 |[],_,_,_,_,_,_,_,pre,post,x,h=>by simp at h
 |y::r,done,f,hg,hl,hd,hb,XR,pre,post,x,h=>by
  simp only[yN,OF]at hg;cases pre with
  |nil=>
   simp only[aoT,aon]at h;obtain⟨rfl,rfl⟩:=h;rw[jA];have h1:=hg.1;split at h1
   ·rename_i hh WS;refine⟨hh,WS,fun t ht=>?_⟩;rcases Bool.or_eq_true_iff.1 h1 with h2|h2
    ·simp_all
    grind
   ·cases h1
  |cons z pre=>
   simp only[aoQ,aon]at h;obtain⟨rfl,h⟩:=h;rw[jA];refine CR hj hg.2 (fun x hx=>hl x (by simp[hx])) (fun x hx=>hd x (by simp[hx])) (by simp_all[dO]) (fun j hjm t ht=>?_) pre post x h;by_cases e:y.2.dst=some t
   ·rw[e,iT]
   ·rw[dO e];grind
theorem Hn{A:List (Nat×Bool)}:∀{l a b:List (Nat×Oper)},ER A l=(a,b)→l=a++b
 |[],a,b,h=>by simp[ER]at h;simp_all
 |x::r,a,b,h=>by
  simp only[ER]at h;split at h
  ·cases hs:ER A r with
   |mk a' b'=>rw[hs]at h;simp only[T0]at h;obtain⟨rfl,rfl⟩:=h;rw[Hn hs];rfl
  simp_all
theorem CS{v:V}(h:A0 v=some b):v=.pv (.bool b):=by unfold A0 at h;grind
theorem aet(hE:jR E){site:Nat}{draw:Bool}{v:V}{f':Fr}{m':Mem}{ft:bx}(hn:draw=true∨∃c x y,o.op=.pick c x y)(h:∀(R':Type)(k':V→Fr→Mem→bx→Option R'),M7 E draw site o f m k'=k' v f' m' ft):xv E draw site o f m v f' m' ft:=by
 have hx:=LC hE (h (V×Fr×Mem×bx) fun v f m ft=>some (v,f,m,ft));rcases hx with⟨v1,f1,m1,ft1,h1,h2⟩|⟨h1,h2,_⟩
 rotate_left
 ·simp_all
 simp_all
theorem N1{R:Type}{site:Nat}{draw:Bool}{p:Oper}{c:Nat}{x y:Operand}{k:V→Fr→Mem→bx→Option R}(hp:p.op=.pick (.tmp c) x y)(hb:bF E f (.tmp c)=.pv (.bool b)):M7 E draw site p f m k=k (bF E f (if b then x else y)) f m []:=by
 have rD:Bz E site p f m=none:=by simp only[Bz,hp]
 unfold M7;rw[rD];have e:(bif draw then none else bif E.DR site then(none:Option Sp)else none)=none:=by simp
 rw[e];simp only[cj,hp,hb];cases b<;>rfl
end
section
variable {E:Env} {ops:Array Oper} {w0:bl}
theorem y8{rd:Option Nat}{Q:Exit→Act→World→Prop}{tail:List Nat}:∀(l:List (Nat×Oper))(f:Fr),(∀x∈l,ops[x.1]?=some x.2)→(∀x∈l,yr E x.2=true)→(∀(pre post:List (Nat×Oper))(x:Nat×Oper),l=pre++x::post→U8 ops (jA f pre) x.2)→∀{μ:Ro}{φ:Nat→aK}{m:Mem}{a:Act}{w:World},Rel E.P E.aF E.fn.ntmps w0 μ φ f m a w→∀(A:List (Nat×Bool)),CQ ops A a→afq ops A l→(∀a',Rel E.P E.aF E.fn.ntmps w0 μ φ (jA f l) m a' w→CQ ops A a'→wpOpsIn (FR rd) 0 E.P ops Q tail a' w)→wpOpsIn (FR rd) 0 E.P ops Q (l.map (·.1)++tail) a w
 |[],f,_,_,_,_,_,_,a,_,hR,_,hA,_,hK=>hK a hR hA
 |x::r,f,hl,hd,CT,μ,φ,m,a,w,hR,A,hA,Ho,hK=>by simp only[anB,aoQ,wpOpsIn];rw[hl x (by simp)];simp only;rw[Be hR (CT [] r x rfl)];simp only[tc,PS];refine And.intro (fun _ _=>trivial) (y8 r (iO f x.2.dst (.aV [])) (fun y hy=>hl y (by simp[hy])) (fun y hy=>hd y (by simp[hy])) (fun pre post y h=>?_) (hR.put (fun _ _ h=>h) (gN (hd x (by simp))) hR.toaG hR.kT Hm (fun id hid=>by simp[V.has,cq]at hid)) A (hA.put (fun t ht=>by rw[hR.size];exact gN (hd x (by simp)) t ht) fun g sN t ht=>Ho x (by simp) g sN t ht) (fun y hy=>Ho y (by simp[hy])) hK);have:=CT (x::pre) post y (by rw[h];rfl);rwa[jA]at this
theorem BN:∀{ft:bx},CC ft=true→∀x∈ft,x.1=false
 |[],_,x,hx=>by cases hx
 |(w,id)::r,h,x,hx=>by
  simp only[CC,OF,anT]at h;rcases anA.1 hx with rfl|hx
  ·exact h.1
  ·exact BN h.2 x hx
theorem jw(hE:jR E){rd:Option Nat}(hY:sq E.P E.aF E.fn.ntmps E.yl w0):∀(fuel:Nat){mode:Nat}(nP:mode=0∨mode=3){R:Type}{A:List (Nat×Bool)}{l:List (Nat×Oper)}{f:Fr}{m:Mem}{lg:Log}{k:Fr→Mem→Option R}{r:R},cL E ops mode fuel R A l f m lg k=some r→(∀x∈l,ops[x.1]?=some x.2)→afq ops A l→(mode=3→∀x∈l,fI x.2=true)→∀(μ:Ro)(φ:Nat→aK)(a:Act)(w:World)(Q:Exit→Act→World→Prop)(tail:List Nat),Rel E.P E.aF E.fn.ntmps w0 μ φ f m a w→CQ ops A a→(∀(f':Fr)(m':Mem)(μ':Ro)(φ':Nat→aK)(a':Act)(w':World),k f' m'=some r→Rel E.P E.aF E.fn.ntmps w0 μ' φ' f' m' a' w'→CQ ops A a'→(mode=3→m'=m∧∀t,(∀x∈l,x.2.dst≠some t)→f' t=f t)→wpOpsIn (FR rd) 0 E.P ops Q tail a' w')→wpOpsIn (FR rd) 0 E.P ops Q (l.map (·.1)++tail) a w
 |0,_,_,_,_,_,_,_,_,_,_,h,_,_,_,_,_,_,_,_,_,_,_,_=>by simp[cL]at h
 |fuel+1,mode,nP,R,A,[],f,m,lg,k,r,h,_,_,_,μ,φ,a,w,Q,tail,hR,hA,hK=>by simp only[cL]at h;grind
 |fuel+1,mode,nP,R,A,(i,o)::rest,f,m,lg,k,r,h,hl,Ho,WT,μ,φ,a,w,Q,tail,hR,hA,hK=>by
  simp only[cL]at h;split at h
  ·rename_i hg;split at h
   ·rename_i hd;have hmm:Nat.beq mode 2=false:=by rcases nP with rfl|rfl<;>rfl
    simp only[hmm,cond_false]at h;rw[←hmm]at h;have hdf:=Ee h;rcases LC hE h with⟨v,f1,m1,ft,hk,Kb⟩|⟨_,ob⟩
    rotate_left
    ·simp only[anB,aoQ,wpOpsIn];rw[hl (i,o) (by simp)];simp only;rw[Ef hg hA,BY rfl];refine Hj.BM ob rd w0 μ φ a w _ Q hY hR fun v f1 m1 y w' μ' φ' hk hle hM hF hv Lj=>?_;have cQ:Nat.beq mode 2=false:=by omega
     rw[cQ]at hk;simp only[tc,PS]at hk;rcases nP with rfl|rfl
     ·simp only[Nat.beq,IS]at hk;exact jw hE hY fuel (.inl rfl) hk (fun x hx=>hl x (by simp[hx])) (fun x hx=>Ho x (by simp[hx])) (fun hm x hx=>WT hm x (by omega)) _ _ _ _ Q tail (hR.put hle (gN hd) hM hF hv Lj) (hA.put (fun t ht=>by rw[hR.size];exact gN hd t ht) fun g sN t ht=>Ho (i,o) (by simp) g sN t ht) fun f' m' μ2 φ2 a' w2 nM jS AN sW=>hK f' m' μ2 φ2 a' w2 nM jS AN fun h=>by omega
     ·simp[Nat.beq,CC]at hk
    have cQ:Nat.beq mode 2=false:=by omega
    rw[cQ]at hk;simp only[tc,PS]at hk;have hq:(mode=3→f1=f∧m1=m)∧cL E ops mode fuel R A rest (iO f1 o.dst v) m1 lg k=some r:=by
     rcases nP with rfl|rfl
     ·simp_all
     ·simp only[Nat.beq,tc,PS]at hk;split at hk
      ·rename_i hqf;exact⟨fun h=>Kb.same (WT rfl (i,o) (by simp)) (BN hqf),hk⟩
      ·cases hk
    obtain⟨aeu,hk⟩:=hq;simp only[anB,aoQ,wpOpsIn];rw[hl (i,o) (by simp)];simp only;rw[Ef hg hA,BY rfl];refine Kb.BM hdf rd w0 μ φ a w _ Q hR fun y w' μ' φ' hle hM hF hv Lj=>?_;refine jw hE hY fuel nP hk (fun x hx=>hl x (by simp[hx])) (fun x hx=>Ho x (by simp[hx])) (fun hm x hx=>WT hm x (by simp[hx])) _ _ _ _ Q tail (hR.put hle (gN hd) hM hF hv Lj) (hA.put (fun t ht=>by rw[hR.size];exact gN hd t ht) fun g sN t ht=>Ho (i,o) (by simp) g sN t ht) fun f' m' μ2 φ2 a' w2 nM jS AN sW=>?_;refine hK f' m' μ2 φ2 a' w2 nM jS AN fun hm3=>?_;obtain⟨e1,e2⟩:=aeu hm3;obtain⟨e3,e4⟩:=sW hm3;refine⟨by rw[e3,e2],fun t ht=>?_⟩;rw[e4 t fun x hx=>ht x (by simp[hx]),dO (ht (i,o) (by simp)),e1]
   ·cases h
  ·rename_i j FP hg;split at h
   ·rename_i tj htj;split at h
    ·rename_i b hb;have alo:tj<E.fn.ntmps:=by grind [bF,Nat.blt,Nat.blt_eq]
     have hbf:f tj=.pv (.bool b):=by grind [bF,Nat.blt,Nat.blt_eq]
     have hba:a.tmps.getD tj undef=.bool b:=by have:=(ax hR (.tmp tj)).1;rw[hb]at this;exact tv this
     generalize rD:ER A ((i,o)::rest)=sp at h;obtain⟨body,Nz⟩:=sp;have oD:=Hn rD;simp only at h;split at h
     ·rename_i aev;split at h
      ·rename_i hc;simp only[OF,an7,anT,apE,aqP]at hc aev;obtain⟨⟨yu,SS⟩,ahA⟩:=hc;have hm0:mode=0:=K5 aev.1;subst hm0;have bu:∀z∈body,z∈(i,o)::rest:=fun z hz=>by rw[oD];simp[hz]
       have Bf:∀z∈Nz,z∈(i,o)::rest:=fun z hz=>by rw[oD];simp[hz]
       by_cases hbp:b=FP
       ·have:Ny FP b=true:=by subst hbp;cases b<;>rfl
        rw[this]at h;simp only[cond]at h;have hfs:gH f tj (.pv (.bool FP))=f:=funext fun t=>by
         unfold gH;cases e:Nat.beq t tj with
         |false=>rfl
         |true=>simp_all
        rw[hfs]at h;refine jw hE hY fuel nP h hl (fun z hz g sN t ht=>?_) (fun h=>by omega) _ _ _ _ Q tail hR (fun g sN=>?_) fun f' m' μ2 φ2 a' w2 nM jS AN sW=>hK f' m' μ2 φ2 a' w2 nM jS (fun g sN=>AN g (by simp[sN])) fun h=>by omega
        ·rcases anA.1 sN with rfl|sN
         ·grind
         ·exact Ho z hz g sN t ht
        ·rcases anA.1 sN with rfl|sN
         ·simp_all
         ·exact hA g sN
       ·have:Ny FP b=false:=by cases b<;>cases FP<;>first|rfl|exact absurd rfl hbp
        rw[this]at h;simp only[cond]at h;have hbn:b= !FP:=by cases b<;>cases FP<;>simp_all
        have hfs:gH f tj (.pv (.bool !FP))=f:=funext fun t=>by
         unfold gH;cases e:Nat.beq t tj with
         |false=>rfl
         |true=>simp_all
        rw[hfs]at h;rw[oD,anU,an1];refine y8 body f (fun z hz=>hl z (bu z hz)) yu (CR htj SS (fun z hz=>hl z (bu z hz)) (fun z hz=>ahA z (bu z hz)) (by rw[hbf,hbn]) (by simp)) hR A hA (fun z hz g sN t ht=>Ho z (bu z hz) g sN t ht) fun a' jS AN=>?_
        ·refine jw hE hY fuel nP h (fun z hz=>hl z (Bf z hz)) (fun z hz=>Ho z (Bf z hz)) (fun h=>by omega) _ _ _ _ Q tail jS AN fun f' m' μ2 φ2 a' w2 nM jS AN sW=>hK f' m' μ2 φ2 a' w2 nM jS AN fun h=>by omega
      ·cases h
     ·split at h
      ·rename_i ip p oq;split at h
       ·rename_i c x y XX;split at h
        ·rename_i hc;simp only[OF,an7,anT,apE,aqP]at hc;obtain⟨⟨⟨⟨⟨⟨QV,hpg⟩,Kc⟩,SS⟩,_⟩,hpd⟩,_⟩:=hc;have QV:=K5 QV;subst QV;have hpg:guardOf p A=none:=by simpa using hpg
         obtain⟨rb,hrb,h⟩:=AI.1 h;have bu:∀z∈body,z∈(i,o)::rest:=fun z hz=>by rw[oD];simp[hz]
         have Bf:∀z∈oq,z∈(i,o)::rest:=fun z hz=>by rw[oD];simp[hz]
         have SU:(ip,p)∈(i,o)::rest:=by rw[oD];simp
         rw[oD,anU,an1];have after:∀(f1:Fr)(μ1:Ro)(φ1:Nat→aK)(a1:Act)(w1:World)(q:Operand),Rel E.P E.aF E.fn.ntmps w0 μ1 φ1 f1 m a1 w1→CQ ops A a1→(∀t,(∀z∈body,z.2.dst≠some t)→f1 t=f t)→bF E f1 q=.pv (.bool rb)→(q=if b then x else y)→wpOpsIn (FR rd) 0 E.P ops Q (((ip,p)::oq).map (·.1)++tail) a1 w1:=by
          intro f1 μ1 φ1 a1 w1 q DO hA1 SV hq hqe;have SB:bF E f1 (.tmp c)=.pv (.bool b):=by grind [bF,Nat.blt,Nat.blt_eq]
          simp only[anB,aoQ,wpOpsIn];rw[hl (ip,p) SU];simp only;rw[Ef hpg hA1,BY rfl];have Kb:xv E (Nat.beq mode 1||Nat.beq mode 2) (cK E p.dst) p f1 m (.pv (.bool rb)) f1 m []:=aet hE (.inr ⟨_,_,_,XX⟩) fun R' k'=>by rw[N1 XX SB,←hqe,hq]
          refine Kb.BM (fun c h=>by rw[XX]at h;cases h) rd w0 μ1 φ1 a1 w1 _ Q DO fun z w' μ' φ' sW hM hF hv Lj=>?_;have hle:wX (iO (b8 f body) p.dst (.pv (.bool rb))) (iO f1 p.dst (.pv (.bool rb))):=wX.put (Au fun t ht=>.inl (SV t ht).symm) _ _;refine jw hE hY fuel nP h (fun z hz=>hl z (Bf z hz)) (fun z hz=>Ho z (Bf z hz)) (fun hm z hz=>WT hm z (Bf z hz)) _ _ _ _ Q tail ((DO.put sW (gN hpd) hM hF hv Lj).weaken hle) (hA1.put (fun t ht=>by rw[DO.size];exact gN hpd t ht) fun g sN t ht=>Ho (ip,p) SU g sN t ht) fun f' m' μ2 φ2 a' w2 nM jS AN sW=>?_;grind [dO,iU]
         have go:∀q,b=FP→(q=if b then x else y)→cL E ops 3 fuel Bool ((j,FP)::A) body f m lg (fun f _=>A0 (bF E f q))=some rb→wpOpsIn (FR rd) 0 E.P ops Q (body.map (·.1)++(((ip,p)::oq).map (·.1)++tail)) a w:=by
          intro q hbp hq hev;refine jw hE hY fuel (.inr rfl) hev (fun z hz=>hl z (bu z hz)) ?_ (fun _ z hz=>(Kc z hz).1.1) _ _ _ _ Q _ hR ?_ fun f' m' μ2 φ2 a' w2 nM jS AN sW=>?_
          ·intro z hz g sN t ht;rcases anA.1 sN with rfl|sN
           ·grind
           ·exact Ho z (bu z hz) g sN t ht
          ·intro g sN;rcases anA.1 sN with rfl|sN
           ·simp_all
           ·exact hA g sN
          ·obtain⟨e1,e2⟩:=sW rfl;subst e1;exact after f' μ2 φ2 a' w2 q jS (fun g sN=>AN g (by simp[sN])) e2 (CS nM) hq
         have no:∀q,b= !FP→(q=if b then x else y)→A0 (bF E (b8 f body) q)=some rb→wpOpsIn (FR rd) 0 E.P ops Q (body.map (·.1)++(((ip,p)::oq).map (·.1)++tail)) a w:=by
          intro q hbp hq hev;refine y8 body f (fun z hz=>hl z (bu z hz)) (fun z hz=>(Kc z hz).1.2) (CR htj SS (fun z hz=>hl z (bu z hz)) (fun z hz=>(Kc z hz).2) (by rw[hbf,hbp]) (by simp)) hR A hA (fun z hz g sN t ht=>Ho z (bu z hz) g sN t ht) fun a' jS AN=>?_;refine after _ μ φ a' w q jS AN (fun t ht=>xy ht) ?_ hq;have hv:=CS hev;cases q with
          |tmp t=>
           simp only[bF]at hv⊢;have hle:wX (b8 f body) (jA f body):=Au fun t ht=>.inl (xy ht).symm;cases e:Nat.blt t E.fn.ntmps with
           |false=>rw[e]at hv;cases hv
           |true=>
            rw[e]at hv;simp only[cond]at hv⊢;rcases hle t with e|e
            ·rw[←e];omega
            simp_all
          |_=>exact hv
         have hbm:(bif Nat.beq mode 0 then 3 else mode)=3:=by rcases nP with rfl|rfl<;>rfl
         grind
        ·cases h
       ·cases h
      ·cases h
    ·cases h
   ·cases h
end
structure Rec where
 i:Nat
 o:Oper
 v:V
 wr:List (Nat×bI)
 ft:bx
 kl:Kl
def Rec.fs(r:Rec)(f:Fr):Fr:=iO (kf r.kl f) r.o.dst r.v
def Rec.ms(r:Rec)(m:Mem):Mem:=uE r.wr (km r.kl m)
def Rec.Ke(r:Rec)(id:Nat):Prop:=∃b,(b,id)∈r.kl
def iV(f:Fr):List Rec→Fr
 |[]=>f
 |r::l=>iV (r.fs f) l
def oE(m:Mem):List Rec→Mem
 |[]=>m
 |r::l=>oE (r.ms m) l
def fm(S:Nat→Bool)(f:Fr):List Rec→Fr
 |[]=>f
 |r::l=>fm S (bif S r.i then r.fs f else f) l
def fZ(S:Nat→Bool)(m:Mem):List Rec→Mem
 |[]=>m
 |r::l=>fZ S (bif S r.i then r.ms m else m) l
theorem LD:∀{wr:List (Nat×bI)}{m:Mem}{j:Nat},(∀b,(j,b)∉wr)→uE wr m j=m j
 |[],_,_,_=>rfl
 |(id,b)::r,m,j,h=>by rw[uE,LD fun b' hb=>h b' (by simp[hb])];exact aA fun e=>h b (by simp[e])
theorem XY:∀{wr:List (Nat×bI)}{j:Nat},(∃b,(j,b)∈wr)→∃b',(j,b')∈wr∧∀m:Mem,uE wr m j=some b'
 |[],_,h=>by simp_all
 |(id,b)::r,j,h=>by
  by_cases hr:∃b,(j,b)∈r
  ·obtain⟨b',h1,h2⟩:=XY hr;exact⟨b',by simp[h1],fun m=>h2 _⟩
  ·obtain⟨b0,hb⟩:=h;rcases anA.1 hb with hb|hb
   ·simp only[T0]at hb;obtain⟨rfl,rfl⟩:=hb;simp_all[uE,LD]
   simp_all
mutual
theorem N2{id:Nat}:∀{v:V},v.yC id=true→v.has id=true
 |.agg cs,h=>xz (cs:=cs) (by simpa[V.yC]using h)
 |.aV cs,h=>xz (cs:=cs) (by simpa[V.yC]using h)
 |.fn _ cs,h=>xz (cs:=cs) (by simpa[V.yC]using h)
 |.yK _ _ _,h=>h
 |.Cv _ _ _ _ _ _,h=>h
 |.pv _,h=>by cases h
 |.gy,h=>by cases h
 |.op _ _,h=>by cases h
 |.oe _ _ _,h=>by cases h
 |.os _,h=>by cases h
 |.fX _ _ _,h=>by cases h
 |.om _,h=>by cases h
 |.yl _,h=>by cases h
 |.it _,h=>by cases h
 |.top,h=>by cases h
theorem xz{id:Nat}:∀{cs:List V},Cx id cs=true→cq id cs=true
 |[],h=>by cases h
 |c::r,h=>by
  simp only[Cx,anH]at h;simp only[cq,anH];rcases h with h|h
  ·exact .inl (N2 h)
  ·exact .inr (xz h)
end
variable{id:Nat}
theorem Fc{v:V}(h:v.has id=false):sS id v=v:=by unfold sS;rw[h];rfl
theorem Fe{id:Nat}:∀{cs:List V},cq id cs=false→cs.map (sS id)=cs
 |[],_=>rfl
 |c::r,h=>by simp only[cq,anL]at h;simp only[anB,Fc h.1,Fe h.2]
theorem N3{b:bI}(h:b.names id=false):gI id b=b:=by
 cases b with
 |box cs=>simp only[gI,Fe (show cq id cs=false from h)]
 |_=>rfl
theorem CU{v:V}(h:v.has id=false):oj id v=v:=by
 unfold oj;cases h2:v.yC id with
 |false=>rfl
 |true=>rw[N2 h2]at h;cases h
theorem CV{id:Nat}:∀{cs:List V},cq id cs=false→cs.map (oj id)=cs
 |[],_=>rfl
 |c::r,h=>by simp only[cq,anL]at h;simp only[anB,CU h.1,CV h.2]
theorem LF{b:bI}(h:b.names id=false):dX id b=b:=by
 cases b with
 |box cs=>simp only[dX,CV (show cq id cs=false from h)]
 |_=>rfl
theorem Hq:∀{kl:Kl}{f:Fr}{t:Nat},(∀id,(∃b,(b,id)∈kl)→(f t).has id=false)→kf kl f t=f t
 |[],_,_,_=>rfl
 |(true,id)::r,f,t,h=>by have h0:eU id f t=f t:=Fc (h id ⟨true,by simp⟩);rw[kf,Hq (kl:=r) (f:=eU id f) fun j hj=>by rw[h0];exact h j (let⟨b,hb⟩:=hj;⟨b,by simp[hb]⟩),h0]
 |(false,id)::r,f,t,h=>by have h0:gz id f t=f t:=CU (h id ⟨false,by simp⟩);rw[kf,Hq (kl:=r) (f:=gz id f) fun j hj=>by rw[h0];exact h j (let⟨b,hb⟩:=hj;⟨b,by simp[hb]⟩),h0]
theorem CW:∀{kl:Kl}{f g:Fr}{t:Nat},f t=g t→kf kl f t=kf kl g t
 |[],_,_,_,h=>h
 |(true,id)::r,f,g,t,h=>CW (kl:=r) (f:=eU id f) (g:=eU id g) (by simp only[eU,h])
 |(false,id)::r,f,g,t,h=>CW (kl:=r) (f:=gz id f) (g:=gz id g) (by simp only[gz,h])
theorem Hr:∀{kl:Kl}{m:Mem}{j:Nat},(∀id,(∃b,(b,id)∈kl)→j≠id∧∀b,m j=some b→b.names id=false)→km kl m j=m j
 |[],_,_,_=>rfl
 |(true,id)::r,m,j,h=>by
  obtain⟨h1,h2⟩:=h id ⟨true,by simp⟩;have h0:br (bH id m) id j=m j:=by
   rw[gB h1];unfold bH;cases hm:m j with
   |none=>rfl
   |some b=>simp only[N3 (h2 b hm)]
  rw[km,Hr (kl:=r) (m:=br (bH id m) id) fun i hi=>by rw[h0];exact h i (let⟨b,hb⟩:=hi;⟨b,by simp[hb]⟩),h0]
 |(false,id)::r,m,j,h=>by
  obtain⟨h1,h2⟩:=h id ⟨false,by simp⟩;have h0:fA id m j=m j:=by
   unfold fA;cases hm:m j with
   |none=>rfl
   |some b=>simp only[LF (h2 b hm)]
  rw[km,Hr (kl:=r) (m:=fA id m) fun i hi=>by rw[h0];exact h i (let⟨b,hb⟩:=hi;⟨b,by simp[hb]⟩),h0]
theorem Hs:∀{kl:Kl}{m n:Mem}{j:Nat},m j=n j→km kl m j=km kl n j
 |[],_,_,_,h=>h
 |(true,id)::r,m,n,j,h=>Hs (kl:=r) (m:=br (bH id m) id) (n:=br (bH id n) id) (by
  by_cases e:j=id
  ·subst e;simp
  simp_all[gB,bH])
 |(false,id)::r,m,n,j,h=>Hs (kl:=r) (m:=fA id m) (n:=fA id n) (by simp only[fA,h])
variable{r:Rec}
theorem Rec.Ht{f:Fr}{t:Nat}(h:r.o.dst=some t):r.fs f t=r.v:=by unfold Rec.fs;rw[h,iT]
theorem Rec.SX{f:Fr}{t:Nat}(h:r.o.dst≠some t)(hc:∀id,r.Ke id→(f t).has id=false):r.fs f t=f t:=by unfold Rec.fs;rw[dO h];exact Hq hc
theorem Rec.Hu{f g:Fr}{t:Nat}(h:f t=g t):r.fs f t=r.fs g t:=by
 by_cases e:r.o.dst=some t
 ·rw[Ht e,Ht e]
 ·unfold Rec.fs;grind [dO,CW]
theorem Rec.aew{j:Nat}(h:∃b,(j,b)∈r.wr):∃b',(j,b')∈r.wr∧∀m,r.ms m j=some b':=let⟨b',h1,h2⟩:=XY h;⟨b',h1,fun m=>h2 _⟩
theorem Rec.XZ{m:Mem}{j:Nat}(h:∀b,(j,b)∉r.wr)(hc:∀id,r.Ke id→j≠id∧∀b,m j=some b→b.names id=false):r.ms m j=m j:=by unfold Rec.ms;rw[LD h];exact Hr hc
theorem Rec.Hv{m n:Mem}{j:Nat}(h:m j=n j):r.ms m j=r.ms n j:=by
 by_cases e:∃b,(j,b)∈r.wr
 ·obtain⟨b,_,e⟩:=Rec.aew e;rw[e,e]
 ·have e':∀b,(j,b)∉r.wr:=fun b hb=>e ⟨b,hb⟩;unfold Rec.ms;grind [LD,Hs]
section
variable {S S':Nat→Bool}
theorem Ff{f:Fr}:∀{l l':List Rec},iV f (l++l')=iV (iV f l) l':=by
 intro l;induction l generalizing f with
 |nil=>intro l';rfl
 |cons r l ih=>intro l';exact ih
theorem N4{m:Mem}:∀{l l':List Rec},oE m (l++l')=oE (oE m l) l':=by
 intro l;induction l generalizing m with
 |nil=>intro l';rfl
 |cons r l ih=>intro l';exact ih
theorem uK{f:Fr}:∀{l l':List Rec},fm S f (l++l')=fm S (fm S f l) l':=by
 intro l;induction l generalizing f with
 |nil=>intro l';rfl
 |cons r l ih=>intro l';exact ih
theorem y9{m:Mem}:∀{l l':List Rec},fZ S m (l++l')=fZ S (fZ S m l) l':=by
 intro l;induction l generalizing m with
 |nil=>intro l';rfl
 |cons r l ih=>intro l';exact ih
theorem Kf{t:Nat}:∀{l:List Rec}{f:Fr},(∀q∈l,q.o.dst≠some t∧q.kl=[])→iV f l t=f t
 |[],_,_=>rfl
 |r::l,f,h=>by rw[iV,Kf fun q hq=>h q (by simp[hq])];obtain⟨h1,h2⟩:=h r (by simp);exact Rec.SX h1 fun id⟨b,hid⟩=>by rw[h2]at hid;cases hid
theorem nQ{t:Nat}:∀{l:List Rec}{f:Fr},(∀q∈l,S q.i=true→q.o.dst≠some t∧∀id,q.Ke id→(f t).has id=false)→fm S f l t=f t
 |[],_,_=>rfl
 |r::l,f,h=>by
  have h0:(bif S r.i then r.fs f else f) t=f t:=by
   cases e:S r.i with
   |false=>rfl
   |true=>simp_all[Rec.SX]
  rw[fm,nQ fun q hq hs=>by rw[h0];exact h q (by simp[hq]) hs,h0]
theorem wA{t:Nat}:∀{l:List Rec}{f g:Fr},f t=g t→(∀q∈l,S q.i=false→q.o.dst≠some t∧q.kl=[])→fm S f l t=iV g l t
 |[],_,_,h,_=>h
 |r::l,f,g,h,hs=>by
  rw[fm,iV];refine wA ?_ fun q hq=>hs q (by simp[hq]);cases e:S r.i with
  |true=>exact Rec.Hu h
  |false=>obtain⟨h1,h2⟩:=hs r (by simp) e;rw[Rec.SX h1 fun id⟨b,hid⟩=>by rw[h2]at hid;cases hid];exact h
theorem xA{t:Nat}:∀{l:List Rec}{f g:Fr},f t=g t→(∀q∈l,S q.i=S' q.i)→fm S f l t=fm S' g l t
 |[],_,_,h,_=>h
 |r::l,f,g,h,hs=>by
  rw[fm,fm];refine xA ?_ fun q hq=>hs q (by simp[hq]);rw[hs r (by simp)];cases S' r.i
  ·exact h
  ·exact Rec.Hu h
theorem qg{j:Nat}:∀{l:List Rec}{m:Mem},(∀q∈l,S q.i=true→(∀b,(j,b)∉q.wr)∧∀id,q.Ke id→j≠id∧∀b,m j=some b→b.names id=false)→fZ S m l j=m j
 |[],_,_=>rfl
 |r::l,m,h=>by
  have h0:(bif S r.i then r.ms m else m) j=m j:=by
   cases e:S r.i with
   |false=>rfl
   |true=>simp_all[Rec.XZ]
  rw[fZ,qg fun q hq hs=>by rw[h0];exact h q (by simp[hq]) hs,h0]
theorem wB{j:Nat}:∀{l:List Rec}{m n:Mem},m j=n j→(∀q∈l,S q.i=false→(∀b,(j,b)∉q.wr)∧q.kl=[])→fZ S m l j=oE n l j
 |[],_,_,h,_=>h
 |r::l,m,n,h,hs=>by
  rw[fZ,oE];refine wB ?_ fun q hq=>hs q (by simp[hq]);cases e:S r.i with
  |true=>exact Rec.Hv h
  |false=>obtain⟨h1,h2⟩:=hs r (by simp) e;rw[Rec.XZ h1 fun id⟨b,hid⟩=>by rw[h2]at hid;cases hid];exact h
theorem xB{j:Nat}:∀{l:List Rec}{m n:Mem},m j=n j→(∀q∈l,S q.i=S' q.i)→fZ S m l j=fZ S' n l j
 |[],_,_,h,_=>h
 |r::l,m,n,h,hs=>by
  rw[fZ,fZ];refine xB ?_ fun q hq=>hs q (by simp[hq]);rw[hs r (by simp)];cases S' r.i
  ·exact h
  ·exact Rec.Hv h
end
section
variable {E:Env} {ops:Array Oper} {w0:bl}
abbrev hB(w0:bl)(H:Ro):bl:={w0 with hid:=H}
def LG(H:Ro)(g:Nat):Ro:=fun k=>if k=g then none else H k
def X0(E:Env)(t:TypeId)(c:Array Value):Prop:=∃i zv,E.P.info? t=some i∧i.zero=some zv∧c=zv.cells
def Still(E:Env)(ops:Array Oper)(w0:bl)(r:Rec)(f:Fr)(m:Mem):Prop:=mR r.o=true→isApp E r.o=false→(r.wr=[]∧r.kl=[])∧∀(f2:Fr)(m2:Mem),(∀t∈r.o.looksAt ops,f2 t=f t)→(∀x∈r.ft,m2 x.2=m x.2)→∀(H:Ro)(μ:Ro)(φ:Nat→aK)(a:Act)(w:World),Rel E.P E.aF E.fn.ntmps (hB w0 H) μ φ f2 m2 a w→∃y,(execOp a.eval r.o).run E.P w=.ok (.value y) w
def ahB(E:Env)(ops:Array Oper)(w0:bl)(r:Rec)(f:Fr)(m:Mem):Prop:=nY E r.o=true→r.kl=[]∧∀(f2:Fr)(m2:Mem),(∀t∈r.o.looksAt ops,f2 t=f t)→(∀x∈r.ft,m2 x.2=m x.2)→∀(H:Ro)(μ:Ro)(φ:Nat→aK)(a:Act)(w:World)(d:Nat)(t:TypeId)(c:Array Value)(g:Nat),Rel E.P E.aF E.fn.ntmps (hB w0 H) μ φ f2 m2 a w→r.o.op=.alloc t→r.o.dst=some d→X0 E t c→a.tmps.getD d undef=.pointer (some ⟨g,0,none⟩)→H g=some (.cells c t)→∃φ',Rel E.P E.aF E.fn.ntmps (hB w0 (LG H g)) μ φ' (r.fs f2) (r.ms m2) a w
def Hw(E:Env)(ops:Array Oper)(w0:bl)(r:Rec)(f:Fr)(m:Mem):Prop:=Still E ops w0 r f m∧ahB E ops w0 r f m∧∀(f2:Fr)(m2:Mem),(∀t∈r.o.looksAt ops,f2 t=f t)→(∀x∈r.ft,m2 x.2=m x.2)→∀(H:Ro)(μ:Ro)(φ:Nat→aK)(a:Act)(w:World)(K:Act→World→Prop)(Q:Exit→Act→World→Prop),Rel E.P E.aF E.fn.ntmps (hB w0 H) μ φ f2 m2 a w→(∀μ' φ' a' w',Rel E.P E.aF E.fn.ntmps (hB w0 H) μ' φ' (r.fs f2) (r.ms m2) a' w'→K a' w')→if Region.wanted r.o (yielded ops a.tmps)then∀rd:Option Nat,r.o.wpIn (FR rd) 0 E.P a w K Q else K (a.put r.o.dst undef) w
def dD(E:Env)(ops:Array Oper)(w0:bl):Fr→Mem→List Rec→Prop
 |_,_,[]=>True
 |f,m,r::l=>Hw E ops w0 r f m∧(∀id b,(id,b)∈r.wr→(true,id)∈r.ft)∧dD E ops w0 (r.fs f) (r.ms m) l
theorem dD.append{f:Fr}{m:Mem}{l l':List Rec}:dD E ops w0 f m (l++l')↔dD E ops w0 f m l∧dD E ops w0 (iV f l) (oE m l) l':=by
 induction l generalizing f m with
 |nil=>simp[dD,iV,oE]
 |cons r l ih=>simp_all[aoQ,dD,iV,oE,apP]
def Clean(ops:Array Oper)(id:Nat)(r:Rec)(f:Fr)(m:Mem):Prop:=(∀t∈r.o.looksAt ops,(f t).has id=false)∧r.v.has id=false∧(∀x∈r.ft,x.2≠id∧∀b,m x.2=some b→b.names id=false)∧∀j b,(j,b)∈r.wr→(∀m,r.ms m j=some b)→j≠id∧b.names id=false
def jF(ops:Array Oper):Fr→Mem→List Rec→Prop
 |_,_,[]=>True
 |f,m,r::l=>(∀q∈l,∀id,q.Ke id→reach ops 4 q.o r.i=true∨Clean ops id r f m)∧jF ops (r.fs f) (r.ms m) l
theorem jF.append{f:Fr}{m:Mem}{l l':List Rec}(h:jF ops f m (l++l')):jF ops (iV f l) (oE m l) l':=by
 induction l generalizing f m with
 |nil=>exact h
 |cons r l ih=>exact ih h.2
def Ord(ops:Array Oper)(q r:Rec):Prop:=reach ops 4 r.o q.i=true∨(q.o.apart ops r.o=true∧(∀id b,(id,b)∈q.wr→∀x∈r.ft,x.2≠id)∧∀id b,(id,b)∈r.wr→∀x∈q.ft,x.2≠id)
theorem Kg{o:Oper}{j:Nat}(h:BB o j=true):∃e∈o.after,Region.binds .any e=true∧e.on=j:=by unfold BB at h;obtain⟨e,he,h⟩:=aoX.1 h;have he:e∈o.after:=ao4.1 he;simp only[OF]at h;grind [Nat.eq_of_beq_eq_true]
abbrev an(l:Array Bool):Nat→Bool:=fun i=>l.getD i false
def tz(ops:Array Oper)(listed:Array Bool):Prop:=∀i o,ops[i]?=some o→an listed i=true→∀e∈o.after,Region.binds .any e=true→an listed e.on=true
theorem mX(listed:Array Bool)(qB:tz ops listed):∀(n:Nat)(o:Oper)(j:Nat),(∀e∈o.after,Region.binds .any e=true→an listed e.on=true)→reach ops n o j=true→an listed j=true:=by
 have ac0:∀(o:Oper)(j:Nat),(∀e∈o.after,Region.binds .any e=true→an listed e.on=true)→BB o j=true→an listed j=true:=fun o j ho h=>by grind [Kg]
 intro n;induction n with
 |zero=>exact fun o j ho h=>ac0 o j ho h
 |succ n ihn=>
  intro o j ho h;simp only[reach,anH]at h;rcases h with h|h
  ·exact ac0 o j ho h
  ·obtain⟨e,he,h⟩:=aoX.1 h;simp only[OF]at h;obtain⟨hb,h⟩:=h;have he:e∈o.after:=ao4.1 he;split at h
   ·rename_i p hp;exact ihn p j (qB e.on p hp (ho e he hb)) h
   ·cases h
variable{recs:List Rec}{m0:Mem}
theorem Kh{f0:Fr}(bK:recs.Pairwise fun q r=>q.i≠r.i)(Jl:recs.Pairwise (Ord ops))(kh:recs.Pairwise fun q r=>q.kl≠[]→reach ops 4 r.o q.i=true)(LH:jF ops f0 m0 recs)(jq:dD E ops w0 f0 m0 recs){S:Nat→Bool}{r:Rec}(hr:r∈recs)(hSi:S r.i=false)(alp:∀q∈recs,reach ops 4 r.o q.i=true→S q.i=true)(alq:∀q∈recs,reach ops 4 q.o r.i=true→S q.i=false):∃f1 m1,Hw E ops w0 r f1 m1∧(∀t∈r.o.looksAt ops,fm S f0 recs t=f1 t)∧(∀x∈r.ft,fZ S m0 recs x.2=m1 x.2)∧∀S':Nat→Bool,(∀j,S' j=if j=r.i then true else S j)→fm S' f0 recs=r.fs (fm S f0 recs)∧fZ S' m0 recs=r.ms (fZ S m0 recs):=by
 obtain⟨pre,post,oD⟩:=List.append_of_mem hr;subst oD;have Hx:∀q∈pre,Ord ops q r:=fun q hq=>(aow.1 Jl).2.2 q hq r (by simp);have SY:∀q∈post,Ord ops r q:=fun q hq=>(aos.1 (aow.1 Jl).2.1).1 q hq;have alr:∀q∈post,q.i≠r.i:=fun q hq=>((aos.1 (aow.1 bK).2.1).1 q hq).symm;have amV:∀q∈pre,q.i≠r.i:=fun q hq=>(aow.1 bK).2.2 q hq r (by simp);have anc:∀q:Rec,q∈pre→reach ops 4 r.o q.i=true→S q.i=true:=fun q hq h=>alp q (by simp[hq]) h;have Va:∀q∈post,reach ops 4 q.o r.i=true→S q.i=false:=fun q hq h=>alq q (by simp[hq]) h;have aex:∀(f:Fr),fm S f (r::post)=fm S f post:=fun f=>by rw[fm,hSi];rfl
 have X1:∀(m:Mem),fZ S m (r::post)=fZ S m post:=fun m=>by rw[fZ,hSi];rfl
 obtain⟨_,N5,hrw,_⟩:=dD.append.1 jq;have hc:=LH.append.1;have amW:∀q∈pre,q.kl≠[]→reach ops 4 r.o q.i=true:=fun q hq=>(aow.1 kh).2.2 q hq r (by simp);have X2:r.kl≠[]→∀q∈post,reach ops 4 q.o r.i=true:=fun h q hq=>(aos.1 (aow.1 kh).2.1).1 q hq h;have SV:∀t∈r.o.looksAt ops,fm S f0 pre t=iV f0 pre t:=fun t ht=>wA rfl fun q hq hs=>by
  have J0:¬reach ops 4 r.o q.i=true:=fun h=>by simp_all
  refine⟨fun hd=>?_,?_⟩
  ·rcases Hx q hq with h|⟨h,_⟩
   ·exact J0 h
   grind [absurd,Oper.apart_spec]
  grind
 have hm1:∀x∈r.ft,fZ S m0 pre x.2=oE m0 pre x.2:=fun x hx=>wB rfl fun q hq hs=>by
  have J0:¬reach ops 4 r.o q.i=true:=fun h=>by simp_all
  refine⟨fun b hb=>?_,?_⟩
  ·rcases Hx q hq with h|⟨_,h,_⟩
   ·exact J0 h
   grind
  grind
 have hnp:∀q∈post,S q.i=true→¬reach ops 4 q.o r.i=true:=fun q hq hs h=>by simp_all
 have Vb:∀t∈r.o.looksAt ops,fm S f0 (pre++r::post) t=iV f0 pre t:=fun t ht=>by
  rw[uK,aex,nQ fun q hq hs=>⟨fun hd=>?_,fun id hid=>?_⟩]
  ·exact SV t ht
  ·rcases SY q hq with h|⟨h,_⟩
   ·exact hnp q hq hs h
   grind [absurd,Oper.apart_spec]
  ·rw[SV t ht];rcases hc q hq id hid with h|h
   ·simp_all
   ·exact h.1 t ht
 have cQ:∀x∈r.ft,fZ S m0 (pre++r::post) x.2=oE m0 pre x.2:=fun x hx=>by
  rw[y9,X1,qg fun q hq hs=>⟨fun b hb=>?_,fun id hid=>?_⟩]
  ·exact hm1 x hx
  ·rcases SY q hq with h|⟨_,_,h⟩
   ·exact hnp q hq hs h
   grind
  ·rw[hm1 x hx];rcases hc q hq id hid with h|h
   ·simp_all
   ·exact h.2.2.1 x hx
 refine⟨_,_,N5,Vb,cQ,fun S' X3=>?_⟩;have aey:∀q∈pre,S' q.i=S q.i:=fun q hq=>by simp_all
 have LI:∀q∈post,S' q.i=S q.i:=fun q hq=>by simp_all
 have hSr:S' r.i=true:=by rw[X3,BY rfl]
 have e1:fm S' f0 (pre++r::post)=r.fs (fm S f0 (pre++r::post)):=funext fun t=>by
  have hg:fm S' f0 pre=fm S f0 pre:=funext fun s=>xA rfl aey;rw[uK,uK,aex,fm,hSr,hg];simp only[cond];by_cases hk:r.kl=[]
  ·by_cases hd:r.o.dst=some t
   ·rw[Rec.Ht hd,nQ fun q hq hs=>⟨fun hqd=>?_,fun id hid=>?_⟩,Rec.Ht hd]
    ·rw[LI q hq]at hs;rcases SY q hq with h|⟨h,_⟩
     ·exact hnp q hq hs h
     grind [absurd,Oper.apart_spec]
    ·rw[LI q hq]at hs;rw[Rec.Ht hd];rcases hc q hq id hid with h|h
     ·simp_all
     ·exact h.2.1
   ·have DN:∀(g:Fr),r.fs g t=g t:=fun g=>Rec.SX hd fun id⟨b,hid⟩=>by simp_all
    simp_all[xA]
  ·have hun:∀q∈post,S q.i=false:=fun q hq=>Va q hq (X2 hk q hq);rw[nQ fun q hq hs=>by simp_all];grind [Rec.Hu,nQ]
 have e2:fZ S' m0 (pre++r::post)=r.ms (fZ S m0 (pre++r::post)):=funext fun j=>by
  have hg:fZ S' m0 pre=fZ S m0 pre:=funext fun s=>xB rfl aey;rw[y9,y9,X1,fZ,hSr,hg];simp only[cond];by_cases hk:r.kl=[]
  ·by_cases hd:∃b,(j,b)∈r.wr
   ·obtain⟨b,hd,yI⟩:=Rec.aew hd;rw[yI,qg fun q hq hs=>⟨fun b' hqd=>?_,fun id hid=>?_⟩,yI]
    ·rw[LI q hq]at hs;rcases SY q hq with h|⟨_,_,h⟩
     ·exact hnp q hq hs h
     grind
    ·rw[LI q hq]at hs;rcases hc q hq id hid with h|h
     ·simp_all
     ·obtain⟨h1,h2⟩:=h.2.2.2 j b hd yI;simp_all
   ·have WR:∀b,(j,b)∉r.wr:=fun b hb=>hd ⟨b,hb⟩;have DN:∀(g:Mem),r.ms g j=g j:=fun g=>Rec.XZ WR fun id⟨b,hid⟩=>by simp_all
    simp_all[xB]
  ·have hun:∀q∈post,S q.i=false:=fun q hq=>Va q hq (X2 hk q hq);rw[qg fun q hq hs=>by simp_all];grind [Rec.Hv,qg]
 exact⟨e1,e2⟩
variable{rd:Option Nat}{Q:Exit→Act→World→Prop}
theorem Hy{f0:Fr}(H:Ro)(bK:recs.Pairwise fun q r=>q.i≠r.i)(ob:∀r∈recs,ops[r.i]?=some r.o)(Jl:recs.Pairwise (Ord ops))(kh:recs.Pairwise fun q r=>q.kl≠[]→reach ops 4 r.o q.i=true)(LH:jF ops f0 m0 recs)(jq:dD E ops w0 f0 m0 recs){listed:Array Bool}(qB:tz ops listed){r:Rec}(hr:r∈recs)(tA:∀e∈r.o.after,Region.binds .any e=true→an listed e.on=true)(Eg:r.i<listed.size)(hSi:an listed r.i=false){μ:Ro}{φ:Nat→aK}{a:Act}{w:World}(hR:Rel E.P E.aF E.fn.ntmps (hB w0 H) μ φ (fm (an listed) f0 recs) (fZ (an listed) m0 recs) a w){K:Act→World→Prop}(hK:∀μ' φ' a' w',Rel E.P E.aF E.fn.ntmps (hB w0 H) μ' φ' (fm (an (listed.setIfInBounds r.i true)) f0 recs) (fZ (an (listed.setIfInBounds r.i true)) m0 recs) a' w'→K a' w'):wpOpIn (FR rd) 0 E.P ops Q r.i K a w∧(mR r.o=true→isApp E r.o=false→∃y,(execOp a.eval r.o).run E.P w=.ok (.value y) w):=by
 obtain⟨f1,m1,N5,Vb,cQ,hS⟩:=Kh bK Jl kh LH jq (S:=an listed) hr hSi (fun q _ h=>mX listed qB 4 r.o q.i tA h) (fun q hq h=>by
  cases hc':an listed q.i with
  |false=>rfl
  |true=>have:=mX listed qB 4 q.o r.i (qB q.i q.o (ob q hq) hc') h;simp_all)
 obtain⟨e1,e2⟩:=hS (an (listed.setIfInBounds r.i true)) fun j=>by simp only[an,ams,anV];grind
 refine⟨?_,fun hf hf'=>(N5.1 hf hf').2 _ _ Vb cQ H μ φ a w hR⟩;have Vc:=N5.2.2 _ _ Vb cQ H μ φ a w K Q hR fun μ' φ' a' w' jS=>hK _ _ _ _ (by rw[e1,e2];exact jS);unfold wpOpIn;rw[ob r hr];simp only;split
 ·simp_all
 ·rename_i hw;rw[IT hw]at Vc;exact⟨fun _ _=>trivial,Vc⟩
theorem X4{f0:Fr}{base:Nat→Bool}(bK:recs.Pairwise fun q r=>q.i≠r.i)(ob:∀r∈recs,ops[r.i]?=some r.o)(SZ:∀r∈recs,base r.i=false)(X5:∀i o,ops[i]?=some o→base i=false→(∀r∈recs,r.i≠i)→(∀r∈recs,reach ops 8 o r.i=true)∨∃j,reach ops 8 o j=true∧base j=false∧∀r∈recs,r.i≠j)(Jl:recs.Pairwise (Ord ops))(kh:recs.Pairwise fun q r=>q.kl≠[]→reach ops 4 r.o q.i=true)(LH:jF ops f0 m0 recs)(aez:∀r∈recs,∀e∈r.o.after,Region.binds .any e=true→e.on<r.i∧(base e.on=true∨∃q∈recs,q.i=e.on))(jq:dD E ops w0 f0 m0 recs)(hQ:∀(fuel:Nat)(listed:Array Bool),listed.size=ops.size→listed.toList.countP (fun b=> !b)≤fuel→tz ops listed→(∀i,an listed i=true↔base i=true∨∃r∈recs,r.i=i)→∀μ φ a w,Rel E.P E.aF E.fn.ntmps w0 μ φ (iV f0 recs) (oE m0 recs) a w→wpAnyIn (FR rd) 0 E.P .any ops Q fuel listed a w):∀(fuel:Nat)(listed:Array Bool),listed.size=ops.size→listed.toList.countP (fun b=> !b)≤fuel→tz ops listed→(∀i,base i=true→an listed i=true)→(∀i,an listed i=true→base i=true∨∃r∈recs,r.i=i)→∀(μ:Ro)(φ:Nat→aK)(a:Act)(w:World),Rel E.P E.aF E.fn.ntmps w0 μ φ (fm (an listed) f0 recs) (fZ (an listed) m0 recs) a w→wpAnyIn (FR rd) 0 E.P .any ops Q fuel listed a w:=by
 have done:∀(fuel:Nat)(listed:Array Bool),listed.size=ops.size→listed.toList.countP (fun b=> !b)≤fuel→tz ops listed→(∀i,base i=true→an listed i=true)→(∀i,an listed i=true→base i=true∨∃r∈recs,r.i=i)→(∀r∈recs,an listed r.i=true)→∀(μ:Ro)(φ:Nat→aK)(a:Act)(w:World),Rel E.P E.aF E.fn.ntmps w0 μ φ (fm (an listed) f0 recs) (fZ (an listed) m0 recs) a w→wpAnyIn (FR rd) 0 E.P .any ops Q fuel listed a w:=by
  intro fuel listed hs hc qB hb td hl μ φ a w hR;have e1:fm (an listed) f0 recs=iV f0 recs:=funext fun t=>wA rfl fun q hq hf=>by simp_all
  have e2:fZ (an listed) m0 recs=oE m0 recs:=funext fun t=>wB rfl fun q hq hf=>by simp_all
  grind
 have ac1:∀(listed:Array Bool),listed.size=ops.size→(∀i,base i=true→an listed i=true)→(∀r∈recs,r.i∉Region.ready .any ops listed)→∀(n:Nat)(r:Rec),r∈recs→r.i<n→an listed r.i=true:=by
  intro listed hs hb hr n;induction n with
  |zero=>omega
  |succ n ih=>
   intro r yt hi;cases hc:an listed r.i with
   |true=>rfl
   |false=>
    exfalso;have bK:r.i<listed.size:=by grind
    refine hr r yt (mem_ready.2 ⟨by grind,r.o,ob r yt,fun e he j4=>?_⟩);grind
 intro fuel;induction fuel with
 |zero=>
  intro listed hs hc qB hb td μ φ a w hR;refine done 0 listed hs hc qB hb td (fun r hr=>?_) μ φ a w hR;have bK:r.i<listed.size:=by grind
  have:=apZ.1 (aqZ.1 hc) listed[r.i] (by simp);simp only[an,ams,T1 bK,anY];simpa using this
 |succ fuel ih=>
  intro listed hs hc qB hb td μ φ a w hR;by_cases ahC:∀r∈recs,an listed r.i=true
  ·grind
  have amX:∃r∈recs,an listed r.i=false:=by grind
  refine⟨fun h0=>absurd (fun r hr=>ac1 listed hs hb (fun r hr h=>by rw[h0]at h;cases h) (r.i+1) r hr (by omega)) ahC,fun i hi=>?_⟩;obtain⟨hun,o,ho,tA⟩:=mem_ready.1 hi;have ane:an listed i=false:=by grind
  by_cases J0:∀r∈recs,r.i≠i
  ·have hbi:base i=false:=by grind
   rcases X5 i o ho hbi J0 with h|⟨j,h1,h2,h3⟩
   ·grind [mX]
   grind [mX,absurd]
  have hex:∃r∈recs,r.i=i∧r.o=o:=by grind
  obtain⟨r,hr,rfl,rfl⟩:=hex;have Eg:r.i<listed.size:=by grind
  have hSi:an listed r.i=false:=by omega
  refine(Hy w0.hid bK ob Jl kh LH jq qB hr tA Eg hSi hR fun μ' φ' a' w' jS=>?_).1;have X3:∀j,an (listed.setIfInBounds r.i true) j=if j=r.i then true else an listed j:=fun j=>by simp only[an,ams,anV];grind
  refine ih (listed.setIfInBounds r.i true) (by simp[hs]) ?_ ?_ ?_ ?_ μ' φ' a' w' jS
  ·rw[aoI,apY (by omega)];have:listed.toList[r.i]'(by omega)=false:=by simp only[an,ams,T1 Eg,anY]at hSi;simpa using hSi
   grind
  ·intro i' o' ho' oa e he yu;rw[X3]at oa⊢;split
   ·rfl
   ·split at oa
    ·grind
    ·exact qB i' o' ho' oa e he yu
  ·grind
  grind
end
section
variable {E:Env} {ops:Array Oper} {w0:bl}
variable{o:Oper}
theorem Ki{t:Nat}(h:.tmp t∈o.op.operands):t∈o.looksAt ops:=by unfold Oper.looksAt;refine anO.2 (.inl (aph.2 ⟨.tmp t,by simpa using h,rfl⟩))
theorem za{g:Nat×Bool}{t:Nat}(hg:o.guard=some g)(h:(ops[g.1]?).bind (·.dst)=some t):t∈o.looksAt ops:=by simp_all[Oper.looksAt]
variable{f:Fr}
theorem sO{F:Fr}(h:∀t∈o.looksAt ops,f t=F t):∀x∈o.op.operands,bF E f x=bF E F x:=by
 intro x hx;cases x with
 |tmp t=>simp_all[bF,Ki]
 |_=>rfl
variable{A:List (Nat×Bool)}{μ:Ro}{φ:Nat→aK}{a:Act}{w:World}
theorem N6{f2:Fr}{m2:Mem}(hg:guardOf o A=none)(hA:tx E.fn.ntmps ops A f)(hR:Rel E.P E.aF E.fn.ntmps w0 μ φ f2 m2 a w)(hf:∀t∈o.looksAt ops,f2 t=f t):Region.wanted o (yielded ops a.tmps)=true:=by
 unfold guardOf at hg;unfold Region.wanted;split at hg
 ·rename_i WS;simp[WS]
 ·rename_i g WS;split at hg
  ·rename_i bu;obtain⟨t,h1,h0,h2⟩:=hA g (by simpa using bu);have h3:=hR.fr t;grind [qZ,za,xx,tv]
  ·cases hg
variable{m:Mem}{R:Type}
theorem Kj(hk:mR o=true){site:Nat}{k:V→Fr→Mem→bx→Option R}{r:R}(h:cj E true site o f m k=some r):(∃v ft,k v f m ft=some r∧∀x∈ft,x.1=false)∧∀{w0:bl}{μ:Ro}{φ:Nat→aK}{a:Act}{w:World},Rel E.P E.aF E.fn.ntmps w0 μ φ f m a w→∃y,(execOp a.eval o).run E.P w=.ok (.value y) w:=by
 obtain⟨dst,op,type,pos,after,guard⟩:=o;cases op<;>simp only[mR,Bool.and_false,tc]at hk;case move x=>simp only[cj]at h;exact⟨⟨_,_,h,by simp⟩,fun hR=>⟨_,rfl⟩⟩
 case load t x=>simp only[cj]at h;obtain⟨v,ft,h1,h2,h3,h4⟩:=GI h;refine⟨⟨v,ft,h2,h3⟩,fun hR=>?_⟩;obtain⟨y,hy,_⟩:=h4 _ _ _ _ _ _ hR.toaG (ax hR x).1;exact⟨y,by simp[execOp,hy]⟩
 case nilCheck x=>
  simp only[cj]at h;have key:∀{v},bF E f x=v→(∀(μ:Ro)(φ:Nat→aK)y,aq E.P μ φ v y→(∃ad,y=.pointer (some ad))∨∃g xs ys,y=.func (.func g) xs ys)→k v f m []=some r→(∃v ft,k v f m ft=some r∧∀x∈ft,x.1=false)∧∀{w0:bl}{μ:Ro}{φ:Nat→aK}{a:Act}{w:World},Rel E.P E.aF E.fn.ntmps w0 μ φ f m a w→∃y,(execOp a.eval ⟨dst,.nilCheck x,type,pos,after,guard⟩).run E.P w=.ok (.value y) w:=by
   intro v hv hp hk;refine⟨⟨v,[],hk,by simp⟩,fun{w0 μ φ a w}hR=>?_⟩;obtain⟨h1,h2⟩:=ax hR x;rw[hv]at h1;refine⟨a.eval x,?_⟩;rcases hp μ φ _ h1 with⟨ad,e⟩|⟨g,xs,ys,e⟩
   ·simp only[execOp,e];rfl
   ·simp only[execOp,e];rfl
  split at h
  ·rename_i cs hx;exact key hx (fun μ φ y hy=>by cases hy with|pv hy=>cases hy;simp) h
  ·rename_i hx;exact key hx (fun μ φ y hy=>by cases hy;simp) h
  ·rename_i hx;exact key hx (fun μ φ y hy=>by cases hy;simp) h
  ·rename_i hx;exact key hx (fun μ φ y hy=>by cases hy;simp) h
  ·rename_i hx;exact key hx (fun μ φ y hy=>by cases hy;exact .inr (ou _ _)) h
  ·rename_i hx;exact key hx (fun μ φ y hy=>by cases hy with|pv hy=>cases hy;exact .inr (ou _ _)) h
  ·cases h
 case fieldAddr s x j=>simp only[cj]at h;obtain⟨v,v1,v2,v3,v4⟩:=A6 h;refine⟨⟨v,[],v2,by simp⟩,fun{w0 μ φ a w}hR=>?_⟩;obtain⟨y,hy,_⟩:=v4 μ φ w _ (ax hR x).1;exact⟨y,by simp[execOp,hy]⟩
variable{P:Program}{G:Nat→Option (List PV)}{nt:Nat}
theorem sq.hid{yl:YL}(h:sq P G nt yl w0)(H:Ro):sq P G nt yl (hB w0 H):=fun H'=>h H'
variable{H:Ro}
theorem aG.LJ{H':Ro}(h:aG P G (hB w0 H) μ φ m w)(hle:∀g o,H' g=some o→H g=some o):aG P G (hB w0 H') μ φ m w:=⟨h.below,h.ro,h.aF,h.dF,h.own,h.inj,h.apart,h.fJ,h.base,h.dG,h.DL,fun g o hg=>h.hid g o (hle g o hg)⟩
theorem Rel.LJ{nt:Nat}{H H':Ro}{μ:Ro}{φ:Nat→aK}{f:Fr}{m:Mem}{a:Act}{w:World}(h:Rel E.P E.aF nt (hB w0 H) μ φ f m a w)(hle:∀g o,H' g=some o→H g=some o):Rel E.P E.aF nt (hB w0 H') μ φ f m a w:={toaG:=h.toaG.LJ hle,size:=h.size,defers:=h.defers,lu:=h.lu,fr:=h.fr,live:=h.live}
def hAdd(H:Ro)(g:Nat)(o:Obj):Ro:=fun k=>if k=g then some o else H k
theorem Rel.X6(h:Rel E.P E.aF nt (hB w0 H) μ φ f m a w)(o:Obj):Rel E.P E.aF nt (hB w0 (hAdd H w.heap.size o)) μ φ f m a (w.alloc o):=by
 have hold:∀k,k<w.heap.size→(w.alloc o).heap[k]?=w.heap[k]?:=fun k hk=>lr.heap_alloc w o k hk;refine{toaG:=⟨h.below.alloc h.below.size o,fun b o' hb=>?_,h.aF,fun id b hid=>?_,h.own,h.inj,h.apart,h.fJ,h.base,h.dG,fun id st hid=>?_,fun g o' hg=>?_⟩,size:=h.size,defers:=h.defers,lu:=h.lu,fr:=h.fr,live:=h.live}
 ·have:=h.ro b o' hb;grind
 ·have hR:=h.dF id b hid;exact hR.cG (fun _ _=>rfl) rfl (fun _ _ h=>h) (fun g hg=>hold g (hR.FU hg))
 ·obtain⟨g,rc,h1,h2,h3⟩:=h.DL id st hid;grind
 ·simp only[hB,hAdd]at hg;split at hg
  ·rename_i e;subst e;simp only[tb]at hg;subst hg;refine⟨heap_alloc_new w o,h.below.size,?_,fun id b hb hg=>?_⟩
   ·cases hq:μ w.heap.size with
    |none=>rfl
    |some o'=>have:=(adW.1 (h.ro _ _ hq)).1;omega
   ·have:=(h.dF id b hb).FU hg;omega
  ·obtain⟨h1,h2⟩:=h.hid g o' hg;grind
variable{v:V}{ft:bx}{i:Nat}
theorem Vd{f2:Fr}{m2:Mem}{wr:List (Nat×bI)}(hn:∀(R':Type)(k':V→Fr→Mem→bx→Option R'),cj E true (cK E o.dst) o f2 m2 k'=k' v f2 (uE wr m2) ft)(hk:nY E o=true){d:Nat}{t:TypeId}{c:Array Value}{g:Nat}(hR:Rel E.P E.aF E.fn.ntmps (hB w0 H) μ φ f2 m2 a w)(Kb:o.op=.alloc t)(WU:o.dst=some d)(hc:X0 E t c)(hp:a.tmps.getD d undef=.pointer (some ⟨g,0,none⟩))(hH:H g=some (.cells c t)):∃φ',Rel E.P E.aF E.fn.ntmps (hB w0 (LG H g)) μ φ' ((⟨i,o,v,wr,ft,[]⟩:Rec).fs f2) ((⟨i,o,v,wr,ft,[]⟩:Rec).ms m2) a w:=by
 obtain⟨dst,op,type,pos,after,guard⟩:=o;simp only at Kb WU;subst Kb;subst WU;simp only[nY,OF,anT,isApp,aoL]at hk;obtain⟨⟨⟨_,Ji⟩,hdo⟩,hz⟩:=hk;obtain⟨cs,hz⟩:=anK.1 hz;obtain⟨inf,zv,z1,z2,z3,z4,z5,z6,z7,z8⟩:=dC hz;obtain⟨anf,zv',y1,y2,rfl⟩:=hc;rw[z1]at y1;cases y1;rw[z2]at y2;cases y2;have h0:=hn (V×Fr×Mem×bx) fun v f m ft=>some (v,f,m,ft);simp only[cj,hz,Ji,cond_false,ag0,apw,tc,PS]at h0;obtain⟨f',m',_,nM,yI,AP,xh⟩:=ck h0;simp only[tb,T0]at nM;obtain⟨rfl,rfl,rfl,rfl⟩:=nM;have hM:=hR.toaG;obtain⟨q1,q2,q3,q4⟩:=hM.hid g _ hH;have hdl:d<E.fn.ntmps:=gN hdo d rfl;have hle:∀k o,LG H g k=some o→H k=some o∧k≠g:=fun k o hk=>by simp_all[LG]
 obtain⟨φ',a1,a2,a3⟩:=xh E.P E.aF (hB w0 (LG H g)) μ φ w w (bV E.fn.ntmps w0 a) (EY (some g) 0 cs.length 0) (hM.LJ fun k o hk=>(hle k o hk).1) ⟨hR.fr,hR.live⟩ ⟨lr.refl _ _,hM.ro,fun _ _ _ _ _=>rfl,fun g' cV=>by simp_all,fun φ' hφ _=>⟨g,zv.cells,t,by rw[hφ],q1,by omega,fun i u y hu hy=>z7 μ φ' i u y hu hy,z8,by rw[hφ]⟩,fun id hid=>(by have hid:cq id cs=true:=hid;simp_all),fun k o hk=>⟨(hM.hid k o (hle k o hk).1).1,fun e=>(hle k o hk).2 (by simp_all)⟩,fun st h=>by cases h⟩;refine⟨φ',{toaG:=a2,size:=hR.size,defers:=hR.defers,lu:=hR.lu,fr:=fun s=>?_,live:=fun s id hid=>?_}⟩
 ·show aq E.P μ φ' (iO f' (some d) _ s) _;by_cases e:s=d
  ·subst e;rw[iT,qZ hdl,hp];exact .op (by rw[a1])
  ·rw[dO fun h=>e (an5 h).symm];exact a3.fr s
 ·have hid:(iO f' (some d) _ s).has id=true:=hid;show(uE wr m2 id).isSome=true;by_cases e:s=d
  ·subst e;rw[iT]at hid;have hid:=K5 hid;simp_all
  ·rw[dO fun h=>e (an5 h).symm]at hid;exact a3.live s id hid
theorem Hz(hE:jR E){wr:List (Nat×bI)}(hg:guardOf o A=none)(hA:tx E.fn.ntmps ops A f)(hd:yr E o=true)(hwr:∀x∈wr,(true,x.1)∈ft)(hn:∀(f2:Fr)(m2:Mem),(∀x∈o.op.operands,bF E f2 x=bF E f x)→(∀x∈ft,m2 x.2=m x.2)→∀(R':Type)(k':V→Fr→Mem→bx→Option R'),M7 E true (cK E o.dst) o f2 m2 k'=k' v f2 (uE wr m2) ft):Hw E ops w0 ⟨i,o,v,wr,ft,[]⟩ f m:=by
 refine⟨fun hk _=>⟨⟨?_,rfl⟩,fun f2 m2 hf hm H μ φ a w hR=>?_⟩,fun hk=>⟨rfl,fun f2 m2 hf hm H μ φ a w d t c g hR Kb WU hc hp hH=>Vd (fun R' k'=>by rw[←Gz];exact hn f2 m2 (sO hf) hm R' k') hk hR Kb WU hc hp hH⟩,?_⟩
 ·obtain⟨⟨v1,ft1,h1,h2⟩,_⟩:=Kj (E:=E) hk (k:=fun _ _ _ ft=>some ft) (r:=ft) (by rw[←Gz,hn f m (fun _ _=>rfl) (fun _ _=>rfl)]);simp only[tb]at h1;subst h1;cases wr with
  |nil=>rfl
  |cons x l=>grind
 ·exact(Kj (E:=E) hk (k:=fun _ _ _ ft=>some ft) (r:=ft) (by rw[←Gz,hn f2 m2 (sO hf) hm])).2 hR
 intro f2 m2 hf hm H μ φ a w K Q hR hK;have hw:Region.wanted o (yielded ops a.tmps)=true:=by
  unfold guardOf at hg;unfold Region.wanted;split at hg
  ·rename_i WS;simp[WS]
  ·rename_i g WS;split at hg
   ·rename_i bu;obtain⟨t,h1,h0,h2⟩:=hA g (by simpa using bu);have h3:=hR.fr t;grind [qZ,za,xx,tv]
   ·cases hg
 simp only at hf hm hK⊢;rw[BY hw];exact fun rd=>(aet hE (.inl rfl) (hn f2 m2 (sO hf) hm)).BM (Ee (hn f2 m2 (sO hf) hm Unit fun _ _ _ _=>some ())) rd (hB w0 H) μ φ a w K Q hR fun y w' μ' φ' hle hM hF hv hl=>hK _ _ _ _ (hR.put hle (gN hd) hM hF hv hl)
theorem QW(hd:yr E o=true)(CT:U8 ops f o):Hw E ops w0 ⟨i,o,.aV [],[],[],[]⟩ f m:=by
 refine⟨fun hk _=>?_,fun hk=>?_,?_⟩
 ·obtain⟨g,hg,_⟩:=CT;simp[mR,hg]at hk
 ·obtain⟨g,hg,_⟩:=CT;simp[nY,hg]at hk
 intro f2 m2 hf hm H μ φ a w K Q hR hK;simp only at hf hm hK⊢;have afr:U8 ops f2 o:=by obtain⟨g,hg,ht⟩:=CT;exact⟨g,hg,fun t h=>by simp_all[za]⟩
 rw[Be hR afr];simp only[tc,PS];exact hK _ _ _ _ (hR.put (fun _ _ h=>h) (gN hd) hR.toaG hR.kT Hm (fun id hid=>by simp[V.has,cq]at hid))
def CX(x:Nat×Oper):Rec:=⟨x.1,x.2,.aV [],[],[],[]⟩
theorem Kk{m:Mem}:∀(l:List (Nat×Oper))(F:Fr),(∀x∈l,yr E x.2=true)→(∀(pre post:List (Nat×Oper))(x:Nat×Oper),l=pre++x::post→U8 ops (jA F pre) x.2)→dD E ops w0 F m (l.map CX)∧iV F (l.map CX)=jA F l
 |[],F,_,_=>⟨trivial,rfl⟩
 |x::r,F,hd,CT=>by obtain⟨h1,h2⟩:=Kk (m:=m) r (iO F x.2.dst (.aV [])) (fun y hy=>hd y (by simp[hy])) (fun pre post y h=>by have:=CT (x::pre) post y (by rw[h];rfl);rwa[jA]at this);exact⟨⟨QW (hd x (by simp)) (CT [] r x rfl),by simp[CX],h1⟩,h2⟩
theorem Km{m:Mem}:∀{l:List Rec},(∀q∈l,q.wr=[]∧q.kl=[])→oE m l=m
 |[],_=>rfl
 |r::l,h=>by
  obtain⟨h1,h2⟩:=h r (by simp);have:r.ms m=m:=by unfold Rec.ms;rw[h1,h2];rfl
  simp_all[oE,Km]
theorem dD.wr:∀{l:List Rec}{f:Fr}{m:Mem},dD E ops w0 f m l→∀q∈l,∀id b,(id,b)∈q.wr→(true,id)∈q.ft
 |[],_,_,_,q,hq=>by cases hq
 |r::l,f,m,h,q,hq=>by
  rcases anA.1 hq with rfl|hq
  ·exact h.2.1
  ·exact dD.wr h.2.2 q hq
def QX(q r:Rec):Prop:=reach ops 4 r.o q.i=true∨((∀id b,(id,b)∈q.wr→∀x∈r.ft,x.2≠id)∧∀id b,(id,b)∈r.wr→∀x∈q.ft,x.2≠id)
theorem N7{o:Oper}{w:Bool}{id:Nat}:∀{lg:Log},St ops o w id lg=true→∀x∈lg,id≠x.2.2∨(w=false∧x.2.1=false)∨reach ops 4 o x.1=true
 |[],_,x,hx=>by cases hx
 |(j,w',uv)::lg,h,x,hx=>by
  simp only[St,OF]at h;rcases anA.1 hx with rfl|hx
  ·have h1:=h.1;simp only[anH,anT,OF]at h1;grind [Nat.beq_refl]
  ·exact N7 h.2 x hx
theorem Eh{o:Oper}{lg:Log}:∀{ft:bx},DZ ops o lg ft=true→∀y∈ft,∀x∈lg,y.2≠x.2.2∨(y.1=false∧x.2.1=false)∨reach ops 4 o x.1=true
 |[],_,y,hy=>by cases hy
 |(w,id)::ft,h,y,hy=>by
  simp only[DZ,OF]at h;rcases anA.1 hy with rfl|hy
  ·exact N7 h.1
  ·exact Eh h.2 y hy
theorem HA{o:Oper}{id:Nat}:∀{lg:Log},F5 ops o id lg=true→∀x∈lg,x.2.2=Ae id→reach ops 4 o x.1=true
 |[],_,x,hx=>by cases hx
 |(j,w,n)::lg,h,x,hx=>by
  simp only[F5,OF,anH,anT]at h;intro he;rcases anA.1 hx with rfl|hx
  ·simp_all
  ·exact HA h.2 x hx he
mutual
theorem S1{id:Nat}:∀(v:V),v.has id=true→id∈v.ids
 |.agg cs,h=>wC cs (by simpa only[V.has]using h)
 |.aV cs,h=>wC cs (by simpa only[V.has]using h)
 |.fn _ cs,h=>wC cs (by simpa only[V.has]using h)
 |.os j,h=>by have:=K5 h;subst this;simp[V.ids]
 |.fX j _ _,h=>by have:=K5 h;subst this;simp[V.ids]
 |.oe j _ _,h=>by have:=K5 h;subst this;simp[V.ids]
 |.om j,h=>by have:=K5 h;subst this;simp[V.ids]
 |.yK j _ _,h=>by have:=K5 h;subst this;simp[V.ids]
 |.Cv j _ _ _ _ _,h=>by have:=K5 h;subst this;simp[V.ids]
 |.op j _,h=>by have:=K5 h;subst this;simp[V.ids]
 |.it j,h=>by have:=K5 h;subst this;simp[V.ids]
 |.yl j,h=>by have:=K5 h;subst this;simp[V.ids]
 |.pv _,h=>by cases h
 |.gy,h=>by cases h
 |.top,h=>by cases h
theorem wC{id:Nat}:∀(cs:List V),cq id cs=true→id∈Nx cs
 |[],h=>by cases h
 |v::r,h=>by
  simp only[cq,anH]at h;simp only[Nx,anO];rcases h with h|h
  ·exact .inl (S1 v h)
  ·exact .inr (wC r h)
end
variable{id:Nat}
theorem CY{b:bI}(h:b.names id=true):id∈GA (some b):=by
 cases b with
 |box cs=>exact wC cs h
 |_=>cases h
theorem BO{m m':Mem}{id:Nat}:∀{ft:bx}{x:Bool×Nat},x∈ft→(id∈GA (m x.2)∨id∈GA (m' x.2))→id∈Lf m m' ft
 |y::ft,x,hx,h=>by
  simp only[Lf,anO];rcases anA.1 hx with rfl|hx
  ·exact .inl h
  ·exact .inr (BO hx h)
theorem X7{wr:List (Nat×bI)}{F:Fr}(N8:∀t∈o.looksAt ops,f t=F t)(hwr:∀j b,(j,b)∈wr→(true,j)∈ft)(hn:id∉F4 ops o f m (uE wr m) v ft)(hft:∀x∈ft,x.2≠id):Clean ops id ⟨i,o,v,wr,ft,[]⟩ F m:=by
 simp only[F4,anO,ap8]at hn;obtain⟨⟨h1,h2⟩,h3⟩:=hn;refine⟨fun t ht=>?_,?_,fun x hx=>⟨hft x hx,fun b hb=>?_⟩,fun j b hb yI=>⟨hft _ (hwr j b hb),?_⟩⟩
 ·cases e:(F t).has id with
  |false=>rfl
  |true=>exact absurd (wC _ (cT.2 ⟨f t,anG.2 ⟨t,ht,rfl⟩,by rw[N8 t ht];omega⟩)) h1
 ·cases e:v.has id with
  |false=>rfl
  |true=>exact absurd (S1 _ e) h2
 ·cases e:b.names id with
  |false=>rfl
  |true=>grind [absurd,BO,CY]
 ·cases e:b.names id with
  |false=>rfl
  |true=>exact absurd (BO (hwr j b hb) (.inr (by have j4:uE wr m j=some b:=yI m;simp_all[CY]))) h3
theorem QY{site:Nat}{rd:bx}(h:xf E f m o=some (id,rd)){k:V→Fr→Mem→bx→Option R}{r:R}(hx:cj E false site o f m k=some r):(∀x∈rd,x.1=false)∧∃dF,k (.os id) (eU id f) (aB (br (bH id m) id) id dF) [(true,0)]=some r∧∀(f2:Fr)(m2:Mem),(∀x∈o.op.operands,bF E f2 x=bF E f x)→(∀x∈(true,id)::rd,m2 x.2=m x.2)→∀(R':Type)(k':V→Fr→Mem→bx→Option R'),cj E false site o f2 m2 k'=k' (.os id) (eU id f2) (aB (br (bH id m2) id) id dF) [(true,0)]:=by
 obtain⟨dst,op,type,pos,after,guard⟩:=o;unfold xf at h;simp only at h;split at h
 ·rename_i c;obtain⟨callee,args,argTypes⟩:=c;simp only at h;split at h
  ·rename_i uv x t t' tu hty;split at h
   ·rename_i e hu;split at h
    ·rename_i new rd' GY;split at h
     ·cases h
     ·rename_i hxh;simp only[tb,T0]at h;obtain⟨rfl,rfl⟩:=h;obtain⟨he1,he2,_⟩:=qe GY;have ang:∀m2:Mem,br (bH uv m2) uv uv=none:=fun m2=>by simp_all
      have main:∀(f2:Fr)(m2:Mem),args.toList.map (bF E f2)=[.os uv,x]→m2 uv=m uv→fM m2 (aW E.P e) x=some (new,rd')→∀(R':Type)(k':V→Fr→Mem→bx→Option R'),cj E false site ⟨dst,.call ⟨.builtin .append,args,argTypes⟩,type,pos,after,guard⟩ f2 m2 k'=if !(decide (t'=t))then none else if(da E e).isNone then none else match m uv with
       |some (.arr sz et es)=>if et=e∧sz=aW E.P e∧x.has uv=false then(if(es++new).length*Jb E.P e≤aa∧0<Jb E.P e then k' (.os uv) (eU uv f2) (aB (br (bH uv m2) uv) uv (.arr sz e (es++new))) [(true,0)]else none)else none
       |_=>none:=by
       intro f2 m2 h1 h2 h3 R' k'
       simp only[cj,h1,hty,CB,apr,hu,h3,h2]
       split
       ·rfl
       ·split
        ·rfl
        grind [fresh]
      rw[main f m tu rfl GY]at hx;refine⟨he2,?_⟩;split at hx
      ·cases hx
      ·rename_i hc1;split at hx
       ·cases hx
       ·rename_i Na;split at hx
        ·rename_i sz et es hm;split at hx
         ·rename_i hc3;split at hx
          ·rename_i hc4;refine⟨_,hx,fun f2 m2 hf cQ R' k'=>?_⟩;have ha:args.toList.map (bF E f2)=[.os uv,x]:=by grind [qD,Op.operands,Call.operands]
           rw[main f2 m2 ha (cQ (true,uv) (by simp)) (he1 m2 fun y hy=>cQ y (by simp[hy])) R' k'];simp_all
          ·cases hx
         ·cases hx
        ·cases hx
    ·cases h
   ·cases h
  ·cases h
 ·cases h
theorem wX.kill{F:Fr}(h:wX f F)(id:Nat):wX (eU id f) (eU id F):=fun t=>by
 rcases h t with e|e
 ·exact .inl (by simp only[eU,e])
 ·exact .inr (by simp only[eU,e];rfl)
theorem tx.kill(h:tx nt ops A f)(id:Nat):tx nt ops A (eU id f):=by intro g hg;obtain⟨t,h1,h0,h2⟩:=h g hg;exact⟨t,h1,h0,by simp only[eU,h2];rfl⟩
theorem X8{x:Nat×bx}(h:xf E f m o=some x):isApp E o=true:=by
 obtain⟨dst,op,type,pos,after,guard⟩:=o;unfold xf at h;simp only at h;unfold isApp;split at h
 ·rename_i c;obtain⟨callee,args,argTypes⟩:=c;grind
 ·cases h
theorem LK{rd:bx}(h:xf E f m o=some (id,rd)):∃c x t t',o.op=.call c∧c.callee=.builtin .append∧c.args.toList.map (bF E f)=[.os id,x]∧c.argTypes.toList=[t,t']:=by unfold xf at h;grind
theorem Ve{kl:Kl}(h:Lg E f m o=some (kl,ft)){k:V→Fr→Mem→bx→Option R}{r:R}(hx:M7 E false (cK E o.dst) o f m k=some r):isApp E o=true∧∃v wr ft1,k v (kf kl f) (uE wr (km kl m)) ft1=some r∧(∀x∈wr,(true,x.1)∈ft)∧(∀x∈kl,(true,x.2)∈ft)∧∀(f2:Fr)(m2:Mem),(∀x∈o.op.operands,bF E f2 x=bF E f x)→(∀x∈ft,m2 x.2=m x.2)→∀(R':Type)(k':V→Fr→Mem→bx→Option R'),M7 E false (cK E o.dst) o f2 m2 k'=k' v (kf kl f2) (uE wr (km kl m2)) ft1:=by
 unfold Lg at h;unfold M7 at hx;split at h
 ·rename_i sp rD;simp only[tb]at h;have hn:E.DR (cK E o.dst)=true:=by grind
  rw[hn]at rD hx;simp only[cond]at rD hx;rw[rD]at hx;obtain⟨v,wr,h1,h2,h3,h4,_,_⟩:=QU rD hx;rw[h]at h1 h2 h3 h4;refine⟨by unfold isApp;rw[hn];rfl,v,wr,ft,h1,h2,h3,fun f2 m2 hf hm R' k'=>?_⟩;have:=QS rD hf (by rw[h];exact hm);simp_all[M7,cond]
 ·rename_i rD;split at h
  ·rename_i id rd N9;simp only[tb,T0]at h;obtain⟨rfl,rfl⟩:=h;have e0:(bif false then none else bif E.DR (cK E o.dst)then Bz E (cK E o.dst) o f m else none)=(bif E.DR (cK E o.dst)then Bz E (cK E o.dst) o f m else none):=rfl;rw[e0,rD]at hx;simp only at hx;obtain⟨CN,dF,hk,hn⟩:=QY N9 hx;refine⟨X8 N9,.os id,[(id,dF)],[(true,0)],hk,by simp,by simp,fun f2 m2 hf hm R' k'=>?_⟩;have Bg:(bif E.DR (cK E o.dst)then Bz E (cK E o.dst) o f2 m2 else none)=none:=by
    cases Ji:E.DR (cK E o.dst)with
    |false=>rfl
    |true=>
     simp only[cond];obtain⟨c,x,t,t',hc,LL,tu,acY⟩:=LK N9;have als:c.args.toList.map (bF E f2)=[.os id,x]:=by simp_all[an2,Op.operands,Call.operands]
     have cQ:m2 id=m id:=hm (true,id) (by simp);have hm3:∃sz et es,m id=some (.arr sz et es):=by obtain⟨dst,op,type,pos,after,guard⟩:=o;simp only at hc;subst hc;obtain⟨callee,args,argTypes⟩:=c;simp only at LL tu acY;subst LL;simp only[cj,tu,acY,CB,apr]at hx;grind
     grind [Bz]
   unfold M7;have e1:(bif false then none else bif E.DR (cK E o.dst)then Bz E (cK E o.dst) o f2 m2 else none)=(bif E.DR (cK E o.dst)then Bz E (cK E o.dst) o f2 m2 else none):=rfl;rw[e1,Bg];exact hn f2 m2 hf hm R' k'
  ·cases h
theorem wX.A4{F:Fr}(h:wX f F)(id:Nat):wX (gz id f) (gz id F):=fun t=>by
 rcases h t with e|e
 ·simp_all[gz]
 ·exact .inr (by simp only[gz,e];rfl)
theorem wX.kf:∀{kl:Kl}{f F:Fr},wX f F→wX (Go.Ab.kf kl f) (Go.Ab.kf kl F)
 |[],_,_,h=>h
 |(true,id)::r,f,F,h=>wX.kf (kl:=r) (f:=eU id f) (F:=eU id F) (h.kill id)
 |(false,id)::r,f,F,h=>wX.kf (kl:=r) (f:=gz id f) (F:=gz id F) (h.A4 id)
theorem tx.A4(h:tx nt ops A f)(id:Nat):tx nt ops A (gz id f):=by intro g hg;obtain⟨t,h1,h0,h2⟩:=h g hg;exact⟨t,h1,h0,by simp only[gz,h2];rfl⟩
theorem tx.kf{nt:Nat}{A:List (Nat×Bool)}:∀{kl:Kl}{f:Fr},tx nt ops A f→tx nt ops A (Go.Ab.kf kl f)
 |[],_,h=>h
 |(true,id)::r,f,h=>tx.kf (kl:=r) (f:=eU id f) (h.kill id)
 |(false,id)::r,f,h=>tx.kf (kl:=r) (f:=gz id f) (h.A4 id)
theorem Vf(hE:jR E)(hY:sq E.P E.aF E.fn.ntmps E.yl w0){F:Fr}{wr:List (Nat×bI)}{kl:Kl}{ft1:bx}(hg:guardOf o A=none)(hA:tx E.fn.ntmps ops A F)(hd:yr E o=true)(Kb:∀x∈o.op.operands,bF E f x=bF E F x)(N9:isApp E o=true)(hn:∀(f2:Fr)(m2:Mem),(∀x∈o.op.operands,bF E f2 x=bF E f x)→(∀x∈ft,m2 x.2=m x.2)→∀(R':Type)(k':V→Fr→Mem→bx→Option R'),M7 E false (cK E o.dst) o f2 m2 k'=k' v (kf kl f2) (uE wr (km kl m2)) ft1):Hw E ops w0 ⟨i,o,v,wr,ft,kl⟩ F m:=by
 refine⟨fun _ hk=>(by simp_all),fun hk=>(by simp[nY,N9]at hk),?_⟩;intro f2 m2 hf hm H μ φ a w K Q hR hK;have hw:Region.wanted o (yielded ops a.tmps)=true:=N6 hg hA hR hf;simp only at hf hm hK⊢;rw[BY hw];have hx:=hn f2 m2 (fun x hx=>by rw[sO hf x hx,Kb x hx]) hm (V×Fr×Mem) fun v f m _=>some (v,f,m);rcases LC hE hx with⟨v,f',m',ft,h1,h2⟩|⟨_,h2⟩
 ·simp only[tb,T0]at h1;obtain⟨rfl,rfl,rfl⟩:=h1;exact fun rd=>h2.BM (Ee hx) rd (hB w0 H) μ φ a w K Q hR fun y w' μ' φ' hle hM hF hv hl=>hK _ _ _ _ (hR.put hle (gN hd) hM hF hv hl)
 ·refine fun rd=>Hj.BM h2 rd (hB w0 H) μ φ a w K Q (hY.hid H) hR fun v f' m' y w' μ' φ' h1 hle hM hF hv hl=>?_;simp only[tb,T0]at h1;obtain⟨rfl,rfl,rfl⟩:=h1;exact hK _ _ _ _ (hR.put hle (gN hd) hM hF hv hl)
structure LM(ops:Array Oper)(mode:Nat)(F:Fr)(m:Mem)(lg:Log)(recs:List Rec):Prop where
 one:mode=1→∀q∈recs,q.wr=[]∧q.kl=[]
 ord:mode=2→recs.Pairwise (QX (ops:=ops))
 log:mode=2→∀q∈recs,∀y∈q.ft,∀x∈lg,y.2≠x.2.2∨(y.1=false∧x.2.1=false)∨reach ops 4 q.o x.1=true
 kl:recs.Pairwise fun q r=>q.kl≠[]→reach ops 4 r.o q.i=true
 cln:jF ops F m recs
 nam:∀q∈recs,∀id,q.Ke id→mode=2∧ops.toList.any (isApp E)=true∧(true,id)∈q.ft∧∀x∈lg,x.2.2=Ae id→reach ops 4 q.o x.1=true
theorem jF.none:∀{l:List Rec}{f:Fr}{m:Mem},(∀q∈l,q.kl=[])→jF ops f m l
 |[],_,_,_=>trivial
 |r::l,f,m,h=>⟨fun q hq id⟨b,hid⟩=>(by simp_all),jF.none fun q hq=>h q (by simp[hq])⟩
theorem lC(hE:jR E)(hY:sq E.P E.aF E.fn.ntmps E.yl w0){mode:Nat}(nP:mode=1∨mode=2):∀(fuel:Nat){R:Type}{A:List (Nat×Bool)}{l:List (Nat×Oper)}{f:Fr}{m:Mem}{lg:Log}{k:Fr→Mem→Option R}{r:R},cL E ops mode fuel R A l f m lg k=some r→(∀x∈l,ops[x.1]?=some x.2)→(mode=1→∀x∈l,fI x.2=true)→afq ops A l→∀F:Fr,wX f F→tx E.fn.ntmps ops A F→(∀x∈l,∀t∈x.2.looksAt ops,f t=F t)→∃(recs:List Rec)(f':Fr),k f' (oE m recs)=some r∧wX f' (iV F recs)∧recs.map (fun r=>(r.i,r.o))=l∧dD E ops w0 F m recs∧LM (E:=E) ops mode F m lg recs
 |0,_,_,_,_,_,_,_,_,h,_,_,_,_,_,_,_=>by simp[cL]at h
 |fuel+1,R,A,[],f,m,lg,k,r,h,_,_,_,F,hF,_,_=>by simp only[cL]at h;exact⟨[],f,h,hF,rfl,trivial,by simp,fun _=>.nil,by simp,.nil,trivial,by simp⟩
 |fuel+1,R,A,(i,o)::rest,f,m,lg,k,r,h,hl,WT,Ho,F,hF,hA,N8=>by
  have hm1:(Nat.beq mode 1||Nat.beq mode 2)=true:=by simp_all
  simp only[cL,hm1]at h;split at h
  ·rename_i hg;split at h
   ·rename_i hd;have ahD:∀x∈o.op.operands,bF E f x=bF E F x:=sO (N8 (i,o) (by simp));split at h
    ·rename_i kl ft rD;have afs:mode=2:=by
      rcases nP with rfl|rfl
      ·cases rD
      rfl
     subst afs;have rD:Lg E f m o=some (kl,ft):=rD;split at h
     ·rename_i Qf;simp only[OF,an7]at Qf;obtain⟨⟨alu,alv⟩,alw⟩:=Qf;obtain⟨N9,v,wr,ft1,hk,hwr,kh,hn⟩:=Ve rD h;obtain⟨recs,f',c1,c2,c3,c4,c5⟩:=lC hE hY (.inr rfl) fuel hk (fun x hx=>hl x (by simp[hx])) (fun hm=>by omega) (fun x hx=>Ho x (by simp[hx])) (iO (kf kl F) o.dst v) ((wX.kf (kl:=kl) hF).put _ _) (tx.put (tx.kf (kl:=kl) hA) fun g sN t ht=>Ho (i,o) (by simp) g sN t ht) (fun x hx t ht=>by
       by_cases e:o.dst=some t
       ·rw[e,iT,iT]
       grind [dO,CW])
      have ob:∀q∈recs,reach ops 4 q.o i=true:=fun q hq=>alw (q.i,q.o) (by grind);have ac2:ops.toList.any (isApp E)=true:=aoX.2 ⟨o,amq (by rw[aoi];exact hl (i,o) (by simp)),N9⟩;refine⟨⟨i,o,v,wr,ft,kl⟩::recs,f',c1,c2,by simp[c3],⟨Vf hE hY hg hA hd ahD N9 hn,fun j b hb=>hwr _ hb,c4⟩,?_⟩;refine⟨fun hm=>(by omega),fun hm=>aos.2 ⟨fun q hq=>.inl (ob q hq),c5.ord hm⟩,fun hm q hq=>?_,aos.2 ⟨fun q hq _=>ob q hq,c5.kl⟩,⟨fun q hq uv _=>.inl (ob q hq),c5.cln⟩,fun q hq uv hid=>?_⟩
      ·rcases anA.1 hq with rfl|hq
       ·exact Eh alu
       ·exact fun y hy x hx=>c5.log hm q hq y hy x (anO.2 (.inr hx))
      ·rcases anA.1 hq with rfl|hq
       ·obtain⟨bb,hid⟩:=hid;exact⟨rfl,ac2,kh _ hid,HA (alv _ hid)⟩
       ·obtain⟨g1,g2,g3,g4⟩:=c5.nam q hq uv hid;exact⟨g1,g2,g3,fun x hx=>g4 x (anO.2 (.inr hx))⟩
     ·cases h
    ·rcases LC hE h with⟨v,f1,m1,ft,hk,Kb⟩|⟨AP,_⟩
     rotate_left
     ·cases AP
     obtain⟨SV,wr,ahE,hwr,hn⟩:=Kb.drawn rfl;subst SV;have Qg:∀(f2:Fr)(m2:Mem),(∀x∈o.op.operands,bF E f2 x=bF E F x)→(∀x∈ft,m2 x.2=m x.2)→∀(R':Type)(k':V→Fr→Mem→bx→Option R'),M7 E true (cK E o.dst) o f2 m2 k'=k' v f2 (uE wr m2) ft:=fun f2 m2 hf=>hn f2 m2 fun x hx=>by rw[hf x hx,ahD x hx]
     have step:∀(wr':List (Nat×bI))(lg':Log),uE wr' m=m1→(mode=1→wr'=[])→(∀id b,(id,b)∈wr'→(true,id)∈ft)→Hw E ops w0 ⟨i,o,v,wr',ft,[]⟩ F m→cL E ops mode fuel R A rest (iO f1 o.dst v) m1 lg' k=some r→(mode=2→lg'=(bif ops.toList.any (isApp E)then(F4 ops o f1 m m1 v ft).map (fun n=>(i,false,Ae n))else[])++(ft.map (fun x=>(i,x))++lg)∧DZ ops o lg ft=true)→∃(recs:List Rec)(f':Fr),k f' (oE m recs)=some r∧wX f' (iV F recs)∧recs.map (fun r=>(r.i,r.o))=(i,o)::rest∧dD E ops w0 F m recs∧LM (E:=E) ops mode F m lg recs:=by
      intro wr' lg' hwm UW hw2 N5 hev hlg;obtain⟨recs,f',c1,c2,c3,c4,c5⟩:=lC hE hY nP fuel hev (fun x hx=>hl x (by simp[hx])) (fun hm x hx=>WT hm x (by simp[hx])) (fun x hx=>Ho x (by simp[hx])) (iO F o.dst v) (hF.put _ _) (tx.put hA fun g sN t ht=>Ho (i,o) (by simp) g sN t ht) (fun x hx t ht=>by
       by_cases e:o.dst=some t
       ·rw[e,iT,iT]
       grind [dO])
      subst hwm;refine⟨⟨i,o,v,wr',ft,[]⟩::recs,f',c1,c2,by simp[c3],⟨N5,hw2,c4⟩,?_⟩;have ahF:mode=2→∀x∈lg,x∈lg':=fun hm x hx=>by simp_all
      have aeA:mode=2→∀x∈ft,(i,x)∈lg':=fun hm x hx=>by simp_all
      refine⟨fun hm q hq=>?_,fun hm=>aos.2 ⟨fun q hq=>?_,c5.ord hm⟩,fun hm q hq=>?_,aos.2 ⟨fun q hq h=>absurd rfl h,c5.kl⟩,⟨fun q hq id hid=>?_,c5.cln⟩,fun q hq id hid=>?_⟩
      ·rcases anA.1 hq with rfl|hq
       ·exact⟨UW hm,rfl⟩
       ·exact c5.one hm q hq
      ·have d2:=c5.log hm;by_cases he:reach ops 4 q.o i=true
       ·exact .inl he
       ·refine .inr ⟨fun id b hb x hx hxi=>?_,fun id b hb x hx hxi=>?_⟩
        ·grind
        ·rcases d2 q hq (true,id) (dD.wr c4 q hq id b hb) (i,x) (aeA hm x hx)with h|h|h
         ·exact h hxi.symm
         ·cases h.1
         ·exact he h
      ·rcases anA.1 hq with rfl|hq
       ·exact Eh (hlg hm).2
       ·exact fun y hy x hx=>c5.log hm q hq y hy x (ahF hm x hx)
      ·obtain⟨g1,g2,g3,g4⟩:=c5.nam q hq id hid;by_cases he:reach ops 4 q.o i=true
       ·exact .inl he
       ·refine .inr (X7 (N8 (i,o) (by simp)) hw2 (fun bu=>he (g4 (i,false,Ae id) ?_ rfl)) fun x hx hxi=>?_)
        ·grind
        ·rcases c5.log g1 q hq (true,id) g3 (i,x) (aeA g1 x hx)with h|h|h
         ·exact h hxi.symm
         ·cases h.1
         ·exact he h
      ·rcases anA.1 hq with rfl|hq
       ·obtain⟨_,hid⟩:=hid;cases hid
       ·obtain⟨g1,g2,g3,g4⟩:=c5.nam q hq id hid;grind
     rcases nP with rfl|rfl
     ·simp only[Nat.beq,tc,PS]at hk;split at hk
      ·rename_i hqf;have hwn:wr=[]:=by
        cases wr with
        |nil=>rfl
        |cons x l=>have:=BN hqf _ (hwr x (by simp));cases this
       subst hwn;exact step [] lg ahE.symm (fun _=>rfl) (by simp) (Hz hE hg hA hd (by simp) Qg) hk (by simp)
      ·cases hk
     ·simp only[Nat.beq,IS]at hk;split at hk
      ·rename_i hof;exact step wr _ ahE.symm (by simp) (fun id b hb=>hwr _ hb) (Hz hE hg hA hd hwr Qg) hk fun _=>⟨rfl,hof⟩
      ·cases hk
   ·cases h
  ·rename_i j FP hg;split at h
   ·rename_i tj htj;split at h
    ·rename_i b hb;generalize rD:ER A ((i,o)::rest)=sp at h;obtain⟨body,Nz⟩:=sp;have oD:=Hn rD;have hm0:Nat.beq mode 0=false:=by rcases nP with rfl|rfl<;>rfl
     simp only[hm0,apw,tc,PS]at h;split at h
     ·rename_i ip p oq;split at h
      ·rename_i c x y XX;split at h
       ·rename_i hc;simp only[OF,an7,anT,apE,aqP]at hc;obtain⟨⟨⟨⟨⟨⟨QV,hpg⟩,Kc⟩,SS⟩,aly⟩,hpd⟩,cQ⟩:=hc;have aft:mode=1:=by simp_all
        subst aft;have QV:=K5 QV;subst QV;have hpg:guardOf p A=none:=by simpa using hpg
        obtain⟨rb,hrb,h⟩:=AI.1 h;have bu:∀z∈body,z∈(i,o)::rest:=fun z hz=>by rw[oD];simp[hz]
        have Bf:∀z∈oq,z∈(i,o)::rest:=fun z hz=>by rw[oD];simp[hz]
        have SU:(ip,p)∈(i,o)::rest:=by rw[oD];simp
        obtain⟨alo,hb⟩:=Hl hb;have hFc:F c=.pv (.bool b):=by
         rcases hF c with e|e
         ·rw[←e];omega
         simp_all
        have after:∀(uM:List Rec)(q:Operand),uM.map (fun r=>(r.i,r.o))=body→dD E ops w0 F m uM→(∀q∈uM,q.wr=[]∧q.kl=[])→bF E (iV F uM) q=.pv (.bool rb)→(q=if b then x else y)→∃(recs:List Rec)(f':Fr),k f' (oE m recs)=some r∧wX f' (iV F recs)∧recs.map (fun r=>(r.i,r.o))=body++(ip,p)::oq∧dD E ops w0 F m recs∧(∀q∈recs,q.wr=[]∧q.kl=[]):=by
         intro uM q alz ahG hwn hq hqe;have X9:∀t,(∀z∈body,z.2.dst≠some t)→iV F uM t=F t:=fun t ht=>Kf fun q hq=>⟨ht (q.i,q.o) (by grind),(hwn q hq).2⟩;have hA1:tx E.fn.ntmps ops A (iV F uM):=fun g sN=>by obtain⟨t,h1,h0,h2⟩:=hA g sN;exact⟨t,h1,h0,by rw[X9 t fun z hz=>Ho z (bu z hz) g sN t h1];omega⟩
         have SB:iV F uM c=.pv (.bool b):=by grind
         have hrp:Hw E ops w0 ⟨ip,p,.pv (.bool rb),[],[],[]⟩ (iV F uM) m:=Hz hE hpg hA1 hpd (by simp) fun f2 m2 hf hm R' k'=>by
          have td:bF E f2 (.tmp c)=.pv (.bool b):=by simp_all[Op.operands,acZ]
          have Xo:bF E f2 q=.pv (.bool rb):=by grind [Op.operands]
          rw[N1 XX td,←hqe,Xo];rfl
         obtain⟨recs,f',c1,c2,c3,c4,c5⟩:=lC hE hY (.inl rfl) fuel h (fun z hz=>hl z (Bf z hz)) (fun hm z hz=>WT hm z (Bf z hz)) (fun z hz=>Ho z (Bf z hz)) (iO (iV F uM) p.dst (.pv (.bool rb))) (wX.put (Au fun t ht=>by rw[X9 t ht];exact hF t) _ _) (tx.put hA1 fun g sN t ht=>Ho (ip,p) SU g sN t ht) (fun z hz t ht=>by
          by_cases e:p.dst=some t
          ·rw[e,iT,iT]
          ·have hnb:∀u∈body,u.2.dst≠some t:=fun u hu hud=>by grind [blind,List.all_eq_true,Bool.not_eq_true']
           grind [dO,iU])
         have hmB:oE m uM=m:=Km hwn;refine⟨uM++⟨ip,p,.pv (.bool rb),[],[],[]⟩::recs,f',?_,?_,by simp[alz,c3],?_,fun q hq=>?_⟩
         ·rw[N4,hmB];exact c1
         ·rw[Ff];exact c2
         ·refine dD.append.2 ⟨ahG,?_⟩;rw[hmB];exact⟨hrp,by simp,c4⟩
         ·rcases anO.1 hq with h|h
          ·exact hwn q h
          ·rcases anA.1 h with rfl|h
           ·simp
           ·exact c5.one rfl q h
        have fin:(∃(recs:List Rec)(f':Fr),k f' (oE m recs)=some r∧wX f' (iV F recs)∧recs.map (fun r=>(r.i,r.o))=body++(ip,p)::oq∧dD E ops w0 F m recs∧(∀q∈recs,q.wr=[]∧q.kl=[]))→∃(recs:List Rec)(f':Fr),k f' (oE m recs)=some r∧wX f' (iV F recs)∧recs.map (fun r=>(r.i,r.o))=(i,o)::rest∧dD E ops w0 F m recs∧LM (E:=E) ops 1 F m lg recs:=by rintro⟨recs,f',c1,c2,c3,c4,c5⟩;exact⟨recs,f',c1,c2,by rw[oD];omega,c4,fun _=>c5,fun h=>(by omega),fun h=>(by omega),aom (R:=fun _ _=>True) (fun{q r}hq hr _ h=>absurd (c5 q hq).2 h) (List.pairwise_of_forall fun _ _=>trivial),jF.none fun q hq=>(c5 q hq).2,fun q hq id⟨_,hid⟩=>(by simp_all)⟩
        have go:∀q,b=FP→(q=if b then x else y)→cL E ops 1 fuel Bool ((j,FP)::A) body f m lg (fun f _=>A0 (bF E f q))=some rb→∃(recs:List Rec)(f':Fr),k f' (oE m recs)=some r∧wX f' (iV F recs)∧recs.map (fun r=>(r.i,r.o))=body++(ip,p)::oq∧dD E ops w0 F m recs∧(∀q∈recs,q.wr=[]∧q.kl=[]):=by
         intro q hbp hq hev;obtain⟨uM,f1,c1,c2,c3,c4,c5⟩:=lC hE hY (.inl rfl) fuel hev (fun z hz=>hl z (bu z hz)) (fun hm z hz=>WT hm z (bu z hz)) (fun z hz g sN t ht=>by
          rcases anA.1 sN with rfl|sN
          ·grind
          ·exact Ho z (bu z hz) g sN t ht) F hF (fun g sN=>by
          rcases anA.1 sN with rfl|sN
          ·simp_all
          ·exact hA g sN) (fun z hz=>N8 z (bu z hz))
         refine after uM q c3 c4 (c5.one rfl) ?_ hq;grind [CS,XW]
        have no:∀q,b= !FP→(q=if b then x else y)→A0 (bF E (b8 f body) q)=some rb→∃(recs:List Rec)(f':Fr),k f' (oE m recs)=some r∧wX f' (iV F recs)∧recs.map (fun r=>(r.i,r.o))=body++(ip,p)::oq∧dD E ops w0 F m recs∧(∀q∈recs,q.wr=[]∧q.kl=[]):=by intro q hbp hq hev;obtain⟨s1,s2⟩:=Kk (E:=E) (w0:=w0) (m:=m) body F (fun z hz=>(Kc z hz).1.2) (CR htj SS (fun z hz=>hl z (bu z hz)) (fun z hz=>(Kc z hz).2) (by rw[hFc,hbp]) (by simp));refine after (body.map CX) q (by simp[CX,apN]) s1 (fun u hu=>by obtain⟨z,_,rfl⟩:=anG.1 hu;exact⟨rfl,rfl⟩) ?_ hq;rw[s2];have hv:=CS hev;grind [wX,b8,jA,Au,xy,XW]
        grind
       ·cases h
      ·cases h
     ·cases h
    ·cases h
   ·cases h
theorem vv{l:List Oper}:(i,o)∈(List.range l.length).zip l↔l[i]?=some o:=by
 rw[anI];constructor
 ·grind
 ·intro h;refine⟨i,List.getElem?_zip_eq_some.2 ⟨?_,h⟩⟩;grind
theorem zb:∀{l done:List (Nat×Oper)},sn ops done l=true→(∀x∈l,∀d∈done,reach ops 4 x.2 d.1=true∨d.2.apart ops x.2=true)∧l.Pairwise (fun q r=>reach ops 4 r.2 q.1=true∨q.2.apart ops r.2=true)∧∀x∈l,∀e∈x.2.after,Region.binds .any e=true→e.on<x.1
 |[],_,_=>⟨by simp,.nil,by simp⟩
 |(i,o)::r,done,h=>by
  simp only[sn,OF]at h;obtain⟨⟨h1,h2⟩,h3⟩:=h;obtain⟨i1,i2,i3⟩:=zb h3;have F8:∀{done:List (Nat×Oper)},Af ops done o=true→∀d∈done,reach ops 4 o d.1=true∨d.2.apart ops o=true:=by
   intro done;induction done with
   |nil=>simp
   |cons x l ih=>intro h d hd;simp only[Af,OF,anH]at h;grind
  refine⟨fun x hx d hd=>?_,aos.2 ⟨fun x hx=>i1 x hx (i,o) (by simp),i2⟩,fun x hx e he hb=>?_⟩
  ·grind
  ·rcases anA.1 hx with rfl|hx
   ·have:=an7.1 h1 e (ao4.2 he);simp_all
   ·exact i3 x hx e he hb
variable{rd:Option Nat}{l:List (Nat×Oper)}{base:Nat→Bool}{fuel:Nat}{Q:Exit→Act→World→Prop}
theorem Oa(hE:jR E)(hY:sq E.P E.aF E.fn.ntmps E.yl w0){mode:Nat}(nP:mode=1∨mode=2)(WT:mode=1→∀x∈l,fI x.2=true){k:Fr→Mem→Option R}{r:R}(hmz:∀x∈l,ops[x.1]?=some x.2)(ahH:(l.map Prod.fst).Pairwise (·≠·))(SZ:∀x∈l,base x.1=false)(X5:∀i o,ops[i]?=some o→base i=false→(∀x∈l,x.1≠i)→(∀x∈l,reach ops 8 o x.1=true)∨∃j,reach ops 8 o j=true∧base j=false∧∀x∈l,x.1≠j)(Ya:∀x∈l,∀e∈x.2.after,Region.binds .any e=true→base e.on=true∨∃y∈l,y.1=e.on)(hi:sn ops [] l=true)(h:cL E ops mode fuel R [] l f m [] k=some r)(hQ:∀(fuel:Nat)(listed:Array Bool),listed.size=ops.size→listed.toList.countP (fun b=> !b)≤fuel→tz ops listed→(∀i,an listed i=true↔base i=true∨∃x∈l,x.1=i)→∀f' m' μ φ a w,k f' m'=some r→Rel E.P E.aF E.fn.ntmps w0 μ φ f' m' a w→wpAnyIn (FR rd) 0 E.P .any ops Q fuel listed a w):∀(fuel:Nat)(listed:Array Bool),listed.size=ops.size→listed.toList.countP (fun b=> !b)≤fuel→tz ops listed→(∀i,an listed i=true↔base i=true)→∀(μ:Ro)(φ:Nat→aK)(a:Act)(w:World),Rel E.P E.aF E.fn.ntmps w0 μ φ f m a w→wpAnyIn (FR rd) 0 E.P .any ops Q fuel listed a w:=by
 intro ahI listed hs hc qB hb μ φ a w hR;obtain⟨recs,f',c1,c2,c3,c4,c5⟩:=lC (w0:=w0) hE hY nP fuel h hmz WT (by intro x hx g hg;cases hg) f (wX.refl f) (by intro g hg;cases hg) (fun _ _ _ _=>rfl);obtain⟨_,i2,i3⟩:=zb hi;have bu:∀q∈recs,(q.i,q.o)∈l:=fun q hq=>by grind
 have hof:∀x∈l,∃q∈recs,q.i=x.1:=fun x hx=>by grind
 have F8:recs.Pairwise fun q r=>reach ops 4 r.o q.i=true∨q.o.apart ops r.o=true:=by grind
 have WV:recs.Pairwise (QX (ops:=ops)):=by
  rcases nP with hm|hm
  ·exact aom (fun{q r}hq hr _=>.inr ⟨fun id b hb=>(by rw[(c5.one hm q hq).1]at hb;cases hb),fun id b hb=>(by rw[(c5.one hm r hr).1]at hb;cases hb)⟩) F8
  ·exact c5.ord hm
 refine X4 (E:=E) (w0:=w0) (recs:=recs) (f0:=f) (m0:=m) (base:=base) ?_ (fun q hq=>hmz _ (bu q hq)) (fun q hq=>SZ _ (bu q hq)) (fun i o ho hbi cy=>Or.elim (X5 i o ho hbi (by grind)) (fun h=>Or.inl (by grind)) fun h=>Or.inr (by grind)) ?_ c5.kl c5.cln (fun q hq e he yu=>⟨i3 _ (bu q hq) e he yu,?_⟩) c4 ?_ ahI listed hs hc qB (fun i hi=>(hb i).2 hi) (fun i hi=>Or.inl ((hb i).1 hi)) μ φ a w ?_
 ·grind
 ·refine List.Pairwise.imp (fun{q r}h=>?_) (List.Pairwise.and F8 WV);obtain⟨h1,h2⟩:=h;rcases h1 with h1|h1
  ·exact .inl h1
  ·rcases h2 with h2|h2
   ·exact .inl h2
   ·exact .inr ⟨h1,h2⟩
 ·rcases Ya _ (bu q hq) e he yu with h1|⟨y,hy,h1⟩
  ·exact Or.inl h1
  grind
 ·intro aeB S2 hs2 Na alA td μ2 φ2 a2 w2 D9;refine hQ aeB S2 hs2 Na alA (fun i=>?_) _ _ μ2 φ2 a2 w2 c1 (D9.weaken c2);grind
 ·have hS:∀q∈recs,an listed q.i=false:=fun q hq=>by grind
  rw[show fm (an listed) f recs=f from funext fun t=>nQ fun q hq hs=>(by simp_all),show fZ (an listed) m recs=m from funext fun t=>qg fun q hq hs=>(by simp_all)];omega
variable{x:Nat×Oper}
theorem j5(hx:x∈(List.range ops.size).zip ops.toList):ops[x.1]?=some x.2:=by have:=(vv (l:=ops.toList) (i:=x.1) (o:=x.2)).1 (by omega);simp_all
theorem vw(ho:ops[i]?=some o):(i,o)∈(List.range ops.size).zip ops.toList:=by have:=(vv (l:=ops.toList) (i:=i) (o:=o)).2 (by simp_all);omega
theorem zip_fst:((List.range ops.size).zip ops.toList).map Prod.fst=List.range ops.size:=by rw[List.map_fst_zip (by simp)]
variable{F:Fence}{n:Nat}{listed:Array Bool}
theorem QZ(hs:listed.size=ops.size)(uz:∀i o,ops[i]?=some o→an listed i=true)(hq:Q .normal a w):wpAnyIn F n P .any ops Q fuel listed a w:=by
 have hr:Region.ready .any ops listed=[]:=by apply apS.2;intro j hj;obtain⟨h0,o,ho,_⟩:=mem_ready.1 hj;grind
 cases fuel with
 |zero=>exact⟨hr,hq⟩
 |succ fuel=>exact⟨fun _=>hq,fun i hi=>by rw[hr]at hi;cases hi⟩
theorem rf(n j:Nat):an (Array.replicate n false) j=false:=by simp only[an,ams,Array.getElem?_replicate];split<;>rfl
theorem count_le(n:Nat):(Array.replicate n false).toList.countP (fun b=> !b)≤n:=by grind [List.countP_le_length,Array.replicate]
theorem Fg:tz ops (Array.replicate ops.size false):=fun i o _ h=>by rw[rf]at h;cases h
theorem sP:x∈CD E ops↔x∈(List.range ops.size).zip ops.toList:=by unfold CD;grind
theorem Yb:((CD E ops).map Prod.fst).Pairwise (·≠·):=by
 have h0:(((List.range ops.size).zip ops.toList).map Prod.fst).Pairwise (·≠·):=by rw[zip_fst];exact List.pairwise_lt_range.imp Nat.ne_of_lt
 unfold CD;cases E.DR (2000000000000000000000000000000+E.fid)with
 |false=>exact h0
 |true=>
  simp only[cond_true,anU,aow];refine⟨h0.sublist (List.filter_sublist.map _),h0.sublist (List.filter_sublist.map _),fun a ha b hb e=>?_⟩;obtain⟨x,hx,rfl⟩:=anG.1 ha;obtain⟨y,hy,rfl⟩:=anG.1 hb;obtain⟨hx,px⟩:=anP.1 hx;obtain⟨hy,py⟩:=anP.1 hy;have hxy:x=y:=by have h1:=j5 hx;grind [j5,Prod.ext,Option.some.inj]
  subst hxy;simp_all
theorem HB(hE:jR E)(hY:sq E.P E.aF E.fn.ntmps E.yl w0){mode:Nat}(nP:mode=1∨mode=2)(WT:mode=1→∀o∈ops,fI o=true){k:Fr→Mem→Option R}{r:R}(hi:sn ops [] (CD E ops)=true)(h:cL E ops mode fuel R [] (CD E ops) f m [] k=some r)(hR:Rel E.P E.aF E.fn.ntmps w0 μ φ f m a w)(hQ:∀f' m' μ' φ' a' w',k f' m'=some r→Rel E.P E.aF E.fn.ntmps w0 μ' φ' f' m' a' w'→Q .normal a' w'):wpAnyIn (FR rd) 0 E.P .any ops Q ops.size (Array.replicate ops.size false) a w:=by
 refine Oa (w0:=w0) (base:=fun _=>false) hE hY nP (fun hm x hx=>WT hm x.2 (aqv (j5 (sP.1 hx)))) (fun x hx=>j5 (sP.1 hx)) Yb (fun _ _=>rfl) (fun i o ho _ cy=>absurd rfl (cy _ (sP.2 (vw ho)))) (fun x hx e he hb=>Or.inr ?_) hi h ?_ ops.size _ (by simp) (count_le _) Fg (fun i=>by rw[rf]) μ φ a w hR
 ·obtain⟨_,_,i3⟩:=zb hi;have h1:=i3 x hx e he hb;have h2:x.1<ops.size:=(adW.1 (j5 (sP.1 hx))).1;exact⟨_,sP.2 (vw (T1 (show e.on<ops.size by omega))),rfl⟩
 ·intro aeB S2 hs2 _ _ td f' m' μ2 φ2 a2 w2 hk D9;exact QZ hs2 (fun i o ho=>(td i).2 (Or.inr ⟨_,sP.2 (vw ho),rfl⟩)) (hQ _ _ _ _ _ _ hk D9)
mutual
theorem LN:∀{v u:V},v.same u=true→v=u
 |.op i o,u,h=>by cases u<;>simp only[V.same,OF,tc]at h;rw[K5 h.1,K5 h.2]
 |.oe i a o,u,h=>by cases u<;>simp only[V.same,OF,tc]at h;rw[K5 h.1.1,K5 h.1.2,K5 h.2]
 |.os i,u,h=>by cases u<;>simp only[V.same,tc]at h;rw[K5 h]
 |.om i,u,h=>by cases u<;>simp only[V.same,tc]at h;rw[K5 h]
 |.yl i,u,h=>by cases u<;>simp only[V.same,tc]at h;rw[K5 h]
 |.it i,u,h=>by cases u<;>simp only[V.same,tc]at h;rw[K5 h]
 |.gy,u,h=>by cases u<;>simp only[V.same,tc]at h;rfl
 |.fn f cs,u,h=>by cases u<;>simp only[V.same,OF,tc]at h;rw[K5 h.1,HC h.2]
 |.pv p,u,h=>by
  cases u<;>try (cases p<;>simp[V.same]at h;done)
  rename_i q;cases p<;>cases q<;>first|rfl|(simp[V.same]at h;done)|(simp only[V.same,OF,te]at h;rw[h.1,h.2])
 |.fX _ _ _,u,h=>by cases u<;>simp[V.same]at h
 |.agg _,u,h=>by cases u<;>simp[V.same]at h
 |.aV _,u,h=>by cases u<;>simp[V.same]at h
 |.top,u,h=>by cases u<;>simp[V.same]at h
theorem HC:∀{vs us:List V},ES vs us=true→vs=us
 |[],us,h=>by
  cases us with
  |nil=>rfl
  |cons _ _=>simp[ES]at h
 |v::vs,us,h=>by
  cases us with
  |nil=>simp[ES]at h
  |cons u us=>simp only[ES,OF]at h;rw[LN h.1,HC h.2]
end
mutual
theorem Yc:∀{p q:PV},p.D2 q=true→p=q
 |.int k n,q,h=>by cases q<;>simp_all[PV.D2]
 |.bool b,q,h=>by cases q<;>simp_all[PV.D2]
 |.str s,q,h=>by cases q<;>simp_all[PV.D2]
 |.agg cs,q,h=>by cases q<;>simp only[PV.D2,tc]at h;rw[sx h]
 |.aV cs,q,h=>by cases q<;>simp only[PV.D2,tc]at h;rw[sx h]
 |.oh,q,h=>by cases q<;>simp_all[PV.D2]
 |.rp cs,q,h=>by cases q<;>simp only[PV.D2,tc]at h;rw[sx h]
 |.rs n cs,q,h=>by cases q<;>simp only[PV.D2,tc,OF]at h;rw[K5 h.1,sx h.2]
 |.jr n cs,q,h=>by cases q<;>simp only[PV.D2,tc,OF]at h;rw[K5 h.1,sx h.2]
 |.nW,q,h=>by cases q<;>simp_all[PV.D2]
 |.rm t ks vs,q,h=>by cases q<;>simp only[PV.D2,tc,OF]at h;rw[K5 h.1.1,sx h.1.2,sx h.2]
 |.AM,q,h=>by cases q<;>simp_all[PV.D2]
 |.fn f cs,q,h=>by cases q<;>simp only[PV.D2,tc,OF]at h;rw[K5 h.1,sx h.2]
 |.Uu b,q,h=>by cases q<;>simp_all[PV.D2]
 |.bad,q,h=>by cases q<;>simp_all[PV.D2]
theorem sx:∀{cs ds:List PV},BC cs ds=true→cs=ds
 |[],ds,h=>by cases ds<;>simp_all[BC]
 |c::cs,ds,h=>by
  cases ds with
  |nil=>simp[BC]at h
  |cons d ds=>simp only[BC,OF]at h;rw[Yc h.1,sx h.2]
end
mutual
theorem HD:∀p:PV,p.D2 p=true
 |.int k n=>by simp[PV.D2]
 |.bool b=>by simp[PV.D2]
 |.str s=>by simp[PV.D2]
 |.agg cs=>nR cs
 |.aV cs=>nR cs
 |.oh=>rfl
 |.rp cs=>nR cs
 |.rs n cs=>by simp[PV.D2,nR cs]
 |.jr n cs=>by simp[PV.D2,nR cs]
 |.nW=>rfl
 |.rm t ks vs=>by simp[PV.D2,nR]
 |.AM=>rfl
 |.fn f cs=>by simp[PV.D2,nR cs]
 |.Uu b=>by simp[PV.D2]
 |.bad=>rfl
theorem nR:∀cs:List PV,BC cs cs=true
 |[]=>rfl
 |c::cs=>by simp[BC,HD,nR]
end
theorem CZ(p:PV):Xf p p=true:=HD p
theorem afu{u:V}{x:Option R}{r:R}(h:eqK v u x=some r):x=some r∧v=u∧v≠.top:=by unfold eqK at h;grind [Xf,Yc,ES,HC,LN,V.same]
theorem LO{R:Type}{f0 f1:Fr}{x:Option R}{r:R}:∀{l:List (Nat×Oper)},Qu l f0 f1 x=some r→x=some r∧∀y∈l,∀d,y.2.dst=some d→f0 d=f1 d∧f0 d≠.top
 |[],h=>⟨h,by simp⟩
 |y::l,h=>by
  simp only[Qu]at h;cases hd:y.2.dst with
  |none=>rw[hd]at h;obtain⟨h1,h2⟩:=LO (l:=l) h;grind
  |some d0=>rw[hd]at h;obtain⟨h0,h3,h4⟩:=afu h;obtain⟨h1,h2⟩:=LO (l:=l) h0;grind
theorem S3:∀{kl:Kl}{f:Fr}{t:Nat},kf kl f t=f t∨kf kl f t=.top
 |[],_,_=>.inl rfl
 |(true,id)::r,f,t=>by
  rcases S3 (kl:=r) (f:=eU id f) (t:=t)with h|h
  ·rw[kf,h];unfold eU sS;cases(f t).has id<;>simp
  ·exact .inr (by rw[kf,h])
 |(false,id)::r,f,t=>by
  rcases S3 (kl:=r) (f:=gz id f) (t:=t)with h|h
  ·rw[kf,h];unfold gz oj;cases(f t).yC id<;>simp
  ·exact .inr (by rw[kf,h])
theorem S4{t:Nat}:∀{l:List Rec}{f:Fr},(∀q∈l,q.o.dst≠some t)→iV f l t=f t∨iV f l t=.top
 |[],_,_=>.inl rfl
 |r::l,f,h=>by
  have h0:r.fs f t=f t∨r.fs f t=.top:=by unfold Rec.fs;rw[dO (h r (by simp))];exact S3
  rw[iV];rcases S4 (l:=l) (f:=r.fs f) fun q hq=>h q (by simp[hq])with e|e
  ·rw[e];exact h0
  ·exact .inr e
theorem dD.still:∀{l:List Rec}{f:Fr}{m:Mem},dD E ops w0 f m l→∀q∈l,mR q.o=true→isApp E q.o=false→q.wr=[]∧q.kl=[]
 |[],_,_,_,_,hq=>by cases hq
 |r::l,f,m,h,q,hq=>by
  rcases anA.1 hq with rfl|hq
  ·exact fun h1 h2=>(h.1.1 h1 h2).1
  ·exact dD.still h.2.2 q hq
theorem tB(h:GF ops x=true){j:Nat}{d:Nat}(ho:ops[j]?=some o)(hd:x.2.dst=some d)(hod:o.dst=some d):x.1=j:=by have:=an7.1 h (j,o) (vw ho);simp_all
theorem afv{P:Nat→Prop}(qB:∀i o,ops[i]?=some o→P i→∀e∈o.after,Region.binds .any e=true→P e.on):∀(n:Nat)(o:Oper)(j:Nat),(∀e∈o.after,Region.binds .any e=true→P e.on)→reach ops n o j=true→P j:=by
 have ac0:∀(o:Oper)(j:Nat),(∀e∈o.after,Region.binds .any e=true→P e.on)→BB o j=true→P j:=fun o j ho h=>by obtain⟨e,he,hb,rfl⟩:=Kg h;exact ho e he hb
 intro n;induction n with
 |zero=>exact fun o j ho h=>ac0 o j ho h
 |succ n ihn=>intro o j ho h;simp only[reach,anH]at h;grind
theorem HE(h:o.after.isEmpty=true)(n j:Nat):reach ops n o j=false:=by
 have he:o.after= #[]:=by simpa using h
 cases n<;>simp[reach,BB,he]
variable{K:Act→World→Prop}{T:Nat→Value→Prop}
theorem Oper.Q0(hT:∀d,o.dst≠some d→T d (a.tmps.getD d undef))(hh:o.wpIn F n P a w K Q):o.wpIn F n P a w (fun a' w'=>K a' w'∧∀d,o.dst≠some d→T d (a'.tmps.getD d undef)) Q:=by
 have hp:∀(ds:List Deferred)v d,o.dst≠some d→T d (((⟨a.tmps,ds⟩:Act).put o.dst v).tmps.getD d undef):=fun ds v d hd=>by
  have h:=hT d hd;cases WU:o.dst with
  |none=>exact h
  |some d0=>simp_all[Act.put,ams,anV,IT]
 simp_all[Oper.wpIn,Oper.uponIn,CallsIn.mono,RowsIn.mono,RoundIn.mono]
theorem LP(ho:ops[i]?=some o)(hT:∀d,o.dst≠some d→T d (a.tmps.getD d undef))(hh:wpOpIn F n P ops Q i K a w):wpOpIn F n P ops Q i (fun a' w'=>K a' w'∧∀d,o.dst≠some d→T d (a'.tmps.getD d undef)) a w:=by
 unfold wpOpIn at*;rw[ho]at hh⊢;simp only at hh⊢;split
 ·rename_i hw;rw[BY hw]at hh;exact Oper.Q0 hT hh
 ·rename_i hw;rw[IT hw]at hh;refine⟨hh.1,hh.2,fun d hd=>?_⟩;have h:=hT d hd;cases WU:o.dst with
  |none=>simp only[Act.put];omega
  |some d0=>simp_all[Act.put,ams,anV,IT]
theorem aeC{J:Array Bool→Act→World→Prop}(hJ:∀listed a w,J listed a w→listed.size=ops.size)(Bg:∀listed a w,J listed a w→Region.ready .any ops listed=[]→Q .normal a w)(Kb:∀fuel listed a w,listed.toList.countP (fun b=> !b)≤fuel+1→J listed a w→∀i o,ops[i]?=some o→an listed i=false→i<listed.size→(∀e∈o.after,Region.binds .any e=true→an listed e.on=true)→wpOpIn F n P ops Q i (J (listed.setIfInBounds i true)) a w∨wpOpIn F n P ops Q i (wpAnyIn F n P .any ops Q fuel (listed.setIfInBounds i true)) a w):∀(fuel:Nat)(listed:Array Bool)(a:Act)(w:World),listed.toList.countP (fun b=> !b)≤fuel→J listed a w→wpAnyIn F n P .any ops Q fuel listed a w:=by
 intro fuel;induction fuel with
 |zero=>
  intro listed a w hc hj;have hr:Region.ready .any ops listed=[]:=by
   apply apS.2;intro j hjm;obtain⟨h0,o,ho,_⟩:=mem_ready.1 hjm;have bK:j<listed.size:=by grind
   have:=apZ.1 (aqZ.1 hc) listed[j] (by simp);simp_all
  exact⟨hr,Bg _ _ _ hj hr⟩
 |succ fuel ih=>
  intro listed a w hc hj;refine⟨Bg _ _ _ hj,fun i hi=>?_⟩;obtain⟨hun,o,ho,tA⟩:=mem_ready.1 hi;have Eg:i<listed.size:=by grind
  have hSi:an listed i=false:=by simp_all
  rcases Kb fuel listed a w hc hj i o ho hSi Eg tA with h|h
  ·refine wpOpIn_mono (fun a' w' Nh=>ih _ a' w' ?_ Nh) h;rw[aoI,apY (by omega)];simp_all
  omega
def afw(E:Env)(ops:Array Oper)(x:Nat×Oper):Prop:=ops[x.1]?=some x.2∧mR x.2=true∧isApp E x.2=false∧GF ops x=true
theorem qE{E:Env}(h:mR o=true)(h2:nY E o=true):False:=by grind [guard,mR,nY]
variable{recs:List Rec}{fl AS:List (Nat×Oper)}{f0:Fr}{L:Nat→Bool}
theorem Vg{f':Fr}(ob:∀r∈recs,ops[r.i]?=some r.o)(cy:recs.Pairwise fun q r=>q.i≠r.i)(jq:dD E ops w0 (b8 f0 (fl++AS)) m recs)(Kn:∀x∈fl,afw E ops x)(afx:∀x∈AS,ops[x.1]?=some x.2∧nY E x.2=true)(hL:∀r∈recs,L r.i=true→∃x∈fl,x.1=r.i)(Na:wX f' (iV (b8 f0 (fl++AS)) recs))(afy:∀y∈fl,∀d,y.2.dst=some d→f0 d=f' d∧f0 d≠.top)(hR:Rel E.P E.aF E.fn.ntmps (hB w0 H) μ φ (b8 f0 ((fl.filter fun x=> !L x.1)++AS)) m a w):Rel E.P E.aF E.fn.ntmps (hB w0 H) μ φ (fm L (b8 f0 (fl++AS)) recs) (fZ L m recs) a w:=by
 have hof:∀r∈recs,L r.i=true→(r.i,r.o)∈fl∧r.wr=[]∧r.kl=[]:=fun r hr hl=>by obtain⟨x,hx,e⟩:=hL r hr hl;obtain⟨h1,h2,h3,_⟩:=Kn x hx;rw[e,ob r hr]at h1;have e2:x=(r.i,r.o):=Prod.ext e (an5 h1).symm;subst e2;exact⟨hx,jq.still r hr h2 h3⟩
 rw[show fZ L m recs=m from funext fun t=>qg fun q hq hs=>by obtain⟨_,h1,h2⟩:=hof q hq hs;exact⟨by simp[h1],fun id⟨b,hid⟩=>by simp_all⟩];refine hR.weaken fun t=>?_;by_cases hex:∃q∈recs,L q.i=true∧q.o.dst=some t
 ·obtain⟨q,hq,hs,hd⟩:=hex;obtain⟨hqf,hw,hk⟩:=hof q hq hs;obtain⟨_,Vh,_,huq⟩:=Kn _ hqf;have hun:∀q'∈recs,q'.o.dst=some t→q'.i=q.i:=fun q' F9 WR=>(tB huq (ob q' F9) hd WR).symm;obtain⟨pre,post,rD⟩:=List.append_of_mem hq;have hpo:∀q'∈post,q'.o.dst≠some t:=fun q' F9 WR=>by grind
  have hv:f0 t=q.v:=by
   obtain⟨h1,h2⟩:=afy _ hqf t hd;rcases Na t with h3|h3
   ·rw[rD,Ff,iV]at h3;rcases S4 (l:=post) (f:=q.fs (iV (b8 f0 (fl++AS)) pre)) hpo with h4|h4
    ·rw[h1,h3,h4,Rec.Ht hd]
    simp_all
   simp_all
  left;have e1:fm L (b8 f0 (fl++AS)) recs t=q.v:=by rw[rD,uK,fm,hs];simp only[cond];rw[nQ fun q' F9 hs'=>⟨hpo q' F9,fun id⟨b,hid⟩=>by simp_all⟩,Rec.Ht hd]
  rw[e1,iU fun x hx Vi=>?_,hv];rcases anO.1 hx with hx|hx
  ·obtain⟨hx1,hx2⟩:=anP.1 hx;obtain⟨k1,_,_,k4⟩:=Kn x hx1;grind [tB]
  ·obtain⟨k1,k2⟩:=afx x hx;have:=tB huq k1 hd Vi;grind [Option.some.inj,qE]
 ·have e1:fm L (b8 f0 (fl++AS)) recs t=b8 f0 (fl++AS) t:=nQ fun q hq hs=>⟨fun hd=>hex ⟨q,hq,hs,hd⟩,fun id⟨b,hid⟩=>by simp_all⟩;rw[e1];by_cases hx:∃x∈fl++AS,x.2.dst=some t
  ·right;exact nO (.inr hx)
  ·left;rw[iU fun x HF Vi=>hx ⟨x,HF,Vi⟩,iU fun x HF Vi=>hx ⟨x,(by grind),Vi⟩]
structure zd(E:Env)(H0 H:Ro)(al:List (Nat×Oper))(L:Nat→Bool)(a:Act):Prop where
 le:∀g o,H0 g=some o→H g=some o
 pt:∀x∈al,L x.1=true→∃d t c g,x.2.op=.alloc t∧x.2.dst=some d∧X0 E t c∧a.tmps.getD d undef=.pointer (some ⟨g,0,none⟩)∧H g=some (.cells c t)∧H0 g=none
 inj:∀x∈al,∀y∈al,L x.1=true→L y.1=true→x.1≠y.1→∀d e,x.2.dst=some d→y.2.dst=some e→a.tmps.getD d undef≠a.tmps.getD e undef
variable{a':Act}
theorem zd.sub{H0:Ro}{al al':List (Nat×Oper)}{L':Nat→Bool}(h:zd E H0 H al L a)(hs:∀x∈al',x∈al)(hL:∀x∈al',L' x.1=true→L x.1=true)(ht:∀x∈al',∀d,x.2.dst=some d→a'.tmps.getD d undef=a.tmps.getD d undef):zd E H0 H al' L' a':=⟨h.le,fun x hx hl=>by
  obtain⟨d,t,c,g,h1,h2,h3,h4,h5⟩:=h.pt x (hs x hx) (hL x hx hl);grind,fun x hx y hy hlx hly cy d e hd he=>by
  rw[ht x hx d hd,ht y hy e he];exact h.inj x (hs x hx) y (hs y hy) (hL x hx hlx) (hL y hy hly) cy d e hd he⟩
theorem Vj{m0:Mem}{H0:Ro}(bK:recs.Pairwise fun q r=>q.i≠r.i)(ob:∀r∈recs,ops[r.i]?=some r.o)(Jl:recs.Pairwise (Ord ops))(kh:recs.Pairwise fun q r=>q.kl≠[]→reach ops 4 r.o q.i=true)(LH:jF ops f0 m0 recs)(jq:dD E ops w0 f0 m0 recs)(DN:∀q∈recs,L q.i=true→nY E q.o=true∨∀r∈recs,nY E r.o=true→reach ops 4 q.o r.i=false):∀(todo:List Rec)(AS:List (Nat×Oper)),(∀r∈todo,r∈recs∧nY E r.o=true∧L r.i=true∧(r.i,r.o)∈AS)→todo.Pairwise (fun q r=>q.i≠r.i)→∀(H:Ro)(μ:Ro)(φ:Nat→aK)(a:Act)(w:World),zd E H0 H AS L a→Rel E.P E.aF E.fn.ntmps (hB w0 H) μ φ (fm (fun i=>L i&& !todo.any fun r=>r.i==i) f0 recs) (fZ (fun i=>L i&& !todo.any fun r=>r.i==i) m0 recs) a w→∃H' φ',zd E H0 H' (AS.filter fun x=> !todo.any fun r=>r.i==x.1) L a∧Rel E.P E.aF E.fn.ntmps (hB w0 H') μ φ' (fm L f0 recs) (fZ L m0 recs) a w:=by
 intro todo;induction todo with
 |nil=>intro AS _ _ H μ φ a w hE hR;exact⟨H,φ,hE.sub (fun x hx=>(anP.1 hx).1) (fun _ _ h=>h) (fun _ _ _ _=>rfl),by simpa using hR⟩
 |cons r todo ih=>
  intro AS alB cy H μ φ a w I8 hR;obtain⟨hr,hk,hl,hp⟩:=alB r (by simp);obtain⟨ald,aht⟩:=aos.1 cy;obtain⟨d,t,c,g,p1,p2,p3,p4,p5,p6⟩:=I8.pt _ hp hl;have alC:r.o.after.isEmpty=true:=by simp_all[nY,OF]
  obtain⟨f1,m1,N5,Vb,cQ,hS⟩:=Kh bK Jl kh LH jq (S:=fun i=>L i&& !(r::todo).any fun r=>r.i==i) hr (by simp) (fun q _ h=>by rw[HE alC]at h;cases h) (fun q hq h=>by
   cases hc:(L q.i&& !(r::todo).any fun r=>r.i==q.i)with
   |false=>rfl
   |true=>
    simp only[OF]at hc;rcases DN q hq hc.1 with h1|h1
    ·have:q.o.after.isEmpty=true:=by simp_all[nY,OF]
     rw[HE this]at h;cases h
    simp_all)
  obtain⟨e1,e2⟩:=hS (fun i=>L i&& !todo.any fun r=>r.i==i) fun j=>by grind
  obtain⟨φ1,DO⟩:=(N5.2.1 hk).2 _ _ Vb cQ H μ φ a w d t c g hR p1 p2 p3 p4 p5;rw[←e1,←e2]at DO;have hE2:zd E H0 (LG H g) (AS.filter fun x=> !(r.i==x.1)) L a:=by
   refine⟨fun k o hk=>?_,fun x hx hlx=>?_,fun x hx y hy=>I8.inj x (anP.1 hx).1 y (anP.1 hy).1⟩
   ·unfold LG;rw[IT fun e=>by grind];exact I8.le k o hk
   ·obtain⟨hx1,hx2⟩:=anP.1 hx;obtain⟨d',t',c',g',q1,q2,q3,q4,q5,q6⟩:=I8.pt x hx1 hlx;refine⟨d',t',c',g',q1,q2,q3,q4,?_,q6⟩;unfold LG;rw[IT fun e=>?_]
    ·omega
    ·subst e;have cy:x.1≠r.i:=fun e=>by simp[e]at hx2
     exact I8.inj x hx1 (r.i,r.o) hp hlx hl cy d' d q2 p2 (q4.trans p4.symm)
  have alD:∀q∈todo,q∈recs∧nY E q.o=true∧L q.i=true∧(q.i,q.o)∈AS.filter fun x=> !(r.i==x.1):=fun q hq=>by grind
  obtain⟨H',φ',k1,k2⟩:=ih _ alD aht (LG H g) μ φ1 a w hE2 DO;refine⟨H',φ',k1.sub (fun x hx=>?_) (fun _ _ h=>h) (fun _ _ _ _=>rfl),k2⟩;grind
theorem Q1(H:Ro){m0:Mem}(bK:recs.Pairwise fun q r=>q.i≠r.i)(ob:∀r∈recs,ops[r.i]?=some r.o)(Jl:recs.Pairwise (Ord ops))(kh:recs.Pairwise fun q r=>q.kl≠[]→reach ops 4 r.o q.i=true)(LH:jF ops f0 m0 recs)(jq:dD E ops w0 f0 m0 recs)(aez:∀r∈recs,∀e∈r.o.after,Region.binds .any e=true→e.on<r.i∧(base e.on=true∨∃q∈recs,q.i=e.on)):∀(n:Nat)(listed:Array Bool),listed.size=ops.size→listed.toList.countP (fun b=> !b)≤n→tz ops listed→(∀i,base i=true→an listed i=true)→(∀r∈recs,an listed r.i=false→mR r.o=true∧isApp E r.o=false)→∀(μ:Ro)(φ:Nat→aK)(a:Act)(w:World),Rel E.P E.aF E.fn.ntmps (hB w0 H) μ φ (fm (an listed) f0 recs) (fZ (an listed) m0 recs) a w→∃μ' φ' a',Rel E.P E.aF E.fn.ntmps (hB w0 H) μ' φ' (iV f0 recs) (oE m0 recs) a' w∧a'.defers=a.defers∧a'.tmps.size=a.tmps.size∧∀t,(∀q∈recs,an listed q.i=false→q.o.dst≠some t)→a'.tmps.getD t undef=a.tmps.getD t undef:=by
 intro n;induction n with
 |zero=>
  intro listed hs hc qB hb Kn μ φ a w hR;have hl:∀r∈recs,an listed r.i=true:=fun r hr=>by
   have bK:r.i<listed.size:=by grind
   have:=apZ.1 (aqZ.1 hc) listed[r.i] (by simp);simp only[an,ams,T1 bK,anY];simpa using this
  rw[show fm (an listed) f0 recs=iV f0 recs from funext fun t=>wA rfl fun q hq hf=>(by simp_all),show fZ (an listed) m0 recs=oE m0 recs from funext fun t=>wB rfl fun q hq hf=>by simp_all]at hR;grind
 |succ n ih=>
  intro listed hs hc qB hb Kn μ φ a w hR;by_cases uz:∀r∈recs,an listed r.i=true
  ·rw[show fm (an listed) f0 recs=iV f0 recs from funext fun t=>wA rfl fun q hq hf=>(by simp_all),show fZ (an listed) m0 recs=oE m0 recs from funext fun t=>wB rfl fun q hq hf=>by simp_all]at hR;grind
  have ahJ:∀N,(∃r∈recs,an listed r.i=false∧r.i<N)→∃r∈recs,an listed r.i=false∧∀e∈r.o.after,Region.binds .any e=true→an listed e.on=true:=by
   intro N;induction N with
   |zero=>omega
   |succ N ihN=>
    rintro⟨r,hr,hl,hN⟩;by_cases he:∀e∈r.o.after,Region.binds .any e=true→an listed e.on=true
    ·grind
    ·simp only[Classical.not_forall]at he;obtain⟨e,he,yu,GY⟩:=he;have GY:an listed e.on=false:=by simpa using GY
     obtain⟨h1,h2⟩:=aez r hr e he yu;rcases h2 with h2|⟨q,hq,hqi⟩
     ·grind
     ·exact ihN ⟨q,hq,by rw[hqi];omega,by omega⟩
  have hun:∃r∈recs,an listed r.i=false:=by grind
  obtain⟨r0,hr0,Nc⟩:=hun;obtain⟨r,hr,hl,tA⟩:=ahJ (r0.i+1) ⟨r0,hr0,Nc,by omega⟩;have Eg:r.i<listed.size:=by grind
  obtain⟨SV,Vb⟩:=Kn r hr hl;have gw:=Hy (rd:=none) (Q:=fun _ _ _=>False) H bK ob Jl kh LH jq qB hr tA Eg hl hR (K:=fun a1 w1=>∃μ1 φ1,Rel E.P E.aF E.fn.ntmps (hB w0 H) μ1 φ1 (fm (an (listed.setIfInBounds r.i true)) f0 recs) (fZ (an (listed.setIfInBounds r.i true)) m0 recs) a1 w1) fun μ1 φ1 a1 w1 h=>⟨μ1,φ1,h⟩;obtain⟨Vc,hy⟩:=gw;obtain⟨y,hy⟩:=hy SV Vb;unfold wpOpIn at Vc;rw[ob r hr]at Vc;simp only at Vc;have hgn:r.o.guard=none:=by simp only[mR,OF,apz]at SV;exact SV.1
  have hw:Region.wanted r.o (yielded ops a.tmps)=true:=by unfold Region.wanted;rw[hgn]
  rw[BY hw]at Vc;have alE:∀c,r.o.op≠.defer c:=fun c hc=>by simp[mR,hc]at SV
  have h3:=Vc.2;rw[Oper.semAt_eq _ _ _ alE,hy]at h3;obtain⟨μ1,φ1,DO⟩:=h3;have X3:∀j,an (listed.setIfInBounds r.i true) j=if j=r.i then true else an listed j:=fun j=>by simp only[an,ams,anV];grind
  obtain⟨μ2,φ2,a2,k1,k2,k3,k4⟩:=ih (listed.setIfInBounds r.i true) (by simp[hs]) (by
   rw[aoI,apY (by omega)];have:listed.toList[r.i]'(by omega)=false:=by simp only[an,ams,T1 Eg,anY]at hl;simpa using hl
   grind) (fun i' o' ho' oa e he yu=>by
    rw[X3]at oa⊢;split
    ·rfl
    ·split at oa
     ·grind
     ·exact qB i' o' ho' oa e he yu) (fun i' oa=>by
    grind) (fun q hq hql=>Kn q hq (by
    grind)) μ1 φ1 _ _ DO
  refine⟨μ2,φ2,a2,k1,?_,?_,fun t ht=>?_⟩
  ·rw[k2];cases r.o.dst<;>rfl
  ·rw[k3];cases r.o.dst<;>simp[Act.put]
  ·rw[k4 t fun q hq hql=>ht q hq (by grind)];have cy:=ht r hr hl;cases hd:r.o.dst with
   |none=>rfl
   |some d=>have hdt:d≠t:=fun e=>cy (by rw[hd,e]);simp only[Act.put,ams,anV];rw[IT hdt]
theorem Oper.Vk{K':Act→World→Prop}{Q':Exit→Act→World→Prop}(hc:∃c,o.op=.call c)(he:∀x∈o.op.operands,a'.eval x=a.eval x)(hd:a'.defers=a.defers)(hK:∀b b':Act,b.defers=b'.defers→b.tmps=a.tmps→b'.tmps=a'.tmps→∀v w2,K' (b'.put o.dst v) w2→K (b.put o.dst v) w2)(hQ:∀e a w,e≠.normal→Q' e a w→False)(h:o.wpIn F n P a' w K' Q'):o.wpIn F n P a w K Q:=by
 obtain⟨c,hc⟩:=hc;have ahK:∀c,o.op≠.defer c:=fun c' h'=>by rw[hc]at h';cases h'
 unfold Oper.wpIn at*;rw[about_congr (ρ':=a.eval) o w he,Oper.semAt_eq _ _ _ ahK,execOp_congr (ρ':=a.eval) o (fun _ _ h'=>by rw[hc]at h';cases h') he]at h;rw[Oper.semAt_eq _ _ _ ahK];refine⟨h.1,?_⟩;have hh:=h.2;have hn:∀v w2,K' (a'.put o.dst v) w2→K (a.put o.dst v) w2:=hK a a' hd.symm rfl rfl;have ahL:¬LetsOut Q':=fun⟨a,w,hq⟩=>hQ _ _ _ (by simp) hq;generalize (execOp a.eval o).run P w=r at*;cases r with
 |ok x w'=>
  cases x<;>simp only[Oper.uponIn]at hh⊢<;>first
   |exact hh
   |exact hn _ _ hh
   |exact hK {tmps:=a.tmps,defers:=_::a.defers} {tmps:=a'.tmps,defers:=_::a'.defers} (by simp[hd]) rfl rfl _ _ hh
   |exact⟨hh.1,RowsIn.mono hh.2 (fun _ _ he=>hn _ _ he)⟩
   |exact⟨hh.1,CallsIn.mono hh.2 (fun e w'' he=>by cases e<;>first|exact(ahL he).elim|exact(hQ _ _ _ (by simp) he).elim|exact hn _ _ he)⟩
   |exact⟨hh.1,RoundIn.mono hh.2 (fun e w'' he=>by cases e<;>first|exact(ahL he).elim|exact(hQ _ _ _ (by simp) he).elim|exact hn _ _ he)⟩
 |halt x w'=>cases x<;>simp only[Oper.uponIn]at hh⊢<;>first|exact(hQ _ _ _ (by simp) hh).elim|exact hh
theorem Rel.swap{g:Fr}(h:Rel E.P E.aF nt w0 μ φ f m a' w)(hs:a.tmps.size=a'.tmps.size)(hd:a.defers=a'.defers)(hg:∀t,g t=.top∨(g t=f t∧a.tmps.getD t undef=a'.tmps.getD t undef)):Rel E.P E.aF nt w0 μ φ g m a w:=
 {toaG:=h.toaG,size:=hs.trans h.size,defers:=by rw[hd];exact h.defers,lu:=h.lu,fr:=fun t=>by
   rcases hg t with e|⟨e,e2⟩
   ·rw[e];exact .top
   ·rw[e];have:=h.fr t;simp_all[bV],
  live:=fun t id hid=>by
   rcases hg t with e|⟨e,_⟩
   ·rw[e]at hid;cases hid
   ·rw[e]at hid;exact h.live t id hid}
variable{done:List Nat}
theorem Gb(h:NF done l o=true):∀e∈o.after,Region.binds .any e=true→done.elem e.on=true∨∃y∈l,y.1=e.on:=fun e he hb=>by have:=an7.1 h e (ao4.2 he);simp_all
structure S5(E:Env)(ops:Array Oper)(w0:bl)(base:Nat→Bool)(f:Fr)(m:Mem)(recs:List Rec):Prop where
 lt:recs.Pairwise fun q r=>q.i≠r.i
 Q2:∀r∈recs,ops[r.i]?=some r.o
 bs:∀r∈recs,base r.i=false
 ord:recs.Pairwise (Ord ops)
 kl:recs.Pairwise fun q r=>q.kl≠[]→reach ops 4 r.o q.i=true
 cln:jF ops f m recs
 ze:∀r∈recs,∀e∈r.o.after,Region.binds .any e=true→e.on<r.i∧(base e.on=true∨∃q∈recs,q.i=e.on)
 ok:dD E ops w0 f m recs
theorem Ob(hE:jR E)(hY:sq E.P E.aF E.fn.ntmps E.yl w0)(hmz:∀x∈l,ops[x.1]?=some x.2)(ahH:(l.map Prod.fst).Pairwise (·≠·))(SZ:∀x∈l,base x.1=false)(Ya:∀x∈l,∀e∈x.2.after,Region.binds .any e=true→base e.on=true∨∃y∈l,y.1=e.on)(hi:sn ops [] l=true)(Kn:∀x∈fl,afw E ops x)(afx:∀x∈AS,ops[x.1]?=some x.2∧nY E x.2=true)(hbc:∀i o,ops[i]?=some o→(base i=true∨∃x∈fl,x.1=i)→∀e∈o.after,Region.binds .any e=true→base e.on=true∨∃x∈fl,x.1=e.on){r:R}{k:Fr→Mem→Option R}(h:cL E ops 2 n R [] l (b8 f0 (fl++AS)) m [] (fun f1 m1=>Qu fl f0 f1 (k f1 m1))=some r):∃recs f',k f' (oE m recs)=some r∧wX f' (iV (b8 f0 (fl++AS)) recs)∧recs.map (fun r=>(r.i,r.o))=l∧S5 E ops w0 base (b8 f0 (fl++AS)) m recs∧∀(L:Nat→Bool)(H0 H:Ro)(μ:Ro)(φ:Nat→aK)(a:Act)(w:World),(∀i,L i=true→base i=true∨(∃x∈fl,x.1=i)∨∃x∈AS,x.1=i)→zd E H0 H AS L a→Rel E.P E.aF E.fn.ntmps (hB w0 H) μ φ (b8 f0 ((fl.filter fun x=> !L x.1)++AS)) m a w→∃H' φ',zd E H0 H' (AS.filter fun x=> !l.any fun y=>y.1==x.1) L a∧Rel E.P E.aF E.fn.ntmps (hB w0 H') μ φ' (fm L (b8 f0 (fl++AS)) recs) (fZ L m recs) a w:=by
 obtain⟨recs,f',c1,c2,c3,c4,c5⟩:=lC (w0:=w0) hE hY (.inr rfl) n h hmz (fun h=>by omega) (by intro x hx g hg;cases hg) (b8 f0 (fl++AS)) (wX.refl _) (by intro g hg;cases hg) (fun _ _ _ _=>rfl);obtain⟨c1,afy⟩:=LO c1;obtain⟨_,i2,i3⟩:=zb hi;have bu:∀q∈recs,(q.i,q.o)∈l:=fun q hq=>by grind
 have hof:∀x∈l,∃q∈recs,q.i=x.1:=fun x hx=>by grind
 have F8:recs.Pairwise fun q r=>reach ops 4 r.o q.i=true∨q.o.apart ops r.o=true:=by grind
 have WV:recs.Pairwise (QX (ops:=ops)):=c5.ord rfl;have gw:S5 E ops w0 base (b8 f0 (fl++AS)) m recs:=by
  refine⟨?_,fun q hq=>hmz _ (bu q hq),fun q hq=>SZ _ (bu q hq),?_,c5.kl,c5.cln,fun q hq e he yu=>⟨i3 _ (bu q hq) e he yu,?_⟩,c4⟩
  ·grind
  ·refine List.Pairwise.imp (fun{q r}h=>?_) (List.Pairwise.and F8 WV);obtain⟨h1,h2⟩:=h;rcases h1 with h1|h1
   ·exact .inl h1
   ·rcases h2 with h2|h2
    ·exact .inl h2
    ·exact .inr ⟨h1,h2⟩
  ·rcases Ya _ (bu q hq) e he yu with h1|⟨y,hy,h1⟩
   ·exact Or.inl h1
   grind
 refine⟨recs,f',c1,c2,c3,gw,fun L H0 H μ φ a w hL I8 hR=>?_⟩;have NN:∀q∈recs,L q.i=true→((q.i,q.o)∈fl∧mR q.o=true)∨((q.i,q.o)∈AS∧nY E q.o=true):=fun q hq hl=>by
  rcases hL _ hl with h1|⟨x,hx,e⟩|⟨x,hx,e⟩
  ·grind
  ·obtain⟨h1,h2,_⟩:=Kn x hx;grind
  grind
 obtain⟨todo,amY⟩:∃todo,todo=recs.filter fun r=>L r.i&&nY E r.o:=⟨_,rfl⟩;have htm:∀r,r∈todo↔r∈recs∧L r.i=true∧nY E r.o=true:=fun r=>by simp_all
 have ac2:∀q∈recs,L q.i=true→((todo.any fun r=>r.i==q.i)=true↔nY E q.o=true):=fun q hq hl=>by grind
 have hS0:Rel E.P E.aF E.fn.ntmps (hB w0 H) μ φ (fm (fun i=>L i&& !todo.any fun r=>r.i==i) (b8 f0 (fl++AS)) recs) (fZ (fun i=>L i&& !todo.any fun r=>r.i==i) m recs) a w:=by
  refine Vg gw.Q2 gw.lt c4 Kn afx (fun r hr hl=>?_) c2 afy (hR.weaken fun t=>?_)
  ·grind
  ·by_cases hx:∃x∈(fl.filter fun x=> !(L x.1&& !todo.any fun r=>r.i==x.1))++AS,x.2.dst=some t
   ·right;exact nO (.inr hx)
   ·left;rw[iU fun x HF Vi=>hx ⟨x,HF,Vi⟩,iU fun x HF Vi=>hx ⟨x,(by grind),Vi⟩]
 obtain⟨H',φ',k1,k2⟩:=Vj (H0:=H0) (L:=L) gw.lt gw.Q2 gw.ord gw.kl gw.cln c4 (fun q hq hl=>by
  rcases NN q hq hl with h|h
  ·refine .inr fun r hr hk=>?_;cases hx:reach ops 4 q.o r.i with
   |false=>rfl
   |true=>
    have h1:=afv (P:=fun i=>base i=true∨∃x∈fl,x.1=i) hbc 4 q.o r.i (hbc _ _ (gw.Q2 q hq) (.inr ⟨_,h.1,rfl⟩)) hx;rcases h1 with h1|⟨x,hx,e⟩
    ·grind
    ·obtain⟨h1,h2,_⟩:=Kn x hx;grind [Option.some.inj,qE]
  ·exact .inl h.2) todo AS (fun r hr=>by
  grind [qE]) (by grind) H μ φ a w I8 hS0
 refine⟨H',φ',k1.sub (fun x hx=>?_) (fun _ _ h=>h) (fun _ _ _ _=>rfl),k2⟩;grind
theorem S6{p:Nat×Oper→Bool}:(((FQ ops).filter p).map Prod.fst).Pairwise (·≠·):=by
 have h0:((FQ ops).map Prod.fst).Pairwise (·≠·):=by unfold FQ;rw[zip_fst];exact List.pairwise_lt_range.imp Nat.ne_of_lt
 grind
structure Ei(E:Env)(ops:Array Oper)(w0:bl)(done:List Nat)(Ct:List (Nat×Oper))(f:Fr)(m:Mem)(recs:List Rec)(listed:Array Bool)(a:Act)(w:World):Prop where
 size:listed.size=ops.size
 cl:tz ops listed
 ge:∀i,done.elem i=true→an listed i=true
 le:∀i,an listed i=true→done.elem i=true∨(∃r∈recs,r.i=i)∨∃x∈Ct,x.1=i
 rel:∃H μ φ,zd E w0.hid H Ct (an listed) a∧Rel E.P E.aF E.fn.ntmps (hB w0 H) μ φ (fm (an listed) f recs) (fZ (an listed) m recs) a w
theorem ga(hi:i<listed.size)(j:Nat):an (listed.setIfInBounds i true) j=if j=i then true else an listed j:=by simp only[an,ams,anV];grind
variable{Ct:List (Nat×Oper)}
theorem Ei.grow{w':World}(h:Ei E ops w0 done Ct f m recs listed a w)(ho:ops[i]?=some o)(hi:i<listed.size)(Yd:∀e∈o.after,Region.binds .any e=true→an listed e.on=true)(ob:(∃r∈recs,r.i=i)∨∃x∈Ct,x.1=i)(hr:∃H μ φ,zd E w0.hid H Ct (an (listed.setIfInBounds i true)) a'∧Rel E.P E.aF E.fn.ntmps (hB w0 H) μ φ (fm (an (listed.setIfInBounds i true)) f recs) (fZ (an (listed.setIfInBounds i true)) m recs) a' w'):Ei E ops w0 done Ct f m recs (listed.setIfInBounds i true) a' w':=by
 refine⟨by simp[h.size],fun i' o' ho' oa e he yu=>?_,fun j hj=>?_,fun j hj=>?_,hr⟩
 ·rw[ga hi]at oa⊢;split
  ·rfl
  ·split at oa
   ·simp_all
   ·exact h.cl i' o' ho' oa e he yu
 ·rw[ga hi];split
  ·rfl
  ·exact h.ge j hj
 ·rw[ga hi]at hj;split at hj
  ·simp_all
  ·exact h.le j hj
theorem Oc{S:Nat→Bool}{t:Nat}:∀{l:List Rec}{f:Fr},f t=.top→(∀q∈l,q.o.dst≠some t)→fm S f l t=.top
 |[],_,h,_=>h
 |r::l,f,h,hq=>by
  rw[fm];refine Oc ?_ fun q F9=>hq q (by simp[F9]);cases S r.i with
  |false=>exact h
  |true=>
   show r.fs f t=.top;unfold Rec.fs;rw[dO (hq r (by simp))];rcases S3 (kl:=r.kl) (f:=f) (t:=t)with e|e
   ·rw[e,h]
   ·exact e
theorem Ei.step(gw:S5 E ops w0 (fun i=>done.elem i) f m recs)(G0:∀x∈Ct,ops[x.1]?=some x.2∧GF ops x=true∧∀r∈recs,r.i≠x.1)(h:Ei E ops w0 done Ct f m recs listed a w){r:Rec}(hr:r∈recs)(hl:an listed r.i=false)(hi:r.i<listed.size)(Yd:∀e∈r.o.after,Region.binds .any e=true→an listed e.on=true):wpOpIn (FR rd) 0 E.P ops Q r.i (Ei E ops w0 done Ct f m recs (listed.setIfInBounds r.i true)) a w:=by
 obtain⟨H,μ,φ,I8,hR⟩:=h.rel;have hs:=(Hy (rd:=rd) (Q:=Q) H gw.lt gw.Q2 gw.ord gw.kl gw.cln gw.ok h.cl hr Yd hi hl hR (K:=fun a' w'=>∃μ' φ',Rel E.P E.aF E.fn.ntmps (hB w0 H) μ' φ' (fm (an (listed.setIfInBounds r.i true)) f recs) (fZ (an (listed.setIfInBounds r.i true)) m recs) a' w') fun μ' φ' a' w' h=>⟨μ',φ',h⟩).1;refine wpOpIn_mono (fun a' w' hk=>?_) (LP (gw.Q2 r hr) (T:=fun d v=>v=a.tmps.getD d undef) (fun _ _=>rfl) hs);obtain⟨⟨μ',φ',jS⟩,ht⟩:=hk;refine h.grow (gw.Q2 r hr) hi Yd (.inl ⟨r,hr,rfl⟩) ⟨H,μ',φ',I8.sub (fun _ h=>h) (fun x hx hlx=>?_) (fun x hx d hd=>ht d fun e=>?_),jS⟩
 ·grind [ga,absurd]
 ·obtain⟨h1,h2,h3⟩:=G0 x hx;exact h3 r hr (tB h2 (gw.Q2 r hr) hd e).symm
theorem Ei.alc(gw:S5 E ops w0 (fun i=>done.elem i) f m recs)(G0:∀x∈Ct,ops[x.1]?=some x.2∧GF ops x=true∧∀r∈recs,r.i≠x.1)(hft:∀x∈Ct,∀d,x.2.dst=some d→f d=.top)(h:Ei E ops w0 done Ct f m recs listed a w)(hx:x∈Ct)(hk:nY E x.2=true)(hl:an listed x.1=false)(hi:x.1<listed.size):wpOpIn (FR rd) 0 E.P ops Q x.1 (Ei E ops w0 done Ct f m recs (listed.setIfInBounds x.1 true)) a w:=by
 obtain⟨H,μ,φ,I8,hR⟩:=h.rel;obtain⟨i,⟨dst,op,type,pos,after,guard⟩⟩:=x;obtain⟨ob,huq,J0⟩:=G0 _ hx;simp only[nY,OF,apz,anT]at hk;obtain⟨⟨⟨⟨hg,haf⟩,F8⟩,hdo⟩,hz⟩:=hk;subst hg;split at hz;rotate_left
 ·cases hz
 rename_i t d;obtain⟨cs,hz⟩:=anK.1 hz;obtain⟨inf,zv,z1,z2,_⟩:=dC hz;unfold wpOpIn;rw[ob];simp only[Region.wanted,IS];refine⟨fun _ _=>trivial,?_⟩;rw[Oper.semAt_eq _ _ _ (fun c hc=>by cases hc)];simp only[execOp,Sem.run_bind,Ap z1 z2,Result.andThen_ok,Sem.run_pure];have hnl:∀e∈after,Region.binds .any e=true→an listed e.on=true:=fun e he _=>by simp_all
 have hdl:d<E.fn.ntmps:=gN hdo d rfl;have hfd:∀S,fm S f recs d=.top:=fun S=>Oc (hft _ hx d rfl) fun q hq hd=>J0 q hq (tB huq (gw.Q2 q hq) rfl hd).symm;have DO:=hR.X6 (.cells zv.cells t);have alF:fm (an (listed.setIfInBounds i true)) f recs=fm (an listed) f recs:=funext fun s=>xA rfl fun q hq=>by rw[ga hi,IT (J0 q hq)]
 have alG:fZ (an (listed.setIfInBounds i true)) m recs=fZ (an listed) m recs:=funext fun s=>xB rfl fun q hq=>by rw[ga hi,IT (J0 q hq)]
 have AQ:∀y∈Ct,y.1≠i→∀e,y.2.dst=some e→e≠d:=fun y hy cy e he Yd=>cy (tB huq (G0 y hy).1 rfl (by rw[he,Yd])).symm;have eE:∀e,e≠d→(a.tmps.setIfInBounds d (.pointer (some ⟨w.heap.size,0,none⟩))).getD e undef=a.tmps.getD e undef:=fun e he=>by simp only[ams,anV];grind
 have BE:(a.tmps.setIfInBounds d (.pointer (some ⟨w.heap.size,0,none⟩))).getD d undef=.pointer (some ⟨w.heap.size,0,none⟩):=by
  have:d<a.tmps.size:=by rw[hR.size];omega
  simp_all
 have ahM:∀g o,H g=some o→g<w.heap.size:=fun g o hg=>(adW.1 (hR.hid g o hg).1).1;refine h.grow ob hi hnl (.inr ⟨_,hx,rfl⟩) ⟨hAdd H w.heap.size (.cells zv.cells t),μ,φ,⟨fun g o hg=>?_,fun y hy hly=>?_,fun y hy y' hy' hly ahN cy e e' he Qj=>?_⟩,?_⟩
 ·unfold hAdd;rw[IT fun e=>by have:=ahM _ _ (I8.le g o hg);omega];exact I8.le g o hg
 ·by_cases WQ:y.1=i
  ·have h1:=(G0 y hy).1;rw[WQ,ob]at h1;have:y.2=_:=(an5 h1).symm;refine⟨d,t,zv.cells,w.heap.size,by rw[this],by rw[this],⟨inf,zv,z1,z2,rfl⟩,BE,by simp[hAdd],?_⟩;cases hq:w0.hid w.heap.size with
   |none=>rfl
   |some o=>have:=ahM _ _ (I8.le _ _ hq);omega
  ·rw[ga hi,IT WQ]at hly;obtain⟨e,t',c',g',q1,q2,q3,q4,q5,q6⟩:=I8.pt y hy hly;refine⟨e,t',c',g',q1,q2,q3,by rw[show((a.put (some d) (.pointer (some ⟨w.heap.size,0,none⟩))).tmps)=a.tmps.setIfInBounds d (.pointer (some ⟨w.heap.size,0,none⟩))from rfl,eE e (AQ y hy WQ e q2)];omega,?_,q6⟩;unfold hAdd;grind
 ·have key:∀y∈Ct,y.1≠i→an (listed.setIfInBounds i true) y.1=true→∀e,y.2.dst=some e→a.tmps.getD e undef≠.pointer (some ⟨w.heap.size,0,none⟩):=fun y hy WQ hly e he hee=>by rw[ga hi,IT WQ]at hly;obtain⟨e',t',c',g',q1,q2,q3,q4,q5,q6⟩:=I8.pt y hy hly;grind
  show(a.tmps.setIfInBounds d (.pointer (some ⟨w.heap.size,0,none⟩))).getD e undef≠(a.tmps.setIfInBounds d (.pointer (some ⟨w.heap.size,0,none⟩))).getD e' undef;have X9:∀z∈Ct,z.1=i→∀u,z.2.dst=some u→u=d:=fun z hz hzi u hu=>by grind
  by_cases WQ:y.1=i
  ·grind
  ·by_cases ahO:y'.1=i
   ·grind
   ·rw[eE e (AQ y hy WQ e he),eE e' (AQ y' hy' ahO e' Qj)];rw[ga hi,IT WQ]at hly;rw[ga hi,IT ahO]at ahN;exact I8.inj y hy y' hy' hly ahN cy e e' he Qj
 ·rw[alF,alG];exact DO.put (fun _ _ h=>h) (fun e he=>by cases he;omega) DO.toaG DO.kT (v:=.top) .top (fun id hid=>by cases hid)|>.weaken fun s=>by grind [dO,Option.some.inj]
theorem Vl(hE:jR E)(hY:sq E.P E.aF E.fn.ntmps E.yl w0){k:Fr→Mem→Option R}{r:R}(hQ:∀f' m' μ' φ' a' w',k f' m'=some r→Rel E.P E.aF E.fn.ntmps w0 μ' φ' f' m' a' w'→Q .normal a' w'):∀(ps done:List Nat)(fl:List (Nat×Oper))(f0:Fr)(m:Mem),D3 E ops k ps done fl f0 (b8 f0 (fl++rG E ops done)) m=some r→(∀x∈fl,afw E ops x∧done.elem x.1=false)→(∀i o,ops[i]?=some o→(done.elem i=true∨∃x∈fl,x.1=i)→∀e∈o.after,Region.binds .any e=true→done.elem e.on=true∨∃x∈fl,x.1=e.on)→∀(fuel:Nat)(listed:Array Bool),listed.size=ops.size→listed.toList.countP (fun b=> !b)≤fuel→tz ops listed→(∀i,done.elem i=true→an listed i=true)→(∀i,an listed i=true→done.elem i=true∨(∃x∈fl,x.1=i)∨∃x∈rG E ops done,x.1=i)→∀(H μ:Ro)(φ:Nat→aK)(a:Act)(w:World),zd E w0.hid H (rG E ops done) (an listed) a→Rel E.P E.aF E.fn.ntmps (hB w0 H) μ φ (b8 f0 ((fl.filter fun x=> !an listed x.1)++rG E ops done)) m a w→wpAnyIn (FR rd) 0 E.P .any ops Q fuel listed a w:=by
 intro ps;induction ps with
 |nil=>
  intro done fl f0 m h Kn hbc fuel listed hs hc qB hb td H μ φ a w I8 hR;simp only[D3]at h;split at h;rotate_left
  ·cases h
  rename_i hi;have hz:∀x,x∈Qv ops done↔x∈FQ ops∧done.elem x.1=false:=fun x=>by simp[Qv,anP]
  have hpn:∀x∈rG E ops done,x∈FQ ops∧nY E x.2=true∧done.elem x.1=false:=fun x hx=>by simp only[rG,anP,OF,anT]at hx;exact hx
  obtain⟨_,_,i3⟩:=zb hi;obtain⟨recs,f',c1,c2,c3,gw,DM⟩:=Ob (w0:=w0) (base:=fun i=>done.elem i) hE hY (l:=Qv ops done) (fun x hx=>j5 ((hz x).1 hx).1) S6 (fun x hx=>((hz x).1 hx).2) (fun x hx e he yu=>by
   cases hd:done.elem e.on with
   |true=>exact .inl rfl
   |false=>have h1:=i3 x hx e he yu;have h2:x.1<ops.size:=(adW.1 (j5 ((hz x).1 hx).1)).1;exact .inr ⟨_,(hz _).2 ⟨vw (T1 (show e.on<ops.size by omega)),hd⟩,rfl⟩) hi (fun x hx=>(Kn x hx).1) (fun x hx=>⟨j5 (hpn x hx).1,(hpn x hx).2.1⟩) hbc h
  have bu:∀x∈Qv ops done,∃q∈recs,q.i=x.1:=fun x hx=>by grind
  have Od:∀q∈recs,(q.i,q.o)∈Qv ops done:=fun q hq=>by grind
  obtain⟨H1,φ1,hE1,DO⟩:=DM _ _ H μ φ a w td I8 hR;have Q3:Ei E ops w0 done [] (b8 f0 (fl++rG E ops done)) m recs listed a w:=⟨hs,qB,hb,fun i hi=>by
   cases hd:done.elem i with
   |true=>exact .inl rfl
   |false=>
    have bK:i<ops.size:=by rw[←hs];refine Nat.lt_of_not_le fun G2=>?_;simp[an,ams,aqr G2]at hi
    exact .inr (.inl (bu _ ((hz _).2 ⟨vw (T1 bK),hd⟩))),H1,μ,φ1,hE1.sub (fun _ h=>by cases h) (fun _ h=>by cases h) (fun _ h=>by cases h),DO⟩
  refine aeC (fun l a w h=>h.size) (fun l a w h hr=>?_) (fun fuel l a w hc h i o ho hl hi Yd=>.inl ?_) fuel listed a w hc Q3
  ·have uz:∀n,∀q∈recs,q.i<n→an l q.i=true:=by
    intro n;induction n with
    |zero=>intro q _ hq;omega
    |succ n ihn=>
     intro q hq hqn;cases hx:an l q.i with
     |true=>rfl
     |false=>
      exfalso;have bK:q.i<l.size:=by rw[h.size];exact(adW.1 (gw.Q2 q hq)).1
      have hm:q.i∈Region.ready .any ops l:=mem_ready.2 ⟨by simp only[an,ams,T1 bK,anY]at hx⊢;exact hx,q.o,gw.Q2 q hq,fun e he yu=>?_⟩
      ·rw[hr]at hm;cases hm
      ·obtain⟨h1,h2⟩:=gw.ze q hq e he yu;rcases h2 with h2|⟨q2,Xo,e2⟩
       ·exact h.ge _ h2
       ·have:=ihn q2 Xo (by omega);rwa[e2]at this
   obtain⟨H2,μ2,φ2,hE2,D9⟩:=h.rel;rw[show fm (an l) (b8 f0 (fl++rG E ops done)) recs=iV (b8 f0 (fl++rG E ops done)) recs from funext fun t=>wA rfl fun q hq hf=>(by rw[uz _ q hq (apV _)]at hf;cases hf),show fZ (an l) m recs=oE m recs from funext fun t=>wB rfl fun q hq hf=>(by rw[uz _ q hq (apV _)]at hf;cases hf)]at D9;exact hQ _ _ _ _ _ _ c1 ((D9.LJ (H':=w0.hid) hE2.le).weaken c2)
  ·have SL:done.elem i=false:=by
    cases hd:done.elem i with
    |false=>rfl
    |true=>rw[h.ge i hd]at hl;cases hl
   obtain⟨q,hq,e⟩:=bu _ ((hz (i,o)).2 ⟨vw ho,SL⟩);have e:q.i=i:=e;subst e;have:q.o=o:=by have:=gw.Q2 q hq;rw[ho]at this;exact(an5 this).symm
   subst this;exact h.step gw (fun _ h=>by cases h) hq hl hi Yd
 |cons p ps ih=>
  intro done fl f0 m h Kn hbc fuel listed hs hc qB hb td H μ φ a w I8 hR;simp only[D3]at h;split at h;rotate_left
  ·cases h
  rename_i o ho;split at h;rotate_left
  ·cases h
  rename_i hsk;simp only[aek,OF,an7,anT,anH]at hsk;obtain⟨⟨⟨⟨⟨⟨⟨hi,iW⟩,hpd⟩,ahP⟩,afz⟩,alH⟩,afA⟩,alI⟩:=hsk;generalize hl:ND E ops done p o=l at*;have hz:∀x,x∈l↔x∈FQ ops∧done.elem x.1=false∧x.1≠p∧reach ops 8 x.2 p=false∧(nY E x.2=true→reach ops 8 o x.1=true):=fun x=>by
   rw[←hl];simp only[ND,anP,OF,anT,anH];constructor
   ·rintro⟨h1,⟨⟨h2,h3⟩,h4⟩,h5⟩;exact⟨h1,h2,fun e=>(by rw[e,Nat.beq_refl]at h3;cases h3),h4,fun h=>h5.resolve_left fun h6=>by rw[h]at h6;cases h6⟩
   ·rintro⟨h1,h2,h3,h4,h5⟩;refine⟨h1,⟨⟨h2,?_⟩,h4⟩,?_⟩
    ·cases hx:Nat.beq x.1 p with
     |false=>rfl
     |true=>exact absurd (K5 hx) h3
    ·cases hx:nY E x.2 with
     |false=>exact .inl rfl
     |true=>exact .inr (h5 hx)
  have hpn:∀x,x∈rG E ops done↔x∈FQ ops∧nY E x.2=true∧done.elem x.1=false:=fun x=>by simp[rG,anP]
  have afB:o.guard=none∧∃c,o.op=.call c:=by
   simp only[aej,OF,apz]at iW;refine⟨iW.1,?_⟩;have h2:=iW.2;split at h2
   ·exact⟨_,by assumption⟩
   ·cases h2
  obtain⟨DM,LL⟩:=afB;obtain⟨recs,f',c1,c2,c3,gw,afC⟩:=Ob (w0:=w0) (base:=fun i=>done.elem i) hE hY (l:=l) (fun x hx=>j5 ((hz x).1 hx).1) (hl▸S6) (fun x hx=>((hz x).1 hx).2.1) (fun x hx=>Gb (afz x hx).1) hi (fun x hx=>(Kn x hx).1) (fun x hx=>⟨j5 ((hpn x).1 hx).1,((hpn x).1 hx).2.1⟩) hbc h;have bu:∀x∈l,∃q∈recs,q.i=x.1∧q.o=x.2:=fun x hx=>by grind
  have Od:∀q∈recs,(q.i,q.o)∈l:=fun q hq=>by grind
  have alJ:p<ops.size:=(adW.1 ho).1;have hpr:∀r∈recs,r.i≠p:=fun r hr=>((hz _).1 (Od r hr)).2.2.1;have hfm:∀x,x∈Je ops o l↔x∈l∧reach ops 8 o x.1=false:=fun x=>by simp[Je,anP]
  have hbm:∀i,(yO ops o l).elem i=true↔∃x∈l,reach ops 8 o x.1=true∧x.1=i:=fun i=>by
   rw[aoZ];simp only[yO,anG,anP];constructor
   ·rintro⟨x,⟨h1,h2⟩,h3⟩;exact⟨x,h1,h2,h3⟩
   ·rintro⟨x,h1,h2,h3⟩;exact⟨x,⟨h1,h2⟩,h3⟩
  have WW:∀i,(p::(yO ops o l++done)).elem i=true↔i=p∨(∃x∈l,reach ops 8 o x.1=true∧x.1=i)∨done.elem i=true:=fun i=>by rw[aoZ,anA,anO,←hbm,aoZ,aoZ]
  obtain⟨Ct,ahQ⟩:∃Ct,Ct=(rG E ops done).filter fun x=> !l.any fun y=>y.1==x.1:=⟨_,rfl⟩;have ham:∀x,x∈Ct↔x∈rG E ops done∧∀y∈l,y.1≠x.1:=fun x=>by rw[ahQ];simp only[anP,anT,aoK,beq_iff_eq]
  have afD:∀x∈Ct,x.1≠p:=fun x hx e=>by have h1:=(hpn x).1 ((ham x).1 hx).1;have h2:=j5 h1.1;rw[e,ho]at h2;have h3:=h1.2.1;rw[←an5 h2]at h3;obtain⟨c,hc⟩:=LL;simp[nY,hc]at h3
  have G0:∀x∈Ct,ops[x.1]?=some x.2∧GF ops x=true∧∀r∈recs,r.i≠x.1:=fun x hx=>by obtain⟨h1,h2⟩:=(ham x).1 hx;exact⟨j5 ((hpn x).1 h1).1,alI x h1,fun r hr=>h2 _ (Od r hr)⟩
  have hft:∀x∈Ct,∀d,x.2.dst=some d→b8 f0 (fl++rG E ops done) d=.top:=fun x hx d hd=>nO (.inr ⟨x,anO.2 (.inr ((ham x).1 hx).1),hd⟩);have ahR:∀x∈fl,x∈l:=fun x hx=>by
   obtain⟨h1,h2⟩:=Kn x hx;have hxp:x.1≠p:=fun e=>by have h3:=h1.1;rw[e,ho]at h3;have h4:=h1.2.1;rw[←an5 h3]at h4;obtain⟨c,hc⟩:=LL;simp[mR,hc]at h4
   exact(hz x).2 ⟨vw h1.1,h2,hxp,alH x hx,fun h=>(qE h1.2.1 h).elim⟩
  have S7:∀x,x∈rG E ops (p::(yO ops o l++done))↔x∈Ct:=fun x=>by
   rw[ham,hpn];simp only[rG,anP,OF,anT];constructor
   ·rintro⟨h1,h2,h3⟩;have h4:¬(p::(yO ops o l++done)).elem x.1=true:=by rw[h3];simp
    rw[WW]at h4;refine⟨⟨h1,h2,?_⟩,fun y hy e=>?_⟩
    ·cases hx:done.elem x.1 with
     |false=>rfl
     |true=>exact absurd (.inr (.inr hx)) h4
    ·have hxy:y=x:=by have a1:=j5 ((hz y).1 hy).1;rw[e,j5 h1]at a1;exact Prod.ext e (an5 a1).symm
     subst hxy;exact h4 (.inr (.inl ⟨y,hy,((hz y).1 hy).2.2.2.2 h2,rfl⟩))
   ·rintro⟨⟨h1,h2,h3⟩,h4⟩;refine⟨h1,h2,?_⟩;cases hx:(p::(yO ops o l++done)).elem x.1 with
    |false=>rfl
    |true=>
     rcases(WW _).1 hx with e|⟨y,hy,_,e⟩|h5
     ·have h6:=j5 h1;rw[e,ho]at h6;obtain⟨c,hc⟩:=LL;rw[←an5 h6]at h2;simp[nY,hc]at h2
     ·exact absurd e (h4 y hy)
     ·rw[h3]at h5;cases h5
  have hP:∀(fuel:Nat)(listed:Array Bool)(a:Act)(w:World),listed.toList.countP (fun b=> !b)≤fuel+1→Ei E ops w0 done Ct (b8 f0 (fl++rG E ops done)) m recs listed a w→(∀e∈o.after,Region.binds .any e=true→an listed e.on=true)→an listed p=false→wpOpIn (FR rd) 0 E.P ops Q p (wpAnyIn (FR rd) 0 E.P .any ops Q fuel (listed.setIfInBounds p true)) a w:=by
   intro fuel listed a w hc Q3 tA hpu;obtain⟨hs,qB,hb,td,H,μ,φ,I8,hR⟩:=Q3;have afE:∀q∈recs,an listed q.i=false→(q.i,q.o)∈Je ops o l:=fun q hq hu=>(hfm _).2 ⟨Od q hq,by
    cases hx:reach ops 8 o q.i with
    |false=>rfl
    |true=>rw[mX listed qB 8 o q.i tA hx]at hu;cases hu⟩
   obtain⟨μ1,φ1,a1,DO,hd1,hz1,ht1⟩:=Q1 H gw.lt gw.Q2 gw.ord gw.kl gw.cln gw.ok gw.ze _ listed hs (anz _) qB hb (fun q hq hu=>by obtain⟨⟨⟨h1,h2⟩,_⟩,_⟩:=afA _ (afE q hq hu);exact⟨h1,h2⟩) μ φ a w hR;have Ye:=jw (rd:=rd) (w0:=hB w0 H) hE (hY.hid H) _ (.inl rfl) c1 (fun x hx=>by
    simp only[aoq]at hx;subst hx;exact ho) (by intro x hx g hg;cases hg) (fun h=>by omega) μ1 φ1 a1 w
    (fun e a w=>e=.normal∧∃f2 m2 μ2 φ2,D3 E ops k ps (p::(yO ops o l++done)) (Je ops o l) f2 (b8 f2 (Je ops o l++rG E ops (p::(yO ops o l++done)))) m2=some r∧Rel E.P E.aF E.fn.ntmps (hB w0 H) μ2 φ2 f2 m2 a w) [] (DO.weaken c2) (by intro g hg;cases hg) fun f2 m2 μ2 φ2 a2 w2 NS D9 _ _=>⟨rfl,f2,m2,μ2,φ2,NS,D9⟩
   rw[aof,anB,apo,wpOpsIn_cons]at Ye;have X9:∀q∈recs,an listed q.i=false→∀d,q.o.dst=some d→d∉o.looksAt ops:=fun q hq hu=>by obtain⟨⟨_,h2⟩,_⟩:=afA _ (afE q hq hu);exact(Oper.apart_spec h2).1
   have hw:∀a:Act,Region.wanted o (yielded ops a.tmps)=true:=fun a=>by unfold Region.wanted;rw[DM]
   unfold wpOpIn at Ye⊢;rw[ho]at Ye⊢;simp only[hw,IS]at Ye⊢;refine Oper.Vk LL (fun x hx=>?_) hd1 (fun b b' yu hbt afF v w2 hK=>?_) (fun e a w cy hq=>cy hq.1) Ye
   ·cases x with
    |tmp t=>simp only[Act.eval];exact ht1 t fun q hq hu hd=>X9 q hq hu t hd (Ki hx)
    |_=>rfl
   ·obtain⟨_,f2,m2,μ2,φ2,NS,D9⟩:=hK;have Eg:p<listed.size:=by omega
    have X3:=ga Eg;refine ih (p::(yO ops o l++done)) (Je ops o l) f2 m2 NS (fun x hx=>?_) (fun i oi Yf ob e he yu=>?_) fuel (listed.setIfInBounds p true) (by simp[hs]) ?_ ?_ (fun i hi=>?_) (fun i hi=>?_) H μ2 φ2 _ w2 ?_ ?_
    ·obtain⟨⟨⟨h1,h2⟩,_⟩,h4⟩:=afA x hx;obtain⟨g1,g2⟩:=(hfm x).1 hx;obtain⟨z1,z2,z3,z4,z5⟩:=(hz x).1 g1;refine⟨⟨j5 z1,h1,h2,h4⟩,?_⟩;cases hx2:(p::(yO ops o l++done)).elem x.1 with
     |false=>rfl
     |true=>
      rcases(WW _).1 hx2 with e|⟨y,hy,hy2,e⟩|h5
      ·exact absurd e z3
      ·rw[e,g2]at hy2;cases hy2
      ·rw[z2]at h5;cases h5
    ·have rD:∀{o':Oper},NF (yO ops o l++done) [] o'=true→∀e∈o'.after,Region.binds .any e=true→(p::(yO ops o l++done)).elem e.on=true:=fun hsh e he yu=>by
      rcases Gb hsh e he yu with h1|⟨y,hy,_⟩
      ·exact aoZ.2 (apu _ (aoZ.1 h1))
      ·cases hy
     rcases ob with ob|⟨x,hx,rfl⟩
     ·rcases(WW _).1 ob with rfl|⟨x,hx,hx2,rfl⟩|h5
      ·rw[ho]at Yf;cases Yf;exact .inl (rD ahP e he yu)
      ·have:oi=x.2:=by have:=j5 ((hz x).1 hx).1;rw[Yf]at this;exact an5 this
       subst this;refine .inl (rD ((afz x hx).2.resolve_left fun h=>?_) e he yu);rw[hx2]at h;cases h
      ·rcases hbc i oi Yf (.inl h5) e he yu with h6|⟨x,hx,h6⟩
       ·exact .inl ((WW _).2 (.inr (.inr h6)))
       ·have GV:=ahR x hx;cases hr:reach ops 8 o x.1 with
        |true=>exact .inl ((WW _).2 (.inr (.inl ⟨x,GV,hr,h6⟩)))
        |false=>exact .inr ⟨x,(hfm x).2 ⟨GV,hr⟩,h6⟩
     ·obtain⟨g1,g2⟩:=(hfm x).1 hx;have:oi=x.2:=by have:=j5 ((hz x).1 g1).1;rw[Yf]at this;exact an5 this
      subst this;rcases Gb (afz x g1).1 e he yu with h1|⟨y,hy,h1⟩
      ·exact .inl ((WW _).2 (.inr (.inr h1)))
      ·cases hr:reach ops 8 o y.1 with
       |true=>exact .inl ((WW _).2 (.inr (.inl ⟨y,hy,hr,h1⟩)))
       |false=>exact .inr ⟨y,(hfm y).2 ⟨hy,hr⟩,h1⟩
    ·rw[aoI,apY (by simpa using Eg)];have:listed.toList[p]'(by simpa using Eg)=false:=by simp only[an,ams,T1 Eg,anY]at hpu;simpa using hpu
     rw[this];simp only[anM,IS,ag0,tc,PS];omega
    ·intro i' o' ho' oa e he yu;rw[X3]at oa⊢;split
     ·rfl
     ·split at oa
      ·rename_i hqi;subst hqi;have:o'=o:=by rw[ho]at ho';exact(an5 ho').symm
       subst this;exact tA e he yu
      ·exact qB i' o' ho' oa e he yu
    ·rw[X3];split
     ·rfl
     ·rename_i hip;rcases(WW _).1 hi with e|⟨y,hy,hy2,e⟩|h5
      ·exact absurd e hip
      ·rw[←e];exact mX listed qB 8 o y.1 tA hy2
      ·exact hb i h5
    ·rw[X3]at hi;split at hi
     ·rename_i hip;exact .inl ((WW _).2 (.inl hip))
     ·rcases td i hi with h1|⟨q,hq,e⟩|⟨x,hx,e⟩
      ·exact .inl ((WW _).2 (.inr (.inr h1)))
      ·cases hx:reach ops 8 o q.i with
       |true=>exact .inl ((WW _).2 (.inr (.inl ⟨_,Od q hq,hx,e⟩)))
       |false=>exact .inr (.inl ⟨(q.i,q.o),(hfm _).2 ⟨Od q hq,hx⟩,e⟩)
      ·exact .inr (.inr ⟨x,(S7 x).2 hx,e⟩)
    ·refine I8.sub (fun x hx=>(S7 x).1 hx) (fun x hx hlx=>?_) (fun x hx d hd=>?_)
     ·rw[X3]at hlx;split at hlx
      ·rename_i e;exact absurd e (afD x ((S7 x).1 hx))
      ·exact hlx
     ·have hx:=(S7 x).1 hx;have cy:o.dst≠some d:=fun e=>afD x hx (tB (G0 x hx).2.1 ho hd e);cases hod:o.dst with
      |none=>simp only[Act.put,hbt]
      |some d0=>simp only[Act.put,hbt,ams,anV];rw[IT fun e=>cy (by rw[hod,e])]
    ·have n9:a.tmps.size=a1.tmps.size:=hz1.symm;refine D9.swap (by cases o.dst<;>simp[Act.put,hbt,afF,n9]) (by cases o.dst<;>simpa[Act.put]using yu) fun t=>?_;by_cases hex:∃x∈(Je ops o l).filter (fun x=> !an (listed.setIfInBounds p true) x.1)++rG E ops (p::(yO ops o l++done)),x.2.dst=some t
     ·exact .inl (nO (.inr hex))
     ·refine .inr ⟨iU fun x hx Vi=>hex ⟨x,hx,Vi⟩,?_⟩;have htt:a1.tmps.getD t undef=a.tmps.getD t undef:=ht1 t fun q hq hu hd=>hex ⟨(q.i,q.o),anO.2 (.inl (anP.2 ⟨afE q hq hu,by rw[X3,IT (hpr q hq),hu];rfl⟩)),hd⟩;cases hod:o.dst with
      |none=>simp only[Act.put,hbt,afF];exact htt.symm
      |some d=>
       simp only[Act.put,hbt,afF,ams,anV]at htt⊢;by_cases hdt:d=t
       ·subst hdt;simp[n9]
       ·simp only[hdt,PS];exact htt.symm
  obtain⟨H1,φ1,hE1,DO⟩:=afC _ _ H μ φ a w td I8 hR;have alK:∀x∈fl,∃q∈recs,q.i=x.1:=fun x hx=>by obtain⟨q,hq,e,_⟩:=bu _ (ahR x hx);exact⟨q,hq,e⟩
  have Q3:Ei E ops w0 done Ct (b8 f0 (fl++rG E ops done)) m recs listed a w:=⟨hs,qB,hb,fun i hi=>by
   rcases td i hi with h1|⟨x,hx,rfl⟩|⟨x,hx,rfl⟩
   ·exact .inl h1
   ·exact .inr (.inl (alK x hx))
   ·by_cases GV:∃y∈l,y.1=x.1
    ·obtain⟨y,hy,e⟩:=GV;obtain⟨q,hq,e2,_⟩:=bu y hy;exact .inr (.inl ⟨q,hq,e2.trans e⟩)
    ·exact .inr (.inr ⟨x,(ham x).2 ⟨hx,fun y hy e=>GV ⟨y,hy,e⟩⟩,rfl⟩),H1,μ,φ1,ahQ▸hE1,DO⟩
  have ahS:∀l' a w,Ei E ops w0 done Ct (b8 f0 (fl++rG E ops done)) m recs l' a w→an l' p=false:=fun l' a w h=>by
   cases hx:an l' p with
   |false=>rfl
   |true=>
    rcases h.le p hx with h1|⟨q,hq,e⟩|⟨x,hx,e⟩
    ·rw[hpd]at h1;cases h1
    ·exact absurd e (hpr q hq)
    ·exact absurd e (afD x hx)
  refine aeC (fun l a w h=>h.size) (fun l' a w h hr=>?_) (fun fuel l' a w hc hMd i oi Yf hli hi Yd=>?_) fuel listed a w hc Q3
  ·exfalso;have uz:∀n,∀q∈recs,q.i<n→an l' q.i=true:=by
    intro n;induction n with
    |zero=>intro q _ hq;omega
    |succ n ihn=>
     intro q hq hqn;cases hx:an l' q.i with
     |true=>rfl
     |false=>
      exfalso;have bK:q.i<l'.size:=by rw[h.size];exact(adW.1 (gw.Q2 q hq)).1
      have hm:q.i∈Region.ready .any ops l':=mem_ready.2 ⟨by simp only[an,ams,T1 bK,anY]at hx⊢;exact hx,q.o,gw.Q2 q hq,fun e he yu=>?_⟩
      ·rw[hr]at hm;cases hm
      ·obtain⟨h1,h2⟩:=gw.ze q hq e he yu;rcases h2 with h2|⟨q2,Xo,e2⟩
       ·exact h.ge _ h2
       ·have:=ihn q2 Xo (by omega);rwa[e2]at this
   have pS:p<l'.size:=by rw[h.size];exact alJ
   have hpu:=ahS _ _ _ h;have hm:p∈Region.ready .any ops l':=mem_ready.2 ⟨by
    simp only[an,ams,T1 pS,anY]at hpu⊢;exact hpu,o,ho,fun e he yu=>by
    rcases Gb ahP e he yu with h1|⟨y,hy,_⟩
    ·rcases anO.1 (aoZ.1 h1)with h2|h2
     ·obtain⟨y,hy,_,e1⟩:=(hbm _).1 (aoZ.2 h2);obtain⟨q,hq,e2,_⟩:=bu y hy;rw[←e1,←e2];exact uz _ q hq (apV _)
     ·exact h.ge _ (aoZ.2 h2)
    ·cases hy⟩
   rw[hr]at hm;cases hm
  ·by_cases hip:i=p
   ·subst hip;rw[ho]at Yf;cases Yf;exact .inr (hP fuel l' a w hc hMd Yd hli)
   ·by_cases hir:∃q∈recs,q.i=i
    ·obtain⟨q,hq,rfl⟩:=hir;have:q.o=oi:=by have:=gw.Q2 q hq;rw[Yf]at this;exact(an5 this).symm
     subst this;exact .inl (hMd.step gw G0 hq hli hi Yd)
    ·by_cases hia:∃x∈Ct,x.1=i
     ·obtain⟨x,hx,rfl⟩:=hia;exact .inl (hMd.alc gw G0 hft hx ((hpn x).1 ((ham x).1 hx).1).2.1 hli hi)
     ·exfalso;have SL:done.elem i=false:=by
       cases hd:done.elem i with
       |false=>rfl
       |true=>rw[hMd.ge i hd]at hli;cases hli
      have hnl:∀y∈l,y.1≠i:=fun y hy e=>by obtain⟨q,hq,e2,_⟩:=bu y hy;exact hir ⟨q,hq,e2.trans e⟩
      cases hx:reach ops 8 oi p with
      |true=>have:=mX l' hMd.cl 8 oi p Yd hx;rw[ahS _ _ _ hMd]at this;cases this
      |false=>
       by_cases hk:nY E oi=true
       ·exact hia ⟨(i,oi),(ham _).2 ⟨(hpn _).2 ⟨vw Yf,hk,SL⟩,fun y hy e=>hnl y hy e⟩,rfl⟩
       ·exact hnl (i,oi) ((hz (i,oi)).2 ⟨vw Yf,SL,hip,hx,fun h=>absurd h hk⟩) rfl
end
end Go.Ab
