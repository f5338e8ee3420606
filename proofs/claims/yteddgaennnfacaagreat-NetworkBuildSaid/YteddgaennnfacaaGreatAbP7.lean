import Derived.Test.YteddgaennnfacaaGreatAbP6
import Derived.OrdersIn
set_option linter.all false
namespace Go.Ab
open Go.RowKit (Below)
def zH(f F:Fr):Prop:=∀t,f t=F t∨f t=.top
theorem zH.refl(f:Fr):zH f f:=fun _=>.inl rfl
theorem zH.put{f F:Fr}(h:zH f F)(d:Option Nat)(v:V):zH (jy f d v) (jy F d v):=by
 intro t;cases d with
 |none=>exact h t
 |some d=>
  simp only[jy,gy];cases Nat.beq t d
  ·exact h t
  simp
theorem fV{f:Fr}{d:Option Nat}{v:V}{t:Nat}(h:d≠some t):jy f d v t=f t:=by
 cases d with
 |none=>rfl
 |some d=>exact tV (fun e=>h (by rw[e]))
theorem kz{f:Fr}{v:V}{t:Nat}:jy f (some t) v t=v:=by simp[jy,gy,Nat.beq_refl]
section
variable {E:Env} {ops:Array Oper} {w0:bE}
variable{nt:Nat}{μ:Ro}{φ:Nat→aI}{f:Fr}{m:Mem}{a:Act}
theorem Rel.weaken{f':Fr}{w:World}(h:Rel E.P E.aM nt w0 μ φ f m a w)(hf:zH f' f):Rel E.P E.aM nt w0 μ φ f' m a w:=
 {h with
  fr:=fun t=>by
   rcases hf t with e|e
   ·rw[e];exact h.fr t
   ·rw[e];exact .top,
  live:=fun t id hid=>by
   rcases hf t with e|e
   ·rw[e]at hid;exact h.live t id hid
   simp_all}
variable{t:Nat}
theorem Ih{d:Nat}{y:Value}(hd:d<a.tmps.size):(a.put (some d) y).tmps.getD t undef=if t=d then y else a.tmps.getD t undef:=by simp only[Act.put,alD,amI];grind
theorem Rel.put{nt:Nat}{μ μ':Ro}{φ φ':Nat→aI}{f f':Fr}{m m':Mem}{a:Act}{w w':World}(h:Rel E.P E.aM nt w0 μ φ f m a w)(hle:NS μ μ'){dst:Option Nat}{v:V}{y:Value}(hd:∀d,dst=some d→d<nt)(hM:aA E.P E.aM w0 μ' φ' m' w')(hF:cg E.P μ' φ' m' f' (bY nt w0 a))(hv:an E.P μ' φ' v y)(hl:∀id,v.has id=true→(m' id).isSome=true):Rel E.P E.aM nt w0 μ' φ' (jy f' dst v) m' (a.put dst y) w':=by
 refine{toaA:=hM,size:=?_,defers:=?_,nC:=h.nC,fr:=fun t=>?_,live:=fun t id hid=>?_}
 ·cases dst<;>simp[Act.put,h.size]
 ·cases dst<;>exact h.defers.mono hle
 ·cases dst with
  |none=>exact hF.fr t
  |some d=>
   have bQ:d<a.tmps.size:=by rw[h.size];exact hd d rfl
   have hf:=hF.fr t;by_cases e:t=d
   ·subst e;rw[tP (hd t rfl),Ih bQ,T0 rfl,kz];omega
   ·rw[fV (by grind)];unfold bY at hf⊢;split
    ·rename_i ht;rw[T0 ht]at hf;rw[Ih bQ,acB e];omega
    simp_all
 ·by_cases e:dst=some t
  ·grind [kz,id]
  ·rw[fV e]at hid;exact hF.live t id hid
theorem abH(h:t<E.fn.ntmps):bG E f (.tmp t)=f t:=by simp only[bG];rw[show Nat.blt t E.fn.ntmps=true by rw[amt];omega];rfl
theorem Ii{p:PV}(h:bG E f (.tmp t)=.pv p):t<E.fn.ntmps∧f t=.pv p:=by grind [bG,Nat.blt,Nat.blt_eq]
theorem XQ{F:Fr}(h:zH f F)(q:Operand):bG E f q=bG E F q∨bG E f q=.top:=by
 cases q with
 |tmp t=>
  simp only[bG];cases Nat.blt t E.fn.ntmps with
  |true=>exact h t
  |false=>simp
 |_=>exact .inl rfl
def ug(nt:Nat)(ops:Array Oper)(A:List (Nat×Bool))(f:Fr):Prop:=∀g∈A,∃t,(ops[g.1]?).bind (·.dst)=some t∧t<nt∧f t=.pv (.bool g.2)
def D6(ops:Array Oper)(A:List (Nat×Bool))(a:Act):Prop:=∀g∈A,∃t,(ops[g.1]?).bind (·.dst)=some t∧a.tmps.getD t undef=.bool g.2
def adW(ops:Array Oper)(A:List (Nat×Bool))(l:List (Nat×Oper)):Prop:=∀x∈l,∀g∈A,∀t,(ops[g.1]?).bind (·.dst)=some t→x.2.dst≠some t
variable{d:Option Nat}{A:List (Nat×Bool)}
theorem ug.put(h:ug nt ops A f){v:V}(hd:∀g∈A,∀t,(ops[g.1]?).bind (·.dst)=some t→d≠some t):ug nt ops A (jy f d v):=by intro g hg;obtain⟨t,h1,h0,h2⟩:=h g hg;grind [fV]
variable{o:Oper}
theorem jz(h:zZ E o=true):∀d,o.dst=some d→d<E.fn.ntmps:=by grind [zZ,Nat.blt_eq]
variable{b:Bool}
theorem yF{j:Nat}(h:(ops[j]?).bind (·.dst)=some t)(hb:a.tmps.getD t undef=.bool b):yielded ops a.tmps j=some b:=by
 simp only[yielded,h,alr];have:a.tmps[t]?=some (.bool b):=by rw[alD]at hb;grind [undef]
 rw[this]
theorem Fi(ho:guardOf o A=none)(hA:D6 ops A a):Region.wanted o (yielded ops a.tmps)=true:=by
 unfold guardOf at ho;unfold Region.wanted;split at ho
 ·rename_i hg;simp[hg]
 ·rename_i g hg;split at ho
  ·rename_i bk;obtain⟨t,h1,h2⟩:=hA g (by simpa using bk);simp_all[yF]
  ·cases ho
theorem D6.put(h:D6 ops A a){y:Value}(hs:∀t,d=some t→t<a.tmps.size)(hd:∀g∈A,∀t,(ops[g.1]?).bind (·.dst)=some t→d≠some t):D6 ops A (a.put d y):=by
 intro g hg;obtain⟨t,h1,h2⟩:=h g hg;refine⟨t,h1,?_⟩;cases d with
 |none=>exact h2
 |some d=>rw[Ih (hs d rfl),acB fun e=>hd g hg t h1 (by rw[e])];omega
def U0(ops:Array Oper)(f:Fr)(o:Oper):Prop:=∃g,o.guard=some g∧∀t,(ops[g.1]?).bind (·.dst)=some t→f t=.aG []∨f t=.pv (.bool (!g.2))
theorem U1{P:Program}{x:Value}(h:an P μ φ (.aG []) x):x=undef:=by
 cases h with
 | @aG _ xs h1 _=>have:xs= #[]:=anB (by simpa using h1.symm);subst this;rfl
theorem Ij{P:Program}:an P μ φ (.aG []) undef:=.aG rfl (by simp)
theorem Cu{w:World}(h:Rel E.P E.aM nt w0 μ φ f m a w)(hd:U0 ops f o):Region.wanted o (yielded ops a.tmps)=false:=by
 obtain⟨g,hg,ht⟩:=hd;simp only[Region.wanted,hg];cases hs:(ops[g.1]?).bind (·.dst)with
 |none=>simp[yielded,hs]
 |some t=>
  have hy:nt≤t→yielded ops a.tmps g.1=none:=fun hle=>by simp only[yielded,hs,alr];rw[Array.getElem?_eq_none (by rw[h.size];omega)]
  by_cases Gk:nt≤t
  ·rw[hy Gk];rfl
  have bQ:t<nt:=Nat.lt_of_not_le Gk;have h3:=h.fr t;rw[tP bQ]at h3;rcases ht t hs with e|e
  ·rw[e]at h3;have h4:=U1 h3;have:yielded ops a.tmps g.1=none:=by
    simp only[yielded,hs,alr];rw[alD]at h4;cases e:a.tmps[t]? with
    |none=>rfl
    |some x=>rw[e]at h4;simp only[amo]at h4;subst h4;rfl
   rw[this];rfl
  ·rw[e]at h3;rw[yF hs (ue h3)];simp
theorem yG{t:Nat}:∀{l:List (Nat×Oper)}{f:Fr},(∀x∈l,x.2.dst≠some t)→jc f l t=f t
 |[],_,_=>rfl
 |x::r,f,h=>by rw[jc,yG (fun y hy=>h y (by simp[hy])),fV (h x (by simp))]
theorem BS{t:Nat}:∀{l:List (Nat×Oper)}{f:Fr},(∀x∈l,x.2.dst≠some t)→nJ f l t=f t
 |[],_,_=>rfl
 |x::r,f,h=>by rw[nJ,BS (fun y hy=>h y (by simp[hy])),fV (h x (by simp))]
theorem Fj{t:Nat}:∀{l:List (Nat×Oper)}{f:Fr},(f t=.top∨∃x∈l,x.2.dst=some t)→nJ f l t=.top
 |[],_,h=>by
  rcases h with h|⟨x,hx,_⟩
  ·exact h
  ·cases hx
 |x::r,f,h=>by
  rw[nJ];by_cases e:x.2.dst=some t
  ·simp_all[Fj,kz]
  ·refine Fj ?_;rcases h with h|⟨y,hy,hd⟩
   ·simp_all[fV]
   grind
theorem BT{l:List (Nat×Oper)}{F:Fr}(h:∀t,(∀x∈l,x.2.dst≠some t)→f t=F t∨f t=.top):zH (nJ f l) F:=by intro t;grind [Fj,BS]
theorem D7{g:Nat×Bool}{tj:Nat}(hj:(ops[g.1]?).bind (·.dst)=some tj):∀{l:List (Nat×Oper)}{done:List Nat}{f:Fr},zY g done l=true→(∀x∈l,ops[x.1]?=some x.2)→(∀x∈l,x.2.dst≠some tj)→f tj=.pv (.bool (!g.2))→(∀j∈done,∀t,(ops[j]?).bind (·.dst)=some t→f t=.aG [])→∀(pre post:List (Nat×Oper))(x:Nat×Oper),l=pre++x::post→U0 ops (jc f pre) x.2
 |[],_,_,_,_,_,_,_,pre,post,x,h=>by simp at h
 |y::r,done,f,hg,hl,hd,hb,XL,pre,post,x,h=>by
  simp only[zY,ale]at hg;cases pre with
  |nil=>
   simp only[amC,amn]at h;obtain⟨rfl,rfl⟩:=h;rw[jc];have h1:=hg.1;split at h1
   ·rename_i hh Qy;refine⟨hh,Qy,fun t ht=>?_⟩;rcases Bool.or_eq_true_iff.1 h1 with h2|h2
    ·simp_all
    grind
   ·cases h1
  |cons z pre=>
   simp only[amv,amn]at h;obtain⟨rfl,h⟩:=h;rw[jc];refine D7 hj hg.2 (fun x hx=>hl x (by simp[hx])) (fun x hx=>hd x (by simp[hx])) (by simp_all[fV]) (fun j hjm t ht=>?_) pre post x h;by_cases e:y.2.dst=some t
   ·rw[e,kz]
   ·rw[fV e];grind
theorem Ik{A:List (Nat×Bool)}:∀{l a b:List (Nat×Oper)},F8 A l=(a,b)→l=a++b
 |[],a,b,h=>by simp[F8]at h;simp_all
 |x::r,a,b,h=>by
  simp only[F8]at h;split at h
  ·cases hs:F8 A r with
   |mk a' b'=>rw[hs]at h;simp only[akj]at h;obtain⟨rfl,rfl⟩:=h;rw[Ik hs];rfl
  simp_all
theorem D8{v:V}(h:Ci v=some b):v=.pv (.bool b):=by unfold Ci at h;grind
theorem ac3(hE:ku E){site:Nat}{draw:Bool}{v:V}{f':Fr}{m':Mem}{ft:bD}(hn:draw=true∨∃c x y,o.op=.pick c x y)(h:∀(R':Type)(k':V→Fr→Mem→bD→Option R'),Nr E draw site o f m k'=k' v f' m' ft):yD E draw site o f m v f' m' ft:=by
 have hx:=Ma hE (h (V×Fr×Mem×bD) fun v f m ft=>some (v,f,m,ft));rcases hx with⟨v1,f1,m1,ft1,h1,h2⟩|⟨h1,h2,_⟩
 rotate_left
 ·simp_all
 simp_all
theorem NT{R:Type}{site:Nat}{draw:Bool}{p:Oper}{c:Nat}{x y:Operand}{k:V→Fr→Mem→bD→Option R}(hp:p.op=.pick (.tmp c) x y)(hb:bG E f (.tmp c)=.pv (.bool b)):Nr E draw site p f m k=k (bG E f (if b then x else y)) f m []:=by
 have BO:CF E site p f m=none:=by simp only[CF,hp]
 unfold Nr;rw[BO];have e:(bif draw then none else bif E.EW site then(none:Option Sp)else none)=none:=by simp
 rw[e];simp only[cG,hp,hb];cases b<;>rfl
end
section
variable {E:Env} {ops:Array Oper} {w0:bE}
theorem Ao{rd:Option Nat}{Q:Exit→Act→World→Prop}{tail:List Nat}:∀(l:List (Nat×Oper))(f:Fr),(∀x∈l,ops[x.1]?=some x.2)→(∀x∈l,zZ E x.2=true)→(∀(pre post:List (Nat×Oper))(x:Nat×Oper),l=pre++x::post→U0 ops (jc f pre) x.2)→∀{μ:Ro}{φ:Nat→aI}{m:Mem}{a:Act}{w:World},Rel E.P E.aM E.fn.ntmps w0 μ φ f m a w→∀(A:List (Nat×Bool)),D6 ops A a→adW ops A l→(∀a',Rel E.P E.aM E.fn.ntmps w0 μ φ (jc f l) m a' w→D6 ops A a'→wpOpsIn (FR rd) 0 E.P ops Q tail a' w)→wpOpsIn (FR rd) 0 E.P ops Q (l.map (·.1)++tail) a w
 |[],f,_,_,_,_,_,_,a,_,hR,_,hA,_,hK=>hK a hR hA
 |x::r,f,hl,hd,Il,μ,φ,m,a,w,hR,A,hA,Im,hK=>by simp only[alu,amv,wpOpsIn];rw[hl x (by simp)];simp only;rw[Cu hR (Il [] r x rfl)];simp only[IN,Wi];refine And.intro (fun _ _=>trivial) (Ao r (jy f x.2.dst (.aG [])) (fun y hy=>hl y (by simp[hy])) (fun y hy=>hd y (by simp[hy])) (fun pre post y h=>?_) (hR.put (fun _ _ h=>h) (jz (hd x (by simp))) hR.toaA hR.kP Ij (fun id hid=>by simp[V.has,cu]at hid)) A (hA.put (fun t ht=>by rw[hR.size];exact jz (hd x (by simp)) t ht) fun g sL t ht=>Im x (by simp) g sL t ht) (fun y hy=>Im y (by simp[hy])) hK);have:=Il (x::pre) post y (by rw[h];rfl);rwa[jc]at this
theorem CS:∀{ft:bD},DQ ft=true→∀x∈ft,x.1=false
 |[],_,x,hx=>by cases hx
 |(w,id)::r,h,x,hx=>by
  simp only[DQ,ale,alZ]at h;rcases alq.1 hx with rfl|hx
  ·exact h.1
  ·exact CS h.2 x hx
theorem iX(hE:ku E){rd:Option Nat}(hY:xC E.P E.aM E.fn.ntmps E.yl w0):∀(fuel:Nat){mode:Nat}(ny:mode=0∨mode=3){R:Type}{A:List (Nat×Bool)}{l:List (Nat×Oper)}{f:Fr}{m:Mem}{lg:Log}{k:Fr→Mem→Option R}{r:R},cp E ops mode fuel R A l f m lg k=some r→(∀x∈l,ops[x.1]?=some x.2)→adW ops A l→(mode=3→∀x∈l,fv x.2=true)→∀(μ:Ro)(φ:Nat→aI)(a:Act)(w:World)(Q:Exit→Act→World→Prop)(tail:List Nat),Rel E.P E.aM E.fn.ntmps w0 μ φ f m a w→D6 ops A a→(∀(f':Fr)(m':Mem)(μ':Ro)(φ':Nat→aI)(a':Act)(w':World),k f' m'=some r→Rel E.P E.aM E.fn.ntmps w0 μ' φ' f' m' a' w'→D6 ops A a'→(mode=3→m'=m∧∀t,(∀x∈l,x.2.dst≠some t)→f' t=f t)→wpOpsIn (FR rd) 0 E.P ops Q tail a' w')→wpOpsIn (FR rd) 0 E.P ops Q (l.map (·.1)++tail) a w
 |0,_,_,_,_,_,_,_,_,_,_,h,_,_,_,_,_,_,_,_,_,_,_,_=>by simp[cp]at h
 |fuel+1,mode,ny,R,A,[],f,m,lg,k,r,h,_,_,_,μ,φ,a,w,Q,tail,hR,hA,hK=>by simp only[cp]at h;grind
 |fuel+1,mode,ny,R,A,(i,o)::rest,f,m,lg,k,r,h,hl,Im,WM,μ,φ,a,w,Q,tail,hR,hA,hK=>by
  simp only[cp]at h;split at h
  ·rename_i hg;split at h
   ·rename_i hd;have hmm:Nat.beq mode 2=false:=by rcases ny with rfl|rfl<;>rfl
    simp only[hmm,cond_false]at h;rw[←hmm]at h;have hdf:=Fh h;rcases Ma hE h with⟨v,f1,m1,ft,hk,U2⟩|⟨_,pV⟩
    rotate_left
    ·simp only[alu,amv,wpOpsIn];rw[hl (i,o) (by simp)];simp only;rw[Fi hg hA,T0 rfl];refine Ig.CR pV rd w0 μ φ a w _ Q hY hR fun v f1 m1 y w' μ' φ' hk hle hM hF hv LQ=>?_;have cS:Nat.beq mode 2=false:=by omega
     rw[cS]at hk;simp only[IN,Wi]at hk;rcases ny with rfl|rfl
     ·simp only[Nat.beq,IT]at hk;exact iX hE hY fuel (.inl rfl) hk (fun x hx=>hl x (by simp[hx])) (fun x hx=>Im x (by simp[hx])) (fun hm x hx=>WM hm x (by omega)) _ _ _ _ Q tail (hR.put hle (jz hd) hM hF hv LQ) (hA.put (fun t ht=>by rw[hR.size];exact jz hd t ht) fun g sL t ht=>Im (i,o) (by simp) g sL t ht) fun f' m' μ2 φ2 a' w2 ko kn CJ zw=>hK f' m' μ2 φ2 a' w2 ko kn CJ fun h=>by omega
     ·simp[Nat.beq,DQ]at hk
    have cS:Nat.beq mode 2=false:=by omega
    rw[cS]at hk;simp only[IN,Wi]at hk;have hq:(mode=3→f1=f∧m1=m)∧cp E ops mode fuel R A rest (jy f1 o.dst v) m1 lg k=some r:=by
     rcases ny with rfl|rfl
     ·simp_all
     ·simp only[Nat.beq,IN,Wi]at hk;split at hk
      ·rename_i hqf;exact⟨fun h=>U2.same (WM rfl (i,o) (by simp)) (CS hqf),hk⟩
      ·cases hk
    obtain⟨ac4,hk⟩:=hq;simp only[alu,amv,wpOpsIn];rw[hl (i,o) (by simp)];simp only;rw[Fi hg hA,T0 rfl];refine U2.CR hdf rd w0 μ φ a w _ Q hR fun y w' μ' φ' hle hM hF hv LQ=>?_;refine iX hE hY fuel ny hk (fun x hx=>hl x (by simp[hx])) (fun x hx=>Im x (by simp[hx])) (fun hm x hx=>WM hm x (by simp[hx])) _ _ _ _ Q tail (hR.put hle (jz hd) hM hF hv LQ) (hA.put (fun t ht=>by rw[hR.size];exact jz hd t ht) fun g sL t ht=>Im (i,o) (by simp) g sL t ht) fun f' m' μ2 φ2 a' w2 ko kn CJ zw=>?_;refine hK f' m' μ2 φ2 a' w2 ko kn CJ fun hm3=>?_;obtain⟨e1,e2⟩:=ac4 hm3;obtain⟨e3,e4⟩:=zw hm3;refine⟨by rw[e3,e2],fun t ht=>?_⟩;rw[e4 t fun x hx=>ht x (by simp[hx]),fV (ht (i,o) (by simp)),e1]
   ·cases h
  ·rename_i j GZ hg;split at h
   ·rename_i tj htj;split at h
    ·rename_i b hb;have ajz:tj<E.fn.ntmps:=by grind [bG,Nat.blt,Nat.blt_eq]
     have hbf:f tj=.pv (.bool b):=by grind [bG,Nat.blt,Nat.blt_eq]
     have hba:a.tmps.getD tj undef=.bool b:=by have:=(av hR (.tmp tj)).1;rw[hb]at this;exact ue this
     generalize BO:F8 A ((i,o)::rest)=sp at h;obtain⟨body,Nt⟩:=sp;have nS:=Ik BO;simp only at h;split at h
     ·rename_i ac5;split at h
      ·rename_i hc;simp only[ale,al1,alZ,amK,aoA]at hc ac5;obtain⟨⟨PN,PW⟩,agi⟩:=hc;have hm0:mode=0:=acA ac5.1;subst hm0;have bk:∀z∈body,z∈(i,o)::rest:=fun z hz=>by rw[nS];simp[hz]
       have Cv:∀z∈Nt,z∈(i,o)::rest:=fun z hz=>by rw[nS];simp[hz]
       by_cases hbp:b=GZ
       ·have:W0 GZ b=true:=by subst hbp;cases b<;>rfl
        rw[this]at h;simp only[cond]at h;have hfs:gy f tj (.pv (.bool GZ))=f:=funext fun t=>by
         unfold gy;cases e:Nat.beq t tj with
         |false=>rfl
         |true=>simp_all
        rw[hfs]at h;refine iX hE hY fuel ny h hl (fun z hz g sL t ht=>?_) (fun h=>by omega) _ _ _ _ Q tail hR (fun g sL=>?_) fun f' m' μ2 φ2 a' w2 ko kn CJ zw=>hK f' m' μ2 φ2 a' w2 ko kn (fun g sL=>CJ g (by simp[sL])) fun h=>by omega
        ·rcases alq.1 sL with rfl|sL
         ·grind
         ·exact Im z hz g sL t ht
        ·rcases alq.1 sL with rfl|sL
         ·simp_all
         ·exact hA g sL
       ·have:W0 GZ b=false:=by cases b<;>cases GZ<;>first|rfl|exact absurd rfl hbp
        rw[this]at h;simp only[cond]at h;have hbn:b= !GZ:=by cases b<;>cases GZ<;>simp_all
        have hfs:gy f tj (.pv (.bool !GZ))=f:=funext fun t=>by
         unfold gy;cases e:Nat.beq t tj with
         |false=>rfl
         |true=>simp_all
        rw[hfs]at h;rw[nS,alP,alJ];refine Ao body f (fun z hz=>hl z (bk z hz)) PN (D7 htj PW (fun z hz=>hl z (bk z hz)) (fun z hz=>agi z (bk z hz)) (by rw[hbf,hbn]) (by simp)) hR A hA (fun z hz g sL t ht=>Im z (bk z hz) g sL t ht) fun a' kn CJ=>?_
        ·refine iX hE hY fuel ny h (fun z hz=>hl z (Cv z hz)) (fun z hz=>Im z (Cv z hz)) (fun h=>by omega) _ _ _ _ Q tail kn CJ fun f' m' μ2 φ2 a' w2 ko kn CJ zw=>hK f' m' μ2 φ2 a' w2 ko kn CJ fun h=>by omega
      ·cases h
     ·split at h
      ·rename_i ip p nK;split at h
       ·rename_i c x y XR;split at h
        ·rename_i hc;simp only[ale,al1,alZ,amK,aoA]at hc;obtain⟨⟨⟨⟨⟨⟨Qz,hpg⟩,KU⟩,PW⟩,_⟩,hpd⟩,_⟩:=hc;have Qz:=acA Qz;subst Qz;have hpg:guardOf p A=none:=by simpa using hpg
         obtain⟨rb,hrb,h⟩:=M1.1 h;have bk:∀z∈body,z∈(i,o)::rest:=fun z hz=>by rw[nS];simp[hz]
         have Cv:∀z∈nK,z∈(i,o)::rest:=fun z hz=>by rw[nS];simp[hz]
         have SA:(ip,p)∈(i,o)::rest:=by rw[nS];simp
         rw[nS,alP,alJ];have after:∀(f1:Fr)(μ1:Ro)(φ1:Nat→aI)(a1:Act)(w1:World)(q:Operand),Rel E.P E.aM E.fn.ntmps w0 μ1 φ1 f1 m a1 w1→D6 ops A a1→(∀t,(∀z∈body,z.2.dst≠some t)→f1 t=f t)→bG E f1 q=.pv (.bool rb)→(q=if b then x else y)→wpOpsIn (FR rd) 0 E.P ops Q (((ip,p)::nK).map (·.1)++tail) a1 w1:=by
          intro f1 μ1 φ1 a1 w1 q QA hA1 U3 hq hqe;have PL:bG E f1 (.tmp c)=.pv (.bool b):=by grind [bG,Nat.blt,Nat.blt_eq]
          simp only[alu,amv,wpOpsIn];rw[hl (ip,p) SA];simp only;rw[Fi hpg hA1,T0 rfl];have U2:yD E (Nat.beq mode 1||Nat.beq mode 2) (cH E p.dst) p f1 m (.pv (.bool rb)) f1 m []:=ac3 hE (.inr ⟨_,_,_,XR⟩) fun R' k'=>by rw[NT XR PL,←hqe,hq]
          refine U2.CR (fun c h=>by rw[XR]at h;cases h) rd w0 μ1 φ1 a1 w1 _ Q QA fun z w' μ' φ' zw hM hF hv LQ=>?_;have hle:zH (jy (nJ f body) p.dst (.pv (.bool rb))) (jy f1 p.dst (.pv (.bool rb))):=zH.put (BT fun t ht=>.inl (U3 t ht).symm) _ _;refine iX hE hY fuel ny h (fun z hz=>hl z (Cv z hz)) (fun z hz=>Im z (Cv z hz)) (fun hm z hz=>WM hm z (Cv z hz)) _ _ _ _ Q tail ((QA.put zw (jz hpd) hM hF hv LQ).weaken hle) (hA1.put (fun t ht=>by rw[QA.size];exact jz hpd t ht) fun g sL t ht=>Im (ip,p) SA g sL t ht) fun f' m' μ2 φ2 a' w2 ko kn CJ zw=>?_;grind [fV,BS]
         have go:∀q,b=GZ→(q=if b then x else y)→cp E ops 3 fuel Bool ((j,GZ)::A) body f m lg (fun f _=>Ci (bG E f q))=some rb→wpOpsIn (FR rd) 0 E.P ops Q (body.map (·.1)++(((ip,p)::nK).map (·.1)++tail)) a w:=by
          intro q hbp hq hev;refine iX hE hY fuel (.inr rfl) hev (fun z hz=>hl z (bk z hz)) ?_ (fun _ z hz=>(KU z hz).1.1) _ _ _ _ Q _ hR ?_ fun f' m' μ2 φ2 a' w2 ko kn CJ zw=>?_
          ·intro z hz g sL t ht;rcases alq.1 sL with rfl|sL
           ·grind
           ·exact Im z (bk z hz) g sL t ht
          ·intro g sL;rcases alq.1 sL with rfl|sL
           ·simp_all
           ·exact hA g sL
          ·obtain⟨e1,e2⟩:=zw rfl;subst e1;exact after f' μ2 φ2 a' w2 q kn (fun g sL=>CJ g (by simp[sL])) e2 (D8 ko) hq
         have no:∀q,b= !GZ→(q=if b then x else y)→Ci (bG E (nJ f body) q)=some rb→wpOpsIn (FR rd) 0 E.P ops Q (body.map (·.1)++(((ip,p)::nK).map (·.1)++tail)) a w:=by
          intro q hbp hq hev;refine Ao body f (fun z hz=>hl z (bk z hz)) (fun z hz=>(KU z hz).1.2) (D7 htj PW (fun z hz=>hl z (bk z hz)) (fun z hz=>(KU z hz).2) (by rw[hbf,hbp]) (by simp)) hR A hA (fun z hz g sL t ht=>Im z (bk z hz) g sL t ht) fun a' kn CJ=>?_;refine after _ μ φ a' w q kn CJ (fun t ht=>yG ht) ?_ hq;have hv:=D8 hev;cases q with
          |tmp t=>
           simp only[bG]at hv⊢;have hle:zH (nJ f body) (jc f body):=BT fun t ht=>.inl (yG ht).symm;cases e:Nat.blt t E.fn.ntmps with
           |false=>rw[e]at hv;cases hv
           |true=>
            rw[e]at hv;simp only[cond]at hv⊢;rcases hle t with e|e
            ·rw[←e];omega
            simp_all
          |_=>exact hv
         have hbm:(bif Nat.beq mode 0 then 3 else mode)=3:=by rcases ny with rfl|rfl<;>rfl
         grind
        ·cases h
       ·cases h
      ·cases h
    ·cases h
   ·cases h
end
structure Rec where
 i:Nat
 o:Oper
 v:V
 wr:List (Nat×bK)
 ft:bD
 kl:Kl
def Rec.fs(r:Rec)(f:Fr):Fr:=jy (kf r.kl f) r.o.dst r.v
def Rec.ms(r:Rec)(m:Mem):Mem:=xw r.wr (km r.kl m)
def Rec.KV(r:Rec)(id:Nat):Prop:=∃b,(b,id)∈r.kl
def nF(f:Fr):List Rec→Fr
 |[]=>f
 |r::l=>nF (r.fs f) l
def sY(m:Mem):List Rec→Mem
 |[]=>m
 |r::l=>sY (r.ms m) l
def rB(S:Nat→Bool)(f:Fr):List Rec→Fr
 |[]=>f
 |r::l=>rB S (bif S r.i then r.fs f else f) l
def rC(S:Nat→Bool)(m:Mem):List Rec→Mem
 |[]=>m
 |r::l=>rC S (bif S r.i then r.ms m else m) l
theorem Mb:∀{wr:List (Nat×bK)}{m:Mem}{j:Nat},(∀b,(j,b)∉wr)→xw wr m j=m j
 |[],_,_,_=>rfl
 |(id,b)::r,m,j,h=>by rw[xw,Mb fun b' hb=>h b' (by simp[hb])];exact ax fun e=>h b (by simp[e])
theorem XS:∀{wr:List (Nat×bK)}{j:Nat},(∃b,(j,b)∈wr)→∃b',(j,b')∈wr∧∀m:Mem,xw wr m j=some b'
 |[],_,h=>by simp_all
 |(id,b)::r,j,h=>by
  by_cases hr:∃b,(j,b)∈r
  ·obtain⟨b',h1,h2⟩:=XS hr;exact⟨b',by simp[h1],fun m=>h2 _⟩
  ·obtain⟨b0,hb⟩:=h;rcases alq.1 hb with hb|hb
   ·simp only[akj]at hb;obtain⟨rfl,rfl⟩:=hb;simp_all[xw,Mb]
   simp_all
mutual
theorem NU{id:Nat}:∀{v:V},v.zV id=true→v.has id=true
 |.agg cs,h=>yH (cs:=cs) (by simpa[V.zV]using h)
 |.aG cs,h=>yH (cs:=cs) (by simpa[V.zV]using h)
 |.fn _ cs,h=>yH (cs:=cs) (by simpa[V.zV]using h)
 |.zU _ _ _,h=>h
 |.DJ _ _ _ _ _ _,h=>h
 |.pv _,h=>by cases h
 |.fO,h=>by cases h
 |.op _ _,h=>by cases h
 |.oe _ _ _,h=>by cases h
 |.os _,h=>by cases h
 |.fS _ _ _,h=>by cases h
 |.om _,h=>by cases h
 |.yl _,h=>by cases h
 |.it _,h=>by cases h
 |.top,h=>by cases h
theorem yH{id:Nat}:∀{cs:List V},DL id cs=true→cu id cs=true
 |[],h=>by cases h
 |c::r,h=>by
  simp only[DL,aly]at h;simp only[cu,aly];rcases h with h|h
  ·exact .inl (NU h)
  ·exact .inr (yH h)
end
variable{id:Nat}
theorem Gv{v:V}(h:v.has id=false):vA id v=v:=by unfold vA;rw[h];rfl
theorem Gw{id:Nat}:∀{cs:List V},cu id cs=false→cs.map (vA id)=cs
 |[],_=>rfl
 |c::r,h=>by simp only[cu,alG]at h;simp only[alu,Gv h.1,Gw h.2]
theorem NV{b:bK}(h:b.names id=false):gz id b=b:=by
 cases b with
 |box cs=>simp only[gz,Gw (show cu id cs=false from h)]
 |_=>rfl
theorem D9{v:V}(h:v.has id=false):pR id v=v:=by
 unfold pR;cases h2:v.zV id with
 |false=>rfl
 |true=>rw[NU h2]at h;cases h
theorem Ea{id:Nat}:∀{cs:List V},cu id cs=false→cs.map (pR id)=cs
 |[],_=>rfl
 |c::r,h=>by simp only[cu,alG]at h;simp only[alu,D9 h.1,Ea h.2]
theorem Mc{b:bK}(h:b.names id=false):dP id b=b:=by
 cases b with
 |box cs=>simp only[dP,Ea (show cu id cs=false from h)]
 |_=>rfl
theorem Io:∀{kl:Kl}{f:Fr}{t:Nat},(∀id,(∃b,(b,id)∈kl)→(f t).has id=false)→kf kl f t=f t
 |[],_,_,_=>rfl
 |(true,id)::r,f,t,h=>by have h0:fa id f t=f t:=Gv (h id ⟨true,by simp⟩);rw[kf,Io (kl:=r) (f:=fa id f) fun j hj=>by rw[h0];exact h j (let⟨b,hb⟩:=hj;⟨b,by simp[hb]⟩),h0]
 |(false,id)::r,f,t,h=>by have h0:iC id f t=f t:=D9 (h id ⟨false,by simp⟩);rw[kf,Io (kl:=r) (f:=iC id f) fun j hj=>by rw[h0];exact h j (let⟨b,hb⟩:=hj;⟨b,by simp[hb]⟩),h0]
theorem Eb:∀{kl:Kl}{f g:Fr}{t:Nat},f t=g t→kf kl f t=kf kl g t
 |[],_,_,_,h=>h
 |(true,id)::r,f,g,t,h=>Eb (kl:=r) (f:=fa id f) (g:=fa id g) (by simp only[fa,h])
 |(false,id)::r,f,g,t,h=>Eb (kl:=r) (f:=iC id f) (g:=iC id g) (by simp only[iC,h])
theorem Ip:∀{kl:Kl}{m:Mem}{j:Nat},(∀id,(∃b,(b,id)∈kl)→j≠id∧∀b,m j=some b→b.names id=false)→km kl m j=m j
 |[],_,_,_=>rfl
 |(true,id)::r,m,j,h=>by
  obtain⟨h1,h2⟩:=h id ⟨true,by simp⟩;have h0:bx (bI id m) id j=m j:=by
   rw[gr h1];unfold bI;cases hm:m j with
   |none=>rfl
   |some b=>simp only[NV (h2 b hm)]
  rw[km,Ip (kl:=r) (m:=bx (bI id m) id) fun i hi=>by rw[h0];exact h i (let⟨b,hb⟩:=hi;⟨b,by simp[hb]⟩),h0]
 |(false,id)::r,m,j,h=>by
  obtain⟨h1,h2⟩:=h id ⟨false,by simp⟩;have h0:fk id m j=m j:=by
   unfold fk;cases hm:m j with
   |none=>rfl
   |some b=>simp only[Mc (h2 b hm)]
  rw[km,Ip (kl:=r) (m:=fk id m) fun i hi=>by rw[h0];exact h i (let⟨b,hb⟩:=hi;⟨b,by simp[hb]⟩),h0]
theorem Iq:∀{kl:Kl}{m n:Mem}{j:Nat},m j=n j→km kl m j=km kl n j
 |[],_,_,_,h=>h
 |(true,id)::r,m,n,j,h=>Iq (kl:=r) (m:=bx (bI id m) id) (n:=bx (bI id n) id) (by
  by_cases e:j=id
  ·subst e;simp
  simp_all[gr,bI])
 |(false,id)::r,m,n,j,h=>Iq (kl:=r) (m:=fk id m) (n:=fk id n) (by simp only[fk,h])
variable{r:Rec}
theorem Rec.NW{f:Fr}{t:Nat}(h:r.o.dst=some t):r.fs f t=r.v:=by unfold Rec.fs;rw[h,kz]
theorem Rec.SB{f:Fr}{t:Nat}(h:r.o.dst≠some t)(hc:∀id,r.KV id→(f t).has id=false):r.fs f t=f t:=by unfold Rec.fs;rw[fV h];exact Io hc
theorem Rec.Ir{f g:Fr}{t:Nat}(h:f t=g t):r.fs f t=r.fs g t:=by
 by_cases e:r.o.dst=some t
 ·rw[NW e,NW e]
 ·unfold Rec.fs;grind [fV,Eb]
theorem Rec.ac6{j:Nat}(h:∃b,(j,b)∈r.wr):∃b',(j,b')∈r.wr∧∀m,r.ms m j=some b':=let⟨b',h1,h2⟩:=XS h;⟨b',h1,fun m=>h2 _⟩
theorem Rec.XT{m:Mem}{j:Nat}(h:∀b,(j,b)∉r.wr)(hc:∀id,r.KV id→j≠id∧∀b,m j=some b→b.names id=false):r.ms m j=m j:=by unfold Rec.ms;rw[Mb h];exact Ip hc
theorem Rec.Is{m n:Mem}{j:Nat}(h:m j=n j):r.ms m j=r.ms n j:=by
 by_cases e:∃b,(j,b)∈r.wr
 ·obtain⟨b,_,e⟩:=Rec.ac6 e;rw[e,e]
 ·have e':∀b,(j,b)∉r.wr:=fun b hb=>e ⟨b,hb⟩;unfold Rec.ms;grind [Mb,Iq]
section
variable {S S':Nat→Bool}
theorem NX{f:Fr}:∀{l l':List Rec},nF f (l++l')=nF (nF f l) l':=by
 intro l;induction l generalizing f with
 |nil=>intro l';rfl
 |cons r l ih=>intro l';exact ih
theorem NY{m:Mem}:∀{l l':List Rec},sY m (l++l')=sY (sY m l) l':=by
 intro l;induction l generalizing m with
 |nil=>intro l';rfl
 |cons r l ih=>intro l';exact ih
theorem Ap{f:Fr}:∀{l l':List Rec},rB S f (l++l')=rB S (rB S f l) l':=by
 intro l;induction l generalizing f with
 |nil=>intro l';rfl
 |cons r l ih=>intro l';exact ih
theorem Aq{m:Mem}:∀{l l':List Rec},rC S m (l++l')=rC S (rC S m l) l':=by
 intro l;induction l generalizing m with
 |nil=>intro l';rfl
 |cons r l ih=>intro l';exact ih
theorem KW{t:Nat}:∀{l:List Rec}{f:Fr},(∀q∈l,q.o.dst≠some t∧q.kl=[])→nF f l t=f t
 |[],_,_=>rfl
 |r::l,f,h=>by rw[nF,KW fun q hq=>h q (by simp[hq])];obtain⟨h1,h2⟩:=h r (by simp);exact Rec.SB h1 fun id⟨b,hid⟩=>by rw[h2]at hid;cases hid
theorem tG{t:Nat}:∀{l:List Rec}{f:Fr},(∀q∈l,S q.i=true→q.o.dst≠some t∧∀id,q.KV id→(f t).has id=false)→rB S f l t=f t
 |[],_,_=>rfl
 |r::l,f,h=>by
  have h0:(bif S r.i then r.fs f else f) t=f t:=by
   cases e:S r.i with
   |false=>rfl
   |true=>simp_all[Rec.SB]
  rw[rB,tG fun q hq hs=>by rw[h0];exact h q (by simp[hq]) hs,h0]
theorem It{t:Nat}:∀{l:List Rec}{f g:Fr},f t=g t→(∀q∈l,S q.i=false→q.o.dst≠some t∧q.kl=[])→rB S f l t=nF g l t
 |[],_,_,h,_=>h
 |r::l,f,g,h,hs=>by
  rw[rB,nF];refine It ?_ fun q hq=>hs q (by simp[hq]);cases e:S r.i with
  |true=>exact Rec.Ir h
  |false=>obtain⟨h1,h2⟩:=hs r (by simp) e;rw[Rec.SB h1 fun id⟨b,hid⟩=>by rw[h2]at hid;cases hid];exact h
theorem CT{t:Nat}:∀{l:List Rec}{f g:Fr},f t=g t→(∀q∈l,S q.i=S' q.i)→rB S f l t=rB S' g l t
 |[],_,_,h,_=>h
 |r::l,f,g,h,hs=>by
  rw[rB,rB];refine CT ?_ fun q hq=>hs q (by simp[hq]);rw[hs r (by simp)];cases S' r.i
  ·exact h
  ·exact Rec.Ir h
theorem tH{j:Nat}:∀{l:List Rec}{m:Mem},(∀q∈l,S q.i=true→(∀b,(j,b)∉q.wr)∧∀id,q.KV id→j≠id∧∀b,m j=some b→b.names id=false)→rC S m l j=m j
 |[],_,_=>rfl
 |r::l,m,h=>by
  have h0:(bif S r.i then r.ms m else m) j=m j:=by
   cases e:S r.i with
   |false=>rfl
   |true=>simp_all[Rec.XT]
  rw[rC,tH fun q hq hs=>by rw[h0];exact h q (by simp[hq]) hs,h0]
theorem Iu{j:Nat}:∀{l:List Rec}{m n:Mem},m j=n j→(∀q∈l,S q.i=false→(∀b,(j,b)∉q.wr)∧q.kl=[])→rC S m l j=sY n l j
 |[],_,_,h,_=>h
 |r::l,m,n,h,hs=>by
  rw[rC,sY];refine Iu ?_ fun q hq=>hs q (by simp[hq]);cases e:S r.i with
  |true=>exact Rec.Is h
  |false=>obtain⟨h1,h2⟩:=hs r (by simp) e;rw[Rec.XT h1 fun id⟨b,hid⟩=>by rw[h2]at hid;cases hid];exact h
theorem CU{j:Nat}:∀{l:List Rec}{m n:Mem},m j=n j→(∀q∈l,S q.i=S' q.i)→rC S m l j=rC S' n l j
 |[],_,_,h,_=>h
 |r::l,m,n,h,hs=>by
  rw[rC,rC];refine CU ?_ fun q hq=>hs q (by simp[hq]);rw[hs r (by simp)];cases S' r.i
  ·exact h
  ·exact Rec.Is h
end
section
variable {E:Env} {ops:Array Oper} {w0:bE}
def KX(E:Env)(ops:Array Oper)(w0:bE)(r:Rec)(f:Fr)(m:Mem):Prop:=∀(f2:Fr)(m2:Mem),(∀t∈r.o.looksAt ops,f2 t=f t)→(∀x∈r.ft,m2 x.2=m x.2)→∀(μ:Ro)(φ:Nat→aI)(a:Act)(w:World)(K:Act→World→Prop)(Q:Exit→Act→World→Prop),Rel E.P E.aM E.fn.ntmps w0 μ φ f2 m2 a w→(∀μ' φ' a' w',Rel E.P E.aM E.fn.ntmps w0 μ' φ' (r.fs f2) (r.ms m2) a' w'→K a' w')→if Region.wanted r.o (yielded ops a.tmps)then∀rd:Option Nat,r.o.wpIn (FR rd) 0 E.P a w K Q else K (a.put r.o.dst undef) w
def fW(E:Env)(ops:Array Oper)(w0:bE):Fr→Mem→List Rec→Prop
 |_,_,[]=>True
 |f,m,r::l=>KX E ops w0 r f m∧(∀id b,(id,b)∈r.wr→(true,id)∈r.ft)∧fW E ops w0 (r.fs f) (r.ms m) l
theorem fW.append{f:Fr}{m:Mem}{l l':List Rec}:fW E ops w0 f m (l++l')↔fW E ops w0 f m l∧fW E ops w0 (nF f l) (sY m l) l':=by
 induction l generalizing f m with
 |nil=>simp[fW,nF,sY]
 |cons r l ih=>simp_all[amv,fW,nF,sY,ani]
def Clean(ops:Array Oper)(id:Nat)(r:Rec)(f:Fr)(m:Mem):Prop:=(∀t∈r.o.looksAt ops,(f t).has id=false)∧r.v.has id=false∧(∀x∈r.ft,x.2≠id∧∀b,m x.2=some b→b.names id=false)∧∀j b,(j,b)∈r.wr→(∀m,r.ms m j=some b)→j≠id∧b.names id=false
def qA(ops:Array Oper):Fr→Mem→List Rec→Prop
 |_,_,[]=>True
 |f,m,r::l=>(∀q∈l,∀id,q.KV id→reach ops 4 q.o r.i=true∨Clean ops id r f m)∧qA ops (r.fs f) (r.ms m) l
theorem qA.append{f:Fr}{m:Mem}{l l':List Rec}(h:qA ops f m (l++l')):qA ops (nF f l) (sY m l) l':=by
 induction l generalizing f m with
 |nil=>exact h
 |cons r l ih=>exact ih h.2
def Ord(ops:Array Oper)(q r:Rec):Prop:=reach ops 4 r.o q.i=true∨(q.o.apart ops r.o=true∧(∀id b,(id,b)∈q.wr→∀x∈r.ft,x.2≠id)∧∀id b,(id,b)∈r.wr→∀x∈q.ft,x.2≠id)
theorem U4{o:Oper}{j:Nat}(h:HA o j=true):∃e∈o.after,Region.binds .any e=true∧e.on=j:=by unfold HA at h;obtain⟨e,he,h⟩:=amx.1 h;have he:e∈o.after:=amT.1 he;simp only[ale]at h;grind [Nat.eq_of_beq_eq_true]
abbrev aJ(l:Array Bool):Nat→Bool:=fun i=>l.getD i false
def CV(ops:Array Oper)(listed:Array Bool):Prop:=∀i o,ops[i]?=some o→aJ listed i=true→∀e∈o.after,Region.binds .any e=true→aJ listed e.on=true
theorem uh(listed:Array Bool)(xJ:CV ops listed):∀(n:Nat)(o:Oper)(j:Nat),(∀e∈o.after,Region.binds .any e=true→aJ listed e.on=true)→reach ops n o j=true→aJ listed j=true:=by
 have agj:∀(o:Oper)(j:Nat),(∀e∈o.after,Region.binds .any e=true→aJ listed e.on=true)→HA o j=true→aJ listed j=true:=fun o j ho h=>by grind [U4]
 intro n;induction n with
 |zero=>exact fun o j ho h=>agj o j ho h
 |succ n ihn=>
  intro o j ho h;simp only[reach,aly]at h;rcases h with h|h
  ·exact agj o j ho h
  ·obtain⟨e,he,h⟩:=amx.1 h;simp only[ale]at h;obtain⟨hb,h⟩:=h;have he:e∈o.after:=amT.1 he;split at h
   ·rename_i p hp;exact ihn p j (xJ e.on p hp (ho e he hb)) h
   ·cases h
theorem XU{rd:Option Nat}{recs:List Rec}{f0:Fr}{m0:Mem}{Q:Exit→Act→World→Prop}{base:Nat→Bool}(bQ:recs.Pairwise fun q r=>q.i≠r.i)(pV:∀r∈recs,ops[r.i]?=some r.o)(ac7:∀r∈recs,base r.i=false)(ac8:∀i o,ops[i]?=some o→base i=false→(∀r∈recs,r.i≠i)→(∀r∈recs,reach ops 8 o r.i=true)∨∃j,reach ops 8 o j=true∧base j=false∧∀r∈recs,r.i≠j)(agk:recs.Pairwise (Ord ops))(yf:recs.Pairwise fun q r=>q.kl≠[]→reach ops 4 r.o q.i=true)(ajA:qA ops f0 m0 recs)(XV:∀r∈recs,∀e∈r.o.after,Region.binds .any e=true→e.on<r.i∧(base e.on=true∨∃q∈recs,q.i=e.on))(gT:fW E ops w0 f0 m0 recs)(hQ:∀(fuel:Nat)(listed:Array Bool),listed.size=ops.size→listed.toList.countP (fun b=> !b)≤fuel→CV ops listed→(∀i,aJ listed i=true↔base i=true∨∃r∈recs,r.i=i)→∀μ φ a w,Rel E.P E.aM E.fn.ntmps w0 μ φ (nF f0 recs) (sY m0 recs) a w→wpAnyIn (FR rd) 0 E.P .any ops Q fuel listed a w):∀(fuel:Nat)(listed:Array Bool),listed.size=ops.size→listed.toList.countP (fun b=> !b)≤fuel→CV ops listed→(∀i,base i=true→aJ listed i=true)→(∀i,aJ listed i=true→base i=true∨∃r∈recs,r.i=i)→∀(μ:Ro)(φ:Nat→aI)(a:Act)(w:World),Rel E.P E.aM E.fn.ntmps w0 μ φ (rB (aJ listed) f0 recs) (rC (aJ listed) m0 recs) a w→wpAnyIn (FR rd) 0 E.P .any ops Q fuel listed a w:=by
 have done:∀(fuel:Nat)(listed:Array Bool),listed.size=ops.size→listed.toList.countP (fun b=> !b)≤fuel→CV ops listed→(∀i,base i=true→aJ listed i=true)→(∀i,aJ listed i=true→base i=true∨∃r∈recs,r.i=i)→(∀r∈recs,aJ listed r.i=true)→∀(μ:Ro)(φ:Nat→aI)(a:Act)(w:World),Rel E.P E.aM E.fn.ntmps w0 μ φ (rB (aJ listed) f0 recs) (rC (aJ listed) m0 recs) a w→wpAnyIn (FR rd) 0 E.P .any ops Q fuel listed a w:=by
  intro fuel listed hs hc xJ hb vE hl μ φ a w hR;have e1:rB (aJ listed) f0 recs=nF f0 recs:=funext fun t=>It rfl fun q hq hf=>by rw[hl q hq]at hf;cases hf
  have e2:rC (aJ listed) m0 recs=sY m0 recs:=funext fun t=>Iu rfl fun q hq hf=>by rw[hl q hq]at hf;cases hf
  rw[e1,e2]at hR;exact hQ fuel listed hs hc xJ (fun i=>⟨vE i,fun h=>h.elim (hb i) fun⟨r,hr,e⟩=>e▸hl r hr⟩) μ φ a w hR
 have abI:∀(listed:Array Bool),listed.size=ops.size→(∀i,base i=true→aJ listed i=true)→(∀r∈recs,r.i∉Region.ready .any ops listed)→∀(n:Nat)(r:Rec),r∈recs→r.i<n→aJ listed r.i=true:=by
  intro listed hs hb hr n;induction n with
  |zero=>intro r _ h;omega
  |succ n ih=>
   intro r DY hi;cases hc:aJ listed r.i with
   |true=>rfl
   |false=>
    exfalso;have bQ:r.i<listed.size:=by rw[hs];exact(alm.1 (pV r DY)).1
    refine hr r DY (mem_ready.2 ⟨by simp only[aJ,alD,ald bQ,amo]at hc⊢;exact hc,r.o,pV r DY,fun e he je=>?_⟩);obtain⟨h1,h2⟩:=XV r DY e he je;rcases h2 with h2|⟨q,hq,hqi⟩
    ·exact hb _ h2
    ·have:=ih q hq (by omega);rwa[hqi]at this
 intro fuel;induction fuel with
 |zero=>
  intro listed hs hc xJ hb vE μ φ a w hR;refine done 0 listed hs hc xJ hb vE (fun r hr=>?_) μ φ a w hR;have bQ:r.i<listed.size:=by rw[hs];exact(alm.1 (pV r hr)).1
  have:=aor.1 (Nat.le_zero.1 hc) listed[r.i] (by simp);simp only[aJ,alD,ald bQ,amo];simpa using this
 |succ fuel ih=>
  intro listed hs hc xJ hb vE μ φ a w hR;by_cases XW:∀r∈recs,aJ listed r.i=true
  ·exact done (fuel+1) listed hs hc xJ hb vE XW μ φ a w hR
  have agl:∃r∈recs,aJ listed r.i=false:=by
   refine al7 fun cC=>XW fun r hr=>?_;cases hx:aJ listed r.i with
   |true=>rfl
   |false=>exact absurd ⟨r,hr,hx⟩ cC
  refine⟨fun h0=>absurd (fun r hr=>abI listed hs hb (fun r hr h=>by rw[h0]at h;cases h) (r.i+1) r hr (by omega)) XW,fun i hi=>?_⟩;obtain⟨XX,o,ho,Iv⟩:=mem_ready.1 hi;have agm:aJ listed i=false:=by
   have bQ:i<listed.size:=by rw[hs];exact(alm.1 ho).1
   simp only[aJ,alD,ald bQ,amo]at XX⊢;exact XX
  have hex:∃r∈recs,r.i=i∧r.o=o:=by
   refine al7 fun cC=>?_;have PM:∀r∈recs,r.i≠i:=fun r hr e=>cC ⟨r,hr,e,by have:=pV r hr;rw[e,ho]at this;exact(ant this).symm⟩;have hbi:base i=false:=by
    cases hx:base i with
    |false=>rfl
    |true=>rw[hb i hx]at agm;cases agm
   rcases ac8 i o ho hbi PM with h|⟨j,h1,h2,h3⟩
   ·obtain⟨r,hr,hrl⟩:=agl;rw[uh listed xJ 8 o r.i Iv (h r hr)]at hrl;cases hrl
   ·have:=uh listed xJ 8 o j Iv h1;rcases vE j this with h|⟨r,hr,e⟩
    ·rw[h]at h2;cases h2
    ·exact h3 r hr e
  obtain⟨r,hr,rfl,rfl⟩:=hex;have XY:r.i<listed.size:=by rw[hs];exact(alm.1 ho).1
  have hSi:aJ listed r.i=false:=by simp only[aJ,alD,ald XY,amo]at XX⊢;exact XX
  obtain⟨pre,post,nS⟩:=List.append_of_mem hr;subst nS;have Iw:∀q∈pre,Ord ops q r:=fun q hq=>(aml.1 agk).2.2 q hq r (by simp);have SC:∀q∈post,Ord ops r q:=fun q hq=>(amm.1 (aml.1 agk).2.1).1 q hq;have adX:∀q∈post,q.i≠r.i:=fun q hq=>((amm.1 (aml.1 bQ).2.1).1 q hq).symm;have agn:∀q∈pre,q.i≠r.i:=fun q hq=>(aml.1 bQ).2.2 q hq r (by simp);have ago:∀q:Rec,reach ops 4 r.o q.i=true→aJ listed q.i=true:=fun q h=>uh listed xJ 4 r.o q.i Iv h;have QB:∀q∈post,reach ops 4 q.o r.i=true→aJ listed q.i=false:=fun q hq h=>by
   cases hc':aJ listed q.i with
   |false=>rfl
   |true=>have:=uh listed xJ 4 q.o r.i (xJ q.i q.o (pV q (by simp[hq])) hc') h;rw[hSi]at this;cases this
  have ac9:∀(f:Fr),rB (aJ listed) f (r::post)=rB (aJ listed) f post:=fun f=>by rw[rB,hSi];rfl
  have XZ:∀(m:Mem),rC (aJ listed) m (r::post)=rC (aJ listed) m post:=fun m=>by rw[rC,hSi];rfl
  obtain⟨_,adY,hrw,_⟩:=fW.append.1 gT;have hc:=ajA.append.1;have ada:∀q∈pre,q.kl≠[]→reach ops 4 r.o q.i=true:=fun q hq=>(aml.1 yf).2.2 q hq r (by simp);have X0:r.kl≠[]→∀q∈post,reach ops 4 q.o r.i=true:=fun h q hq=>(amm.1 (aml.1 yf).2.1).1 q hq h;unfold wpOpIn;rw[pV r hr];simp only;have U3:∀t∈r.o.looksAt ops,rB (aJ listed) f0 pre t=nF f0 pre t:=fun t ht=>It rfl fun q hq hs=>by
   have PM:¬reach ops 4 r.o q.i=true:=fun h=>by rw[ago q h]at hs;cases hs
   refine⟨fun hd=>?_,?_⟩
   ·rcases Iw q hq with h|⟨h,_⟩
    ·exact PM h
    ·exact absurd ht ((Oper.apart_spec h).1 t hd)
   ·exact al7 fun cC=>PM (ada q hq cC)
  have hm1:∀x∈r.ft,rC (aJ listed) m0 pre x.2=sY m0 pre x.2:=fun x hx=>Iu rfl fun q hq hs=>by
   have PM:¬reach ops 4 r.o q.i=true:=fun h=>by rw[ago q h]at hs;cases hs
   refine⟨fun b hb=>?_,?_⟩
   ·rcases Iw q hq with h|⟨_,h,_⟩
    ·exact PM h
    ·exact absurd rfl (h _ b hb x hx)
   ·exact al7 fun cC=>PM (ada q hq cC)
  have hnp:∀q∈post,aJ listed q.i=true→¬reach ops 4 q.o r.i=true:=fun q hq hs h=>by rw[QB q hq h]at hs;cases hs
  have hf2:∀t∈r.o.looksAt ops,rB (aJ listed) f0 (pre++r::post) t=nF f0 pre t:=fun t ht=>by
   rw[Ap,ac9,tG fun q hq hs=>⟨fun hd=>?_,fun id hid=>?_⟩]
   ·exact U3 t ht
   ·rcases SC q hq with h|⟨h,_⟩
    ·exact hnp q hq hs h
    ·exact absurd ht ((Oper.apart_spec h).2.2 t hd)
   ·rw[U3 t ht];rcases hc q hq id hid with h|h
    ·exact absurd h (hnp q hq hs)
    ·exact h.1 t ht
  have cS:∀x∈r.ft,rC (aJ listed) m0 (pre++r::post) x.2=sY m0 pre x.2:=fun x hx=>by
   rw[Aq,XZ,tH fun q hq hs=>⟨fun b hb=>?_,fun id hid=>?_⟩]
   ·exact hm1 x hx
   ·rcases SC q hq with h|⟨_,_,h⟩
    ·exact hnp q hq hs h
    ·exact absurd rfl (h _ b hb x hx)
   ·rw[hm1 x hx];rcases hc q hq id hid with h|h
    ·exact absurd h (hnp q hq hs)
    ·exact h.2.2.1 x hx
  have hwp:=adY _ _ hf2 cS μ φ a w (wpAnyIn (FR rd) 0 E.P .any ops Q fuel (listed.setIfInBounds r.i true)) Q hR fun μ' φ' a' w' kn=>by
   have hS':∀j,aJ (listed.setIfInBounds r.i true) j=if j=r.i then true else aJ listed j:=fun j=>by
    simp only[aJ,alD,amI];by_cases e:r.i=j
    ·subst e;simp[XY]
    ·have e':¬j=r.i:=fun h=>e h.symm;simp[e,e']
   refine ih (listed.setIfInBounds r.i true) (by simp[hs]) ?_ ?_ ?_ ?_ μ' φ' a' w' ?_
   ·rw[anM,List.countP_set (by simpa using XY)];have:listed.toList[r.i]'(by simpa using XY)=false:=by simp only[aJ,alD,ald XY,amo]at hSi;simpa using hSi
    rw[this];simp only[alA,IT,alc,IN,Wi];omega
   ·intro i' o' X1 sI e he PN;rw[hS']at sI⊢;split
    ·rfl
    ·split at sI
     ·rename_i hqi;subst hqi;have:o'=r.o:=by rw[pV r hr]at X1;exact(ant X1).symm
      subst this;exact Iv e he PN
     ·exact xJ i' o' X1 sI e he PN
   ·intro i' sI;rw[hS'];split
    ·rfl
    ·exact hb i' sI
   ·intro i' sI;rw[hS']at sI;split at sI
    ·rename_i hqi;exact Or.inr ⟨r,hr,hqi.symm⟩
    ·exact vE i' sI
   ·have adb:∀q∈pre,aJ (listed.setIfInBounds r.i true) q.i=aJ listed q.i:=fun q hq=>by rw[hS',acB (agn q hq)]
    have Ar:∀q∈post,aJ (listed.setIfInBounds r.i true) q.i=aJ listed q.i:=fun q hq=>by rw[hS',acB (adX q hq)]
    have hSr:aJ (listed.setIfInBounds r.i true) r.i=true:=by rw[hS',T0 rfl]
    have e1:rB (aJ (listed.setIfInBounds r.i true)) f0 (pre++r::post)=r.fs (rB (aJ listed) f0 (pre++r::post)):=funext fun t=>by
     have hg:rB (aJ (listed.setIfInBounds r.i true)) f0 pre=rB (aJ listed) f0 pre:=funext fun s=>CT rfl adb;rw[Ap,Ap,ac9,rB,hSr,hg];simp only[cond];by_cases hk:r.kl=[]
     ·by_cases hd:r.o.dst=some t
      ·rw[Rec.NW hd,tG fun q hq hs=>⟨fun hqd=>?_,fun id hid=>?_⟩,Rec.NW hd]
       ·rw[Ar q hq]at hs;rcases SC q hq with h|⟨h,_⟩
        ·exact hnp q hq hs h
        ·exact absurd hqd ((Oper.apart_spec h).2.1 t hd)
       ·rw[Ar q hq]at hs;rw[Rec.NW hd];rcases hc q hq id hid with h|h
        ·exact absurd h (hnp q hq hs)
        ·exact h.2.1
      ·have zT:∀(g:Fr),r.fs g t=g t:=fun g=>Rec.SB hd fun id⟨b,hid⟩=>by rw[hk]at hid;cases hid
       rw[zT];exact CT (zT _) Ar
     ·have XX:∀q∈post,aJ listed q.i=false:=fun q hq=>QB q hq (X0 hk q hq);rw[tG fun q hq hs=>by rw[Ar q hq,XX q hq]at hs;cases hs];exact Rec.Ir (tG fun q hq hs=>by rw[XX q hq]at hs;cases hs).symm
    have e2:rC (aJ (listed.setIfInBounds r.i true)) m0 (pre++r::post)=r.ms (rC (aJ listed) m0 (pre++r::post)):=funext fun j=>by
     have hg:rC (aJ (listed.setIfInBounds r.i true)) m0 pre=rC (aJ listed) m0 pre:=funext fun s=>CU rfl adb;rw[Aq,Aq,XZ,rC,hSr,hg];simp only[cond];by_cases hk:r.kl=[]
     ·by_cases hd:∃b,(j,b)∈r.wr
      ·obtain⟨b,hd,zS⟩:=Rec.ac6 hd;rw[zS,tH fun q hq hs=>⟨fun b' hqd=>?_,fun id hid=>?_⟩,zS]
       ·rw[Ar q hq]at hs;rcases SC q hq with h|⟨_,_,h⟩
        ·exact hnp q hq hs h
        ·exact absurd rfl (h j b' hqd (true,j) (hrw j b hd))
       ·rw[Ar q hq]at hs;rcases hc q hq id hid with h|h
        ·exact absurd h (hnp q hq hs)
        ·obtain⟨h1,h2⟩:=h.2.2.2 j b hd zS;refine⟨h1,fun b' je=>?_⟩;rw[zS]at je;cases je;exact h2
      ·have hd':∀b,(j,b)∉r.wr:=fun b hb=>hd ⟨b,hb⟩;have zT:∀(g:Mem),r.ms g j=g j:=fun g=>Rec.XT hd' fun id⟨b,hid⟩=>by rw[hk]at hid;cases hid
       rw[zT];exact CU (zT _) Ar
     ·have XX:∀q∈post,aJ listed q.i=false:=fun q hq=>QB q hq (X0 hk q hq);rw[tH fun q hq hs=>by rw[Ar q hq,XX q hq]at hs;cases hs];exact Rec.Is (tH fun q hq hs=>by rw[XX q hq]at hs;cases hs).symm
    rw[e1,e2];exact kn
  split
  ·rename_i hw;rw[T0 hw]at hwp;exact hwp rd
  ·rename_i hw;rw[acB hw]at hwp;exact⟨fun _ _=>trivial,hwp⟩
end
section
variable {E:Env} {ops:Array Oper} {w0:bE}
variable{o:Oper}
theorem U5{t:Nat}(h:.tmp t∈o.op.operands):t∈o.looksAt ops:=by unfold Oper.looksAt;refine alM.2 (.inl (am7.2 ⟨.tmp t,by simpa using h,rfl⟩))
theorem As{g:Nat×Bool}{t:Nat}(hg:o.guard=some g)(h:(ops[g.1]?).bind (·.dst)=some t):t∈o.looksAt ops:=by simp_all[Oper.looksAt]
variable{f F:Fr}
theorem BU(h:∀t∈o.looksAt ops,f t=F t):∀x∈o.op.operands,bG E f x=bG E F x:=by
 intro x hx;cases x with
 |tmp t=>simp_all[bG,U5]
 |_=>rfl
variable{A:List (Nat×Bool)}{φ:Nat→aI}{a:Act}{w:World}
theorem NZ{f2:Fr}{m2:Mem}{μ:Ro}(hg:guardOf o A=none)(hA:ug E.fn.ntmps ops A f)(hR:Rel E.P E.aM E.fn.ntmps w0 μ φ f2 m2 a w)(hf:∀t∈o.looksAt ops,f2 t=f t):Region.wanted o (yielded ops a.tmps)=true:=by
 unfold guardOf at hg;unfold Region.wanted;split at hg
 ·rename_i Qy;simp[Qy]
 ·rename_i g Qy;split at hg
  ·rename_i bk;obtain⟨t,h1,h0,h2⟩:=hA g (by simpa using bk);have h3:=hR.fr t;grind [tP,As,yF,ue]
  ·cases hg
variable{i:Nat}{ft:bD}{m:Mem}
theorem Ix(hE:ku E){v:V}{wr:List (Nat×bK)}(hg:guardOf o A=none)(hA:ug E.fn.ntmps ops A f)(hd:zZ E o=true)(hn:∀(f2:Fr)(m2:Mem),(∀x∈o.op.operands,bG E f2 x=bG E f x)→(∀x∈ft,m2 x.2=m x.2)→∀(R':Type)(k':V→Fr→Mem→bD→Option R'),Nr E true (cH E o.dst) o f2 m2 k'=k' v f2 (xw wr m2) ft):KX E ops w0 ⟨i,o,v,wr,ft,[]⟩ f m:=by
 intro f2 m2 hf hm μ φ a w K Q hR hK;have hw:Region.wanted o (yielded ops a.tmps)=true:=by
  unfold guardOf at hg;unfold Region.wanted;split at hg
  ·rename_i Qy;simp[Qy]
  ·rename_i g Qy;split at hg
   ·rename_i bk;obtain⟨t,h1,h0,h2⟩:=hA g (by simpa using bk);have h3:=hR.fr t;grind [tP,As,yF,ue]
   ·cases hg
 simp only at hf hm hK⊢;rw[T0 hw];exact fun rd=>(ac3 hE (.inl rfl) (hn f2 m2 (BU hf) hm)).CR (Fh (hn f2 m2 (BU hf) hm Unit fun _ _ _ _=>some ())) rd w0 μ φ a w K Q hR fun y w' μ' φ' hle hM hF hv hl=>hK _ _ _ _ (hR.put hle (jz hd) hM hF hv hl)
theorem QC(hd:zZ E o=true)(Il:U0 ops f o):KX E ops w0 ⟨i,o,.aG [],[],[],[]⟩ f m:=by
 intro f2 m2 hf hm μ φ a w K Q hR hK;simp only at hf hm hK⊢;have adZ:U0 ops f2 o:=by obtain⟨g,hg,ht⟩:=Il;exact⟨g,hg,fun t h=>by simp_all[As]⟩
 rw[Cu hR adZ];simp only[IN,Wi];exact hK _ _ _ _ (hR.put (fun _ _ h=>h) (jz hd) hR.toaA hR.kP Ij (fun id hid=>by simp[V.has,cu]at hid))
def Ec(x:Nat×Oper):Rec:=⟨x.1,x.2,.aG [],[],[],[]⟩
theorem KY{m:Mem}:∀(l:List (Nat×Oper))(F:Fr),(∀x∈l,zZ E x.2=true)→(∀(pre post:List (Nat×Oper))(x:Nat×Oper),l=pre++x::post→U0 ops (jc F pre) x.2)→fW E ops w0 F m (l.map Ec)∧nF F (l.map Ec)=jc F l
 |[],F,_,_=>⟨trivial,rfl⟩
 |x::r,F,hd,Il=>by obtain⟨h1,h2⟩:=KY (m:=m) r (jy F x.2.dst (.aG [])) (fun y hy=>hd y (by simp[hy])) (fun pre post y h=>by have:=Il (x::pre) post y (by rw[h];rfl);rwa[jc]at this);exact⟨⟨QC (hd x (by simp)) (Il [] r x rfl),by simp[Ec],h1⟩,h2⟩
theorem KZ{m:Mem}:∀{l:List Rec},(∀q∈l,q.wr=[]∧q.kl=[])→sY m l=m
 |[],_=>rfl
 |r::l,h=>by
  obtain⟨h1,h2⟩:=h r (by simp);have:r.ms m=m:=by unfold Rec.ms;rw[h1,h2];rfl
  simp_all[sY,KZ]
theorem fW.wr:∀{l:List Rec}{f:Fr}{m:Mem},fW E ops w0 f m l→∀q∈l,∀id b,(id,b)∈q.wr→(true,id)∈q.ft
 |[],_,_,_,q,hq=>by cases hq
 |r::l,f,m,h,q,hq=>by
  rcases alq.1 hq with rfl|hq
  ·exact h.2.1
  ·exact fW.wr h.2.2 q hq
def X2(q r:Rec):Prop:=reach ops 4 r.o q.i=true∨((∀id b,(id,b)∈q.wr→∀x∈r.ft,x.2≠id)∧∀id b,(id,b)∈r.wr→∀x∈q.ft,x.2≠id)
theorem N0{o:Oper}{w:Bool}{id:Nat}:∀{lg:Log},R9 ops o w id lg=true→∀x∈lg,id≠x.2.2∨(w=false∧x.2.1=false)∨reach ops 4 o x.1=true
 |[],_,x,hx=>by cases hx
 |(j,w',vq)::lg,h,x,hx=>by
  simp only[R9,ale]at h;rcases alq.1 hx with rfl|hx
  ·have h1:=h.1;simp only[aly,alZ,ale]at h1;grind [Nat.beq_refl]
  ·exact N0 h.2 x hx
theorem Fk{o:Oper}{lg:Log}:∀{ft:bD},E4 ops o lg ft=true→∀y∈ft,∀x∈lg,y.2≠x.2.2∨(y.1=false∧x.2.1=false)∨reach ops 4 o x.1=true
 |[],_,y,hy=>by cases hy
 |(w,id)::ft,h,y,hy=>by
  simp only[E4,ale]at h;rcases alq.1 hy with rfl|hy
  ·exact N0 h.1
  ·exact Fk h.2 y hy
theorem Iy{o:Oper}{id:Nat}:∀{lg:Log},Ha ops o id lg=true→∀x∈lg,x.2.2=BD id→reach ops 4 o x.1=true
 |[],_,x,hx=>by cases hx
 |(j,w,n)::lg,h,x,hx=>by
  simp only[Ha,ale,aly,alZ]at h;intro he;rcases alq.1 hx with rfl|hx
  ·simp_all
  ·exact Iy h.2 x hx he
mutual
theorem SD{id:Nat}:∀(v:V),v.has id=true→id∈v.ids
 |.agg cs,h=>xO cs (by simpa only[V.has]using h)
 |.aG cs,h=>xO cs (by simpa only[V.has]using h)
 |.fn _ cs,h=>xO cs (by simpa only[V.has]using h)
 |.os j,h=>by have:=acA h;subst this;simp[V.ids]
 |.fS j _ _,h=>by have:=acA h;subst this;simp[V.ids]
 |.oe j _ _,h=>by have:=acA h;subst this;simp[V.ids]
 |.om j,h=>by have:=acA h;subst this;simp[V.ids]
 |.zU j _ _,h=>by have:=acA h;subst this;simp[V.ids]
 |.DJ j _ _ _ _ _,h=>by have:=acA h;subst this;simp[V.ids]
 |.op j _,h=>by have:=acA h;subst this;simp[V.ids]
 |.it j,h=>by have:=acA h;subst this;simp[V.ids]
 |.yl j,h=>by have:=acA h;subst this;simp[V.ids]
 |.pv _,h=>by cases h
 |.fO,h=>by cases h
 |.top,h=>by cases h
theorem xO{id:Nat}:∀(cs:List V),cu id cs=true→id∈Ns cs
 |[],h=>by cases h
 |v::r,h=>by
  simp only[cu,aly]at h;simp only[Ns,alM];rcases h with h|h
  ·exact .inl (SD v h)
  ·exact .inr (xO r h)
end
variable{id:Nat}
theorem Ee{b:bK}(h:b.names id=true):id∈HB (some b):=by
 cases b with
 |box cs=>exact xO cs h
 |_=>cases h
theorem CW{m m':Mem}{id:Nat}:∀{ft:bD}{x:Bool×Nat},x∈ft→(id∈HB (m x.2)∨id∈HB (m' x.2))→id∈LL m m' ft
 |y::ft,x,hx,h=>by
  simp only[LL,alM];rcases alq.1 hx with rfl|hx
  ·exact .inl h
  ·exact .inr (CW hx h)
theorem X3{v:V}{wr:List (Nat×bK)}(N1:∀t∈o.looksAt ops,f t=F t)(hwr:∀j b,(j,b)∈wr→(true,j)∈ft)(hn:id∉G9 ops o f m (xw wr m) v ft)(hft:∀x∈ft,x.2≠id):Clean ops id ⟨i,o,v,wr,ft,[]⟩ F m:=by
 simp only[G9,alM,anY]at hn;obtain⟨⟨h1,h2⟩,h3⟩:=hn;refine⟨fun t ht=>?_,?_,fun x hx=>⟨hft x hx,fun b hb=>?_⟩,fun j b hb zS=>⟨hft _ (hwr j b hb),?_⟩⟩
 ·cases e:(F t).has id with
  |false=>rfl
  |true=>exact absurd (xO _ (cN.2 ⟨f t,alC.2 ⟨t,ht,rfl⟩,by rw[N1 t ht];omega⟩)) h1
 ·cases e:v.has id with
  |false=>rfl
  |true=>exact absurd (SD _ e) h2
 ·cases e:b.names id with
  |false=>rfl
  |true=>grind [absurd,CW,Ee]
 ·cases e:b.names id with
  |false=>rfl
  |true=>exact absurd (CW (hwr j b hb) (.inr (by have je:xw wr m j=some b:=zS m;simp_all[Ee]))) h3
variable{R:Type}
theorem QD{site:Nat}{rd:bD}(h:yq E f m o=some (id,rd)){k:V→Fr→Mem→bD→Option R}{r:R}(hx:cG E false site o f m k=some r):(∀x∈rd,x.1=false)∧∃dJ,k (.os id) (fa id f) (aw (bx (bI id m) id) id dJ) [(true,0)]=some r∧∀(f2:Fr)(m2:Mem),(∀x∈o.op.operands,bG E f2 x=bG E f x)→(∀x∈(true,id)::rd,m2 x.2=m x.2)→∀(R':Type)(k':V→Fr→Mem→bD→Option R'),cG E false site o f2 m2 k'=k' (.os id) (fa id f2) (aw (bx (bI id m2) id) id dJ) [(true,0)]:=by
 obtain⟨dst,op,type,pos,after,guard⟩:=o;unfold yq at h;simp only at h;split at h
 ·rename_i c;obtain⟨callee,args,argTypes⟩:=c;simp only at h;split at h
  ·rename_i vq x t t' ud hty;split at h
   ·rename_i e hu;split at h
    ·rename_i new rd' KI;split at h
     ·cases h
     ·rename_i hxh;simp only[By,akj]at h;obtain⟨rfl,rfl⟩:=h;obtain⟨he1,he2,_⟩:=pU KI;have ak5:∀m2:Mem,bx (bI vq m2) vq vq=none:=fun m2=>by simp_all
      have main:∀(f2:Fr)(m2:Mem),args.toList.map (bG E f2)=[.os vq,x]→m2 vq=m vq→fD m2 (aV E.P e) x=some (new,rd')→∀(R':Type)(k':V→Fr→Mem→bD→Option R'),cG E false site ⟨dst,.call ⟨.builtin .append,args,argTypes⟩,type,pos,after,guard⟩ f2 m2 k'=if !(decide (t'=t))then none else if(dr E e).isNone then none else match m vq with
       |some (.arr sz et es)=>if et=e∧sz=aV E.P e∧x.has vq=false then(if(es++new).length*JP E.P e≤ag∧0<JP E.P e then k' (.os vq) (fa vq f2) (aw (bx (bI vq m2) vq) vq (.arr sz e (es++new))) [(true,0)]else none)else none
       |_=>none:=by
       intro f2 m2 h1 h2 h3 R' k'
       simp only[cG,h1,hty,DP,ana,hu,h3,h2]
       split
       ·rfl
       ·split
        ·rfl
        ·split
         ·simp_all[fresh]
         simp
      rw[main f m ud rfl KI]at hx;refine⟨he2,?_⟩;split at hx
      ·cases hx
      ·rename_i hc1;split at hx
       ·cases hx
       ·rename_i WH;split at hx
        ·rename_i sz et es hm;split at hx
         ·rename_i hc3;split at hx
          ·rename_i hc4;refine⟨_,hx,fun f2 m2 hf cS R' k'=>?_⟩;have ha:args.toList.map (bG E f2)=[.os vq,x]:=by grind [qz,Op.operands,Call.operands]
           rw[main f2 m2 ha (cS (true,vq) (by simp)) (he1 m2 fun y hy=>cS y (by simp[hy])) R' k'];simp_all
          ·cases hx
         ·cases hx
        ·cases hx
    ·cases h
   ·cases h
  ·cases h
 ·cases h
theorem zH.kill(h:zH f F)(id:Nat):zH (fa id f) (fa id F):=fun t=>by
 rcases h t with e|e
 ·exact .inl (by simp only[fa,e])
 ·exact .inr (by simp only[fa,e];rfl)
theorem ug.kill{nt:Nat}(h:ug nt ops A f)(id:Nat):ug nt ops A (fa id f):=by intro g hg;obtain⟨t,h1,h0,h2⟩:=h g hg;exact⟨t,h1,h0,by simp only[fa,h2];rfl⟩
theorem X4{x:Nat×bD}(h:yq E f m o=some x):isApp E o=true:=by
 obtain⟨dst,op,type,pos,after,guard⟩:=o;unfold yq at h;simp only at h;unfold isApp;split at h
 ·rename_i c;obtain⟨callee,args,argTypes⟩:=c;grind
 ·cases h
theorem Md{rd:bD}(h:yq E f m o=some (id,rd)):∃c x t t',o.op=.call c∧c.callee=.builtin .append∧c.args.toList.map (bG E f)=[.os id,x]∧c.argTypes.toList=[t,t']:=by unfold yq at h;grind
theorem U6{kl:Kl}(h:LM E f m o=some (kl,ft)){k:V→Fr→Mem→bD→Option R}{r:R}(hx:Nr E false (cH E o.dst) o f m k=some r):isApp E o=true∧∃v wr ft1,k v (kf kl f) (xw wr (km kl m)) ft1=some r∧(∀x∈wr,(true,x.1)∈ft)∧(∀x∈kl,(true,x.2)∈ft)∧∀(f2:Fr)(m2:Mem),(∀x∈o.op.operands,bG E f2 x=bG E f x)→(∀x∈ft,m2 x.2=m x.2)→∀(R':Type)(k':V→Fr→Mem→bD→Option R'),Nr E false (cH E o.dst) o f2 m2 k'=k' v (kf kl f2) (xw wr (km kl m2)) ft1:=by
 unfold LM at h;unfold Nr at hx;split at h
 ·rename_i sp BO;simp only[By]at h;have hn:E.EW (cH E o.dst)=true:=by grind
  rw[hn]at BO hx;simp only[cond]at BO hx;rw[BO]at hx;obtain⟨v,wr,h1,h2,h3,h4,_,_⟩:=Qw BO hx;rw[h]at h1 h2 h3 h4;refine⟨by unfold isApp;rw[hn];rfl,v,wr,ft,h1,h2,h3,fun f2 m2 hf hm R' k'=>?_⟩;have:=Qu BO hf (by rw[h];exact hm);simp_all[Nr,cond]
 ·rename_i BO;split at h
  ·rename_i id rd X5;simp only[By,akj]at h;obtain⟨rfl,rfl⟩:=h;have e0:(bif false then none else bif E.EW (cH E o.dst)then CF E (cH E o.dst) o f m else none)=(bif E.EW (cH E o.dst)then CF E (cH E o.dst) o f m else none):=rfl;rw[e0,BO]at hx;simp only at hx;obtain⟨D3,dJ,hk,hn⟩:=QD X5 hx;refine⟨X4 X5,.os id,[(id,dJ)],[(true,0)],hk,by simp,by simp,fun f2 m2 hf hm R' k'=>?_⟩;have K0:(bif E.EW (cH E o.dst)then CF E (cH E o.dst) o f2 m2 else none)=none:=by
    cases LV:E.EW (cH E o.dst)with
    |false=>rfl
    |true=>
     simp only[cond];obtain⟨c,x,t,t',hc,X6,ud,abG⟩:=Md X5;have ajB:c.args.toList.map (bG E f2)=[.os id,x]:=by simp_all[alQ,Op.operands,Call.operands]
     have cS:m2 id=m id:=hm (true,id) (by simp);have hm3:∃sz et es,m id=some (.arr sz et es):=by obtain⟨dst,op,type,pos,after,guard⟩:=o;simp only at hc;subst hc;obtain⟨callee,args,argTypes⟩:=c;simp only at X6 ud abG;subst X6;simp only[cG,ud,abG,DP,ana]at hx;grind
     obtain⟨sz,et,es,hm3⟩:=hm3;unfold CF;simp_all
   unfold Nr;have e1:(bif false then none else bif E.EW (cH E o.dst)then CF E (cH E o.dst) o f2 m2 else none)=(bif E.EW (cH E o.dst)then CF E (cH E o.dst) o f2 m2 else none):=rfl;rw[e1,K0];exact hn f2 m2 hf hm R' k'
  ·cases h
theorem zH.Cl(h:zH f F)(id:Nat):zH (iC id f) (iC id F):=fun t=>by
 rcases h t with e|e
 ·simp_all[iC]
 ·exact .inr (by simp only[iC,e];rfl)
theorem zH.kf:∀{kl:Kl}{f F:Fr},zH f F→zH (Go.Ab.kf kl f) (Go.Ab.kf kl F)
 |[],_,_,h=>h
 |(true,id)::r,f,F,h=>zH.kf (kl:=r) (f:=fa id f) (F:=fa id F) (h.kill id)
 |(false,id)::r,f,F,h=>zH.kf (kl:=r) (f:=iC id f) (F:=iC id F) (h.Cl id)
theorem ug.Cl{nt:Nat}(h:ug nt ops A f)(id:Nat):ug nt ops A (iC id f):=by intro g hg;obtain⟨t,h1,h0,h2⟩:=h g hg;exact⟨t,h1,h0,by simp only[iC,h2];rfl⟩
theorem ug.kf{nt:Nat}{A:List (Nat×Bool)}:∀{kl:Kl}{f:Fr},ug nt ops A f→ug nt ops A (Go.Ab.kf kl f)
 |[],_,h=>h
 |(true,id)::r,f,h=>ug.kf (kl:=r) (f:=fa id f) (h.kill id)
 |(false,id)::r,f,h=>ug.kf (kl:=r) (f:=iC id f) (h.Cl id)
theorem U7(hE:ku E)(hY:xC E.P E.aM E.fn.ntmps E.yl w0){v:V}{wr:List (Nat×bK)}{kl:Kl}{ft1:bD}(hg:guardOf o A=none)(hA:ug E.fn.ntmps ops A F)(hd:zZ E o=true)(U2:∀x∈o.op.operands,bG E f x=bG E F x)(hn:∀(f2:Fr)(m2:Mem),(∀x∈o.op.operands,bG E f2 x=bG E f x)→(∀x∈ft,m2 x.2=m x.2)→∀(R':Type)(k':V→Fr→Mem→bD→Option R'),Nr E false (cH E o.dst) o f2 m2 k'=k' v (kf kl f2) (xw wr (km kl m2)) ft1):KX E ops w0 ⟨i,o,v,wr,ft,kl⟩ F m:=by
 intro f2 m2 hf hm μ φ a w K Q hR hK;have hw:Region.wanted o (yielded ops a.tmps)=true:=NZ hg hA hR hf;simp only at hf hm hK⊢;rw[T0 hw];have hx:=hn f2 m2 (fun x hx=>by rw[BU hf x hx,U2 x hx]) hm (V×Fr×Mem) fun v f m _=>some (v,f,m);rcases Ma hE hx with⟨v,f',m',ft,h1,h2⟩|⟨_,h2⟩
 ·simp only[By,akj]at h1;obtain⟨rfl,rfl,rfl⟩:=h1;exact fun rd=>h2.CR (Fh hx) rd w0 μ φ a w K Q hR fun y w' μ' φ' hle hM hF hv hl=>hK _ _ _ _ (hR.put hle (jz hd) hM hF hv hl)
 ·refine fun rd=>Ig.CR h2 rd w0 μ φ a w K Q hY hR fun v f' m' y w' μ' φ' h1 hle hM hF hv hl=>?_;simp only[By,akj]at h1;obtain⟨rfl,rfl,rfl⟩:=h1;exact hK _ _ _ _ (hR.put hle (jz hd) hM hF hv hl)
structure Me(ops:Array Oper)(mode:Nat)(F:Fr)(m:Mem)(lg:Log)(recs:List Rec):Prop where
 one:mode=1→∀q∈recs,q.wr=[]∧q.kl=[]
 ord:mode=2→recs.Pairwise (X2 (ops:=ops))
 log:mode=2→∀q∈recs,∀y∈q.ft,∀x∈lg,y.2≠x.2.2∨(y.1=false∧x.2.1=false)∨reach ops 4 q.o x.1=true
 kl:recs.Pairwise fun q r=>q.kl≠[]→reach ops 4 r.o q.i=true
 cln:qA ops F m recs
 nam:∀q∈recs,∀id,q.KV id→mode=2∧ops.toList.any (isApp E)=true∧(true,id)∈q.ft∧∀x∈lg,x.2.2=BD id→reach ops 4 q.o x.1=true
theorem qA.none:∀{l:List Rec}{f:Fr}{m:Mem},(∀q∈l,q.kl=[])→qA ops f m l
 |[],_,_,_=>trivial
 |r::l,f,m,h=>⟨fun q hq id⟨b,hid⟩=>(by simp_all),qA.none fun q hq=>h q (by simp[hq])⟩
theorem nT(hE:ku E)(hY:xC E.P E.aM E.fn.ntmps E.yl w0){mode:Nat}(ny:mode=1∨mode=2):∀(fuel:Nat){R:Type}{A:List (Nat×Bool)}{l:List (Nat×Oper)}{f:Fr}{m:Mem}{lg:Log}{k:Fr→Mem→Option R}{r:R},cp E ops mode fuel R A l f m lg k=some r→(∀x∈l,ops[x.1]?=some x.2)→(mode=1→∀x∈l,fv x.2=true)→adW ops A l→∀F:Fr,zH f F→ug E.fn.ntmps ops A F→(∀x∈l,∀t∈x.2.looksAt ops,f t=F t)→∃(recs:List Rec)(f':Fr),k f' (sY m recs)=some r∧zH f' (nF F recs)∧recs.map (fun r=>(r.i,r.o))=l∧fW E ops w0 F m recs∧Me (E:=E) ops mode F m lg recs
 |0,_,_,_,_,_,_,_,_,h,_,_,_,_,_,_,_=>by simp[cp]at h
 |fuel+1,R,A,[],f,m,lg,k,r,h,_,_,_,F,hF,_,_=>by simp only[cp]at h;exact⟨[],f,h,hF,rfl,trivial,by simp,fun _=>.nil,by simp,.nil,trivial,by simp⟩
 |fuel+1,R,A,(i,o)::rest,f,m,lg,k,r,h,hl,WM,Im,F,hF,hA,N1=>by
  have hm1:(Nat.beq mode 1||Nat.beq mode 2)=true:=by simp_all
  simp only[cp,hm1]at h;split at h
  ·rename_i hg;split at h
   ·rename_i hd;have agp:∀x∈o.op.operands,bG E f x=bG E F x:=BU (N1 (i,o) (by simp));split at h
    ·rename_i kl ft BO;have ad0:mode=2:=by
      rcases ny with rfl|rfl
      ·cases BO
      rfl
     subst ad0;have BO:LM E f m o=some (kl,ft):=BO;split at h
     ·rename_i Sg;simp only[ale,al1]at Sg;obtain⟨⟨ajC,ajD⟩,ajE⟩:=Sg;obtain⟨X5,v,wr,ft1,hk,hwr,yf,hn⟩:=U6 BO h;obtain⟨recs,f',c1,c2,c3,c4,c5⟩:=nT hE hY (.inr rfl) fuel hk (fun x hx=>hl x (by simp[hx])) (fun hm=>by omega) (fun x hx=>Im x (by simp[hx])) (jy (kf kl F) o.dst v) ((zH.kf (kl:=kl) hF).put _ _) (ug.put (ug.kf (kl:=kl) hA) fun g sL t ht=>Im (i,o) (by simp) g sL t ht) (fun x hx t ht=>by
       by_cases e:o.dst=some t
       ·rw[e,kz,kz]
       grind [fV,Eb])
      have pV:∀q∈recs,reach ops 4 q.o i=true:=fun q hq=>ajE (q.i,q.o) (by grind);have ad1:ops.toList.any (isApp E)=true:=amx.2 ⟨o,alf (by rw[al3];exact hl (i,o) (by simp)),X5⟩;refine⟨⟨i,o,v,wr,ft,kl⟩::recs,f',c1,c2,by simp[c3],⟨U7 hE hY hg hA hd agp hn,fun j b hb=>hwr _ hb,c4⟩,?_⟩;refine⟨fun hm=>(by omega),fun hm=>amm.2 ⟨fun q hq=>.inl (pV q hq),c5.ord hm⟩,fun hm q hq=>?_,amm.2 ⟨fun q hq _=>pV q hq,c5.kl⟩,⟨fun q hq vq _=>.inl (pV q hq),c5.cln⟩,fun q hq vq hid=>?_⟩
      ·rcases alq.1 hq with rfl|hq
       ·exact Fk ajC
       ·exact fun y hy x hx=>c5.log hm q hq y hy x (alM.2 (.inr hx))
      ·rcases alq.1 hq with rfl|hq
       ·obtain⟨bb,hid⟩:=hid;exact⟨rfl,ad1,yf _ hid,Iy (ajD _ hid)⟩
       ·obtain⟨g1,g2,g3,g4⟩:=c5.nam q hq vq hid;exact⟨g1,g2,g3,fun x hx=>g4 x (alM.2 (.inr hx))⟩
     ·cases h
    ·rcases Ma hE h with⟨v,f1,m1,ft,hk,U2⟩|⟨Ai,_⟩
     rotate_left
     ·cases Ai
     obtain⟨U3,wr,agq,hwr,hn⟩:=U2.drawn rfl;subst U3;have Nc:∀(f2:Fr)(m2:Mem),(∀x∈o.op.operands,bG E f2 x=bG E F x)→(∀x∈ft,m2 x.2=m x.2)→∀(R':Type)(k':V→Fr→Mem→bD→Option R'),Nr E true (cH E o.dst) o f2 m2 k'=k' v f2 (xw wr m2) ft:=fun f2 m2 hf=>hn f2 m2 fun x hx=>by rw[hf x hx,agp x hx]
     have step:∀(wr':List (Nat×bK))(lg':Log),xw wr' m=m1→(mode=1→wr'=[])→(∀id b,(id,b)∈wr'→(true,id)∈ft)→KX E ops w0 ⟨i,o,v,wr',ft,[]⟩ F m→cp E ops mode fuel R A rest (jy f1 o.dst v) m1 lg' k=some r→(mode=2→lg'=(bif ops.toList.any (isApp E)then(G9 ops o f1 m m1 v ft).map (fun n=>(i,false,BD n))else[])++(ft.map (fun x=>(i,x))++lg)∧E4 ops o lg ft=true)→∃(recs:List Rec)(f':Fr),k f' (sY m recs)=some r∧zH f' (nF F recs)∧recs.map (fun r=>(r.i,r.o))=(i,o)::rest∧fW E ops w0 F m recs∧Me (E:=E) ops mode F m lg recs:=by
      intro wr' lg' hwm UQ hw2 adY hev hlg;obtain⟨recs,f',c1,c2,c3,c4,c5⟩:=nT hE hY ny fuel hev (fun x hx=>hl x (by simp[hx])) (fun hm x hx=>WM hm x (by simp[hx])) (fun x hx=>Im x (by simp[hx])) (jy F o.dst v) (hF.put _ _) (ug.put hA fun g sL t ht=>Im (i,o) (by simp) g sL t ht) (fun x hx t ht=>by
       by_cases e:o.dst=some t
       ·rw[e,kz,kz]
       grind [fV])
      subst hwm;refine⟨⟨i,o,v,wr',ft,[]⟩::recs,f',c1,c2,by simp[c3],⟨adY,hw2,c4⟩,?_⟩;have agr:mode=2→∀x∈lg,x∈lg':=fun hm x hx=>by simp_all
      have ade:mode=2→∀x∈ft,(i,x)∈lg':=fun hm x hx=>by simp_all
      refine⟨fun hm q hq=>?_,fun hm=>amm.2 ⟨fun q hq=>?_,c5.ord hm⟩,fun hm q hq=>?_,amm.2 ⟨fun q hq h=>absurd rfl h,c5.kl⟩,⟨fun q hq id hid=>?_,c5.cln⟩,fun q hq id hid=>?_⟩
      ·rcases alq.1 hq with rfl|hq
       ·exact⟨UQ hm,rfl⟩
       ·exact c5.one hm q hq
      ·have d2:=c5.log hm;by_cases he:reach ops 4 q.o i=true
       ·exact .inl he
       ·refine .inr ⟨fun id b hb x hx hxi=>?_,fun id b hb x hx hxi=>?_⟩
        ·grind
        ·rcases d2 q hq (true,id) (fW.wr c4 q hq id b hb) (i,x) (ade hm x hx)with h|h|h
         ·exact h hxi.symm
         ·cases h.1
         ·exact he h
      ·rcases alq.1 hq with rfl|hq
       ·exact Fk (hlg hm).2
       ·exact fun y hy x hx=>c5.log hm q hq y hy x (agr hm x hx)
      ·obtain⟨g1,g2,g3,g4⟩:=c5.nam q hq id hid;by_cases he:reach ops 4 q.o i=true
       ·exact .inl he
       ·refine .inr (X3 (N1 (i,o) (by simp)) hw2 (fun bk=>he (g4 (i,false,BD id) ?_ rfl)) fun x hx hxi=>?_)
        ·grind
        ·rcases c5.log g1 q hq (true,id) g3 (i,x) (ade g1 x hx)with h|h|h
         ·exact h hxi.symm
         ·cases h.1
         ·exact he h
      ·rcases alq.1 hq with rfl|hq
       ·obtain⟨_,hid⟩:=hid;cases hid
       ·obtain⟨g1,g2,g3,g4⟩:=c5.nam q hq id hid;grind
     rcases ny with rfl|rfl
     ·simp only[Nat.beq,IN,Wi]at hk;split at hk
      ·rename_i hqf;have hwn:wr=[]:=by
        cases wr with
        |nil=>rfl
        |cons x l=>have:=CS hqf _ (hwr x (by simp));cases this
       subst hwn;exact step [] lg agq.symm (fun _=>rfl) (by simp) (Ix hE hg hA hd Nc) hk (by simp)
      ·cases hk
     ·simp only[Nat.beq,IT]at hk;split at hk
      ·rename_i hof;exact step wr _ agq.symm (by simp) (fun id b hb=>hwr _ hb) (Ix hE hg hA hd Nc) hk fun _=>⟨rfl,hof⟩
      ·cases hk
   ·cases h
  ·rename_i j GZ hg;split at h
   ·rename_i tj htj;split at h
    ·rename_i b hb;generalize BO:F8 A ((i,o)::rest)=sp at h;obtain⟨body,Nt⟩:=sp;have nS:=Ik BO;have hm0:Nat.beq mode 0=false:=by rcases ny with rfl|rfl<;>rfl
     simp only[hm0,amS,IN,Wi]at h;split at h
     ·rename_i ip p nK;split at h
      ·rename_i c x y XR;split at h
       ·rename_i hc;simp only[ale,al1,alZ,amK,aoA]at hc;obtain⟨⟨⟨⟨⟨⟨Qz,hpg⟩,KU⟩,PW⟩,ajF⟩,hpd⟩,cS⟩:=hc;have ad2:mode=1:=by simp_all
        subst ad2;have Qz:=acA Qz;subst Qz;have hpg:guardOf p A=none:=by simpa using hpg
        obtain⟨rb,hrb,h⟩:=M1.1 h;have bk:∀z∈body,z∈(i,o)::rest:=fun z hz=>by rw[nS];simp[hz]
        have Cv:∀z∈nK,z∈(i,o)::rest:=fun z hz=>by rw[nS];simp[hz]
        have SA:(ip,p)∈(i,o)::rest:=by rw[nS];simp
        obtain⟨ajz,hb⟩:=Ii hb;have hFc:F c=.pv (.bool b):=by
         rcases hF c with e|e
         ·rw[←e];omega
         simp_all
        have after:∀(vG:List Rec)(q:Operand),vG.map (fun r=>(r.i,r.o))=body→fW E ops w0 F m vG→(∀q∈vG,q.wr=[]∧q.kl=[])→bG E (nF F vG) q=.pv (.bool rb)→(q=if b then x else y)→∃(recs:List Rec)(f':Fr),k f' (sY m recs)=some r∧zH f' (nF F recs)∧recs.map (fun r=>(r.i,r.o))=body++(ip,p)::nK∧fW E ops w0 F m recs∧(∀q∈recs,q.wr=[]∧q.kl=[]):=by
         intro vG q ajG ags hwn hq hqe;have agt:∀t,(∀z∈body,z.2.dst≠some t)→nF F vG t=F t:=fun t ht=>KW fun q hq=>⟨ht (q.i,q.o) (by grind),(hwn q hq).2⟩;have hA1:ug E.fn.ntmps ops A (nF F vG):=fun g sL=>by obtain⟨t,h1,h0,h2⟩:=hA g sL;exact⟨t,h1,h0,by rw[agt t fun z hz=>Im z (bk z hz) g sL t h1];omega⟩
         have PL:nF F vG c=.pv (.bool b):=by grind
         have hrp:KX E ops w0 ⟨ip,p,.pv (.bool rb),[],[],[]⟩ (nF F vG) m:=Ix hE hpg hA1 hpd fun f2 m2 hf hm R' k'=>by
          have vE:bG E f2 (.tmp c)=.pv (.bool b):=by simp_all[Op.operands,abH]
          have hq2:bG E f2 q=.pv (.bool rb):=by grind [Op.operands]
          rw[NT XR vE,←hqe,hq2];rfl
         obtain⟨recs,f',c1,c2,c3,c4,c5⟩:=nT hE hY (.inl rfl) fuel h (fun z hz=>hl z (Cv z hz)) (fun hm z hz=>WM hm z (Cv z hz)) (fun z hz=>Im z (Cv z hz)) (jy (nF F vG) p.dst (.pv (.bool rb))) (zH.put (BT fun t ht=>by rw[agt t ht];exact hF t) _ _) (ug.put hA1 fun g sL t ht=>Im (ip,p) SA g sL t ht) (fun z hz t ht=>by
          by_cases e:p.dst=some t
          ·rw[e,kz,kz]
          ·have hnb:∀u∈body,u.2.dst≠some t:=fun u hu hud=>by grind [blind,List.all_eq_true,Bool.not_eq_true']
           grind [fV,BS])
         have hmB:sY m vG=m:=KZ hwn;refine⟨vG++⟨ip,p,.pv (.bool rb),[],[],[]⟩::recs,f',?_,?_,by simp[ajG,c3],?_,fun q hq=>?_⟩
         ·rw[NY,hmB];exact c1
         ·rw[NX];exact c2
         ·refine fW.append.2 ⟨ags,?_⟩;rw[hmB];exact⟨hrp,by simp,c4⟩
         ·rcases alM.1 hq with h|h
          ·exact hwn q h
          ·rcases alq.1 h with rfl|h
           ·simp
           ·exact c5.one rfl q h
        have fin:(∃(recs:List Rec)(f':Fr),k f' (sY m recs)=some r∧zH f' (nF F recs)∧recs.map (fun r=>(r.i,r.o))=body++(ip,p)::nK∧fW E ops w0 F m recs∧(∀q∈recs,q.wr=[]∧q.kl=[]))→∃(recs:List Rec)(f':Fr),k f' (sY m recs)=some r∧zH f' (nF F recs)∧recs.map (fun r=>(r.i,r.o))=(i,o)::rest∧fW E ops w0 F m recs∧Me (E:=E) ops 1 F m lg recs:=by rintro⟨recs,f',c1,c2,c3,c4,c5⟩;exact⟨recs,f',c1,c2,by rw[nS];omega,c4,fun _=>c5,fun h=>(by omega),fun h=>(by omega),ame (R:=fun _ _=>True) (fun{q r}hq hr _ h=>absurd (c5 q hq).2 h) (List.pairwise_of_forall fun _ _=>trivial),qA.none fun q hq=>(c5 q hq).2,fun q hq id⟨_,hid⟩=>(by simp_all)⟩
        have go:∀q,b=GZ→(q=if b then x else y)→cp E ops 1 fuel Bool ((j,GZ)::A) body f m lg (fun f _=>Ci (bG E f q))=some rb→∃(recs:List Rec)(f':Fr),k f' (sY m recs)=some r∧zH f' (nF F recs)∧recs.map (fun r=>(r.i,r.o))=body++(ip,p)::nK∧fW E ops w0 F m recs∧(∀q∈recs,q.wr=[]∧q.kl=[]):=by
         intro q hbp hq hev;obtain⟨vG,f1,c1,c2,c3,c4,c5⟩:=nT hE hY (.inl rfl) fuel hev (fun z hz=>hl z (bk z hz)) (fun hm z hz=>WM hm z (bk z hz)) (fun z hz g sL t ht=>by
          rcases alq.1 sL with rfl|sL
          ·grind
          ·exact Im z (bk z hz) g sL t ht) F hF (fun g sL=>by
          rcases alq.1 sL with rfl|sL
          ·simp_all
          ·exact hA g sL) (fun z hz=>N1 z (bk z hz))
         refine after vG q c3 c4 (c5.one rfl) ?_ hq;grind [D8,XQ]
        have no:∀q,b= !GZ→(q=if b then x else y)→Ci (bG E (nJ f body) q)=some rb→∃(recs:List Rec)(f':Fr),k f' (sY m recs)=some r∧zH f' (nF F recs)∧recs.map (fun r=>(r.i,r.o))=body++(ip,p)::nK∧fW E ops w0 F m recs∧(∀q∈recs,q.wr=[]∧q.kl=[]):=by intro q hbp hq hev;obtain⟨s1,s2⟩:=KY (E:=E) (w0:=w0) (m:=m) body F (fun z hz=>(KU z hz).1.2) (D7 htj PW (fun z hz=>hl z (bk z hz)) (fun z hz=>(KU z hz).2) (by rw[hFc,hbp]) (by simp));refine after (body.map Ec) q (by simp[Ec,amW]) s1 (fun u hu=>by obtain⟨z,_,rfl⟩:=alC.1 hu;exact⟨rfl,rfl⟩) ?_ hq;rw[s2];have hv:=D8 hev;grind [zH,nJ,jc,BT,yG,XQ]
        grind
       ·cases h
      ·cases h
     ·cases h
    ·cases h
   ·cases h
theorem wG{l:List Oper}:(i,o)∈(List.range l.length).zip l↔l[i]?=some o:=by
 rw[als];constructor
 ·grind
 ·intro h;refine⟨i,List.getElem?_zip_eq_some.2 ⟨?_,h⟩⟩;grind
theorem Au:∀{l done:List (Nat×Oper)},qq ops done l=true→(∀x∈l,∀d∈done,reach ops 4 x.2 d.1=true∨d.2.apart ops x.2=true)∧l.Pairwise (fun q r=>reach ops 4 r.2 q.1=true∨q.2.apart ops r.2=true)∧∀x∈l,∀e∈x.2.after,Region.binds .any e=true→e.on<x.1
 |[],_,_=>⟨by simp,.nil,by simp⟩
 |(i,o)::r,done,h=>by
  simp only[qq,ale]at h;obtain⟨⟨h1,h2⟩,h3⟩:=h;obtain⟨i1,i2,i3⟩:=Au h3;have G2:∀{done:List (Nat×Oper)},BE ops done o=true→∀d∈done,reach ops 4 o d.1=true∨d.2.apart ops o=true:=by
   intro done;induction done with
   |nil=>simp
   |cons x l ih=>intro h d hd;simp only[BE,ale,aly]at h;grind
  refine⟨fun x hx d hd=>?_,amm.2 ⟨fun x hx=>i1 x hx (i,o) (by simp),i2⟩,fun x hx e he hb=>?_⟩
  ·grind
  ·rcases alq.1 hx with rfl|hx
   ·have:=al1.1 h1 e (amT.2 he);simp_all
   ·exact i3 x hx e he hb
variable{rd:Option Nat}{fuel:Nat}{Q:Exit→Act→World→Prop}
theorem Av(hE:ku E)(hY:xC E.P E.aM E.fn.ntmps E.yl w0){mode:Nat}(ny:mode=1∨mode=2){l:List (Nat×Oper)}{base:Nat→Bool}(WM:mode=1→∀x∈l,fv x.2=true){k:Fr→Mem→Option R}{r:R}(hmz:∀x∈l,ops[x.1]?=some x.2)(akQ:(l.map Prod.fst).Pairwise (·≠·))(ac7:∀x∈l,base x.1=false)(ac8:∀i o,ops[i]?=some o→base i=false→(∀x∈l,x.1≠i)→(∀x∈l,reach ops 8 o x.1=true)∨∃j,reach ops 8 o j=true∧base j=false∧∀x∈l,x.1≠j)(ad3:∀x∈l,∀e∈x.2.after,Region.binds .any e=true→base e.on=true∨∃y∈l,y.1=e.on)(hi:qq ops [] l=true)(h:cp E ops mode fuel R [] l f m [] k=some r)(hQ:∀(fuel:Nat)(listed:Array Bool),listed.size=ops.size→listed.toList.countP (fun b=> !b)≤fuel→CV ops listed→(∀i,aJ listed i=true↔base i=true∨∃x∈l,x.1=i)→∀f' m' μ φ a w,k f' m'=some r→Rel E.P E.aM E.fn.ntmps w0 μ φ f' m' a w→wpAnyIn (FR rd) 0 E.P .any ops Q fuel listed a w):∀(fuel:Nat)(listed:Array Bool),listed.size=ops.size→listed.toList.countP (fun b=> !b)≤fuel→CV ops listed→(∀i,aJ listed i=true↔base i=true)→∀(μ:Ro)(φ:Nat→aI)(a:Act)(w:World),Rel E.P E.aM E.fn.ntmps w0 μ φ f m a w→wpAnyIn (FR rd) 0 E.P .any ops Q fuel listed a w:=by
 intro agu listed hs hc xJ hb μ φ a w hR;obtain⟨recs,f',c1,c2,c3,c4,c5⟩:=nT (w0:=w0) hE hY ny fuel h hmz WM (by intro x hx g hg;cases hg) f (zH.refl f) (by intro g hg;cases hg) (fun _ _ _ _=>rfl);obtain⟨_,i2,i3⟩:=Au hi;have bk:∀q∈recs,(q.i,q.o)∈l:=fun q hq=>by grind
 have hof:∀x∈l,∃q∈recs,q.i=x.1:=fun x hx=>by grind
 have G2:recs.Pairwise fun q r=>reach ops 4 r.o q.i=true∨q.o.apart ops r.o=true:=by grind
 have hmo:recs.Pairwise (X2 (ops:=ops)):=by
  rcases ny with hm|hm
  ·exact ame (fun{q r}hq hr _=>.inr ⟨fun id b hb=>(by rw[(c5.one hm q hq).1]at hb;cases hb),fun id b hb=>(by rw[(c5.one hm r hr).1]at hb;cases hb)⟩) G2
  ·exact c5.ord hm
 refine XU (E:=E) (w0:=w0) (recs:=recs) (f0:=f) (m0:=m) (base:=base) ?_ (fun q hq=>hmz _ (bk q hq)) (fun q hq=>ac7 _ (bk q hq)) (fun i o ho hbi cC=>?_) ?_ c5.kl c5.cln (fun q hq e he PN=>⟨i3 _ (bk q hq) e he PN,?_⟩) c4 ?_ agu listed hs hc xJ (fun i hi=>(hb i).2 hi) (fun i hi=>Or.inl ((hb i).1 hi)) μ φ a w ?_
 ·grind
 ·grind
 ·refine List.Pairwise.imp (fun{q r}h=>?_) (List.Pairwise.and G2 hmo);obtain⟨h1,h2⟩:=h;rcases h1 with h1|h1
  ·exact .inl h1
  ·rcases h2 with h2|h2
   ·exact .inl h2
   ·exact .inr ⟨h1,h2⟩
 ·rcases ad3 _ (bk q hq) e he PN with h1|⟨y,hy,h1⟩
  ·exact Or.inl h1
  grind
 ·intro adf SE hs2 WH ajH vE μ2 φ2 a2 w2 KN;refine hQ adf SE hs2 WH ajH (fun i=>?_) _ _ μ2 φ2 a2 w2 c1 (KN.weaken c2);grind
 ·have hS:∀q∈recs,aJ listed q.i=false:=fun q hq=>by grind
  rw[show rB (aJ listed) f recs=f from funext fun t=>tG fun q hq hs=>(by simp_all),show rC (aJ listed) m recs=m from funext fun t=>tH fun q hq hs=>(by simp_all)];omega
variable{x:Nat×Oper}
theorem Aw(hx:x∈(List.range ops.size).zip ops.toList):ops[x.1]?=some x.2:=by have:=(wG (l:=ops.toList) (i:=x.1) (o:=x.2)).1 (by omega);simp_all
theorem ui(ho:ops[i]?=some o):(i,o)∈(List.range ops.size).zip ops.toList:=by have:=(wG (l:=ops.toList) (i:=i) (o:=o)).2 (by simp_all);omega
theorem zip_fst:((List.range ops.size).zip ops.toList).map Prod.fst=List.range ops.size:=by rw[List.map_fst_zip (by simp)]
variable{P:Program}
theorem Iz{F:Fence}{n:Nat}{listed:Array Bool}(hs:listed.size=ops.size)(vu:∀i o,ops[i]?=some o→aJ listed i=true)(hq:Q .normal a w):wpAnyIn F n P .any ops Q fuel listed a w:=by
 have hr:Region.ready .any ops listed=[]:=by apply List.eq_nil_iff_forall_not_mem.2;intro j hj;obtain⟨h0,o,ho,_⟩:=mem_ready.1 hj;grind
 cases fuel with
 |zero=>exact⟨hr,hq⟩
 |succ fuel=>exact⟨fun _=>hq,fun i hi=>by rw[hr]at hi;cases hi⟩
theorem Ax(n j:Nat):aJ (Array.replicate n false) j=false:=by simp only[aJ,alD,Array.getElem?_replicate];split<;>rfl
theorem count_le(n:Nat):(Array.replicate n false).toList.countP (fun b=> !b)≤n:=by grind [List.countP_le_length,Array.replicate]
theorem Gx:CV ops (Array.replicate ops.size false):=fun i o _ h=>by rw[Ax]at h;cases h
theorem tI:x∈DR E ops↔x∈(List.range ops.size).zip ops.toList:=by
 unfold DR;cases E.EW (2000000000000000000000000000000+E.fid)with
 |false=>exact Iff.rfl
 |true=>simp only[cond_true,alM,amM];cases LO E ops x<;>simp
theorem X7:((DR E ops).map Prod.fst).Pairwise (·≠·):=by
 have h0:(((List.range ops.size).zip ops.toList).map Prod.fst).Pairwise (·≠·):=by rw[zip_fst];exact List.pairwise_lt_range.imp aoy
 unfold DR;cases E.EW (2000000000000000000000000000000+E.fid)with
 |false=>exact h0
 |true=>
  simp only[cond_true,alP,aml];refine⟨h0.sublist (List.filter_sublist.map _),h0.sublist (List.filter_sublist.map _),fun a ha b hb e=>?_⟩;obtain⟨x,hx,rfl⟩:=alC.1 ha;obtain⟨y,hy,rfl⟩:=alC.1 hb;obtain⟨hx,px⟩:=amM.1 hx;obtain⟨hy,py⟩:=amM.1 hy;have hxy:x=y:=by have h1:=Aw hx;have h2:=Aw hy;rw[e,h2]at h1;exact Prod.ext e (ant h1).symm
  subst hxy;simp_all
theorem IA(hE:ku E)(hY:xC E.P E.aM E.fn.ntmps E.yl w0){mode:Nat}(ny:mode=1∨mode=2)(WM:mode=1→∀o∈ops,fv o=true){k:Fr→Mem→Option R}{r:R}(hi:qq ops [] (DR E ops)=true)(h:cp E ops mode fuel R [] (DR E ops) f m [] k=some r){μ:Ro}(hR:Rel E.P E.aM E.fn.ntmps w0 μ φ f m a w)(hQ:∀f' m' μ' φ' a' w',k f' m'=some r→Rel E.P E.aM E.fn.ntmps w0 μ' φ' f' m' a' w'→Q .normal a' w'):wpAnyIn (FR rd) 0 E.P .any ops Q ops.size (Array.replicate ops.size false) a w:=by
 refine Av (w0:=w0) (base:=fun _=>false) hE hY ny (fun hm x hx=>WM hm x.2 (aoe (Aw (tI.1 hx)))) (fun x hx=>Aw (tI.1 hx)) X7 (fun _ _=>rfl) (fun i o ho _ cC=>absurd rfl (cC _ (tI.2 (ui ho)))) (fun x hx e he hb=>Or.inr ?_) hi h ?_ ops.size _ (by simp) (count_le _) Gx (fun i=>by rw[Ax]) μ φ a w hR
 ·obtain⟨_,_,i3⟩:=Au hi;have h1:=i3 x hx e he hb;have h2:x.1<ops.size:=(alm.1 (Aw (tI.1 hx))).1;exact⟨_,tI.2 (ui (ald (show e.on<ops.size by omega))),rfl⟩
 ·intro adf SE hs2 _ _ vE f' m' μ2 φ2 a2 w2 hk KN;exact Iz hs2 (fun i o ho=>(vE i).2 (Or.inr ⟨_,tI.2 (ui ho),rfl⟩)) (hQ _ _ _ _ _ _ hk KN)
theorem He{j:Nat}(h:((List.range ops.size).zip ops.toList)[j]?=some x):x.1=j:=by grind
theorem rD{p:Nat}:x∈((List.range ops.size).zip ops.toList).take p↔x∈(List.range ops.size).zip ops.toList∧x.1<p:=by
 constructor
 ·grind [List.getElem?_of_mem,List.getElem?_take_of_lt,List.mem_of_getElem?,He]
 ·rintro⟨h,hx⟩;obtain⟨j,hj⟩:=alR h;have:=He hj;exact alf (i:=j) (by simp_all)
theorem xP{p:Nat}:x∈((List.range ops.size).zip ops.toList).drop p↔x∈(List.range ops.size).zip ops.toList∧p≤x.1:=by
 constructor
 ·grind [List.getElem?_of_mem,List.mem_of_getElem?,He]
 ·rintro⟨h,hx⟩;obtain⟨j,hj⟩:=alR h;have:=He hj;exact alf (i:=j-p) (by simp_all)
variable{K:Act→World→Prop}{Q':Exit→Act→World→Prop}
theorem Oper.QE{F:Fence}{n:Nat}(h:∀e a w,e≠.normal→Q' e a w→Q e a w)(hh:o.wpIn F n P a w K Q'):o.wpIn F n P a w K Q:=by
 unfold Oper.wpIn at*;refine⟨hh.1,?_⟩;have hh:=hh.2;have agv:LetsOut Q'→LetsOut Q:=fun⟨a,w,hq⟩=>⟨a,w,h _ _ _ (by simp) hq⟩;generalize (o.semAt F.round a.eval).run P w=r at*;cases r with
 |ok x w'=>
  cases x<;>simp only[Oper.uponIn]at hh⊢<;>first
   |exact hh
   |exact⟨hh.1,CallsIn.mono hh.2 (fun e w'' he=>by cases e<;>first|exact agv he|exact h _ _ _ (by simp) he|exact he)⟩
   |exact⟨hh.1,RoundIn.mono hh.2 (fun e w'' he=>by cases e<;>first|exact agv he|exact h _ _ _ (by simp) he|exact he)⟩
 |halt x w'=>cases x<;>simp only[Oper.uponIn]at hh⊢<;>simp_all
theorem Mf{F:Fence}{n:Nat}(h:∀e a w,e≠.normal→Q' e a w→Q e a w)(hh:wpOpIn F n P ops Q' i K a w):wpOpIn F n P ops Q i K a w:=by
 unfold wpOpIn at*;split
 ·simpa[*]using hh
 ·rename_i o ho;simp only[ho]at hh;split
  ·rename_i hw;simp only[hw,IT]at hh;exact Oper.QE h hh
  simp_all
theorem QF(hE:ku E)(hY:xC E.P E.aM E.fn.ntmps E.yl w0){p:Nat}(abJ:W4 ops p=true){k:Fr→Mem→Option R}{r:R}(WN:qq ops [] (((List.range ops.size).zip ops.toList).take p)=true)(hi3:qq ops [] (((List.range ops.size).zip ops.toList).drop (p+1))=true){n1 n2 n3:Nat}(h:(cp E ops 2 n1 R [] (((List.range ops.size).zip ops.toList).take p) f m [] fun f m=>cp E ops 0 n2 R [] ((((List.range ops.size).zip ops.toList).drop p).take 1) f m [] fun f m=>cp E ops 2 n3 R [] (((List.range ops.size).zip ops.toList).drop (p+1)) f m [] k)=some r){μ:Ro}(hR:Rel E.P E.aM E.fn.ntmps w0 μ φ f m a w)(hQ:∀f' m' μ' φ' a' w',k f' m'=some r→Rel E.P E.aM E.fn.ntmps w0 μ' φ' f' m' a' w'→Q .normal a' w'):wpAnyIn (FR rd) 0 E.P .any ops Q ops.size (Array.replicate ops.size false) a w:=by
 unfold W4 at abJ;cases ho:ops[p]? with
 |none=>simp_all
 |some o=>
  rw[ho]at abJ;simp only[ale]at abJ;obtain⟨⟨_,L9⟩,hpa⟩:=abJ;have hpn:p<ops.size:=(alm.1 ho).1;have XV:∀e∈o.after,Region.binds .any e=true→e.on<p:=fun e he hb=>by have:=al1.1 L9 e (amT.2 he);simp_all
  have ajI:∀i,i<p→reach ops 8 o i=true:=fun i hi=>by have:=al1.1 hpa _ (ui (ald (show i<ops.size by omega)));simp_all
  have ajJ:∀i o',ops[i]?=some o'→p<i→reach ops 8 o' p=true:=fun i o' X1 hi=>by
   have:=al1.1 hpa _ (ui X1);simp only at this;have hb:Nat.blt i p=false:=by
    cases hx:Nat.blt i p with
    |false=>rfl
    |true=>have:i<p:=aoc hx;omega
   have vE:Nat.beq i p=false:=by
    cases hx:Nat.beq i p with
    |false=>rfl
    |true=>simp_all
   simp_all
  refine Av (w0:=w0) (base:=fun _=>false) hE hY (.inr rfl) (fun h=>by omega) (fun x hx=>Aw (rD.1 hx).1) (by rw[anJ,zip_fst];exact(List.pairwise_lt_range.imp aoy).sublist (List.take_sublist _ _)) (fun _ _=>rfl) (fun i o' X1 _ cC=>?_) (fun x hx e he hb=>Or.inr ?_) WN h ?_ ops.size _ (by simp) (count_le _) Gx (fun i=>by rw[Ax]) μ φ a w hR
  ·have hip:¬i<p:=fun hc=>cC _ (rD.2 ⟨ui X1,hc⟩) rfl;by_cases hi:i=p
   ·subst hi;rw[ho]at X1;cases X1;exact Or.inl fun x hx=>ajI _ (rD.1 hx).2
   ·exact Or.inr ⟨p,ajJ i o' X1 (by omega),rfl,fun x hx=>by have:=(rD.1 hx).2;omega⟩
  ·obtain⟨_,_,i3⟩:=Au WN;have h1:=i3 x hx e he hb;have h2:=(rD.1 hx).2;exact⟨_,rD.2 ⟨ui (ald (show e.on<ops.size by omega)),by omega⟩,rfl⟩
  ·intro fuel listed hs hc xJ hb f1 m1 μ1 φ1 a1 w1 Qo QA;have bQ:∀i,aJ listed i=true↔i<p:=fun i=>by
    rw[hb i];constructor
    ·rintro(h|⟨x,hx,rfl⟩)
     ·cases h
     ·exact(rD.1 hx).2
    ·intro hi;exact Or.inr ⟨_,rD.2 ⟨ui (ald (show i<ops.size by omega)),hi⟩,rfl⟩
   have rT:p<listed.size:=by omega
   have hpu:aJ listed p=false:=by grind
   have ak6:listed[p]=false:=by simp_all
   cases fuel with
   |zero=>have:=aor.1 (Nat.le_zero.1 hc) listed[p] (by simp);simp_all
   |succ fuel=>
    have ajK:p∈Region.ready .any ops listed:=mem_ready.2 ⟨by simp_all,o,ho,fun e he PN=>(bQ e.on).2 (XV e he PN)⟩;refine⟨(fun h0=>by simp_all),fun i hi=>?_⟩;obtain⟨XX,o',X1,Iv⟩:=mem_ready.1 hi;have pV:i<listed.size:=by grind
    have hiu:aJ listed i=false:=by simp_all
    have hip:i=p:=by refine al7 fun cC=>?_;grind [uh]
    subst hip;have hL:(((List.range ops.size).zip ops.toList).drop i).take 1=[(i,o)]:=by
     have hlen:i<((List.range ops.size).zip ops.toList).length:=by simp;omega
     rw[amA hlen];simp_all
    rw[hL]at Qo;have hS':∀j,aJ (listed.setIfInBounds i true) j=if j=i then true else aJ listed j:=fun j=>by simp only[aJ,alD,amI];grind
    have hle:∀j,aJ (listed.setIfInBounds i true) j=true↔j≤i:=fun j=>by grind
    have agw:=iX (rd:=rd) (w0:=w0) hE hY _ (.inl rfl) Qo (by simp_all) (by intro x hx g hg;cases hg) (fun h=>by omega) μ1 φ1 a1 w1 (fun e a w=>(e=.normal∧wpAnyIn (FR rd) 0 E.P .any ops Q fuel (listed.setIfInBounds i true) a w)∨(e≠.normal∧Q e a w)) [] QA (by intro g hg;cases hg) fun f2 m2 μ2 φ2 a2 w2 L5 KN _ _=>Or.inl ⟨rfl,?_⟩
    ·rw[alO,alu,amk,wpOpsIn_cons]at agw;refine wpOpIn_mono (fun a w hq=>?_) (Mf (fun e a w cC hq=>?_) agw)
     ·rcases hq with⟨_,h⟩|⟨h,_⟩
      ·omega
      ·exact absurd rfl h
     simp_all
    ·refine Av (w0:=w0) (base:=fun j=>decide (j≤i)) hE hY (.inr rfl) (fun h=>by omega) (fun x hx=>Aw (xP.1 hx).1) (by rw[List.map_drop,zip_fst];exact(List.pairwise_lt_range.imp aoy).sublist (List.drop_sublist _ _)) (fun x hx=>by have:=(xP.1 hx).2;simp;omega) (fun j oj hj hbj cC=>?_) (fun x hx e he PN=>?_) hi3 L5 ?_ fuel _ (by simp[hs]) ?_ ?_ (fun j=>by rw[hle j];simp) μ2 φ2 a2 w2 KN
     ·simp only[alN]at hbj;exact absurd rfl (cC _ (xP.2 ⟨ui hj,by omega⟩))
     ·obtain⟨_,_,i3⟩:=Au hi3;have h1:=i3 x hx e he PN;have h2:x.1<ops.size:=(alm.1 (Aw (xP.1 hx).1)).1;by_cases hei:e.on≤i
      ·simp_all
      ·exact Or.inr ⟨_,xP.2 ⟨ui (ald (show e.on<ops.size by omega)),by omega⟩,rfl⟩
     ·intro akR ajg hs3 _ _ hb3 f3 m3 μ3 φ3 a3 w3 hk3 hR3;refine Iz hs3 (fun j oj hj=>(hb3 j).2 ?_) (hQ _ _ _ _ _ _ hk3 hR3);by_cases hji:j≤i
      ·simp_all
      ·exact Or.inr ⟨_,xP.2 ⟨ui hj,by omega⟩,rfl⟩
     ·grind
     ·intro j oj hj hlj e he PN;rw[hle]at hlj⊢;by_cases hji:j=i
      ·grind
      ·have h1:=xJ j oj hj ((bQ j).2 (by omega)) e he PN;grind
end
end Go.Ab
