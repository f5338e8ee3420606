import Derived.Test.YtmbihgjlollbeaaGreatAbP6
import Derived.OrdersIn
set_option linter.unusedVariables false
set_option linter.unusedSimpArgs false
namespace Go.Ab
open Go.RowKit (Below)
def uV(f F:Fr):Prop:=∀t,f t=F t∨f t=.top
theorem uV.refl(f:Fr):uV f f:=fun _=>.inl rfl
theorem uV.put{f F:Fr}(h:uV f F)(d:Option Nat)(v:V):uV (ir f d v) (ir F d v):=by
 intro t;cases d with
 |none=>exact h t
 |some d=>
  simp only[ir,fT];cases Nat.beq t d
  ·exact h t
  ·exact .inl rfl
theorem fx{f:Fr}{d:Option Nat}{v:V}{t:Nat}(h:d≠some t):ir f d v t=f t:=by
 cases d with
 |none=>rfl
 |some d=>exact pR (fun e=>h (by rw[e]))
theorem jl{f:Fr}{v:V}{t:Nat}:ir f (some t) v t=v:=by simp[ir,fT,ale]
section
variable {E:Env} {ops:Array Oper} {w0:bw}
variable{nt:Nat}{μ:Ro}{φ:Nat→aA}{f:Fr}{m:Mem}{a:Act}
theorem Rel.weaken{f':Fr}{w:World}(h:Rel E.P E.aF nt w0 μ φ f m a w)(hf:uV f' f):Rel E.P E.aF nt w0 μ φ f' m a w:=
 {h with
  fr:=fun t=>by
   rcases hf t with e|e
   ·rw[e];exact h.fr t
   ·rw[e];exact .top,
  live:=fun t id hid=>by
   rcases hf t with e|e
   ·rw[e]at hid;exact h.live t id hid
   ·rw[e]at hid;cases hid}
variable{t:Nat}
theorem DO{d:Nat}{y:Value}(hd:d<a.tmps.size):(a.put (some d) y).tmps.getD t undef=if t=d then y else a.tmps.getD t undef:=by
 simp only[Act.put,aiA,ajw];by_cases e:d=t
 ·subst e;simp[hd]
 ·have e':¬t=d:=fun h=>e h.symm;simp[e,e']
theorem Rel.put{nt:Nat}{μ μ':Ro}{φ φ':Nat→aA}{f f':Fr}{m m':Mem}{a:Act}{w w':World}(h:Rel E.P E.aF nt w0 μ φ f m a w)(hle:J0 μ μ'){dst:Option Nat}{v:V}{y:Value}(hd:∀d,dst=some d→d<nt)(hM:av E.P E.aF w0 μ' φ' m' w')(hF:bU E.P μ' φ' m' f' (an nt w0 a))(hv:ag E.P μ' φ' v y)(hl:∀id,v.has id=true→(m' id).isSome=true):Rel E.P E.aF nt w0 μ' φ' (ir f' dst v) m' (a.put dst y) w':=by
 refine{toav:=hM,size:=?_,defers:=?_,lD:=h.lD,fr:=fun t=>?_,live:=fun t id hid=>?_}
 ·cases dst<;>simp[Act.put,h.size]
 ·cases dst<;>exact h.defers.mono hle
 ·cases dst with
  |none=>exact hF.fr t
  |some d=>
   have bT:d<a.tmps.size:=by rw[h.size];exact hd d rfl
   have hf:=hF.fr t;by_cases e:t=d
   ·subst e;rw[pK (hd t rfl),DO bT,AI rfl,jl];exact hv
   ·rw[fx (by simpa using fun h=>e h.symm)];unfold an at hf⊢;split
    ·rename_i ht;rw[AI ht]at hf;rw[DO bT,By e];exact hf
    ·rename_i ht;rw[By ht]at hf;exact hf
 ·by_cases e:dst=some t
  ·subst e;rw[jl]at hid;exact hl id hid
  ·rw[fx e]at hid;exact hF.live t id hid
theorem XA(h:t<E.fn.ntmps):bA E f (.tmp t)=f t:=by simp only[bA];rw[show Nat.blt t E.fn.ntmps=true by rw[ajv];exact h];rfl
theorem DP{p:PV}(h:bA E f (.tmp t)=.pv p):t<E.fn.ntmps∧f t=.pv p:=by
 simp only[bA]at h;cases e:Nat.blt t E.fn.ntmps with
 |true=>rw[e]at h;exact⟨by rwa[ajv]at e,h⟩
 |false=>rw[e]at h;cases h
theorem UK{F:Fr}(h:uV f F)(q:Operand):bA E f q=bA E F q∨bA E f q=.top:=by
 cases q with
 |tmp t=>
  simp only[bA];cases Nat.blt t E.fn.ntmps with
  |true=>exact h t
  |false=>exact .inr rfl
 |_=>exact .inl rfl
def qg(nt:Nat)(ops:Array Oper)(A:List (Nat×Bool))(f:Fr):Prop:=∀g∈A,∃t,(ops[g.1]?).bind (·.dst)=some t∧t<nt∧f t=.pv (.bool g.2)
def zr(ops:Array Oper)(A:List (Nat×Bool))(a:Act):Prop:=∀g∈A,∃t,(ops[g.1]?).bind (·.dst)=some t∧a.tmps.getD t undef=.bool g.2
def aan(ops:Array Oper)(A:List (Nat×Bool))(l:List (Nat×Oper)):Prop:=∀x∈l,∀g∈A,∀t,(ops[g.1]?).bind (·.dst)=some t→x.2.dst≠some t
variable{d:Option Nat}{A:List (Nat×Bool)}
theorem qg.put(h:qg nt ops A f){v:V}(hd:∀g∈A,∀t,(ops[g.1]?).bind (·.dst)=some t→d≠some t):qg nt ops A (ir f d v):=by intro g hg;obtain⟨t,h1,h0,h2⟩:=h g hg;exact⟨t,h1,h0,by rw[fx (hd g hg t h1)];exact h2⟩
variable{o:Oper}
theorem iu(h:vl E o=true):∀d,o.dst=some d→d<E.fn.ntmps:=by intro d hd;simp only[vl,hd]at h;rw[ajv]at h;exact h
variable{b:Bool}
theorem tJ{j:Nat}(h:(ops[j]?).bind (·.dst)=some t)(hb:a.tmps.getD t undef=.bool b):yielded ops a.tmps j=some b:=by
 simp only[yielded,h,aiH];have:a.tmps[t]?=some (.bool b):=by
  rw[aiA]at hb;cases e:a.tmps[t]? with
  |none=>rw[e]at hb;simp[undef]at hb
  |some x=>rw[e]at hb;simpa using hb
 rw[this]
theorem AV(ho:guardOf o A=none)(hA:zr ops A a):Region.wanted o (yielded ops a.tmps)=true:=by
 unfold guardOf at ho;unfold Region.wanted;split at ho
 ·rename_i hg;simp[hg]
 ·rename_i g hg;split at ho
  ·rename_i bQ;obtain⟨t,h1,h2⟩:=hA g (by simpa using bQ);simp only[hg];rw[tJ h1 h2];simp
  ·cases ho
theorem zr.put(h:zr ops A a){y:Value}(hs:∀t,d=some t→t<a.tmps.size)(hd:∀g∈A,∀t,(ops[g.1]?).bind (·.dst)=some t→d≠some t):zr ops A (a.put d y):=by
 intro g hg;obtain⟨t,h1,h2⟩:=h g hg;refine⟨t,h1,?_⟩;cases d with
 |none=>exact h2
 |some d=>rw[DO (hs d rfl),By fun e=>hd g hg t h1 (by rw[e])];exact h2
def Sk(ops:Array Oper)(f:Fr)(o:Oper):Prop:=∃g,o.guard=some g∧∀t,(ops[g.1]?).bind (·.dst)=some t→f t=.aP []∨f t=.pv (.bool (!g.2))
theorem Sl{P:Program}{x:Value}(h:ag P μ φ (.aP []) x):x=undef:=by
 cases h with
 | @aP _ xs h1 _=>have:xs= #[]:=akv (by simpa using h1.symm);subst this;rfl
theorem DQ{P:Program}:ag P μ φ (.aP []) undef:=.aP rfl (by simp)
theorem xC{w:World}(h:Rel E.P E.aF nt w0 μ φ f m a w)(hd:Sk ops f o):Region.wanted o (yielded ops a.tmps)=false:=by
 obtain⟨g,hg,ht⟩:=hd;simp only[Region.wanted,hg];cases hs:(ops[g.1]?).bind (·.dst)with
 |none=>simp[yielded,hs]
 |some t=>
  have hy:nt≤t→yielded ops a.tmps g.1=none:=fun hle=>by simp only[yielded,hs,aiH];rw[Array.getElem?_eq_none (by rw[h.size];exact hle)]
  by_cases Fi:nt≤t
  ·rw[hy Fi];rfl
  have bT:t<nt:=Nat.lt_of_not_le Fi;have h3:=h.fr t;rw[pK bT]at h3;rcases ht t hs with e|e
  ·rw[e]at h3;have h4:=Sl h3;have:yielded ops a.tmps g.1=none:=by
    simp only[yielded,hs,aiH];rw[aiA]at h4;cases e:a.tmps[t]? with
    |none=>rfl
    |some x=>rw[e]at h4;simp only[aju]at h4;subst h4;rfl
   rw[this];rfl
  ·rw[e]at h3;rw[tJ hs (qe h3)];cases g.2<;>rfl
theorem tK{t:Nat}:∀{l:List (Nat×Oper)}{f:Fr},(∀x∈l,x.2.dst≠some t)→gV f l t=f t
 |[],_,_=>rfl
 |x::r,f,h=>by rw[gV,tK (fun y hy=>h y (by simp[hy])),fx (h x (by simp))]
theorem wV{t:Nat}:∀{l:List (Nat×Oper)}{f:Fr},(∀x∈l,x.2.dst≠some t)→lM f l t=f t
 |[],_,_=>rfl
 |x::r,f,h=>by rw[lM,wV (fun y hy=>h y (by simp[hy])),fx (h x (by simp))]
theorem AW{t:Nat}:∀{l:List (Nat×Oper)}{f:Fr},(f t=.top∨∃x∈l,x.2.dst=some t)→lM f l t=.top
 |[],_,h=>by
  rcases h with h|⟨x,hx,_⟩
  ·exact h
  ·cases hx
 |x::r,f,h=>by
  rw[lM];by_cases e:x.2.dst=some t
  ·exact AW (.inl (by rw[e,jl]))
  ·refine AW ?_;rcases h with h|⟨y,hy,hd⟩
   ·exact .inl (by rw[fx e];exact h)
   ·rcases abX.1 hy with rfl|hy
    ·exact absurd hd e
    ·exact .inr ⟨y,hy,hd⟩
theorem wW{l:List (Nat×Oper)}{F:Fr}(h:∀t,(∀x∈l,x.2.dst≠some t)→f t=F t∨f t=.top):uV (lM f l) F:=by
 intro t;by_cases e:∃x∈l,x.2.dst=some t
 ·exact .inr (AW (.inr e))
 ·have e':∀x∈l,x.2.dst≠some t:=fun x hx hd=>e ⟨x,hx,hd⟩;rw[wV e'];exact h t e'
theorem zs{g:Nat×Bool}{tj:Nat}(hj:(ops[g.1]?).bind (·.dst)=some tj):∀{l:List (Nat×Oper)}{done:List Nat}{f:Fr},vk g done l=true→(∀x∈l,ops[x.1]?=some x.2)→(∀x∈l,x.2.dst≠some tj)→f tj=.pv (.bool (!g.2))→(∀j∈done,∀t,(ops[j]?).bind (·.dst)=some t→f t=.aP [])→∀(pre post:List (Nat×Oper))(x:Nat×Oper),l=pre++x::post→Sk ops (gV f pre) x.2
 |[],_,_,_,_,_,_,_,pre,post,x,h=>by simp at h
 |y::r,done,f,hg,hl,hd,hb,M8,pre,post,x,h=>by
  simp only[vk,No]at hg;cases pre with
  |nil=>
   simp only[ajN,ajl]at h;obtain⟨rfl,rfl⟩:=h;rw[gV];have h1:=hg.1;split at h1
   ·rename_i hh hgd;refine⟨hh,hgd,fun t ht=>?_⟩;rcases Bool.or_eq_true_iff.1 h1 with h2|h2
    ·simp only[No]at h2;have e1:=BY h2.1;have e2:hh.2=g.2:=by simpa using h2.2
     rw[e1]at ht;rw[hj]at ht;cases ht;exact .inr (by rw[e2];exact hb)
    ·exact .inl (M8 _ (by simpa using h2) t ht)
   ·cases h1
  |cons z pre=>
   simp only[aj3,ajl]at h;obtain⟨rfl,h⟩:=h;rw[gV];refine zs hj hg.2 (fun x hx=>hl x (by simp[hx])) (fun x hx=>hd x (by simp[hx])) (by rw[fx (hd y (by simp))];exact hb) (fun j hjm t ht=>?_) pre post x h;by_cases e:y.2.dst=some t
   ·rw[e,jl]
   ·rw[fx e];rcases abX.1 hjm with rfl|hjm
    ·rw[hl y (by simp)]at ht;exact absurd ht e
    ·exact M8 j hjm t ht
theorem DR{A:List (Nat×Bool)}:∀{l a b:List (Nat×Oper)},BB A l=(a,b)→l=a++b
 |[],a,b,h=>by simp[BB]at h;obtain⟨rfl,rfl⟩:=h;rfl
 |x::r,a,b,h=>by
  simp only[BB]at h;split at h
  ·cases hs:BB A r with
   |mk a' b'=>rw[hs]at h;simp only[IT]at h;obtain⟨rfl,rfl⟩:=h;rw[DR hs];rfl
  ·simp only[IT]at h;obtain⟨rfl,rfl⟩:=h;rfl
theorem zt{v:V}(h:xl v=some b):v=.pv (.bool b):=by
 unfold xl at h;split at h
 ·cases h;rfl
 ·cases h
theorem Za(hE:je E){site:Nat}{draw:Bool}{v:V}{f':Fr}{m':Mem}{ft:bq}(hn:draw=true∨∃c x y,o.op=.pick c x y)(h:∀(R':Type)(k':V→Fr→Mem→bq→Option R'),JB E draw site o f m k'=k' v f' m' ft):tH E draw site o f m v f' m' ft:=by
 have hx:=Hj hE (h (V×Fr×Mem×bq) fun v f m ft=>some (v,f,m,ft));rcases hx with⟨v1,f1,m1,ft1,h1,h2⟩|⟨h1,h2,_⟩
 rotate_left
 ·rcases hn with hn|⟨c,x,y,hn⟩
  ·rw[hn]at h1;cases h1
  ·exact absurd hn (h2 c x y)
 simp only[cN,IT]at h1;obtain⟨rfl,rfl,rfl,rfl⟩:=h1;exact h2
theorem J1{R:Type}{site:Nat}{draw:Bool}{p:Oper}{c:Nat}{x y:Operand}{k:V→Fr→Mem→bq→Option R}(hp:p.op=.pick (.tmp c) x y)(hb:bA E f (.tmp c)=.pv (.bool b)):JB E draw site p f m k=k (bA E f (if b then x else y)) f m []:=by
 have sx:xY E site p f m=none:=by simp only[xY,hp]
 unfold JB;rw[sx];have e:(bif draw then none else bif E.Ay site then(none:Option Sp)else none)=none:=by cases draw<;>cases E.Ay site<;>rfl
 rw[e];simp only[cz,hp,hb];cases b<;>rfl
end
section
variable {E:Env} {ops:Array Oper} {w0:bw}
theorem vF{rd:Option Nat}{Q:Exit→Act→World→Prop}{tail:List Nat}:∀(l:List (Nat×Oper))(f:Fr),(∀x∈l,ops[x.1]?=some x.2)→(∀x∈l,vl E x.2=true)→(∀(pre post:List (Nat×Oper))(x:Nat×Oper),l=pre++x::post→Sk ops (gV f pre) x.2)→∀{μ:Ro}{φ:Nat→aA}{m:Mem}{a:Act}{w:World},Rel E.P E.aF E.fn.ntmps w0 μ φ f m a w→∀(A:List (Nat×Bool)),zr ops A a→aan ops A l→(∀a',Rel E.P E.aF E.fn.ntmps w0 μ φ (gV f l) m a' w→zr ops A a'→wpOpsIn (FR rd) 0 E.P ops Q tail a' w)→wpOpsIn (FR rd) 0 E.P ops Q (l.map (·.1)++tail) a w
 |[],f,_,_,_,_,_,_,a,_,hR,_,hA,_,hK=>hK a hR hA
 |x::r,f,hl,hd,DS,μ,φ,m,a,w,hR,A,hA,DT,hK=>by simp only[aiL,aj3,wpOpsIn];rw[hl x (by simp)];simp only;rw[xC hR (DS [] r x rfl)];simp only[cT,T1];refine And.intro (fun _ _=>trivial) (vF r (ir f x.2.dst (.aP [])) (fun y hy=>hl y (by simp[hy])) (fun y hy=>hd y (by simp[hy])) (fun pre post y h=>?_) (hR.put (fun _ _ h=>h) (iu (hd x (by simp))) hR.toav hR.jD DQ (fun id hid=>by simp[V.has,cd]at hid)) A (hA.put (fun t ht=>by rw[hR.size];exact iu (hd x (by simp)) t ht) fun g pz t ht=>DT x (by simp) g pz t ht) (fun y hy=>DT y (by simp[hy])) hK);have:=DS (x::pre) post y (by rw[h];rfl);rwa[gV]at this
theorem yt:∀{ft:bq},ze ft=true→∀x∈ft,x.1=false
 |[],_,x,hx=>by cases hx
 |(w,id)::r,h,x,hx=>by
  simp only[ze,No,aiT]at h;rcases abX.1 hx with rfl|hx
  ·exact h.1
  ·exact yt h.2 x hx
theorem gR(hE:je E){rd:Option Nat}(hY:sG E.P E.aF E.fn.ntmps E.yl w0):∀(fuel:Nat){mode:Nat}(jO:mode=0∨mode=3){R:Type}{A:List (Nat×Bool)}{l:List (Nat×Oper)}{f:Fr}{m:Mem}{lg:Log}{k:Fr→Mem→Option R}{r:R},ca E ops mode fuel R A l f m lg k=some r→(∀x∈l,ops[x.1]?=some x.2)→aan ops A l→(mode=3→∀x∈l,eW x.2=true)→∀(μ:Ro)(φ:Nat→aA)(a:Act)(w:World)(Q:Exit→Act→World→Prop)(tail:List Nat),Rel E.P E.aF E.fn.ntmps w0 μ φ f m a w→zr ops A a→(∀(f':Fr)(m':Mem)(μ':Ro)(φ':Nat→aA)(a':Act)(w':World),k f' m'=some r→Rel E.P E.aF E.fn.ntmps w0 μ' φ' f' m' a' w'→zr ops A a'→(mode=3→m'=m∧∀t,(∀x∈l,x.2.dst≠some t)→f' t=f t)→wpOpsIn (FR rd) 0 E.P ops Q tail a' w')→wpOpsIn (FR rd) 0 E.P ops Q (l.map (·.1)++tail) a w
 |0,_,_,_,_,_,_,_,_,_,_,h,_,_,_,_,_,_,_,_,_,_,_,_=>by simp[ca]at h
 |fuel+1,mode,jO,R,A,[],f,m,lg,k,r,h,_,_,_,μ,φ,a,w,Q,tail,hR,hA,hK=>by simp only[ca]at h;exact hK f m μ φ a w h hR hA fun _=>⟨rfl,fun _ _=>rfl⟩
 |fuel+1,mode,jO,R,A,(i,o)::rest,f,m,lg,k,r,h,hl,DT,TA,μ,φ,a,w,Q,tail,hR,hA,hK=>by
  simp only[ca]at h;split at h
  ·rename_i hg;split at h
   ·rename_i hd;have WM:Nat.beq mode 2=false:=by rcases jO with rfl|rfl<;>rfl
    simp only[WM,cond_false]at h;rw[←WM]at h;have hdf:=AU h;rcases Hj hE h with⟨v,f1,m1,ft,hk,Sn⟩|⟨_,uW⟩
    rotate_left
    ·simp only[aiL,aj3,wpOpsIn];rw[hl (i,o) (by simp)];simp only;rw[AV hg hA,AI rfl];refine DN.yr uW rd w0 μ φ a w _ Q hY hR fun v f1 m1 y w' μ' φ' hk hle hM hF hv G7=>?_;have cL:Nat.beq mode 2=false:=by rcases jO with rfl|rfl<;>rfl
     rw[cL]at hk;simp only[cT,T1]at hk;rcases jO with rfl|rfl
     ·simp only[Nat.beq,IS]at hk;exact gR hE hY fuel (.inl rfl) hk (fun x hx=>hl x (by simp[hx])) (fun x hx=>DT x (by simp[hx])) (fun hm x hx=>TA hm x (by simp[hx])) _ _ _ _ Q tail (hR.put hle (iu hd) hM hF hv G7) (hA.put (fun t ht=>by rw[hR.size];exact iu hd t ht) fun g pz t ht=>DT (i,o) (by simp) g pz t ht) fun f' m' μ2 φ2 a' w2 pX iN xq tx=>hK f' m' μ2 φ2 a' w2 pX iN xq fun h=>by cases h
     ·simp[Nat.beq,ze]at hk
    have cL:Nat.beq mode 2=false:=by rcases jO with rfl|rfl<;>rfl
    rw[cL]at hk;simp only[cT,T1]at hk;have hq:(mode=3→f1=f∧m1=m)∧ca E ops mode fuel R A rest (ir f1 o.dst v) m1 lg k=some r:=by
     rcases jO with rfl|rfl
     ·simp only[Nat.beq,IS]at hk;exact⟨fun h=>(by cases h),hk⟩
     ·simp only[Nat.beq,cT,T1]at hk;split at hk
      ·rename_i hqf;exact⟨fun h=>Sn.same (TA rfl (i,o) (by simp)) (yt hqf),hk⟩
      ·cases hk
    obtain⟨UL,hk⟩:=hq;simp only[aiL,aj3,wpOpsIn];rw[hl (i,o) (by simp)];simp only;rw[AV hg hA,AI rfl];refine Sn.yr hdf rd w0 μ φ a w _ Q hR fun y w' μ' φ' hle hM hF hv G7=>?_;refine gR hE hY fuel jO hk (fun x hx=>hl x (by simp[hx])) (fun x hx=>DT x (by simp[hx])) (fun hm x hx=>TA hm x (by simp[hx])) _ _ _ _ Q tail (hR.put hle (iu hd) hM hF hv G7) (hA.put (fun t ht=>by rw[hR.size];exact iu hd t ht) fun g pz t ht=>DT (i,o) (by simp) g pz t ht) fun f' m' μ2 φ2 a' w2 pX iN xq tx=>?_;refine hK f' m' μ2 φ2 a' w2 pX iN xq fun hm3=>?_;obtain⟨e1,e2⟩:=UL hm3;obtain⟨e3,e4⟩:=tx hm3;refine⟨by rw[e3,e2],fun t ht=>?_⟩;rw[e4 t fun x hx=>ht x (by simp[hx]),fx (ht (i,o) (by simp)),e1]
   ·cases h
  ·rename_i j BC hg;split at h
   ·rename_i tj WN;split at h
    ·rename_i b hb;have aao:tj<E.fn.ntmps:=by
      simp only[bA]at hb;cases e:Nat.blt tj E.fn.ntmps with
      |true=>rwa[ajv]at e
      |false=>rw[e]at hb;cases hb
     have hbf:f tj=.pv (.bool b):=by simp only[bA]at hb;rw[show Nat.blt tj E.fn.ntmps=true by rw[ajv];exact aao]at hb;exact hb
     have hba:a.tmps.getD tj undef=.bool b:=by have:=(ai hR (.tmp tj)).1;rw[hb]at this;exact qe this
     generalize sx:BB A ((i,o)::rest)=sp at h;obtain⟨body,JE⟩:=sp;have lU:=DR sx;simp only at h;split at h
     ·rename_i Zb;split at h
      ·rename_i hc;simp only[No,ajh,aiT,ajf,alC]at hc Zb;obtain⟨⟨Mo,UM⟩,Zc⟩:=hc;have hm0:mode=0:=BY Zb.1;subst hm0;have bQ:∀z∈body,z∈(i,o)::rest:=fun z hz=>by rw[lU];simp[hz]
       have vG:∀z∈JE,z∈(i,o)::rest:=fun z hz=>by rw[lU];simp[hz]
       by_cases TB:b=BC
       ·have:JD BC b=true:=by subst TB;cases b<;>rfl
        rw[this]at h;simp only[cond]at h;have hfs:fT f tj (.pv (.bool BC))=f:=funext fun t=>by
         unfold fT;cases e:Nat.beq t tj with
         |false=>rfl
         |true=>rw[BY e];simp only[cond];rw[←TB];exact hbf.symm
        rw[hfs]at h;refine gR hE hY fuel jO h hl (fun z hz g pz t ht=>?_) (fun h=>by cases h) _ _ _ _ Q tail hR (fun g pz=>?_) fun f' m' μ2 φ2 a' w2 pX iN xq tx=>hK f' m' μ2 φ2 a' w2 pX iN (fun g pz=>xq g (by simp[pz])) fun h=>by cases h
        ·rcases abX.1 pz with rfl|pz
         ·simp only[WN]at ht;cases ht;exact Zc z hz
         ·exact DT z hz g pz t ht
        ·rcases abX.1 pz with rfl|pz
         ·exact⟨tj,WN,by rw[hba,TB]⟩
         ·exact hA g pz
       ·have:JD BC b=false:=by cases b<;>cases BC<;>first|rfl|exact absurd rfl TB
        rw[this]at h;simp only[cond]at h;have hbn:b= !BC:=by cases b<;>cases BC<;>first|rfl|exact absurd rfl TB
        have hfs:fT f tj (.pv (.bool !BC))=f:=funext fun t=>by
         unfold fT;cases e:Nat.beq t tj with
         |false=>rfl
         |true=>rw[BY e];simp only[cond];rw[←hbn];exact hbf.symm
        rw[hfs]at h;rw[lU,akI,abW];refine vF body f (fun z hz=>hl z (bQ z hz)) Mo (zs WN UM (fun z hz=>hl z (bQ z hz)) (fun z hz=>Zc z (bQ z hz)) (by rw[hbf,hbn]) (by simp)) hR A hA (fun z hz g pz t ht=>DT z (bQ z hz) g pz t ht) fun a' iN xq=>?_
        ·refine gR hE hY fuel jO h (fun z hz=>hl z (vG z hz)) (fun z hz=>DT z (vG z hz)) (fun h=>by cases h) _ _ _ _ Q tail iN xq fun f' m' μ2 φ2 a' w2 pX iN xq tx=>hK f' m' μ2 φ2 a' w2 pX iN xq fun h=>by cases h
      ·cases h
     ·split at h
      ·rename_i ip p lN;split at h
       ·rename_i c x y UN;split at h
        ·rename_i hc;simp only[No,ajh,aiT,ajf,alC]at hc;obtain⟨⟨⟨⟨⟨⟨Nb,hpg⟩,BX⟩,UM⟩,_⟩,hpd⟩,_⟩:=hc;have Nb:=BY Nb;subst Nb;have hpg:guardOf p A=none:=by simpa using hpg
         obtain⟨rb,Fm,h⟩:=cQ.1 h;have bQ:∀z∈body,z∈(i,o)::rest:=fun z hz=>by rw[lU];simp[hz]
         have vG:∀z∈lN,z∈(i,o)::rest:=fun z hz=>by rw[lU];simp[hz]
         have J2:(ip,p)∈(i,o)::rest:=by rw[lU];simp
         rw[lU,akI,abW];have after:∀(f1:Fr)(μ1:Ro)(φ1:Nat→aA)(a1:Act)(w1:World)(q:Operand),Rel E.P E.aF E.fn.ntmps w0 μ1 φ1 f1 m a1 w1→zr ops A a1→(∀t,(∀z∈body,z.2.dst≠some t)→f1 t=f t)→bA E f1 q=.pv (.bool rb)→(q=if b then x else y)→wpOpsIn (FR rd) 0 E.P ops Q (((ip,p)::lN).map (·.1)++tail) a1 w1:=by
          intro f1 μ1 φ1 a1 w1 q Nc hA1 hf1 hq hqe;have Y0:bA E f1 (.tmp c)=.pv (.bool b):=by simp only[bA];rw[show Nat.blt c E.fn.ntmps=true by rw[ajv];exact aao];show f1 c=_;rw[hf1 c fun z hz=>(BX z hz).2];exact hbf
          simp only[aiL,aj3,wpOpsIn];rw[hl (ip,p) J2];simp only;rw[AV hpg hA1,AI rfl];have Sn:tH E (Nat.beq mode 1||Nat.beq mode 2) (cA E p.dst) p f1 m (.pv (.bool rb)) f1 m []:=Za hE (.inr ⟨_,_,_,UN⟩) fun R' k'=>by rw[J1 UN Y0,←hqe,hq]
          refine Sn.yr (fun c h=>by rw[UN]at h;cases h) rd w0 μ1 φ1 a1 w1 _ Q Nc fun z w' μ' φ' tx hM hF hv G7=>?_;have hle:uV (ir (lM f body) p.dst (.pv (.bool rb))) (ir f1 p.dst (.pv (.bool rb))):=uV.put (wW fun t ht=>.inl (hf1 t ht).symm) _ _;refine gR hE hY fuel jO h (fun z hz=>hl z (vG z hz)) (fun z hz=>DT z (vG z hz)) (fun hm z hz=>TA hm z (vG z hz)) _ _ _ _ Q tail ((Nc.put tx (iu hpd) hM hF hv G7).weaken hle) (hA1.put (fun t ht=>by rw[Nc.size];exact iu hpd t ht) fun g pz t ht=>DT (ip,p) J2 g pz t ht) fun f' m' μ2 φ2 a' w2 pX iN xq tx=>?_;refine hK f' m' μ2 φ2 a' w2 pX iN xq fun hm3=>?_;obtain⟨e3,e4⟩:=tx hm3;refine⟨e3,fun t ht=>?_⟩;rw[e4 t fun z hz=>ht z (vG z hz),fx (ht (ip,p) J2),wV fun z hz=>ht z (bQ z hz)]
         have go:∀q,b=BC→(q=if b then x else y)→ca E ops 3 fuel Bool ((j,BC)::A) body f m lg (fun f _=>xl (bA E f q))=some rb→wpOpsIn (FR rd) 0 E.P ops Q (body.map (·.1)++(((ip,p)::lN).map (·.1)++tail)) a w:=by
          intro q TB hq XB;refine gR hE hY fuel (.inr rfl) XB (fun z hz=>hl z (bQ z hz)) ?_ (fun _ z hz=>(BX z hz).1.1) _ _ _ _ Q _ hR ?_ fun f' m' μ2 φ2 a' w2 pX iN xq tx=>?_
          ·intro z hz g pz t ht;rcases abX.1 pz with rfl|pz
           ·simp only[WN]at ht;cases ht;exact(BX z hz).2
           ·exact DT z (bQ z hz) g pz t ht
          ·intro g pz;rcases abX.1 pz with rfl|pz
           ·exact⟨c,WN,by rw[hba,TB]⟩
           ·exact hA g pz
          ·obtain⟨e1,e2⟩:=tx rfl;subst e1;exact after f' μ2 φ2 a' w2 q iN (fun g pz=>xq g (by simp[pz])) e2 (zt pX) hq
         have no:∀q,b= !BC→(q=if b then x else y)→xl (bA E (lM f body) q)=some rb→wpOpsIn (FR rd) 0 E.P ops Q (body.map (·.1)++(((ip,p)::lN).map (·.1)++tail)) a w:=by
          intro q TB hq XB;refine vF body f (fun z hz=>hl z (bQ z hz)) (fun z hz=>(BX z hz).1.2) (zs WN UM (fun z hz=>hl z (bQ z hz)) (fun z hz=>(BX z hz).2) (by rw[hbf,TB]) (by simp)) hR A hA (fun z hz g pz t ht=>DT z (bQ z hz) g pz t ht) fun a' iN xq=>?_;refine after _ μ φ a' w q iN xq (fun t ht=>tK ht) ?_ hq;have hv:=zt XB;cases q with
          |tmp t=>
           simp only[bA]at hv⊢;have hle:uV (lM f body) (gV f body):=wW fun t ht=>.inl (tK ht).symm;cases e:Nat.blt t E.fn.ntmps with
           |false=>rw[e]at hv;cases hv
           |true=>
            rw[e]at hv;simp only[cond]at hv⊢;rcases hle t with e|e
            ·rw[←e];exact hv
            ·rw[e]at hv;cases hv
          |_=>exact hv
         have hbm:(bif Nat.beq mode 0 then 3 else mode)=3:=by rcases jO with rfl|rfl<;>rfl
         rw[hbm]at Fm;cases BC<;>cases b<;>simp only[cond]at Fm
         ·exact go y rfl rfl Fm
         ·exact no x rfl rfl Fm
         ·exact no y rfl rfl Fm
         ·exact go x rfl rfl Fm
        ·cases h
       ·cases h
      ·cases h
    ·cases h
   ·cases h
end
structure Rec where
 i:Nat
 o:Oper
 v:V
 wr:List (Nat×bF)
 ft:bq
 kl:Kl
def Rec.fs(r:Rec)(f:Fr):Fr:=ir (kf r.kl f) r.o.dst r.v
def Rec.ms(r:Rec)(m:Mem):Mem:=sw r.wr (km r.kl m)
def Rec.Gf(r:Rec)(id:Nat):Prop:=∃b,(b,id)∈r.kl
def lE(f:Fr):List Rec→Fr
 |[]=>f
 |r::l=>lE (r.fs f) l
def pe(m:Mem):List Rec→Mem
 |[]=>m
 |r::l=>pe (r.ms m) l
def nK(S:Nat→Bool)(f:Fr):List Rec→Fr
 |[]=>f
 |r::l=>nK S (bif S r.i then r.fs f else f) l
def nL(S:Nat→Bool)(m:Mem):List Rec→Mem
 |[]=>m
 |r::l=>nL S (bif S r.i then r.ms m else m) l
theorem Hk:∀{wr:List (Nat×bF)}{m:Mem}{j:Nat},(∀b,(j,b)∉wr)→sw wr m j=m j
 |[],_,_,_=>rfl
 |(id,b)::r,m,j,h=>by rw[sw,Hk fun b' hb=>h b' (by simp[hb])];exact ao fun e=>h b (by simp[e])
theorem UO:∀{wr:List (Nat×bF)}{j:Nat},(∃b,(j,b)∈wr)→∃b',(j,b')∈wr∧∀m:Mem,sw wr m j=some b'
 |[],_,h=>by simp_all
 |(id,b)::r,j,h=>by
  by_cases hr:∃b,(j,b)∈r
  ·obtain⟨b',h1,h2⟩:=UO hr;exact⟨b',by simp[h1],fun m=>h2 _⟩
  ·obtain⟨b0,hb⟩:=h;rcases abX.1 hb with hb|hb
   ·simp only[IT]at hb;obtain⟨rfl,rfl⟩:=hb;simp_all[sw,Hk]
   simp_all
mutual
theorem J3{id:Nat}:∀{v:V},v.vh id=true→v.has id=true
 |.agg cs,h=>tL (cs:=cs) (by simpa[V.vh]using h)
 |.aP cs,h=>tL (cs:=cs) (by simpa[V.vh]using h)
 |.fn _ cs,h=>tL (cs:=cs) (by simpa[V.vh]using h)
 |.vg _ _ _,h=>h
 |.y7 _ _ _ _ _ _,h=>h
 |.pv _,h=>by cases h
 |.gy,h=>by cases h
 |.op _ _,h=>by cases h
 |.oe _ _ _,h=>by cases h
 |.os _,h=>by cases h
 |.fq _ _ _,h=>by cases h
 |.om _,h=>by cases h
 |.yl _,h=>by cases h
 |.it _,h=>by cases h
 |.top,h=>by cases h
theorem tL{id:Nat}:∀{cs:List V},y8 id cs=true→cd id cs=true
 |[],h=>by cases h
 |c::r,h=>by
  simp only[y8,aiI]at h;simp only[cd,aiI];rcases h with h|h
  ·exact .inl (J3 h)
  ·exact .inr (tL h)
end
variable{id:Nat}
theorem BZ{v:V}(h:v.has id=false):rf id v=v:=by unfold rf;rw[h];rfl
theorem B0{id:Nat}:∀{cs:List V},cd id cs=false→cs.map (rf id)=cs
 |[],_=>rfl
 |c::r,h=>by simp only[cd,ajp]at h;simp only[aiL,BZ h.1,B0 h.2]
theorem J4{b:bF}(h:b.names id=false):fU id b=b:=by
 cases b with
 |box cs=>simp only[fU,B0 (show cd id cs=false from h)]
 |_=>rfl
theorem zu{v:V}(h:v.has id=false):mS id v=v:=by
 unfold mS;cases h2:v.vh id with
 |false=>rfl
 |true=>rw[J3 h2]at h;cases h
theorem zw{id:Nat}:∀{cs:List V},cd id cs=false→cs.map (mS id)=cs
 |[],_=>rfl
 |c::r,h=>by simp only[cd,ajp]at h;simp only[aiL,zu h.1,zw h.2]
theorem Hl{b:bF}(h:b.names id=false):dH id b=b:=by
 cases b with
 |box cs=>simp only[dH,zw (show cd id cs=false from h)]
 |_=>rfl
theorem DU:∀{kl:Kl}{f:Fr}{t:Nat},(∀id,(∃b,(b,id)∈kl)→(f t).has id=false)→kf kl f t=f t
 |[],_,_,_=>rfl
 |(true,id)::r,f,t,h=>by have h0:eM id f t=f t:=BZ (h id ⟨true,by simp⟩);rw[kf,DU (kl:=r) (f:=eM id f) fun j hj=>by rw[h0];exact h j (let⟨b,hb⟩:=hj;⟨b,by simp[hb]⟩),h0]
 |(false,id)::r,f,t,h=>by have h0:gz id f t=f t:=zu (h id ⟨false,by simp⟩);rw[kf,DU (kl:=r) (f:=gz id f) fun j hj=>by rw[h0];exact h j (let⟨b,hb⟩:=hj;⟨b,by simp[hb]⟩),h0]
theorem zx:∀{kl:Kl}{f g:Fr}{t:Nat},f t=g t→kf kl f t=kf kl g t
 |[],_,_,_,h=>h
 |(true,id)::r,f,g,t,h=>zx (kl:=r) (f:=eM id f) (g:=eM id g) (by simp only[eM,h])
 |(false,id)::r,f,g,t,h=>zx (kl:=r) (f:=gz id f) (g:=gz id g) (by simp only[gz,h])
theorem DV:∀{kl:Kl}{m:Mem}{j:Nat},(∀id,(∃b,(b,id)∈kl)→j≠id∧∀b,m j=some b→b.names id=false)→km kl m j=m j
 |[],_,_,_=>rfl
 |(true,id)::r,m,j,h=>by
  obtain⟨h1,h2⟩:=h id ⟨true,by simp⟩;have h0:bj (bB id m) id j=m j:=by
   rw[fi h1];unfold bB;cases hm:m j with
   |none=>rfl
   |some b=>simp only[J4 (h2 b hm)]
  rw[km,DV (kl:=r) (m:=bj (bB id m) id) fun i hi=>by rw[h0];exact h i (let⟨b,hb⟩:=hi;⟨b,by simp[hb]⟩),h0]
 |(false,id)::r,m,j,h=>by
  obtain⟨h1,h2⟩:=h id ⟨false,by simp⟩;have h0:eT id m j=m j:=by
   unfold eT;cases hm:m j with
   |none=>rfl
   |some b=>simp only[Hl (h2 b hm)]
  rw[km,DV (kl:=r) (m:=eT id m) fun i hi=>by rw[h0];exact h i (let⟨b,hb⟩:=hi;⟨b,by simp[hb]⟩),h0]
theorem DW:∀{kl:Kl}{m n:Mem}{j:Nat},m j=n j→km kl m j=km kl n j
 |[],_,_,_,h=>h
 |(true,id)::r,m,n,j,h=>DW (kl:=r) (m:=bj (bB id m) id) (n:=bj (bB id n) id) (by
  by_cases e:j=id
  ·subst e;simp
  simp_all[fi,bB])
 |(false,id)::r,m,n,j,h=>DW (kl:=r) (m:=eT id m) (n:=eT id n) (by simp only[eT,h])
variable{r:Rec}
theorem Rec.J5{f:Fr}{t:Nat}(h:r.o.dst=some t):r.fs f t=r.v:=by unfold Rec.fs;rw[h,jl]
theorem Rec.QJ{f:Fr}{t:Nat}(h:r.o.dst≠some t)(hc:∀id,r.Gf id→(f t).has id=false):r.fs f t=f t:=by unfold Rec.fs;rw[fx h];exact DU hc
theorem Rec.DX{f g:Fr}{t:Nat}(h:f t=g t):r.fs f t=r.fs g t:=by
 by_cases e:r.o.dst=some t
 ·rw[J5 e,J5 e]
 ·unfold Rec.fs;grind [fx,zx]
theorem Rec.Zd{j:Nat}(h:∃b,(j,b)∈r.wr):∃b',(j,b')∈r.wr∧∀m,r.ms m j=some b':=let⟨b',h1,h2⟩:=UO h;⟨b',h1,fun m=>h2 _⟩
theorem Rec.UP{m:Mem}{j:Nat}(h:∀b,(j,b)∉r.wr)(hc:∀id,r.Gf id→j≠id∧∀b,m j=some b→b.names id=false):r.ms m j=m j:=by unfold Rec.ms;rw[Hk h];exact DV hc
theorem Rec.DY{m n:Mem}{j:Nat}(h:m j=n j):r.ms m j=r.ms n j:=by
 by_cases e:∃b,(j,b)∈r.wr
 ·obtain⟨b,_,e⟩:=Rec.Zd e;rw[e,e]
 ·have e':∀b,(j,b)∉r.wr:=fun b hb=>e ⟨b,hb⟩;unfold Rec.ms;grind [Hk,DW]
section
variable {S S':Nat→Bool}
theorem J6{f:Fr}:∀{l l':List Rec},lE f (l++l')=lE (lE f l) l':=by
 intro l;induction l generalizing f with
 |nil=>intro l';rfl
 |cons r l ih=>intro l';exact ih
theorem J7{m:Mem}:∀{l l':List Rec},pe m (l++l')=pe (pe m l) l':=by
 intro l;induction l generalizing m with
 |nil=>intro l';rfl
 |cons r l ih=>intro l';exact ih
theorem vH{f:Fr}:∀{l l':List Rec},nK S f (l++l')=nK S (nK S f l) l':=by
 intro l;induction l generalizing f with
 |nil=>intro l';rfl
 |cons r l ih=>intro l';exact ih
theorem vI{m:Mem}:∀{l l':List Rec},nL S m (l++l')=nL S (nL S m l) l':=by
 intro l;induction l generalizing m with
 |nil=>intro l';rfl
 |cons r l ih=>intro l';exact ih
theorem Gg{t:Nat}:∀{l:List Rec}{f:Fr},(∀q∈l,q.o.dst≠some t∧q.kl=[])→lE f l t=f t
 |[],_,_=>rfl
 |r::l,f,h=>by rw[lE,Gg fun q hq=>h q (by simp[hq])];obtain⟨h1,h2⟩:=h r (by simp);exact Rec.QJ h1 fun id⟨b,hid⟩=>by rw[h2]at hid;cases hid
theorem pA{t:Nat}:∀{l:List Rec}{f:Fr},(∀q∈l,S q.i=true→q.o.dst≠some t∧∀id,q.Gf id→(f t).has id=false)→nK S f l t=f t
 |[],_,_=>rfl
 |r::l,f,h=>by
  have h0:(bif S r.i then r.fs f else f) t=f t:=by
   cases e:S r.i with
   |false=>rfl
   |true=>simp_all[Rec.QJ]
  rw[nK,pA fun q hq hs=>by rw[h0];exact h q (by simp[hq]) hs,h0]
theorem DZ{t:Nat}:∀{l:List Rec}{f g:Fr},f t=g t→(∀q∈l,S q.i=false→q.o.dst≠some t∧q.kl=[])→nK S f l t=lE g l t
 |[],_,_,h,_=>h
 |r::l,f,g,h,hs=>by
  rw[nK,lE];refine DZ ?_ fun q hq=>hs q (by simp[hq]);cases e:S r.i with
  |true=>exact Rec.DX h
  |false=>obtain⟨h1,h2⟩:=hs r (by simp) e;rw[Rec.QJ h1 fun id⟨b,hid⟩=>by rw[h2]at hid;cases hid];exact h
theorem yu{t:Nat}:∀{l:List Rec}{f g:Fr},f t=g t→(∀q∈l,S q.i=S' q.i)→nK S f l t=nK S' g l t
 |[],_,_,h,_=>h
 |r::l,f,g,h,hs=>by
  rw[nK,nK];refine yu ?_ fun q hq=>hs q (by simp[hq]);rw[hs r (by simp)];cases S' r.i
  ·exact h
  ·exact Rec.DX h
theorem pB{j:Nat}:∀{l:List Rec}{m:Mem},(∀q∈l,S q.i=true→(∀b,(j,b)∉q.wr)∧∀id,q.Gf id→j≠id∧∀b,m j=some b→b.names id=false)→nL S m l j=m j
 |[],_,_=>rfl
 |r::l,m,h=>by
  have h0:(bif S r.i then r.ms m else m) j=m j:=by
   cases e:S r.i with
   |false=>rfl
   |true=>simp_all[Rec.UP]
  rw[nL,pB fun q hq hs=>by rw[h0];exact h q (by simp[hq]) hs,h0]
theorem D2{j:Nat}:∀{l:List Rec}{m n:Mem},m j=n j→(∀q∈l,S q.i=false→(∀b,(j,b)∉q.wr)∧q.kl=[])→nL S m l j=pe n l j
 |[],_,_,h,_=>h
 |r::l,m,n,h,hs=>by
  rw[nL,pe];refine D2 ?_ fun q hq=>hs q (by simp[hq]);cases e:S r.i with
  |true=>exact Rec.DY h
  |false=>obtain⟨h1,h2⟩:=hs r (by simp) e;rw[Rec.UP h1 fun id⟨b,hid⟩=>by rw[h2]at hid;cases hid];exact h
theorem yw{j:Nat}:∀{l:List Rec}{m n:Mem},m j=n j→(∀q∈l,S q.i=S' q.i)→nL S m l j=nL S' n l j
 |[],_,_,h,_=>h
 |r::l,m,n,h,hs=>by
  rw[nL,nL];refine yw ?_ fun q hq=>hs q (by simp[hq]);rw[hs r (by simp)];cases S' r.i
  ·exact h
  ·exact Rec.DY h
end
section
variable {E:Env} {ops:Array Oper} {w0:bw}
def Gh(E:Env)(ops:Array Oper)(w0:bw)(r:Rec)(f:Fr)(m:Mem):Prop:=∀(f2:Fr)(m2:Mem),(∀t∈r.o.looksAt ops,f2 t=f t)→(∀x∈r.ft,m2 x.2=m x.2)→∀(μ:Ro)(φ:Nat→aA)(a:Act)(w:World)(K:Act→World→Prop)(Q:Exit→Act→World→Prop),Rel E.P E.aF E.fn.ntmps w0 μ φ f2 m2 a w→(∀μ' φ' a' w',Rel E.P E.aF E.fn.ntmps w0 μ' φ' (r.fs f2) (r.ms m2) a' w'→K a' w')→if Region.wanted r.o (yielded ops a.tmps)then∀rd:Option Nat,r.o.wpIn (FR rd) 0 E.P a w K Q else K (a.put r.o.dst undef) w
def fy(E:Env)(ops:Array Oper)(w0:bw):Fr→Mem→List Rec→Prop
 |_,_,[]=>True
 |f,m,r::l=>Gh E ops w0 r f m∧(∀id b,(id,b)∈r.wr→(true,id)∈r.ft)∧fy E ops w0 (r.fs f) (r.ms m) l
theorem fy.append{f:Fr}{m:Mem}{l l':List Rec}:fy E ops w0 f m (l++l')↔fy E ops w0 f m l∧fy E ops w0 (lE f l) (pe m l) l':=by
 induction l generalizing f m with
 |nil=>simp[fy,lE,pe]
 |cons r l ih=>simp_all[aj3,fy,lE,pe,alu]
def Clean(ops:Array Oper)(id:Nat)(r:Rec)(f:Fr)(m:Mem):Prop:=(∀t∈r.o.looksAt ops,(f t).has id=false)∧r.v.has id=false∧(∀x∈r.ft,x.2≠id∧∀b,m x.2=some b→b.names id=false)∧∀j b,(j,b)∈r.wr→(∀m,r.ms m j=some b)→j≠id∧b.names id=false
def nD(ops:Array Oper):Fr→Mem→List Rec→Prop
 |_,_,[]=>True
 |f,m,r::l=>(∀q∈l,∀id,q.Gf id→reach ops 4 q.o r.i=true∨Clean ops id r f m)∧nD ops (r.fs f) (r.ms m) l
theorem nD.append{f:Fr}{m:Mem}{l l':List Rec}(h:nD ops f m (l++l')):nD ops (lE f l) (pe m l) l':=by
 induction l generalizing f m with
 |nil=>exact h
 |cons r l ih=>exact ih h.2
def Ord(ops:Array Oper)(q r:Rec):Prop:=reach ops 4 r.o q.i=true∨(q.o.apart ops r.o=true∧(∀id b,(id,b)∈q.wr→∀x∈r.ft,x.2≠id)∧∀id b,(id,b)∈r.wr→∀x∈q.ft,x.2≠id)
theorem Sq{o:Oper}{j:Nat}(h:C7 o j=true):∃e∈o.after,Region.binds .any e=true∧e.on=j:=by unfold C7 at h;obtain⟨e,he,h⟩:=aj5.1 h;have he:e∈o.after:=ajH.1 he;simp only[No]at h;grind [Nat.eq_of_beq_eq_true]
abbrev aC(l:Array Bool):Nat→Bool:=fun i=>l.getD i false
def yy(ops:Array Oper)(listed:Array Bool):Prop:=∀i o,ops[i]?=some o→aC listed i=true→∀e∈o.after,Region.binds .any e=true→aC listed e.on=true
theorem qi(listed:Array Bool)(uU:yy ops listed):∀(n:Nat)(o:Oper)(j:Nat),(∀e∈o.after,Region.binds .any e=true→aC listed e.on=true)→reach ops n o j=true→aC listed j=true:=by
 have acE:∀(o:Oper)(j:Nat),(∀e∈o.after,Region.binds .any e=true→aC listed e.on=true)→C7 o j=true→aC listed j=true:=fun o j ho h=>by grind [Sq]
 intro n;induction n with
 |zero=>exact fun o j ho h=>acE o j ho h
 |succ n ihn=>
  intro o j ho h;simp only[reach,aiI]at h;rcases h with h|h
  ·exact acE o j ho h
  ·obtain⟨e,he,h⟩:=aj5.1 h;simp only[No]at h;obtain⟨hb,h⟩:=h;have he:e∈o.after:=ajH.1 he;split at h
   ·rename_i p hp;exact ihn p j (uU e.on p hp (ho e he hb)) h
   ·cases h
theorem UQ{rd:Option Nat}{recs:List Rec}{f0:Fr}{m0:Mem}{Q:Exit→Act→World→Prop}{base:Nat→Bool}(bT:recs.Pairwise fun q r=>q.i<r.i)(uW:∀r∈recs,ops[r.i]?=some r.o)(Ze:∀r∈recs,base r.i=false)(Zf:∀i o,ops[i]?=some o→base i=false→(∀r∈recs,r.i≠i)→(∀r∈recs,reach ops 8 o r.i=true)∨∃j,reach ops 8 o j=true∧base j=false∧∀r∈recs,r.i≠j)(acF:recs.Pairwise (Ord ops))(Zg:recs.Pairwise fun q r=>q.kl≠[]→reach ops 4 r.o q.i=true)(agB:nD ops f0 m0 recs)(UR:∀r∈recs,∀e∈r.o.after,Region.binds .any e=true→e.on<r.i∧(base e.on=true∨∃q∈recs,q.i=e.on))(Cr:fy E ops w0 f0 m0 recs)(hQ:∀(fuel:Nat)(listed:Array Bool),listed.size=ops.size→listed.toList.countP (fun b=> !b)≤fuel→yy ops listed→(∀i,aC listed i=true↔base i=true∨∃r∈recs,r.i=i)→∀μ φ a w,Rel E.P E.aF E.fn.ntmps w0 μ φ (lE f0 recs) (pe m0 recs) a w→wpAnyIn (FR rd) 0 E.P .any ops Q fuel listed a w):∀(fuel:Nat)(listed:Array Bool),listed.size=ops.size→listed.toList.countP (fun b=> !b)≤fuel→yy ops listed→(∀i,base i=true→aC listed i=true)→(∀i,aC listed i=true→base i=true∨∃r∈recs,r.i=i)→∀(μ:Ro)(φ:Nat→aA)(a:Act)(w:World),Rel E.P E.aF E.fn.ntmps w0 μ φ (nK (aC listed) f0 recs) (nL (aC listed) m0 recs) a w→wpAnyIn (FR rd) 0 E.P .any ops Q fuel listed a w:=by
 have done:∀(fuel:Nat)(listed:Array Bool),listed.size=ops.size→listed.toList.countP (fun b=> !b)≤fuel→yy ops listed→(∀i,base i=true→aC listed i=true)→(∀i,aC listed i=true→base i=true∨∃r∈recs,r.i=i)→(∀r∈recs,aC listed r.i=true)→∀(μ:Ro)(φ:Nat→aA)(a:Act)(w:World),Rel E.P E.aF E.fn.ntmps w0 μ φ (nK (aC listed) f0 recs) (nL (aC listed) m0 recs) a w→wpAnyIn (FR rd) 0 E.P .any ops Q fuel listed a w:=by
  intro fuel listed hs hc uU hb uw hl μ φ a w hR;have e1:nK (aC listed) f0 recs=lE f0 recs:=funext fun t=>DZ rfl fun q hq hf=>by rw[hl q hq]at hf;cases hf
  have e2:nL (aC listed) m0 recs=pe m0 recs:=funext fun t=>D2 rfl fun q hq hf=>by rw[hl q hq]at hf;cases hf
  rw[e1,e2]at hR;exact hQ fuel listed hs hc uU (fun i=>⟨uw i,fun h=>h.elim (hb i) fun⟨r,hr,e⟩=>e▸hl r hr⟩) μ φ a w hR
 have XC:∀(listed:Array Bool),listed.size=ops.size→(∀i,base i=true→aC listed i=true)→(∀r∈recs,r.i∉Region.ready .any ops listed)→∀(n:Nat)(r:Rec),r∈recs→r.i<n→aC listed r.i=true:=by
  intro listed hs hb hr n;induction n with
  |zero=>intro r _ h;omega
  |succ n ih=>
   intro r yY hi;cases hc:aC listed r.i with
   |true=>rfl
   |false=>
    exfalso;have bT:r.i<listed.size:=by rw[hs];exact(OF.1 (uW r yY)).1
    refine hr r yY (mem_ready.2 ⟨by simp only[aC,aiA,IN bT,aju]at hc⊢;exact hc,r.o,uW r yY,fun e he gN=>?_⟩);obtain⟨h1,h2⟩:=UR r yY e he gN;rcases h2 with h2|⟨q,hq,hqi⟩
    ·exact hb _ h2
    ·have:=ih q hq (by omega);rwa[hqi]at this
 intro fuel;induction fuel with
 |zero=>
  intro listed hs hc uU hb uw μ φ a w hR;refine done 0 listed hs hc uU hb uw (fun r hr=>?_) μ φ a w hR;have bT:r.i<listed.size:=by rw[hs];exact(OF.1 (uW r hr)).1
  have:=alp.1 (Nat.le_zero.1 hc) listed[r.i] (by simp);simp only[aC,aiA,IN bT,aju];simpa using this
 |succ fuel ih=>
  intro listed hs hc uU hb uw μ φ a w hR;by_cases US:∀r∈recs,aC listed r.i=true
  ·exact done (fuel+1) listed hs hc uU hb uw US μ φ a w hR
  have acG:∃r∈recs,aC listed r.i=false:=by
   refine ajE fun dh=>US fun r hr=>?_;cases hx:aC listed r.i with
   |true=>rfl
   |false=>exact absurd ⟨r,hr,hx⟩ dh
  refine⟨fun h0=>absurd (fun r hr=>XC listed hs hb (fun r hr h=>by rw[h0]at h;cases h) (r.i+1) r hr (by omega)) US,fun i hi=>?_⟩;obtain⟨UT,o,ho,D3⟩:=mem_ready.1 hi;have acH:aC listed i=false:=by
   have bT:i<listed.size:=by rw[hs];exact(OF.1 ho).1
   simp only[aC,aiA,IN bT,aju]at UT⊢;exact UT
  have hex:∃r∈recs,r.i=i∧r.o=o:=by
   refine ajE fun dh=>?_;have Mn:∀r∈recs,r.i≠i:=fun r hr e=>dh ⟨r,hr,e,by have:=uW r hr;rw[e,ho]at this;exact(akJ this).symm⟩;have hbi:base i=false:=by
    cases hx:base i with
    |false=>rfl
    |true=>rw[hb i hx]at acH;cases acH
   rcases Zf i o ho hbi Mn with h|⟨j,h1,h2,h3⟩
   ·obtain⟨r,hr,hrl⟩:=acG;rw[qi listed uU 8 o r.i D3 (h r hr)]at hrl;cases hrl
   ·have:=qi listed uU 8 o j D3 h1;rcases uw j this with h|⟨r,hr,e⟩
    ·rw[h]at h2;cases h2
    ·exact h3 r hr e
  obtain⟨r,hr,rfl,rfl⟩:=hex;have UU:r.i<listed.size:=by rw[hs];exact(OF.1 ho).1
  have hSi:aC listed r.i=false:=by simp only[aC,aiA,IN UU,aju]at UT⊢;exact UT
  obtain⟨pre,post,lU⟩:=List.append_of_mem hr;subst lU;have Fo:∀q∈pre,Ord ops q r:=fun q hq=>(ajI.1 acF).2.2 q hq r (by simp);have QK:∀q∈post,Ord ops r q:=fun q hq=>(ajr.1 (ajI.1 acF).2.1).1 q hq;have aap:∀q∈post,q.i≠r.i:=fun q hq=>by have:=(ajr.1 (ajI.1 bT).2.1).1 q hq;omega
  have acI:∀q∈pre,q.i≠r.i:=fun q hq=>by have:=(ajI.1 bT).2.2 q hq r (by simp);omega
  have acJ:∀q:Rec,reach ops 4 r.o q.i=true→aC listed q.i=true:=fun q h=>qi listed uU 4 r.o q.i D3 h;have Nf:∀q∈post,reach ops 4 q.o r.i=true→aC listed q.i=false:=fun q hq h=>by
   cases Z4:aC listed q.i with
   |false=>rfl
   |true=>have:=qi listed uU 4 q.o r.i (uU q.i q.o (uW q (by simp[hq])) Z4) h;rw[hSi]at this;cases this
  have Zh:∀(f:Fr),nK (aC listed) f (r::post)=nK (aC listed) f post:=fun f=>by rw[nK,hSi];rfl
  have UW:∀(m:Mem),nL (aC listed) m (r::post)=nL (aC listed) m post:=fun m=>by rw[nL,hSi];rfl
  obtain⟨_,aaq,hrw,_⟩:=fy.append.1 Cr;have hc:=agB.append.1;have Zi:∀q∈pre,q.kl≠[]→reach ops 4 r.o q.i=true:=fun q hq=>(ajI.1 Zg).2.2 q hq r (by simp);have UX:r.kl≠[]→∀q∈post,reach ops 4 q.o r.i=true:=fun h q hq=>(ajr.1 (ajI.1 Zg).2.1).1 q hq h;unfold wpOpIn;rw[uW r hr];simp only;have hf1:∀t∈r.o.looksAt ops,nK (aC listed) f0 pre t=lE f0 pre t:=fun t ht=>DZ rfl fun q hq hs=>by
   have Mn:¬reach ops 4 r.o q.i=true:=fun h=>by rw[acJ q h]at hs;cases hs
   refine⟨fun hd=>?_,?_⟩
   ·rcases Fo q hq with h|⟨h,_⟩
    ·exact Mn h
    ·exact absurd ht ((Oper.apart_spec h).1 t hd)
   ·exact ajE fun dh=>Mn (Zi q hq dh)
  have hm1:∀x∈r.ft,nL (aC listed) m0 pre x.2=pe m0 pre x.2:=fun x hx=>D2 rfl fun q hq hs=>by
   have Mn:¬reach ops 4 r.o q.i=true:=fun h=>by rw[acJ q h]at hs;cases hs
   refine⟨fun b hb=>?_,?_⟩
   ·rcases Fo q hq with h|⟨_,h,_⟩
    ·exact Mn h
    ·exact absurd rfl (h _ b hb x hx)
   ·exact ajE fun dh=>Mn (Zi q hq dh)
  have WH:∀q∈post,aC listed q.i=true→¬reach ops 4 q.o r.i=true:=fun q hq hs h=>by rw[Nf q hq h]at hs;cases hs
  have hf2:∀t∈r.o.looksAt ops,nK (aC listed) f0 (pre++r::post) t=lE f0 pre t:=fun t ht=>by
   rw[vH,Zh,pA fun q hq hs=>⟨fun hd=>?_,fun id hid=>?_⟩]
   ·exact hf1 t ht
   ·rcases QK q hq with h|⟨h,_⟩
    ·exact WH q hq hs h
    ·exact absurd ht ((Oper.apart_spec h).2.2 t hd)
   ·rw[hf1 t ht];rcases hc q hq id hid with h|h
    ·exact absurd h (WH q hq hs)
    ·exact h.1 t ht
  have cL:∀x∈r.ft,nL (aC listed) m0 (pre++r::post) x.2=pe m0 pre x.2:=fun x hx=>by
   rw[vI,UW,pB fun q hq hs=>⟨fun b hb=>?_,fun id hid=>?_⟩]
   ·exact hm1 x hx
   ·rcases QK q hq with h|⟨_,_,h⟩
    ·exact WH q hq hs h
    ·exact absurd rfl (h _ b hb x hx)
   ·rw[hm1 x hx];rcases hc q hq id hid with h|h
    ·exact absurd h (WH q hq hs)
    ·exact h.2.2.1 x hx
  have hwp:=aaq _ _ hf2 cL μ φ a w (wpAnyIn (FR rd) 0 E.P .any ops Q fuel (listed.setIfInBounds r.i true)) Q hR fun μ' φ' a' w' iN=>by
   have hS':∀j,aC (listed.setIfInBounds r.i true) j=if j=r.i then true else aC listed j:=fun j=>by
    simp only[aC,aiA,ajw];by_cases e:r.i=j
    ·subst e;simp[UU]
    ·have e':¬j=r.i:=fun h=>e h.symm;simp[e,e']
   refine ih (listed.setIfInBounds r.i true) (by simp[hs]) ?_ ?_ ?_ ?_ μ' φ' a' w' ?_
   ·rw[akM,List.countP_set (by simpa using UU)];have:listed.toList[r.i]'(by simpa using UU)=false:=by simp only[aC,aiA,IN UU,aju]at hSi;simpa using hSi
    rw[this];simp only[ai4,IS,aiK,cT,T1];omega
   ·intro i' o' UY oc e he Mo;rw[hS']at oc⊢;split
    ·rfl
    ·split at oc
     ·rename_i hqi;subst hqi;have:o'=r.o:=by rw[uW r hr]at UY;exact(akJ UY).symm
      subst this;exact D3 e he Mo
     ·exact uU i' o' UY oc e he Mo
   ·intro i' oc;rw[hS'];split
    ·rfl
    ·exact hb i' oc
   ·intro i' oc;rw[hS']at oc;split at oc
    ·rename_i hqi;exact Or.inr ⟨r,hr,hqi.symm⟩
    ·exact uw i' oc
   ·have Zj:∀q∈pre,aC (listed.setIfInBounds r.i true) q.i=aC listed q.i:=fun q hq=>by rw[hS',By (acI q hq)]
    have vJ:∀q∈post,aC (listed.setIfInBounds r.i true) q.i=aC listed q.i:=fun q hq=>by rw[hS',By (aap q hq)]
    have hSr:aC (listed.setIfInBounds r.i true) r.i=true:=by rw[hS',AI rfl]
    have e1:nK (aC (listed.setIfInBounds r.i true)) f0 (pre++r::post)=r.fs (nK (aC listed) f0 (pre++r::post)):=funext fun t=>by
     have hg:nK (aC (listed.setIfInBounds r.i true)) f0 pre=nK (aC listed) f0 pre:=funext fun s=>yu rfl Zj;rw[vH,vH,Zh,nK,hSr,hg];simp only[cond];by_cases hk:r.kl=[]
     ·by_cases hd:r.o.dst=some t
      ·rw[Rec.J5 hd,pA fun q hq hs=>⟨fun hqd=>?_,fun id hid=>?_⟩,Rec.J5 hd]
       ·rw[vJ q hq]at hs;rcases QK q hq with h|⟨h,_⟩
        ·exact WH q hq hs h
        ·exact absurd hqd ((Oper.apart_spec h).2.1 t hd)
       ·rw[vJ q hq]at hs;rw[Rec.J5 hd];rcases hc q hq id hid with h|h
        ·exact absurd h (WH q hq hs)
        ·exact h.2.1
      ·have BV:∀(g:Fr),r.fs g t=g t:=fun g=>Rec.QJ hd fun id⟨b,hid⟩=>by rw[hk]at hid;cases hid
       rw[BV];exact yu (BV _) vJ
     ·have UT:∀q∈post,aC listed q.i=false:=fun q hq=>Nf q hq (UX hk q hq);rw[pA fun q hq hs=>by rw[vJ q hq,UT q hq]at hs;cases hs];exact Rec.DX (pA fun q hq hs=>by rw[UT q hq]at hs;cases hs).symm
    have e2:nL (aC (listed.setIfInBounds r.i true)) m0 (pre++r::post)=r.ms (nL (aC listed) m0 (pre++r::post)):=funext fun j=>by
     have hg:nL (aC (listed.setIfInBounds r.i true)) m0 pre=nL (aC listed) m0 pre:=funext fun s=>yw rfl Zj;rw[vI,vI,UW,nL,hSr,hg];simp only[cond];by_cases hk:r.kl=[]
     ·by_cases hd:∃b,(j,b)∈r.wr
      ·obtain⟨b,hd,vd⟩:=Rec.Zd hd;rw[vd,pB fun q hq hs=>⟨fun b' hqd=>?_,fun id hid=>?_⟩,vd]
       ·rw[vJ q hq]at hs;rcases QK q hq with h|⟨_,_,h⟩
        ·exact WH q hq hs h
        ·exact absurd rfl (h j b' hqd (true,j) (hrw j b hd))
       ·rw[vJ q hq]at hs;rcases hc q hq id hid with h|h
        ·exact absurd h (WH q hq hs)
        ·obtain⟨h1,h2⟩:=h.2.2.2 j b hd vd;refine⟨h1,fun b' gN=>?_⟩;rw[vd]at gN;cases gN;exact h2
      ·have hd':∀b,(j,b)∉r.wr:=fun b hb=>hd ⟨b,hb⟩;have BV:∀(g:Mem),r.ms g j=g j:=fun g=>Rec.UP hd' fun id⟨b,hid⟩=>by rw[hk]at hid;cases hid
       rw[BV];exact yw (BV _) vJ
     ·have UT:∀q∈post,aC listed q.i=false:=fun q hq=>Nf q hq (UX hk q hq);rw[pB fun q hq hs=>by rw[vJ q hq,UT q hq]at hs;cases hs];exact Rec.DY (pB fun q hq hs=>by rw[UT q hq]at hs;cases hs).symm
    rw[e1,e2];exact iN
  split
  ·rename_i hw;rw[AI hw]at hwp;exact hwp rd
  ·rename_i hw;rw[By hw]at hwp;exact⟨fun _ _=>trivial,hwp⟩
end
section
variable {E:Env} {ops:Array Oper} {w0:bw}
variable{o:Oper}
theorem Sr{t:Nat}(h:.tmp t∈o.op.operands):t∈o.looksAt ops:=by unfold Oper.looksAt;refine aiW.2 (.inl (List.mem_filterMap.2 ⟨.tmp t,by simpa using h,rfl⟩))
theorem vK{g:Nat×Bool}{t:Nat}(hg:o.guard=some g)(h:(ops[g.1]?).bind (·.dst)=some t):t∈o.looksAt ops:=by simp_all[Oper.looksAt]
variable{f F:Fr}
theorem wX(h:∀t∈o.looksAt ops,f t=F t):∀x∈o.op.operands,bA E f x=bA E F x:=by
 intro x hx;cases x with
 |tmp t=>simp_all[bA,Sr]
 |_=>rfl
variable{A:List (Nat×Bool)}{φ:Nat→aA}{a:Act}{w:World}
theorem J8{f2:Fr}{m2:Mem}{μ:Ro}(hg:guardOf o A=none)(hA:qg E.fn.ntmps ops A f)(hR:Rel E.P E.aF E.fn.ntmps w0 μ φ f2 m2 a w)(hf:∀t∈o.looksAt ops,f2 t=f t):Region.wanted o (yielded ops a.tmps)=true:=by
 unfold guardOf at hg;unfold Region.wanted;split at hg
 ·rename_i hgd;simp[hgd]
 ·rename_i g hgd;split at hg
  ·rename_i bQ;obtain⟨t,h1,h0,h2⟩:=hA g (by simpa using bQ);have h3:=hR.fr t;grind [pK,vK,tJ,qe]
  ·cases hg
variable{i:Nat}{ft:bq}{m:Mem}
theorem D4(hE:je E){v:V}{wr:List (Nat×bF)}(hg:guardOf o A=none)(hA:qg E.fn.ntmps ops A f)(hd:vl E o=true)(hn:∀(f2:Fr)(m2:Mem),(∀x∈o.op.operands,bA E f2 x=bA E f x)→(∀x∈ft,m2 x.2=m x.2)→∀(R':Type)(k':V→Fr→Mem→bq→Option R'),JB E true (cA E o.dst) o f2 m2 k'=k' v f2 (sw wr m2) ft):Gh E ops w0 ⟨i,o,v,wr,ft,[]⟩ f m:=by
 intro f2 m2 hf hm μ φ a w K Q hR hK;have hw:Region.wanted o (yielded ops a.tmps)=true:=by
  unfold guardOf at hg;unfold Region.wanted;split at hg
  ·rename_i hgd;simp[hgd]
  ·rename_i g hgd;split at hg
   ·rename_i bQ;obtain⟨t,h1,h0,h2⟩:=hA g (by simpa using bQ);have h3:=hR.fr t;grind [pK,vK,tJ,qe]
   ·cases hg
 simp only at hf hm hK⊢;rw[AI hw];exact fun rd=>(Za hE (.inl rfl) (hn f2 m2 (wX hf) hm)).yr (AU (hn f2 m2 (wX hf) hm Unit fun _ _ _ _=>some ())) rd w0 μ φ a w K Q hR fun y w' μ' φ' hle hM hF hv hl=>hK _ _ _ _ (hR.put hle (iu hd) hM hF hv hl)
theorem Ng(hd:vl E o=true)(DS:Sk ops f o):Gh E ops w0 ⟨i,o,.aP [],[],[],[]⟩ f m:=by
 intro f2 m2 hf hm μ φ a w K Q hR hK;simp only at hf hm hK⊢;have aar:Sk ops f2 o:=by obtain⟨g,hg,ht⟩:=DS;exact⟨g,hg,fun t h=>by simp_all[vK]⟩
 rw[xC hR aar];simp only[cT,T1];exact hK _ _ _ _ (hR.put (fun _ _ h=>h) (iu hd) hR.toav hR.jD DQ (fun id hid=>by simp[V.has,cd]at hid))
def zy(x:Nat×Oper):Rec:=⟨x.1,x.2,.aP [],[],[],[]⟩
theorem Gi{m:Mem}:∀(l:List (Nat×Oper))(F:Fr),(∀x∈l,vl E x.2=true)→(∀(pre post:List (Nat×Oper))(x:Nat×Oper),l=pre++x::post→Sk ops (gV F pre) x.2)→fy E ops w0 F m (l.map zy)∧lE F (l.map zy)=gV F l
 |[],F,_,_=>⟨trivial,rfl⟩
 |x::r,F,hd,DS=>by obtain⟨h1,h2⟩:=Gi (m:=m) r (ir F x.2.dst (.aP [])) (fun y hy=>hd y (by simp[hy])) (fun pre post y h=>by have:=DS (x::pre) post y (by rw[h];rfl);rwa[gV]at this);exact⟨⟨Ng (hd x (by simp)) (DS [] r x rfl),by simp[zy],h1⟩,h2⟩
theorem Gj{m:Mem}:∀{l:List Rec},(∀q∈l,q.wr=[]∧q.kl=[])→pe m l=m
 |[],_=>rfl
 |r::l,h=>by
  obtain⟨h1,h2⟩:=h r (by simp);have:r.ms m=m:=by unfold Rec.ms;rw[h1,h2];rfl
  simp_all[pe,Gj]
theorem fy.wr:∀{l:List Rec}{f:Fr}{m:Mem},fy E ops w0 f m l→∀q∈l,∀id b,(id,b)∈q.wr→(true,id)∈q.ft
 |[],_,_,_,q,hq=>by cases hq
 |r::l,f,m,h,q,hq=>by
  rcases abX.1 hq with rfl|hq
  ·exact h.2.1
  ·exact fy.wr h.2.2 q hq
def UZ(q r:Rec):Prop:=reach ops 4 r.o q.i=true∨((∀id b,(id,b)∈q.wr→∀x∈r.ft,x.2≠id)∧∀id b,(id,b)∈r.wr→∀x∈q.ft,x.2≠id)
theorem J9{o:Oper}{w:Bool}{id:Nat}:∀{lg:Log},Qo ops o w id lg=true→∀x∈lg,id≠x.2.2∨(w=false∧x.2.1=false)∨reach ops 4 o x.1=true
 |[],_,x,hx=>by cases hx
 |(j,w',qW)::lg,h,x,hx=>by
  simp only[Qo,No]at h;rcases abX.1 hx with rfl|hx
  ·have h1:=h.1;simp only[aiI,aiT,No]at h1;grind [Nat.beq_refl]
  ·exact J9 h.2 x hx
theorem AX{o:Oper}{lg:Log}:∀{ft:bq},AH ops o lg ft=true→∀y∈ft,∀x∈lg,y.2≠x.2.2∨(y.1=false∧x.2.1=false)∨reach ops 4 o x.1=true
 |[],_,y,hy=>by cases hy
 |(w,id)::ft,h,y,hy=>by
  simp only[AH,No]at h;rcases abX.1 hy with rfl|hy
  ·exact J9 h.1
  ·exact AX h.2 y hy
theorem D5{o:Oper}{id:Nat}:∀{lg:Log},CF ops o id lg=true→∀x∈lg,x.2.2=wH id→reach ops 4 o x.1=true
 |[],_,x,hx=>by cases hx
 |(j,w,n)::lg,h,x,hx=>by
  simp only[CF,No,aiI,aiT]at h;intro he;rcases abX.1 hx with rfl|hx
  ·simp_all
  ·exact D5 h.2 x hx he
mutual
theorem QL{id:Nat}:∀(v:V),v.has id=true→id∈v.ids
 |.agg cs,h=>sP cs (by simpa only[V.has]using h)
 |.aP cs,h=>sP cs (by simpa only[V.has]using h)
 |.fn _ cs,h=>sP cs (by simpa only[V.has]using h)
 |.os j,h=>by have:=BY h;subst this;simp[V.ids]
 |.fq j _ _,h=>by have:=BY h;subst this;simp[V.ids]
 |.oe j _ _,h=>by have:=BY h;subst this;simp[V.ids]
 |.om j,h=>by have:=BY h;subst this;simp[V.ids]
 |.vg j _ _,h=>by have:=BY h;subst this;simp[V.ids]
 |.y7 j _ _ _ _ _,h=>by have:=BY h;subst this;simp[V.ids]
 |.op j _,h=>by have:=BY h;subst this;simp[V.ids]
 |.it j,h=>by have:=BY h;subst this;simp[V.ids]
 |.yl j,h=>by have:=BY h;subst this;simp[V.ids]
 |.pv _,h=>by cases h
 |.gy,h=>by cases h
 |.top,h=>by cases h
theorem sP{id:Nat}:∀(cs:List V),cd id cs=true→id∈JC cs
 |[],h=>by cases h
 |v::r,h=>by
  simp only[cd,aiI]at h;simp only[JC,aiW];rcases h with h|h
  ·exact .inl (QL v h)
  ·exact .inr (sP r h)
end
variable{id:Nat}
theorem zz{b:bF}(h:b.names id=true):id∈C8 (some b):=by
 cases b with
 |box cs=>exact sP cs h
 |_=>cases h
theorem yz{m m':Mem}{id:Nat}:∀{ft:bq}{x:Bool×Nat},x∈ft→(id∈C8 (m x.2)∨id∈C8 (m' x.2))→id∈G2 m m' ft
 |y::ft,x,hx,h=>by
  simp only[G2,aiW];rcases abX.1 hx with rfl|hx
  ·exact .inl h
  ·exact .inr (yz hx h)
theorem U0{v:V}{wr:List (Nat×bF)}(Ka:∀t∈o.looksAt ops,f t=F t)(hwr:∀j b,(j,b)∈wr→(true,j)∈ft)(hn:id∉CE ops o f m (sw wr m) v ft)(hft:∀x∈ft,x.2≠id):Clean ops id ⟨i,o,v,wr,ft,[]⟩ F m:=by
 simp only[CE,aiW,alD]at hn;obtain⟨⟨h1,h2⟩,h3⟩:=hn;refine⟨fun t ht=>?_,?_,fun x hx=>⟨hft x hx,fun b hb=>?_⟩,fun j b hb vd=>⟨hft _ (hwr j b hb),?_⟩⟩
 ·cases e:(F t).has id with
  |false=>rfl
  |true=>exact absurd (sP _ (cC.2 ⟨f t,aiR.2 ⟨t,ht,rfl⟩,by rw[Ka t ht];omega⟩)) h1
 ·cases e:v.has id with
  |false=>rfl
  |true=>exact absurd (QL _ e) h2
 ·cases e:b.names id with
  |false=>rfl
  |true=>grind [absurd,yz,zz]
 ·cases e:b.names id with
  |false=>rfl
  |true=>exact absurd (yz (hwr j b hb) (.inr (by have gN:sw wr m j=some b:=vd m;simp_all[zz]))) h3
variable{R:Type}
theorem Nh{site:Nat}{rd:bq}(h:tw E f m o=some (id,rd)){k:V→Fr→Mem→bq→Option R}{r:R}(hx:cz E false site o f m k=some r):(∀x∈rd,x.1=false)∧∃dw,k (.os id) (eM id f) (al (bj (bB id m) id) id dw) [(true,0)]=some r∧∀(f2:Fr)(m2:Mem),(∀x∈o.op.operands,bA E f2 x=bA E f x)→(∀x∈(true,id)::rd,m2 x.2=m x.2)→∀(R':Type)(k':V→Fr→Mem→bq→Option R'),cz E false site o f2 m2 k'=k' (.os id) (eM id f2) (al (bj (bB id m2) id) id dw) [(true,0)]:=by
 obtain⟨dst,op,type,pos,after,guard⟩:=o;unfold tw at h;simp only at h;split at h
 ·rename_i c;obtain⟨callee,args,argTypes⟩:=c;simp only at h;split at h
  ·rename_i qW x t t' qd hty;split at h
   ·rename_i e hu;split at h
    ·rename_i new rd' CK;split at h
     ·cases h
     ·rename_i hxh;simp only[cN,IT]at h;obtain⟨rfl,rfl⟩:=h;obtain⟨he1,he2,_⟩:=mU CK;have ait:∀m2:Mem,bj (bB qW m2) qW qW=none:=fun m2=>by simp_all
      have main:∀(f2:Fr)(m2:Mem),args.toList.map (bA E f2)=[.os qW,x]→m2 qW=m qW→ey m2 (aQ E.P e) x=some (new,rd')→∀(R':Type)(k':V→Fr→Mem→bq→Option R'),cz E false site ⟨dst,.call ⟨.builtin .append,args,argTypes⟩,type,pos,after,guard⟩ f2 m2 k'=if !(decide (t'=t))then none else if(db E e).isNone then none else match m qW with
       |some (.arr sz et es)=>if et=e∧sz=aQ E.P e∧x.has qW=false then(if(es++new).length*E9 E.P e≤ar∧0<E9 E.P e then k' (.os qW) (eM qW f2) (al (bj (bB qW m2) qW) qW (.arr sz e (es++new))) [(true,0)]else none)else none
       |_=>none:=by
       intro f2 m2 h1 h2 h3 R' k'
       simp only[cz,h1,hty,zd,akm,hu,h3,h2]
       split
       ·rfl
       ·split
        ·rfl
        ·split
         ·simp_all[fresh]
         simp
      rw[main f m qd rfl CK]at hx;refine⟨he2,?_⟩;split at hx
      ·cases hx
      ·rename_i Z7;split at hx
       ·cases hx
       ·rename_i T8;split at hx
        ·rename_i sz et es hm;split at hx
         ·rename_i hc3;split at hx
          ·rename_i hc4;refine⟨_,hx,fun f2 m2 hf cL R' k'=>?_⟩;have ha:args.toList.map (bA E f2)=[.os qW,x]:=by grind [nC,Op.operands,Call.operands]
           rw[main f2 m2 ha (cL (true,qW) (by simp)) (he1 m2 fun y hy=>cL y (by simp[hy])) R' k'];simp_all
          ·cases hx
         ·cases hx
        ·cases hx
    ·cases h
   ·cases h
  ·cases h
 ·cases h
theorem uV.kill(h:uV f F)(id:Nat):uV (eM id f) (eM id F):=fun t=>by
 rcases h t with e|e
 ·exact .inl (by simp only[eM,e])
 ·exact .inr (by simp only[eM,e];rfl)
theorem qg.kill{nt:Nat}(h:qg nt ops A f)(id:Nat):qg nt ops A (eM id f):=by intro g hg;obtain⟨t,h1,h0,h2⟩:=h g hg;exact⟨t,h1,h0,by simp only[eM,h2];rfl⟩
theorem U1{x:Nat×bq}(h:tw E f m o=some x):isApp E o=true:=by
 obtain⟨dst,op,type,pos,after,guard⟩:=o;unfold tw at h;simp only at h;unfold isApp;split at h
 ·rename_i c;obtain⟨callee,args,argTypes⟩:=c;grind
 ·cases h
theorem Hm{rd:bq}(h:tw E f m o=some (id,rd)):∃c x t t',o.op=.call c∧c.callee=.builtin .append∧c.args.toList.map (bA E f)=[.os id,x]∧c.argTypes.toList=[t,t']:=by unfold tw at h;grind
theorem Ss{kl:Kl}(h:G3 E f m o=some (kl,ft)){k:V→Fr→Mem→bq→Option R}{r:R}(hx:JB E false (cA E o.dst) o f m k=some r):isApp E o=true∧∃v wr ft1,k v (kf kl f) (sw wr (km kl m)) ft1=some r∧(∀x∈wr,(true,x.1)∈ft)∧(∀x∈kl,(true,x.2)∈ft)∧∀(f2:Fr)(m2:Mem),(∀x∈o.op.operands,bA E f2 x=bA E f x)→(∀x∈ft,m2 x.2=m x.2)→∀(R':Type)(k':V→Fr→Mem→bq→Option R'),JB E false (cA E o.dst) o f2 m2 k'=k' v (kf kl f2) (sw wr (km kl m2)) ft1:=by
 unfold G3 at h;unfold JB at hx;split at h
 ·rename_i sp sx;simp only[cN]at h;have hn:E.Ay (cA E o.dst)=true:=by grind
  rw[hn]at sx hx;simp only[cond]at sx hx;rw[sx]at hx;obtain⟨v,wr,h1,h2,h3,h4,_,_⟩:=Na sx hx;rw[h]at h1 h2 h3 h4;refine⟨by unfold isApp;rw[hn];rfl,v,wr,ft,h1,h2,h3,fun f2 m2 hf hm R' k'=>?_⟩;have:=M7 sx hf (by rw[h];exact hm);simp_all[JB,cond]
 ·rename_i sx;split at h
  ·rename_i id rd U2;simp only[cN,IT]at h;obtain⟨rfl,rfl⟩:=h;have e0:(bif false then none else bif E.Ay (cA E o.dst)then xY E (cA E o.dst) o f m else none)=(bif E.Ay (cA E o.dst)then xY E (cA E o.dst) o f m else none):=rfl;rw[e0,sx]at hx;simp only at hx;obtain⟨zn,dw,hk,hn⟩:=Nh U2 hx;refine⟨U1 U2,.os id,[(id,dw)],[(true,0)],hk,by simp,by simp,fun f2 m2 hf hm R' k'=>?_⟩;have acK:(bif E.Ay (cA E o.dst)then xY E (cA E o.dst) o f2 m2 else none)=none:=by
    cases F0:E.Ay (cA E o.dst)with
    |false=>rfl
    |true=>
     simp only[cond];obtain⟨c,x,t,t',hc,acL,qd,Xz⟩:=Hm U2;have agC:c.args.toList.map (bA E f2)=[.os id,x]:=by simp_all[ai7,Op.operands,Call.operands]
     have cL:m2 id=m id:=hm (true,id) (by simp);have hm3:∃sz et es,m id=some (.arr sz et es):=by obtain⟨dst,op,type,pos,after,guard⟩:=o;simp only at hc;subst hc;obtain⟨callee,args,argTypes⟩:=c;simp only at acL qd Xz;subst acL;simp only[cz,qd,Xz,zd,akm]at hx;grind
     obtain⟨sz,et,es,hm3⟩:=hm3;unfold xY;simp_all
   unfold JB;have e1:(bif false then none else bif E.Ay (cA E o.dst)then xY E (cA E o.dst) o f2 m2 else none)=(bif E.Ay (cA E o.dst)then xY E (cA E o.dst) o f2 m2 else none):=rfl;rw[e1,acK];exact hn f2 m2 hf hm R' k'
  ·cases h
theorem uV.xo(h:uV f F)(id:Nat):uV (gz id f) (gz id F):=fun t=>by
 rcases h t with e|e
 ·simp_all[gz]
 ·exact .inr (by simp only[gz,e];rfl)
theorem uV.kf:∀{kl:Kl}{f F:Fr},uV f F→uV (Go.Ab.kf kl f) (Go.Ab.kf kl F)
 |[],_,_,h=>h
 |(true,id)::r,f,F,h=>uV.kf (kl:=r) (f:=eM id f) (F:=eM id F) (h.kill id)
 |(false,id)::r,f,F,h=>uV.kf (kl:=r) (f:=gz id f) (F:=gz id F) (h.xo id)
theorem qg.xo{nt:Nat}(h:qg nt ops A f)(id:Nat):qg nt ops A (gz id f):=by intro g hg;obtain⟨t,h1,h0,h2⟩:=h g hg;exact⟨t,h1,h0,by simp only[gz,h2];rfl⟩
theorem qg.kf{nt:Nat}{A:List (Nat×Bool)}:∀{kl:Kl}{f:Fr},qg nt ops A f→qg nt ops A (Go.Ab.kf kl f)
 |[],_,h=>h
 |(true,id)::r,f,h=>qg.kf (kl:=r) (f:=eM id f) (h.kill id)
 |(false,id)::r,f,h=>qg.kf (kl:=r) (f:=gz id f) (h.xo id)
theorem St(hE:je E)(hY:sG E.P E.aF E.fn.ntmps E.yl w0){v:V}{wr:List (Nat×bF)}{kl:Kl}{ft1:bq}(hg:guardOf o A=none)(hA:qg E.fn.ntmps ops A F)(hd:vl E o=true)(Sn:∀x∈o.op.operands,bA E f x=bA E F x)(hn:∀(f2:Fr)(m2:Mem),(∀x∈o.op.operands,bA E f2 x=bA E f x)→(∀x∈ft,m2 x.2=m x.2)→∀(R':Type)(k':V→Fr→Mem→bq→Option R'),JB E false (cA E o.dst) o f2 m2 k'=k' v (kf kl f2) (sw wr (km kl m2)) ft1):Gh E ops w0 ⟨i,o,v,wr,ft,kl⟩ F m:=by
 intro f2 m2 hf hm μ φ a w K Q hR hK;have hw:Region.wanted o (yielded ops a.tmps)=true:=J8 hg hA hR hf;simp only at hf hm hK⊢;rw[AI hw];have hx:=hn f2 m2 (fun x hx=>by rw[wX hf x hx,Sn x hx]) hm (V×Fr×Mem) fun v f m _=>some (v,f,m);rcases Hj hE hx with⟨v,f',m',ft,h1,h2⟩|⟨_,h2⟩
 ·simp only[cN,IT]at h1;obtain⟨rfl,rfl,rfl⟩:=h1;exact fun rd=>h2.yr (AU hx) rd w0 μ φ a w K Q hR fun y w' μ' φ' hle hM hF hv hl=>hK _ _ _ _ (hR.put hle (iu hd) hM hF hv hl)
 ·refine fun rd=>DN.yr h2 rd w0 μ φ a w K Q hY hR fun v f' m' y w' μ' φ' h1 hle hM hF hv hl=>?_;simp only[cN,IT]at h1;obtain⟨rfl,rfl,rfl⟩:=h1;exact hK _ _ _ _ (hR.put hle (iu hd) hM hF hv hl)
structure Hn(ops:Array Oper)(mode:Nat)(F:Fr)(m:Mem)(lg:Log)(recs:List Rec):Prop where
 one:mode=1→∀q∈recs,q.wr=[]∧q.kl=[]
 ord:mode=2→recs.Pairwise (UZ (ops:=ops))
 log:mode=2→∀q∈recs,∀y∈q.ft,∀x∈lg,y.2≠x.2.2∨(y.1=false∧x.2.1=false)∨reach ops 4 q.o x.1=true
 kl:recs.Pairwise fun q r=>q.kl≠[]→reach ops 4 r.o q.i=true
 cln:nD ops F m recs
 nam:∀q∈recs,∀id,q.Gf id→mode=2∧ops.toList.any (isApp E)=true∧(true,id)∈q.ft∧∀x∈lg,x.2.2=wH id→reach ops 4 q.o x.1=true
theorem nD.none:∀{l:List Rec}{f:Fr}{m:Mem},(∀q∈l,q.kl=[])→nD ops f m l
 |[],_,_,_=>trivial
 |r::l,f,m,h=>⟨fun q hq id⟨b,hid⟩=>(by simp_all),nD.none fun q hq=>h q (by simp[hq])⟩
theorem lV(hE:je E)(hY:sG E.P E.aF E.fn.ntmps E.yl w0){mode:Nat}(jO:mode=1∨mode=2):∀(fuel:Nat){R:Type}{A:List (Nat×Bool)}{l:List (Nat×Oper)}{f:Fr}{m:Mem}{lg:Log}{k:Fr→Mem→Option R}{r:R},ca E ops mode fuel R A l f m lg k=some r→(∀x∈l,ops[x.1]?=some x.2)→(mode=1→∀x∈l,eW x.2=true)→aan ops A l→∀F:Fr,uV f F→qg E.fn.ntmps ops A F→(∀x∈l,∀t∈x.2.looksAt ops,f t=F t)→∃(recs:List Rec)(f':Fr),k f' (pe m recs)=some r∧uV f' (lE F recs)∧recs.map (fun r=>(r.i,r.o))=l∧fy E ops w0 F m recs∧Hn (E:=E) ops mode F m lg recs
 |0,_,_,_,_,_,_,_,_,h,_,_,_,_,_,_,_=>by simp[ca]at h
 |fuel+1,R,A,[],f,m,lg,k,r,h,_,_,_,F,hF,_,_=>by simp only[ca]at h;exact⟨[],f,h,hF,rfl,trivial,by simp,fun _=>.nil,by simp,.nil,trivial,by simp⟩
 |fuel+1,R,A,(i,o)::rest,f,m,lg,k,r,h,hl,TA,DT,F,hF,hA,Ka=>by
  have hm1:(Nat.beq mode 1||Nat.beq mode 2)=true:=by simp_all
  simp only[ca,hm1]at h;split at h
  ·rename_i hg;split at h
   ·rename_i hd;have acM:∀x∈o.op.operands,bA E f x=bA E F x:=wX (Ka (i,o) (by simp));split at h
    ·rename_i kl ft sx;have aas:mode=2:=by
      rcases jO with rfl|rfl
      ·cases sx
      rfl
     subst aas;have sx:G3 E f m o=some (kl,ft):=sx;split at h
     ·rename_i Qu;simp only[No,ajh]at Qu;obtain⟨⟨agD,agE⟩,agF⟩:=Qu;obtain⟨U2,v,wr,ft1,hk,hwr,Zg,hn⟩:=Ss sx h;obtain⟨recs,f',c1,c2,c3,c4,c5⟩:=lV hE hY (.inr rfl) fuel hk (fun x hx=>hl x (by simp[hx])) (fun hm=>by omega) (fun x hx=>DT x (by simp[hx])) (ir (kf kl F) o.dst v) ((uV.kf (kl:=kl) hF).put _ _) (qg.put (qg.kf (kl:=kl) hA) fun g pz t ht=>DT (i,o) (by simp) g pz t ht) (fun x hx t ht=>by
       by_cases e:o.dst=some t
       ·rw[e,jl,jl]
       grind [fx,zx])
      have uW:∀q∈recs,reach ops 4 q.o i=true:=fun q hq=>agF (q.i,q.o) (by grind);have aat:ops.toList.any (isApp E)=true:=aj5.2 ⟨o,abV (by rw[aiM];exact hl (i,o) (by simp)),U2⟩;refine⟨⟨i,o,v,wr,ft,kl⟩::recs,f',c1,c2,by simp[c3],⟨St hE hY hg hA hd acM hn,fun j b hb=>hwr _ hb,c4⟩,?_⟩;refine⟨fun hm=>(by omega),fun hm=>ajr.2 ⟨fun q hq=>.inl (uW q hq),c5.ord hm⟩,fun hm q hq=>?_,ajr.2 ⟨fun q hq _=>uW q hq,c5.kl⟩,⟨fun q hq qW _=>.inl (uW q hq),c5.cln⟩,fun q hq qW hid=>?_⟩
      ·rcases abX.1 hq with rfl|hq
       ·exact AX agD
       ·exact fun y hy x hx=>c5.log hm q hq y hy x (aiW.2 (.inr hx))
      ·rcases abX.1 hq with rfl|hq
       ·obtain⟨bb,hid⟩:=hid;exact⟨rfl,aat,Zg _ hid,D5 (agE _ hid)⟩
       ·obtain⟨g1,g2,g3,g4⟩:=c5.nam q hq qW hid;exact⟨g1,g2,g3,fun x hx=>g4 x (aiW.2 (.inr hx))⟩
     ·cases h
    ·rcases Hj hE h with⟨v,f1,m1,ft,hk,Sn⟩|⟨xz,_⟩
     rotate_left
     ·cases xz
     obtain⟨hf1,wr,acN,hwr,hn⟩:=Sn.drawn rfl;subst hf1;have RU:∀(f2:Fr)(m2:Mem),(∀x∈o.op.operands,bA E f2 x=bA E F x)→(∀x∈ft,m2 x.2=m x.2)→∀(R':Type)(k':V→Fr→Mem→bq→Option R'),JB E true (cA E o.dst) o f2 m2 k'=k' v f2 (sw wr m2) ft:=fun f2 m2 hf=>hn f2 m2 fun x hx=>by rw[hf x hx,acM x hx]
     have step:∀(wr':List (Nat×bF))(lg':Log),sw wr' m=m1→(mode=1→wr'=[])→(∀id b,(id,b)∈wr'→(true,id)∈ft)→Gh E ops w0 ⟨i,o,v,wr',ft,[]⟩ F m→ca E ops mode fuel R A rest (ir f1 o.dst v) m1 lg' k=some r→(mode=2→lg'=(bif ops.toList.any (isApp E)then(CE ops o f1 m m1 v ft).map (fun n=>(i,false,wH n))else[])++(ft.map (fun x=>(i,x))++lg)∧AH ops o lg ft=true)→∃(recs:List Rec)(f':Fr),k f' (pe m recs)=some r∧uV f' (lE F recs)∧recs.map (fun r=>(r.i,r.o))=(i,o)::rest∧fy E ops w0 F m recs∧Hn (E:=E) ops mode F m lg recs:=by
      intro wr' lg' hwm R7 hw2 aaq XB hlg;obtain⟨recs,f',c1,c2,c3,c4,c5⟩:=lV hE hY jO fuel XB (fun x hx=>hl x (by simp[hx])) (fun hm x hx=>TA hm x (by simp[hx])) (fun x hx=>DT x (by simp[hx])) (ir F o.dst v) (hF.put _ _) (qg.put hA fun g pz t ht=>DT (i,o) (by simp) g pz t ht) (fun x hx t ht=>by
       by_cases e:o.dst=some t
       ·rw[e,jl,jl]
       grind [fx])
      subst hwm;refine⟨⟨i,o,v,wr',ft,[]⟩::recs,f',c1,c2,by simp[c3],⟨aaq,hw2,c4⟩,?_⟩;have acO:mode=2→∀x∈lg,x∈lg':=fun hm x hx=>by simp_all
      have Zk:mode=2→∀x∈ft,(i,x)∈lg':=fun hm x hx=>by simp_all
      refine⟨fun hm q hq=>?_,fun hm=>ajr.2 ⟨fun q hq=>?_,c5.ord hm⟩,fun hm q hq=>?_,ajr.2 ⟨fun q hq h=>absurd rfl h,c5.kl⟩,⟨fun q hq id hid=>?_,c5.cln⟩,fun q hq id hid=>?_⟩
      ·rcases abX.1 hq with rfl|hq
       ·exact⟨R7 hm,rfl⟩
       ·exact c5.one hm q hq
      ·have d2:=c5.log hm;by_cases he:reach ops 4 q.o i=true
       ·exact .inl he
       ·refine .inr ⟨fun id b hb x hx hxi=>?_,fun id b hb x hx hxi=>?_⟩
        ·grind
        ·rcases d2 q hq (true,id) (fy.wr c4 q hq id b hb) (i,x) (Zk hm x hx)with h|h|h
         ·exact h hxi.symm
         ·cases h.1
         ·exact he h
      ·rcases abX.1 hq with rfl|hq
       ·exact AX (hlg hm).2
       ·exact fun y hy x hx=>c5.log hm q hq y hy x (acO hm x hx)
      ·obtain⟨g1,g2,g3,g4⟩:=c5.nam q hq id hid;by_cases he:reach ops 4 q.o i=true
       ·exact .inl he
       ·refine .inr (U0 (Ka (i,o) (by simp)) hw2 (fun bQ=>he (g4 (i,false,wH id) ?_ rfl)) fun x hx hxi=>?_)
        ·grind
        ·rcases c5.log g1 q hq (true,id) g3 (i,x) (Zk g1 x hx)with h|h|h
         ·exact h hxi.symm
         ·cases h.1
         ·exact he h
      ·rcases abX.1 hq with rfl|hq
       ·obtain⟨_,hid⟩:=hid;cases hid
       ·obtain⟨g1,g2,g3,g4⟩:=c5.nam q hq id hid;grind
     rcases jO with rfl|rfl
     ·simp only[Nat.beq,cT,T1]at hk;split at hk
      ·rename_i hqf;have hwn:wr=[]:=by
        cases wr with
        |nil=>rfl
        |cons x l=>have:=yt hqf _ (hwr x (by simp));cases this
       subst hwn;exact step [] lg acN.symm (fun _=>rfl) (by simp) (D4 hE hg hA hd RU) hk (by simp)
      ·cases hk
     ·simp only[Nat.beq,IS]at hk;split at hk
      ·rename_i hof;exact step wr _ acN.symm (by simp) (fun id b hb=>hwr _ hb) (D4 hE hg hA hd RU) hk fun _=>⟨rfl,hof⟩
      ·cases hk
   ·cases h
  ·rename_i j BC hg;split at h
   ·rename_i tj WN;split at h
    ·rename_i b hb;generalize sx:BB A ((i,o)::rest)=sp at h;obtain⟨body,JE⟩:=sp;have lU:=DR sx;have hm0:Nat.beq mode 0=false:=by rcases jO with rfl|rfl<;>rfl
     simp only[hm0,akf,cT,T1]at h;split at h
     ·rename_i ip p lN;split at h
      ·rename_i c x y UN;split at h
       ·rename_i hc;simp only[No,ajh,aiT,ajf,alC]at hc;obtain⟨⟨⟨⟨⟨⟨Nb,hpg⟩,BX⟩,UM⟩,agG⟩,hpd⟩,cL⟩:=hc;have aau:mode=1:=by simp_all
        subst aau;have Nb:=BY Nb;subst Nb;have hpg:guardOf p A=none:=by simpa using hpg
        obtain⟨rb,Fm,h⟩:=cQ.1 h;have bQ:∀z∈body,z∈(i,o)::rest:=fun z hz=>by rw[lU];simp[hz]
        have vG:∀z∈lN,z∈(i,o)::rest:=fun z hz=>by rw[lU];simp[hz]
        have J2:(ip,p)∈(i,o)::rest:=by rw[lU];simp
        obtain⟨aao,hb⟩:=DP hb;have hFc:F c=.pv (.bool b):=by
         rcases hF c with e|e
         ·rw[←e];omega
         simp_all
        have after:∀(rq:List Rec)(q:Operand),rq.map (fun r=>(r.i,r.o))=body→fy E ops w0 F m rq→(∀q∈rq,q.wr=[]∧q.kl=[])→bA E (lE F rq) q=.pv (.bool rb)→(q=if b then x else y)→∃(recs:List Rec)(f':Fr),k f' (pe m recs)=some r∧uV f' (lE F recs)∧recs.map (fun r=>(r.i,r.o))=body++(ip,p)::lN∧fy E ops w0 F m recs∧(∀q∈recs,q.wr=[]∧q.kl=[]):=by
         intro rq q agH acP hwn hq hqe;have acQ:∀t,(∀z∈body,z.2.dst≠some t)→lE F rq t=F t:=fun t ht=>Gg fun q hq=>⟨ht (q.i,q.o) (by grind),(hwn q hq).2⟩;have hA1:qg E.fn.ntmps ops A (lE F rq):=fun g pz=>by obtain⟨t,h1,h0,h2⟩:=hA g pz;exact⟨t,h1,h0,by rw[acQ t fun z hz=>DT z (bQ z hz) g pz t h1];omega⟩
         have Y0:lE F rq c=.pv (.bool b):=by grind
         have hrp:Gh E ops w0 ⟨ip,p,.pv (.bool rb),[],[],[]⟩ (lE F rq) m:=D4 hE hpg hA1 hpd fun f2 m2 hf hm R' k'=>by
          have uw:bA E f2 (.tmp c)=.pv (.bool b):=by simp_all[Op.operands,XA]
          have hq2:bA E f2 q=.pv (.bool rb):=by grind [Op.operands]
          rw[J1 UN uw,←hqe,hq2];rfl
         obtain⟨recs,f',c1,c2,c3,c4,c5⟩:=lV hE hY (.inl rfl) fuel h (fun z hz=>hl z (vG z hz)) (fun hm z hz=>TA hm z (vG z hz)) (fun z hz=>DT z (vG z hz)) (ir (lE F rq) p.dst (.pv (.bool rb))) (uV.put (wW fun t ht=>by rw[acQ t ht];exact hF t) _ _) (qg.put hA1 fun g pz t ht=>DT (ip,p) J2 g pz t ht) (fun z hz t ht=>by
          by_cases e:p.dst=some t
          ·rw[e,jl,jl]
          ·have hnb:∀u∈body,u.2.dst≠some t:=fun u hu hud=>by grind [blind,List.all_eq_true,Bool.not_eq_true']
           grind [fx,wV])
         have hmB:pe m rq=m:=Gj hwn;refine⟨rq++⟨ip,p,.pv (.bool rb),[],[],[]⟩::recs,f',?_,?_,by simp[agH,c3],?_,fun q hq=>?_⟩
         ·rw[J7,hmB];exact c1
         ·rw[J6];exact c2
         ·refine fy.append.2 ⟨acP,?_⟩;rw[hmB];exact⟨hrp,by simp,c4⟩
         ·rcases aiW.1 hq with h|h
          ·exact hwn q h
          ·rcases abX.1 h with rfl|h
           ·simp
           ·exact c5.one rfl q h
        have fin:(∃(recs:List Rec)(f':Fr),k f' (pe m recs)=some r∧uV f' (lE F recs)∧recs.map (fun r=>(r.i,r.o))=body++(ip,p)::lN∧fy E ops w0 F m recs∧(∀q∈recs,q.wr=[]∧q.kl=[]))→∃(recs:List Rec)(f':Fr),k f' (pe m recs)=some r∧uV f' (lE F recs)∧recs.map (fun r=>(r.i,r.o))=(i,o)::rest∧fy E ops w0 F m recs∧Hn (E:=E) ops 1 F m lg recs:=by rintro⟨recs,f',c1,c2,c3,c4,c5⟩;exact⟨recs,f',c1,c2,by rw[lU];omega,c4,fun _=>c5,fun h=>(by omega),fun h=>(by omega),akZ (R:=fun _ _=>True) (fun{q r}hq hr _ h=>absurd (c5 q hq).2 h) (List.pairwise_of_forall fun _ _=>trivial),nD.none fun q hq=>(c5 q hq).2,fun q hq id⟨_,hid⟩=>(by simp_all)⟩
        have go:∀q,b=BC→(q=if b then x else y)→ca E ops 1 fuel Bool ((j,BC)::A) body f m lg (fun f _=>xl (bA E f q))=some rb→∃(recs:List Rec)(f':Fr),k f' (pe m recs)=some r∧uV f' (lE F recs)∧recs.map (fun r=>(r.i,r.o))=body++(ip,p)::lN∧fy E ops w0 F m recs∧(∀q∈recs,q.wr=[]∧q.kl=[]):=by
         intro q TB hq XB;obtain⟨rq,f1,c1,c2,c3,c4,c5⟩:=lV hE hY (.inl rfl) fuel XB (fun z hz=>hl z (bQ z hz)) (fun hm z hz=>TA hm z (bQ z hz)) (fun z hz g pz t ht=>by
          rcases abX.1 pz with rfl|pz
          ·grind
          ·exact DT z (bQ z hz) g pz t ht) F hF (fun g pz=>by
          rcases abX.1 pz with rfl|pz
          ·simp_all
          ·exact hA g pz) (fun z hz=>Ka z (bQ z hz))
         refine after rq q c3 c4 (c5.one rfl) ?_ hq;grind [zt,UK]
        have no:∀q,b= !BC→(q=if b then x else y)→xl (bA E (lM f body) q)=some rb→∃(recs:List Rec)(f':Fr),k f' (pe m recs)=some r∧uV f' (lE F recs)∧recs.map (fun r=>(r.i,r.o))=body++(ip,p)::lN∧fy E ops w0 F m recs∧(∀q∈recs,q.wr=[]∧q.kl=[]):=by intro q TB hq XB;obtain⟨s1,s2⟩:=Gi (E:=E) (w0:=w0) (m:=m) body F (fun z hz=>(BX z hz).1.2) (zs WN UM (fun z hz=>hl z (bQ z hz)) (fun z hz=>(BX z hz).2) (by rw[hFc,TB]) (by simp));refine after (body.map zy) q (by simp[zy,akY]) s1 (fun u hu=>by obtain⟨z,_,rfl⟩:=aiR.1 hu;exact⟨rfl,rfl⟩) ?_ hq;rw[s2];have hv:=zt XB;grind [uV,lM,gV,wW,tK,UK]
        grind
       ·cases h
      ·cases h
     ·cases h
    ·cases h
   ·cases h
theorem rZ{l:List Oper}:(i,o)∈(List.range l.length).zip l↔l[i]?=some o:=by
 rw[ajd];constructor
 ·grind
 ·intro h;refine⟨i,List.getElem?_zip_eq_some.2 ⟨?_,h⟩⟩;grind
theorem vL:∀{l done:List (Nat×Oper)},nq ops done l=true→(∀x∈l,∀d∈done,reach ops 4 x.2 d.1=true∨d.2.apart ops x.2=true)∧l.Pairwise (fun q r=>reach ops 4 r.2 q.1=true∨q.2.apart ops r.2=true)∧∀x∈l,∀e∈x.2.after,Region.binds .any e=true→e.on<x.1
 |[],_,_=>⟨by simp,.nil,by simp⟩
 |(i,o)::r,done,h=>by
  simp only[nq,No]at h;obtain⟨⟨h1,h2⟩,h3⟩:=h;obtain⟨i1,i2,i3⟩:=vL h3;have E4:∀{done:List (Nat×Oper)},wI ops done o=true→∀d∈done,reach ops 4 o d.1=true∨d.2.apart ops o=true:=by
   intro done;induction done with
   |nil=>simp
   |cons x l ih=>intro h d hd;simp only[wI,No,aiI]at h;grind
  refine⟨fun x hx d hd=>?_,ajr.2 ⟨fun x hx=>i1 x hx (i,o) (by simp),i2⟩,fun x hx e he hb=>?_⟩
  ·grind
  ·rcases abX.1 hx with rfl|hx
   ·have:=ajh.1 h1 e (ajH.2 he);simp_all
   ·exact i3 x hx e he hb
variable{rd:Option Nat}{fuel:Nat}{Q:Exit→Act→World→Prop}
theorem vM(hE:je E)(hY:sG E.P E.aF E.fn.ntmps E.yl w0){mode:Nat}(jO:mode=1∨mode=2){l:List (Nat×Oper)}{base:Nat→Bool}(TA:mode=1→∀x∈l,eW x.2=true){k:Fr→Mem→Option R}{r:R}(hmz:∀x∈l,ops[x.1]?=some x.2)(aih:(l.map Prod.fst).Pairwise (·<·))(Ze:∀x∈l,base x.1=false)(Zf:∀i o,ops[i]?=some o→base i=false→(∀x∈l,x.1≠i)→(∀x∈l,reach ops 8 o x.1=true)∨∃j,reach ops 8 o j=true∧base j=false∧∀x∈l,x.1≠j)(agI:∀x∈l,∀e∈x.2.after,Region.binds .any e=true→base e.on=true∨∃y∈l,y.1=e.on)(hi:nq ops [] l=true)(h:ca E ops mode fuel R [] l f m [] k=some r)(hQ:∀(fuel:Nat)(listed:Array Bool),listed.size=ops.size→listed.toList.countP (fun b=> !b)≤fuel→yy ops listed→(∀i,aC listed i=true↔base i=true∨∃x∈l,x.1=i)→∀f' m' μ φ a w,k f' m'=some r→Rel E.P E.aF E.fn.ntmps w0 μ φ f' m' a w→wpAnyIn (FR rd) 0 E.P .any ops Q fuel listed a w):∀(fuel:Nat)(listed:Array Bool),listed.size=ops.size→listed.toList.countP (fun b=> !b)≤fuel→yy ops listed→(∀i,aC listed i=true↔base i=true)→∀(μ:Ro)(φ:Nat→aA)(a:Act)(w:World),Rel E.P E.aF E.fn.ntmps w0 μ φ f m a w→wpAnyIn (FR rd) 0 E.P .any ops Q fuel listed a w:=by
 intro acR listed hs hc uU hb μ φ a w hR;obtain⟨recs,f',c1,c2,c3,c4,c5⟩:=lV (w0:=w0) hE hY jO fuel h hmz TA (by intro x hx g hg;cases hg) f (uV.refl f) (by intro g hg;cases hg) (fun _ _ _ _=>rfl);obtain⟨_,i2,i3⟩:=vL hi;have bQ:∀q∈recs,(q.i,q.o)∈l:=fun q hq=>by grind
 have hof:∀x∈l,∃q∈recs,q.i=x.1:=fun x hx=>by grind
 have E4:recs.Pairwise fun q r=>reach ops 4 r.o q.i=true∨q.o.apart ops r.o=true:=by grind
 have hmo:recs.Pairwise (UZ (ops:=ops)):=by
  rcases jO with hm|hm
  ·exact akZ (fun{q r}hq hr _=>.inr ⟨fun id b hb=>(by rw[(c5.one hm q hq).1]at hb;cases hb),fun id b hb=>(by rw[(c5.one hm r hr).1]at hb;cases hb)⟩) E4
  ·exact c5.ord hm
 refine UQ (E:=E) (w0:=w0) (recs:=recs) (f0:=f) (m0:=m) (base:=base) ?_ (fun q hq=>hmz _ (bQ q hq)) (fun q hq=>Ze _ (bQ q hq)) (fun i o ho hbi dh=>?_) ?_ c5.kl c5.cln (fun q hq e he Mo=>⟨i3 _ (bQ q hq) e he Mo,?_⟩) c4 ?_ acR listed hs hc uU (fun i hi=>(hb i).2 hi) (fun i hi=>Or.inl ((hb i).1 hi)) μ φ a w ?_
 ·grind
 ·grind
 ·refine List.Pairwise.imp (fun{q r}h=>?_) (List.Pairwise.and E4 hmo);obtain⟨h1,h2⟩:=h;rcases h1 with h1|h1
  ·exact .inl h1
  ·rcases h2 with h2|h2
   ·exact .inl h2
   ·exact .inr ⟨h1,h2⟩
 ·rcases agI _ (bQ q hq) e he Mo with h1|⟨y,hy,h1⟩
  ·exact Or.inl h1
  grind
 ·intro Zl QM hs2 T8 agJ uw μ2 φ2 a2 w2 F9;refine hQ Zl QM hs2 T8 agJ (fun i=>?_) _ _ μ2 φ2 a2 w2 c1 (F9.weaken c2);grind
 ·have hS:∀q∈recs,aC listed q.i=false:=fun q hq=>by grind
  rw[show nK (aC listed) f recs=f from funext fun t=>pA fun q hq hs=>(by simp_all),show nL (aC listed) m recs=m from funext fun t=>pB fun q hq hs=>(by simp_all)];omega
variable{x:Nat×Oper}
theorem AY(hx:x∈(List.range ops.size).zip ops.toList):ops[x.1]?=some x.2:=by have:=(rZ (l:=ops.toList) (i:=x.1) (o:=x.2)).1 (by omega);simp_all
theorem qj(ho:ops[i]?=some o):(i,o)∈(List.range ops.size).zip ops.toList:=by have:=(rZ (l:=ops.toList) (i:=i) (o:=o)).2 (by simp_all);omega
theorem zip_fst:((List.range ops.size).zip ops.toList).map Prod.fst=List.range ops.size:=by rw[List.map_fst_zip (by simp)]
variable{P:Program}
theorem D6{F:Fence}{n:Nat}{listed:Array Bool}(hs:listed.size=ops.size)(Fk:∀i o,ops[i]?=some o→aC listed i=true)(hq:Q .normal a w):wpAnyIn F n P .any ops Q fuel listed a w:=by
 have hr:Region.ready .any ops listed=[]:=by apply List.eq_nil_iff_forall_not_mem.2;intro j hj;obtain⟨h0,o,ho,_⟩:=mem_ready.1 hj;grind
 cases fuel with
 |zero=>exact⟨hr,hq⟩
 |succ fuel=>exact⟨fun _=>hq,fun i hi=>by rw[hr]at hi;cases hi⟩
theorem vN(n j:Nat):aC (Array.replicate n false) j=false:=by simp only[aC,aiA,Array.getElem?_replicate];split<;>rfl
theorem count_le(n:Nat):(Array.replicate n false).toList.countP (fun b=> !b)≤n:=by grind [List.countP_le_length,Array.replicate]
theorem B1:yy ops (Array.replicate ops.size false):=fun i o _ h=>by rw[vN]at h;cases h
theorem D7(hE:je E)(hY:sG E.P E.aF E.fn.ntmps E.yl w0){mode:Nat}(jO:mode=1∨mode=2)(TA:mode=1→∀o∈ops,eW o=true){k:Fr→Mem→Option R}{r:R}(hi:nq ops [] ((List.range ops.size).zip ops.toList)=true)(h:ca E ops mode fuel R [] ((List.range ops.size).zip ops.toList) f m [] k=some r){μ:Ro}(hR:Rel E.P E.aF E.fn.ntmps w0 μ φ f m a w)(hQ:∀f' m' μ' φ' a' w',k f' m'=some r→Rel E.P E.aF E.fn.ntmps w0 μ' φ' f' m' a' w'→Q .normal a' w'):wpAnyIn (FR rd) 0 E.P .any ops Q ops.size (Array.replicate ops.size false) a w:=by
 refine vM (w0:=w0) (base:=fun _=>false) hE hY jO (fun hm x hx=>TA hm x.2 (akw (AY hx))) (fun x hx=>AY hx) (by rw[zip_fst];exact akp) (fun _ _=>rfl) (fun i o ho _ dh=>absurd rfl (dh _ (qj ho))) (fun x hx e he hb=>Or.inr ?_) hi h ?_ ops.size _ (by simp) (count_le _) B1 (fun i=>by rw[vN]) μ φ a w hR
 ·obtain⟨_,_,i3⟩:=vL hi;have h1:=i3 x hx e he hb;have h2:x.1<ops.size:=(OF.1 (AY hx)).1;exact⟨_,qj (IN (show e.on<ops.size by omega)),rfl⟩
 ·intro Zl QM hs2 _ _ uw f' m' μ2 φ2 a2 w2 hk F9;exact D6 hs2 (fun i o ho=>(uw i).2 (Or.inr ⟨_,qj ho,rfl⟩)) (hQ _ _ _ _ _ _ hk F9)
theorem CN{j:Nat}(h:((List.range ops.size).zip ops.toList)[j]?=some x):x.1=j:=by grind
theorem nM{p:Nat}:x∈((List.range ops.size).zip ops.toList).take p↔x∈(List.range ops.size).zip ops.toList∧x.1<p:=by
 constructor
 ·grind [List.getElem?_of_mem,List.getElem?_take_of_lt,List.mem_of_getElem?,CN]
 ·rintro⟨h,hx⟩;obtain⟨j,hj⟩:=aiU h;have:=CN hj;exact abV (i:=j) (by simp_all)
theorem sQ{p:Nat}:x∈((List.range ops.size).zip ops.toList).drop p↔x∈(List.range ops.size).zip ops.toList∧p≤x.1:=by
 constructor
 ·grind [List.getElem?_of_mem,List.mem_of_getElem?,CN]
 ·rintro⟨h,hx⟩;obtain⟨j,hj⟩:=aiU h;have:=CN hj;exact abV (i:=j-p) (by simp_all)
variable{K:Act→World→Prop}{Q':Exit→Act→World→Prop}
theorem Oper.Ni{F:Fence}{n:Nat}(h:∀e a w,e≠.normal→Q' e a w→Q e a w)(hh:o.wpIn F n P a w K Q'):o.wpIn F n P a w K Q:=by
 unfold Oper.wpIn at*;refine⟨hh.1,?_⟩;have hh:=hh.2;have acS:LetsOut Q'→LetsOut Q:=fun⟨a,w,hq⟩=>⟨a,w,h _ _ _ (by simp) hq⟩;generalize (o.semAt F.round a.eval).run P w=r at*;cases r with
 |ok x w'=>
  cases x<;>simp only[Oper.uponIn]at hh⊢<;>first
   |exact hh
   |exact⟨hh.1,CallsIn.mono hh.2 (fun e w'' he=>by cases e<;>first|exact acS he|exact h _ _ _ (by simp) he|exact he)⟩
   |exact⟨hh.1,RoundIn.mono hh.2 (fun e w'' he=>by cases e<;>first|exact acS he|exact h _ _ _ (by simp) he|exact he)⟩
 |halt x w'=>cases x<;>simp only[Oper.uponIn]at hh⊢<;>simp_all
theorem Ho{F:Fence}{n:Nat}(h:∀e a w,e≠.normal→Q' e a w→Q e a w)(hh:wpOpIn F n P ops Q' i K a w):wpOpIn F n P ops Q i K a w:=by
 unfold wpOpIn at*;split
 ·simpa[*]using hh
 ·rename_i o ho;simp only[ho]at hh;split
  ·rename_i hw;simp only[hw,IS]at hh;exact Oper.Ni h hh
  simp_all
theorem Nj(hE:je E)(hY:sG E.P E.aF E.fn.ntmps E.yl w0){p:Nat}(XD:TZ ops p=true){k:Fr→Mem→Option R}{r:R}(hi1:nq ops [] (((List.range ops.size).zip ops.toList).take p)=true)(hi3:nq ops [] (((List.range ops.size).zip ops.toList).drop (p+1))=true){n1 n2 n3:Nat}(h:(ca E ops 2 n1 R [] (((List.range ops.size).zip ops.toList).take p) f m [] fun f m=>ca E ops 0 n2 R [] ((((List.range ops.size).zip ops.toList).drop p).take 1) f m [] fun f m=>ca E ops 2 n3 R [] (((List.range ops.size).zip ops.toList).drop (p+1)) f m [] k)=some r){μ:Ro}(hR:Rel E.P E.aF E.fn.ntmps w0 μ φ f m a w)(hQ:∀f' m' μ' φ' a' w',k f' m'=some r→Rel E.P E.aF E.fn.ntmps w0 μ' φ' f' m' a' w'→Q .normal a' w'):wpAnyIn (FR rd) 0 E.P .any ops Q ops.size (Array.replicate ops.size false) a w:=by
 unfold TZ at XD;cases ho:ops[p]? with
 |none=>simp_all
 |some o=>
  rw[ho]at XD;simp only[No]at XD;obtain⟨⟨_,Fl⟩,hpa⟩:=XD;have hpn:p<ops.size:=(OF.1 ho).1;have UR:∀e∈o.after,Region.binds .any e=true→e.on<p:=fun e he hb=>by have:=ajh.1 Fl e (ajH.2 he);simp_all
  have agK:∀i,i<p→reach ops 8 o i=true:=fun i hi=>by have:=ajh.1 hpa _ (qj (IN (show i<ops.size by omega)));simp_all
  have agL:∀i o',ops[i]?=some o'→p<i→reach ops 8 o' p=true:=fun i o' UY hi=>by
   have:=ajh.1 hpa _ (qj UY);simp only at this;have hb:Nat.blt i p=false:=by
    cases hx:Nat.blt i p with
    |false=>rfl
    |true=>have:i<p:=alh hx;omega
   have uw:Nat.beq i p=false:=by
    cases hx:Nat.beq i p with
    |false=>rfl
    |true=>simp_all
   simp_all
  refine vM (w0:=w0) (base:=fun _=>false) hE hY (.inr rfl) (fun h=>by omega) (fun x hx=>AY (nM.1 hx).1) (by simp[alv,zip_fst,akp,List.take_sublist]) (fun _ _=>rfl) (fun i o' UY _ dh=>?_) (fun x hx e he hb=>Or.inr ?_) hi1 h ?_ ops.size _ (by simp) (count_le _) B1 (fun i=>by rw[vN]) μ φ a w hR
  ·have hip:¬i<p:=fun hc=>dh _ (nM.2 ⟨qj UY,hc⟩) rfl;by_cases hi:i=p
   ·subst hi;rw[ho]at UY;cases UY;exact Or.inl fun x hx=>agK _ (nM.1 hx).2
   ·exact Or.inr ⟨p,agL i o' UY (by omega),rfl,fun x hx=>by have:=(nM.1 hx).2;omega⟩
  ·obtain⟨_,_,i3⟩:=vL hi1;have h1:=i3 x hx e he hb;have h2:=(nM.1 hx).2;exact⟨_,nM.2 ⟨qj (IN (show e.on<ops.size by omega)),by omega⟩,rfl⟩
  ·intro fuel listed hs hc uU hb f1 m1 μ1 φ1 a1 w1 R9 Nc;have bT:∀i,aC listed i=true↔i<p:=fun i=>by
    rw[hb i];constructor
    ·rintro(h|⟨x,hx,rfl⟩)
     ·cases h
     ·exact(nM.1 hx).2
    ·intro hi;exact Or.inr ⟨_,nM.2 ⟨qj (IN (show i<ops.size by omega)),hi⟩,rfl⟩
   have oa:p<listed.size:=by omega
   have hpu:aC listed p=false:=by grind
   have aiu:listed[p]=false:=by simp_all
   cases fuel with
   |zero=>have:=alp.1 (Nat.le_zero.1 hc) listed[p] (by simp);simp_all
   |succ fuel=>
    have agM:p∈Region.ready .any ops listed:=mem_ready.2 ⟨by simp_all,o,ho,fun e he Mo=>(bT e.on).2 (UR e he Mo)⟩;refine⟨(fun h0=>by simp_all),fun i hi=>?_⟩;obtain⟨UT,o',UY,D3⟩:=mem_ready.1 hi;have uW:i<listed.size:=by grind
    have hiu:aC listed i=false:=by simp_all
    have hip:i=p:=by refine ajE fun dh=>?_;grind [qi]
    subst hip;have hL:(((List.range ops.size).zip ops.toList).drop i).take 1=[(i,o)]:=by
     have hlen:i<((List.range ops.size).zip ops.toList).length:=by simp;omega
     rw[akg hlen];simp_all
    rw[hL]at R9;have hS':∀j,aC (listed.setIfInBounds i true) j=if j=i then true else aC listed j:=fun j=>by simp only[aC,aiA,ajw];grind
    have hle:∀j,aC (listed.setIfInBounds i true) j=true↔j≤i:=fun j=>by grind
    have acT:=gR (rd:=rd) (w0:=w0) hE hY _ (.inl rfl) R9 (by simp_all) (by intro x hx g hg;cases hg) (fun h=>by omega) μ1 φ1 a1 w1 (fun e a w=>(e=.normal∧wpAnyIn (FR rd) 0 E.P .any ops Q fuel (listed.setIfInBounds i true) a w)∨(e≠.normal∧Q e a w)) [] Nc (by intro g hg;cases hg) fun f2 m2 μ2 φ2 a2 w2 Xo F9 _ _=>Or.inl ⟨rfl,?_⟩
    ·rw[aja,aiL,akk,wpOpsIn_cons]at acT;refine wpOpIn_mono (fun a w hq=>?_) (Ho (fun e a w dh hq=>?_) acT)
     ·rcases hq with⟨_,h⟩|⟨h,_⟩
      ·omega
      ·exact absurd rfl h
     simp_all
    ·refine vM (w0:=w0) (base:=fun j=>decide (j≤i)) hE hY (.inr rfl) (fun h=>by omega) (fun x hx=>AY (sQ.1 hx).1) (by grind [List.map_drop,zip_fst,List.pairwise_lt_range,List.drop_sublist]) (fun x hx=>by have:=(sQ.1 hx).2;simp;omega) (fun j oj hj hbj dh=>?_) (fun x hx e he Mo=>?_) hi3 Xo ?_ fuel _ (by simp[hs]) ?_ ?_ (fun j=>by rw[hle j];simp) μ2 φ2 a2 w2 F9
     ·simp only[aiQ]at hbj;exact absurd rfl (dh _ (sQ.2 ⟨qj hj,by omega⟩))
     ·obtain⟨_,_,i3⟩:=vL hi3;have h1:=i3 x hx e he Mo;have h2:x.1<ops.size:=(OF.1 (AY (sQ.1 hx).1)).1;by_cases hei:e.on≤i
      ·simp_all
      ·exact Or.inr ⟨_,sQ.2 ⟨qj (IN (show e.on<ops.size by omega)),by omega⟩,rfl⟩
     ·intro aii agi hs3 _ _ hb3 f3 m3 μ3 φ3 a3 w3 hk3 hR3;refine D6 hs3 (fun j oj hj=>(hb3 j).2 ?_) (hQ _ _ _ _ _ _ hk3 hR3);by_cases Sb:j≤i
      ·simp_all
      ·exact Or.inr ⟨_,sQ.2 ⟨qj hj,by omega⟩,rfl⟩
     ·grind
     ·intro j oj hj hlj e he Mo;rw[hle]at hlj⊢;by_cases Sb:j=i
      ·grind
      ·have h1:=uU j oj hj ((bT j).2 (by omega)) e he Mo;grind
end
end Go.Ab
