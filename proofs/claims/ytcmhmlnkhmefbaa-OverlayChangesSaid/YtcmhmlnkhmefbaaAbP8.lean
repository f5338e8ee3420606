import Derived.Test.YtcmhmlnkhmefbaaAbP7
import Derived.RangeFuncIn
import Derived.Scope
set_option linter.unusedVariables false
namespace Go.Ab
open Go.RowKit (Below)
section
variable {P:Program} {G:Nat→Option (List PV)} {w0:bg} {μ:Ro} {φ:Nat→aw} {m:Mem} {w:World}
theorem iJ.putObj(w:World)(g:Nat)(o:Obj):iJ g w (w.putObj g o):=⟨⟨rfl,rfl,rfl,by simp,fun k hk=>World.putObj_heap_other (by omega)⟩,fun _=>Nat.le_refl _⟩
theorem al.qL(h:al P G w0 μ φ m w){w1:bg}(hw:w1.w=w0.w)(yF:w1.mu=w0.mu)(hk:∀b o,w1.dt b=some o→μ b=some o)(Qr:∀id st,m id=some (.loop st)→w1.rc id=w0.rc id):al P G w1 μ φ m w:=by obtain⟨a0,b0,c0,d0,e0⟩:=w0;obtain⟨a1,b1,c1,d1,e1⟩:=w1;simp only at hw yF;subst hw;subst yF;refine⟨h.below,h.ro,h.ax,h.dq,h.own,h.inj,h.apart,h.eT,h.base,hk,fun id st hid=>?_⟩;obtain⟨g,rc,h1,h2,h3⟩:=h.wB id st hid;exact⟨g,rc,h1,(Qr id st hid).trans h2,h3⟩
def wW(μ:Ro)(w:World)(o:Obj):Ro:=fun b=>if b=w.heap.size then some o else μ b
theorem Eb(hM:al P G w0 μ φ m w)(o:Obj):DY μ (wW μ w o):=by intro b o' hb;have:=(Array.getElem?_eq_some_iff.1 (hM.ro b o' hb)).1;unfold wW;rw[if_neg (by omega)];exact hb
theorem al.Qs(hM:al P G w0 μ φ m w)(o:Obj):al P G w0 (wW μ w o) φ m (w.alloc o):=by
 have hle:=Eb hM o;have hold:∀k,k<w.heap.size→(w.alloc o).heap[k]?=w.heap[k]?:=fun k hk=>iJ.heap_alloc w o k hk;have jF:w0.heap.size≤w.heap.size:=hM.below.size;refine⟨hM.below.alloc hM.below.size o,fun b o' hb=>?_,fun g cs hg=>(hM.ax g cs hg).mono hle,fun id b hid=>?_,fun id b g hid hg=>?_,hM.inj,hM.apart,hM.eT,fun b o' hb ba=>?_,fun b o' hb=>hle b o' (hM.dt b o' hb),fun id st hid=>?_⟩
 ·unfold wW at hb;split at hb
  ·rename_i e;subst e;cases hb;exact heap_alloc_new w o
  ·have:=hM.ro b o' hb;rw[hold b (Array.getElem?_eq_some_iff.1 this).1];exact this
 ·have hR:=hM.dq id b hid;exact hR.cj (fun _ _=>rfl) rfl hle (fun g hg=>hold g (hR.yG hg))
 ·obtain⟨h1,h2⟩:=hM.own id b g hid hg;refine⟨h1,fun DG=>?_⟩;have:=(hM.dq id b hid).yG hg;unfold wW;rw[if_neg (by omega)];exact h2 DG
 ·unfold wW at hb;rw[if_neg (by omega)]at hb;exact hM.base b o' hb ba
 ·obtain⟨g,rc,h1,h2,h3⟩:=hM.wB id st hid;exact⟨g,rc,h1,h2,by rw[hold g (Array.getElem?_eq_some_iff.1 h3).1];exact h3⟩
theorem al.other(hM:al P G w0 μ φ m w){g:Nat}(o:Obj)(hg:w0.heap.size≤g)(hμ:μ g=none)(vB:∀id b,m id=some b→¬b.owns (φ id) g):al P G w0 μ φ m (w.putObj g o):=by
 have xA:∀k,k≠g→(w.putObj g o).heap[k]?=w.heap[k]?:=fun k hk=>World.putObj_heap_other hk;refine⟨hM.below.trans ((iJ.putObj w g o).mono hg),fun b o' hb=>?_,hM.ax,fun id b hid=>?_,hM.own,hM.inj,hM.apart,hM.eT,hM.base,hM.dt,fun id st hid=>?_⟩
 ·rw[xA b fun e=>by subst e;rw[hμ]at hb;cases hb];exact hM.ro b o' hb
 ·have hR:=hM.dq id b hid;exact hR.cj (fun _ _=>rfl) rfl (fun _ _ h=>h) (fun g' bF=>xA g' fun e=>by subst e;exact vB id b hid bF)
 ·obtain⟨g',rc,h1,h2,h3⟩:=hM.wB id st hid;exact⟨g',rc,h1,h2,by rw[xA g' fun e=>by subst e;exact vB id _ hid (.inl h1)];exact h3⟩
theorem al.turn(hM:al P G w0 μ φ m w){id g:Nat}{st st':Fo}{rc:Loop}(hm:m id=some (.loop st))(hg:(φ id).g=some g)(Qr:w0.rc id=some (g,rc)):al P G w0 μ φ (ai m id (.loop st')) (w.putObj g (.loop (st'.obj rc))):=by have ba:=(hM.dq id _ hm).yG (.inl hg);have Cp:(w.putObj g (.loop (st'.obj rc))).heap[g]?=some (.loop (st'.obj rc)):=World.putObj_heap_same ba;exact hM.write hm rfl hg (iJ.putObj w g _) (by simp) (fun k hk=>World.putObj_heap_other hk) ⟨g,rc,hg,Cp⟩ rfl (by simp[bn.names]) fun s hs=>by cases hs;exact⟨rc,Qr,Cp⟩
end
section
variable {P:Program} {μ:Ro} {φ:Nat→aw}
theorem Br{nt:Nat}:∀(ps:List Nat)(args:List V)(xs:List Value)(f:Fr)(tmps:Array Value),tmps.size=nt→args.length=xs.length→(∀t,t<nt→ab P μ φ (f t) (tmps.getD t undef))→(∀(i:Nat)v x,args[i]?=some v→xs[i]?=some x→ab P μ φ v x)→((ps.zip xs).foldl (fun tmps(x:Nat×Value)=>tmps.setIfInBounds x.1 x.2) tmps).size=nt∧∀t,t<nt→ab P μ φ (yq ps args f t) (((ps.zip xs).foldl (fun tmps(x:Nat×Value)=>tmps.setIfInBounds x.1 x.2) tmps).getD t undef)
 |[],args,xs,f,tmps,hs,_,hf,_=>by cases args<;>exact⟨hs,hf⟩
 |p::ps,[],xs,f,tmps,hs,hl,hf,_=>by have:xs=[]:=List.eq_nil_of_length_eq_zero (by simpa using hl.symm);subst this;exact⟨hs,hf⟩
 |p::ps,v::args,[],f,tmps,hs,hl,hf,_=>by simp at hl
 |p::ps,v::args,x::xs,f,tmps,hs,hl,hf,hr=>by
  simp only[List.zip_cons_cons,List.foldl_cons,yq];refine Br ps args xs (eS f p v) (tmps.setIfInBounds p x) (by simpa using hs) (by simpa using hl) (fun t ht=>?_) (fun i u y hu hy=>hr (i+1) u y (by simpa using hu) (by simpa using hy));by_cases e:t=p
  ·subst e;rw[pt];have:(tmps.setIfInBounds t x).getD t undef=x:=by rw[Array.getD_eq_getD_getElem?,Array.getElem?_setIfInBounds];simp[show t<tmps.size by omega]
   rw[this];exact hr 0 v x rfl rfl
  ·rw[mE e];have:(tmps.setIfInBounds p x).getD t undef=tmps.getD t undef:=by rw[Array.getD_eq_getD_getElem?,Array.getD_eq_getD_getElem?,Array.getElem?_setIfInBounds,if_neg (fun h=>e h.symm)]
   rw[this];exact hf t ht
theorem zq{id:Nat}:∀(ps:List Nat)(args:List V)(f:Fr)(t:Nat),(yq ps args f t).has id=true→bO id args=true∨(f t).has id=true
 |[],args,f,t,h=>by cases args<;>exact .inr h
 |p::ps,[],f,t,h=>.inr h
 |p::ps,v::args,f,t,h=>by
  simp only[yq]at h;rcases zq ps args _ t h with h|h
  ·exact .inl (by simp[bO,h])
  ·by_cases e:t=p
   ·subst e;rw[pt]at h;exact .inl (by simp[bO,h])
   ·rw[mE e]at h;exact .inr h
theorem NA(ps:Array Nat)(xs:Array Value)(tmps:Array Value):(ps.zip xs).foldl (fun tmps(t,a)=>tmps.setIfInBounds t a) tmps=(ps.toList.zip xs.toList).foldl (fun tmps(x:Nat×Value)=>tmps.setIfInBounds x.1 x.2) tmps:=by rw[←Array.foldl_toList,Array.toList_zip]
end
end Go.Ab
set_option linter.unusedVariables false
namespace Go.Ab
open Go.RowKit (Below)
variable{P:Program}{c:Code}{Q:Exit→Act→World→Prop}
theorem Bs{F:Fence}{nn:Nat}(I:Nat→Act→World→Prop)(round:∀n a w,I n a w→∃n',n=n'+1∧c.wpIn F nn P (Exit.then (I n') Q) a w):∀n a w,I n a w→(Code.loop c).wpIn F nn P Q a w:=by
 intro n a w hI b k cs kU hb hr;have key:∀n a w,I n a w→∃e a' w',Q e a' w'∧ArrivesIn (Machine.fenced P F) P (lone (b.atR a (.code c::.inLoop c::k)) cs w) b k cs e a' w':=by
  intro n;induction n with
  |zero=>intro a w h;obtain⟨n',h,_⟩:=round 0 a w h;omega
  |succ n ih=>
   intro a w h;obtain⟨n',hn,ug⟩:=round _ a w h;have hn:n=n':=by omega
   subst hn;obtain⟨e,a₁,w₁,hq,uz⟩:=ug b (.inLoop c::k) cs kU hb hr;cases e with
   |normal=>obtain⟨e₂,a₂,w₂,Ww,Qt⟩:=ih a₁ w₁ hq;exact⟨e₂,a₂,w₂,Ww,.of_steps (StepsIn.trans uz (.one (fenced_calm hb hr rfl) stepR_inLoop)) Qt⟩
   |_=>exact⟨_,a₁,w₁,hq,.pass (x:=.inLoop c) rfl (fun _ _=>.inl (by simp)) uz⟩
 obtain⟨e,a',w',hq,uz⟩:=key n a w hI;exact⟨e,a',w',hq,.of_steps (.one (fenced_calm hb hr rfl) stepR_loop) uz⟩
theorem KY{rd:Option Nat}{n:Nat}{a:Act}{w:World}(h:c.wpIn (FR rd) n P (Exit.noGoto Q) a w):(Code.scope c).wpIn (FR rd) n P Q a w:=by
 intro b k cs kU hb hr;obtain⟨e,a₁,w₁,hq,uz⟩:=h b (.inScope c::k) cs kU hb hr;have s1:StepsIn (Machine.fenced P (FR rd)) P (lone (b.atR a (.code (.scope c)::k)) cs w) (lone (b.atR a (.code c::.inScope c::k)) cs w):=.one (fenced_calm hb hr rfl) (step_lone_go (by simp[stepG,stepG.exec,Frame.atR]));have s2:∀a w,StepsIn (Machine.fenced P (FR rd)) P (lone (b.atR a (.inScope c::k)) cs w) (lone (b.atR a k) cs w):=fun a w=>.one (fenced_calm hb hr rfl) (step_lone_go (by simp[stepG,stepG.exec,Frame.atR]));cases e with
 |normal=>exact⟨.normal,a₁,w₁,hq,s1.trans (StepsIn.trans uz (s2 _ _))⟩
 |exit id=>exact⟨.exit id,a₁,w₁,hq,fun k' hk=>s1.trans (uz.1 k' (by simp[exitTo,hk])),fun hr hk=>let⟨k₁,h1,h2⟩:=uz.2 hr (by simp[exitTo,hk]);⟨k₁,h1,s1.trans h2⟩⟩
 |goto l=>exact hq.elim
 |ret=>exact⟨_,a₁,w₁,hq,.of_steps s1 uz⟩
 |panic ch=>exact⟨_,a₁,w₁,hq,.of_steps s1 uz⟩
 |outgrown=>exact⟨_,a₁,w₁,hq,.of_steps s1 uz⟩
mutual
theorem Jk:∀{v u:V},v.same u=true→v=u
 |.op i o,u,h=>by cases u<;>simp only[V.same,Bool.and_eq_true,Bool.false_eq_true]at h;rw[Nat.eq_of_beq_eq_true h.1,Nat.eq_of_beq_eq_true h.2]
 |.oe i a o,u,h=>by cases u<;>simp only[V.same,Bool.and_eq_true,Bool.false_eq_true]at h;rw[Nat.eq_of_beq_eq_true h.1.1,Nat.eq_of_beq_eq_true h.1.2,Nat.eq_of_beq_eq_true h.2]
 |.os i,u,h=>by cases u<;>simp only[V.same,Bool.false_eq_true]at h;rw[Nat.eq_of_beq_eq_true h]
 |.om i,u,h=>by cases u<;>simp only[V.same,Bool.false_eq_true]at h;rw[Nat.eq_of_beq_eq_true h]
 |.yl i,u,h=>by cases u<;>simp only[V.same,Bool.false_eq_true]at h;rw[Nat.eq_of_beq_eq_true h]
 |.it i,u,h=>by cases u<;>simp only[V.same,Bool.false_eq_true]at h;rw[Nat.eq_of_beq_eq_true h]
 |.aX,u,h=>by cases u<;>simp only[V.same,Bool.false_eq_true]at h;rfl
 |.fn f cs,u,h=>by cases u<;>simp only[V.same,Bool.and_eq_true,Bool.false_eq_true]at h;rw[Nat.eq_of_beq_eq_true h.1,Ec h.2]
 |.pv p,u,h=>by
  cases u<;>try (cases p<;>simp[V.same]at h;done)
  rename_i q;cases p<;>cases q<;>first|rfl|(simp[V.same]at h;done)|(simp only[V.same,Bool.and_eq_true,decide_eq_true_eq]at h;rw[h.1,h.2])
 |.eR _ _ _,u,h=>by cases u<;>simp[V.same]at h
 |.agg _,u,h=>by cases u<;>simp[V.same]at h
 |.bA _,u,h=>by cases u<;>simp[V.same]at h
 |.top,u,h=>by cases u<;>simp[V.same]at h
theorem Ec:∀{vs us:List V},AO vs us=true→vs=us
 |[],us,h=>by
  cases us with
  |nil=>rfl
  |cons _ _=>simp[AO]at h
 |v::vs,us,h=>by
  cases us with
  |nil=>simp[AO]at h
  |cons u us=>simp only[AO,Bool.and_eq_true]at h;rw[Jk h.1,Ec h.2]
end
variable{R:Type}
theorem Jl{T:Type}:∀{gL:List Sh}{vs:List V}{t:T}{k:IK gL T→Option R}{r:R},gM gL vs t k=some r→∃x,k x=some r∧nm gL x=(vs,t)∧vs.length=gL.length∧∀M,(∀sh∈gL,sh.within M=true)→ia M vs=true:=by
 intro gL;induction gL with
 |nil=>
  intro vs t k r h;cases vs with
  |nil=>exact⟨t,h,rfl,rfl,fun _ _=>rfl⟩
  |cons v vs=>simp[gM]at h
 |cons sh gL ih=>
  intro vs t k r h;cases vs with
  |nil=>cases sh<;>simp[gM]at h
  |cons v vs=>
   have push:∀{M},v.within M=true→ia M vs=true→ia M (v::vs)=true:=fun h1 h2=>by simp[ia,h1,h2]
   cases sh with
   |own u=>
    simp only[gM]at h;split at h
    ·rename_i hs;obtain⟨x,x1,x2,x3,x4⟩:=ih h;have:=Jk hs;subst this;refine⟨x,x1,by simp only[nm];rw[x2],by simp[x3],fun M hM=>push ?_ (x4 M fun s hs=>hM s (by simp[hs]))⟩;exact hM (.own u) (by simp)
    ·cases h
   |int q=>
    cases v<;>try (simp[gM]at h;done)
    rename_i p;cases p<;>try (simp[gM]at h;done)
    simp only[gM]at h;split at h
    ·rename_i hq;subst hq;obtain⟨x,x1,x2,x3,x4⟩:=ih h;exact⟨_,x1,by simp only[nm];rw[x2],by simp[x3],fun M hM=>push rfl (x4 M fun s hs=>hM s (by simp[hs]))⟩
    ·cases h
   |row id off=>
    cases v<;>try (simp[gM]at h;done)
    rename_i lU i nS;simp only[gM]at h;split at h
    ·rename_i hq;obtain⟨rfl,rfl⟩:=hq;obtain⟨x,x1,x2,x3,x4⟩:=ih h;exact⟨_,x1,by simp only[nm,Int.toNat_natCast];rw[x2],by simp[x3],fun M hM=>push (hM (.row lU nS) (by simp)) (x4 M fun s hs=>hM s (by simp[hs]))⟩
    ·cases h
   |raw=>
    cases v<;>try (simp[gM]at h;done)
    simp only[gM]at h;obtain⟨x,x1,x2,x3,x4⟩:=ih h;exact⟨_,x1,by simp only[nm];rw[x2],by simp[x3],fun M hM=>push rfl (x4 M fun s hs=>hM s (by simp[hs]))⟩
   |bool=>
    cases v<;>try (simp[gM]at h;done)
    rename_i p;cases p<;>try (simp[gM]at h;done)
    simp only[gM]at h;obtain⟨x,x1,x2,x3,x4⟩:=ih h;exact⟨_,x1,by simp only[nm];rw[x2],by simp[x3],fun M hM=>push rfl (x4 M fun s hs=>hM s (by simp[hs]))⟩
   |str=>
    cases v<;>try (simp[gM]at h;done)
    rename_i p;cases p<;>try (simp[gM]at h;done)
    simp only[gM]at h;obtain⟨x,x1,x2,x3,x4⟩:=ih h;exact⟨_,x1,by simp only[nm];rw[x2],by simp[x3],fun M hM=>push rfl (x4 M fun s hs=>hM s (by simp[hs]))⟩
   |rp n=>
    cases v<;>try (simp[gM]at h;done)
    rename_i p;cases p<;>try (simp[gM]at h;done)
    rename_i cs;simp only[gM]at h;split at h
    ·rename_i hq;obtain⟨x,x1,x2,x3,x4⟩:=ih h;have he:aA n (.agg cs)=cs:=by
      apply List.ext_getElem?;intro j;by_cases hj:j<n
      ·have hl:j<(aA n (.agg cs)).length:=by rw[aN];exact hj
       rw[List.getElem?_eq_getElem hl];obtain⟨_,h6⟩:=kT (List.getElem?_eq_getElem hl);rw[h6];simp[cell,PV.cells,List.getD,show j<cs.length by omega]
      ·rw[List.getElem?_eq_none (by rw[aN];omega),List.getElem?_eq_none (by omega)]
     exact⟨_,x1,by simp only[nm];rw[x2,he],by simp[x3],fun M hM=>push rfl (x4 M fun s hs=>hM s (by simp[hs]))⟩
    ·cases h
   |fs s=>
    cases v<;>try (simp[gM]at h;done)
    rename_i p;simp only[gM]at h;obtain⟨ls,Wx,h⟩:=Option.bind_eq_some_iff.1 h;obtain⟨x,x1,x2,x3,x4⟩:=ih h;exact⟨_,x1,by simp only[nm];rw[x2,I6 Wx],by simp[x3],fun M hM=>push rfl (x4 M fun s hs=>hM s (by simp[hs]))⟩
   |rs sz=>
    cases v<;>try (simp[gM]at h;done)
    rename_i p;cases p<;>try (simp[gM]at h;done)
    simp only[gM]at h;split at h
    ·rename_i hq;subst hq;obtain⟨x,x1,x2,x3,x4⟩:=ih h;exact⟨_,x1,by simp only[nm];rw[x2],by simp[x3],fun M hM=>push rfl (x4 M fun s hs=>hM s (by simp[hs]))⟩
    ·cases h
theorem tv:∀{l:List (Nat×Option bn)}{id:Nat}{b:bn},xU l id=some b→∃x∈l,x.1=id∧x.2=some b
 |[],_,_,h=>by simp[xU]at h
 |(d,b')::r,id,b,h=>by
  simp only[xU]at h;cases e:Nat.beq id d with
  |true=>rw[e]at h;exact⟨(d,b'),by simp,(Nat.eq_of_beq_eq_true e).symm,h⟩
  |false=>rw[e]at h;obtain⟨x,hx,h1,h2⟩:=tv h;exact⟨x,by simp[hx],h1,h2⟩
theorem uA:∀{l:List (Nat×Option bn)}{id:Nat},(∀x∈l,x.2.isSome=true)→(∃x∈l,x.1=id)→(xU l id).isSome=true
 |[],_,_,⟨x,hx,_⟩=>by cases hx
 |(d,b')::r,id,h,⟨x,hx,he⟩=>by
  simp only[xU];cases e:Nat.beq id d with
  |true=>exact h (d,b') (by simp)
  |false=>
   rcases List.mem_cons.1 hx with rfl|hx
   ·simp only at he;subst he;simp[Nat.beq_refl]at e
   ·exact uA (fun y hy=>h y (by simp[hy])) ⟨x,hx,he⟩
theorem Qu{m:Mem}:∀{bs:List (Nat×Me)}{k:Df bs→Option R}{r:R},oK m bs k=some r→∃x,k x=some r∧(fA bs x).map (·.1)=bs.map (·.1)∧(∀y∈fA bs x,∃b,y.2=some b∧m y.1=some b)∧∀M,(∀y∈bs,y.2.within M=true)→∀y∈fA bs x,∀b,y.2=some b→b.within M=true:=by
 intro bs;induction bs with
 |nil=>intro k r h;exact⟨(),h,rfl,by simp[fA],by simp[fA]⟩
 |cons y bs ih=>
  intro k r h;obtain⟨id,sh⟩:=y;cases sh with
  |box cs=>
   simp only[oK]at h;split at h
   ·rename_i vs hm;obtain⟨t,t1,t2,t3,t4⟩:=ih h;obtain⟨x,x1,x2,x3,x4⟩:=Jl t1;refine⟨x,x1,by simp only[fA,x2];simp[t2],fun y hy=>?_,fun M hM y hy b hb=>?_⟩
    ·simp only[fA,x2]at hy;rcases List.mem_cons.1 hy with rfl|hy
     ·exact⟨_,rfl,hm⟩
     ·exact t3 y hy
    ·simp only[fA,x2]at hy;rcases List.mem_cons.1 hy with rfl|hy
     ·simp only[Option.some.injEq]at hb;subst hb;simp only[bn.within];refine x4 M fun s hs=>?_;have:=hM (id,.box cs) (by simp);simp only[Me.within,List.all_eq_true]at this;exact this s hs
     ·exact t4 M (fun z hz=>hM z (by simp[hz])) y hy b hb
   ·cases h
  |arr sz et=>
   simp only[oK]at h;split at h
   ·rename_i An ye es hm;split at h
    ·rename_i he;obtain⟨rfl,rfl⟩:=he;obtain⟨t,t1,t2,t3,t4⟩:=ih h;refine⟨(es,t),t1,by simp only[fA];simp[t2],fun y hy=>?_,fun M hM y hy b hb=>?_⟩
     ·simp only[fA]at hy;rcases List.mem_cons.1 hy with rfl|hy
      ·exact⟨_,rfl,hm⟩
      ·exact t3 y hy
     ·simp only[fA]at hy;rcases List.mem_cons.1 hy with rfl|hy
      ·simp only[Option.some.injEq]at hb;subst hb;rfl
      ·exact t4 M (fun z hz=>hM z (by simp[hz])) y hy b hb
    ·cases h
   ·cases h
  |l6 sz et=>
   simp only[oK]at h;split at h
   ·rename_i An ye es hm;split at h
    ·rename_i he;obtain⟨rfl,rfl⟩:=he;obtain⟨t,t1,t2,t3,t4⟩:=ih h;refine⟨(es,t),t1,by simp only[fA];simp[t2],fun y hy=>?_,fun M hM y hy b hb=>?_⟩
     ·simp only[fA]at hy;rcases List.mem_cons.1 hy with rfl|hy
      ·exact⟨_,rfl,hm⟩
      ·exact t3 y hy
     ·simp only[fA]at hy;rcases List.mem_cons.1 hy with rfl|hy
      ·simp only[Option.some.injEq]at hb;subst hb;rfl
      ·exact t4 M (fun z hz=>hM z (by simp[hz])) y hy b hb
    ·cases h
   ·cases h
  |nest sz et=>
   simp only[oK]at h;split at h
   ·rename_i An ye es hm;split at h
    ·rename_i he;obtain⟨rfl,rfl⟩:=he;obtain⟨t,t1,t2,t3,t4⟩:=ih h;refine⟨(es,t),t1,by simp only[fA];simp[t2],fun y hy=>?_,fun M hM y hy b hb=>?_⟩
     ·simp only[fA]at hy;rcases List.mem_cons.1 hy with rfl|hy
      ·exact⟨_,rfl,hm⟩
      ·exact t3 y hy
     ·simp only[fA]at hy;rcases List.mem_cons.1 hy with rfl|hy
      ·simp only[Option.some.injEq]at hb;subst hb;rfl
      ·exact t4 M (fun z hz=>hM z (by simp[hz])) y hy b hb
    ·cases h
   ·cases h
  |eG kt et=>
   simp only[oK]at h;split at h
   ·rename_i qp ye es hm;split at h
    ·rename_i he;obtain⟨rfl,rfl⟩:=he;obtain⟨t,t1,t2,t3,t4⟩:=ih h;refine⟨(es,t),t1,by simp only[fA];simp[t2],fun y hy=>?_,fun M hM y hy b hb=>?_⟩
     ·simp only[fA]at hy;rcases List.mem_cons.1 hy with rfl|hy
      ·exact⟨_,rfl,hm⟩
      ·exact t3 y hy
     ·simp only[fA]at hy;rcases List.mem_cons.1 hy with rfl|hy
      ·simp only[Option.some.injEq]at hb;subst hb;rfl
      ·exact t4 M (fun z hz=>hM z (by simp[hz])) y hy b hb
    ·cases h
   ·cases h
  |map kt=>
   simp only[oK]at h;split at h
   ·rename_i qp es hm;split at h
    ·rename_i he;subst he;obtain⟨t,t1,t2,t3,t4⟩:=ih h;refine⟨(es,t),t1,by simp only[fA];simp[t2],fun y hy=>?_,fun M hM y hy b hb=>?_⟩
     ·simp only[fA]at hy;rcases List.mem_cons.1 hy with rfl|hy
      ·exact⟨_,rfl,hm⟩
      ·exact t3 y hy
     ·simp only[fA]at hy;rcases List.mem_cons.1 hy with rfl|hy
      ·simp only[Option.some.injEq]at hb;subst hb;rfl
      ·exact t4 M (fun z hz=>hM z (by simp[hz])) y hy b hb
    ·cases h
   ·cases h
  |iter ty=>
   simp only[oK]at h;split at h
   ·rename_i t' es hm;split at h
    ·rename_i he;subst he;obtain⟨t,t1,t2,t3,t4⟩:=ih h;refine⟨(es,t),t1,by simp only[fA];simp[t2],fun y hy=>?_,fun M hM y hy b hb=>?_⟩
     ·simp only[fA]at hy;rcases List.mem_cons.1 hy with rfl|hy
      ·exact⟨_,rfl,hm⟩
      ·exact t3 y hy
     ·simp only[fA]at hy;rcases List.mem_cons.1 hy with rfl|hy
      ·simp only[Option.some.injEq]at hb;subst hb;rfl
      ·exact t4 M (fun z hz=>hM z (by simp[hz])) y hy b hb
    ·cases h
   ·cases h
  |loop=>
   simp only[oK]at h;split at h
   ·rename_i hm;obtain⟨t,t1,t2,t3,t4⟩:=ih h;refine⟨t,t1,by simp only[fA];simp[t2],fun y hy=>?_,fun M hM y hy b hb=>?_⟩
    ·simp only[fA]at hy;rcases List.mem_cons.1 hy with rfl|hy
     ·exact⟨_,rfl,hm⟩
     ·exact t3 y hy
    ·simp only[fA]at hy;rcases List.mem_cons.1 hy with rfl|hy
     ·simp only[Option.some.injEq]at hb;subst hb;rfl
     ·exact t4 M (fun z hz=>hM z (by simp[hz])) y hy b hb
   ·cases h
  |busy=>
   simp only[oK]at h;split at h
   ·rename_i hm;obtain⟨t,t1,t2,t3,t4⟩:=ih h;refine⟨t,t1,by simp only[fA];simp[t2],fun y hy=>?_,fun M hM y hy b hb=>?_⟩
    ·simp only[fA]at hy;rcases List.mem_cons.1 hy with rfl|hy
     ·exact⟨_,rfl,hm⟩
     ·exact t3 y hy
    ·simp only[fA]at hy;rcases List.mem_cons.1 hy with rfl|hy
     ·simp only[Option.some.injEq]at hb;subst hb;rfl
     ·exact t4 M (fun z hz=>hM z (by simp[hz])) y hy b hb
   ·cases h
mutual
theorem zr{M:List Nat}{id:Nat}:∀(v:V),v.within M=true→v.has id=true→id∈M
 |.agg cs,h,hh=>lq cs (by simpa only[V.within]using h) (by simpa only[V.has]using hh)
 |.bA cs,h,hh=>lq cs (by simpa only[V.within]using h) (by simpa only[V.has]using hh)
 |.fn _ cs,h,hh=>lq cs (by simpa only[V.within]using h) (by simpa only[V.has]using hh)
 |.os j,h,hh=>by have:=Nat.eq_of_beq_eq_true hh;subst this;simpa[V.within]using h
 |.eR j _ _,h,hh=>by have:=Nat.eq_of_beq_eq_true hh;subst this;simpa[V.within]using h
 |.oe j _ _,h,hh=>by have:=Nat.eq_of_beq_eq_true hh;subst this;simpa[V.within]using h
 |.om j,h,hh=>by have:=Nat.eq_of_beq_eq_true hh;subst this;simpa[V.within]using h
 |.qD j _ _,h,hh=>by have:=Nat.eq_of_beq_eq_true hh;subst this;simpa[V.within]using h
 |.tP j _ _ _ _ _,h,hh=>by have:=Nat.eq_of_beq_eq_true hh;subst this;simpa[V.within]using h
 |.op j _,h,hh=>by have:=Nat.eq_of_beq_eq_true hh;subst this;simpa[V.within]using h
 |.it j,h,hh=>by have:=Nat.eq_of_beq_eq_true hh;subst this;simpa[V.within]using h
 |.yl j,h,hh=>by have:=Nat.eq_of_beq_eq_true hh;subst this;simpa[V.within]using h
 |.pv _,_,hh=>by cases hh
 |.aX,_,hh=>by cases hh
 |.top,_,hh=>by cases hh
theorem lq{M:List Nat}{id:Nat}:∀(cs:List V),ia M cs=true→bO id cs=true→id∈M
 |[],_,hh=>by cases hh
 |v::r,h,hh=>by
  simp only[ia,Bool.and_eq_true]at h;simp only[bO,Bool.or_eq_true]at hh;rcases hh with hh|hh
  ·exact zr v h.1 hh
  ·exact lq r h.2 hh
end
theorem NB{f:Fr}:∀(aG:List (Nat×Sh))(t:Nat),FA (mr aG (aG.map fun(x:Nat×Sh)=>f x.1)) t=f t∨FA (mr aG (aG.map fun(x:Nat×Sh)=>f x.1)) t=.top
 |[],t=>.inr rfl
 |(d,s)::r,t=>by
  simp only[List.map_cons,mr,FA,eS];cases e:Nat.beq t d with
  |true=>have:=Nat.eq_of_beq_eq_true e;subst this;exact .inl rfl
  |false=>exact NB r t
theorem zs{f:Fr}{M:List Nat}:∀(aG:List (Nat×Sh)),ia M (aG.map fun(x:Nat×Sh)=>f x.1)=true→∀t,(FA (mr aG (aG.map fun(x:Nat×Sh)=>f x.1)) t).within M=true
 |[],_,t=>rfl
 |(d,s)::r,h,t=>by
  simp only[List.map_cons,ia,Bool.and_eq_true]at h;simp only[List.map_cons,mr,FA,eS];cases e:Nat.beq t d with
  |true=>have:=Nat.eq_of_beq_eq_true e;subst this;exact h.1
  |false=>exact zs r h.2 t
theorem NC{T:iL}{f:Fr}{m:Mem}{k:T.ty→Option R}{r:R}(h:enc T f m k=some r):∃x,k x=some r∧qt (FG T x) f∧(∀id b,yp T x id=some b→m id=some b)∧(∀t id,(FG T x t).has id=true→(yp T x id).isSome=true)∧∀j cs id,yp T x j=some (.box cs)→bO id cs=true→(yp T x id).isSome=true:=by
 unfold enc at h;split at h
 ·rename_i tO;obtain⟨t,t1,t2,t3,t4⟩:=Qu h;obtain⟨x,x1,x2,x3,x4⟩:=Jl t1;simp only[iL.ok,Bool.and_eq_true,List.all_eq_true]at tO;have qA:∀id,id∈T.dz.map (·.1)→(yp T x id).isSome=true:=fun id hid=>by
   unfold yp;rw[x2];refine uA (fun y hy=>?_) ?_
   ·obtain⟨b,hb,_⟩:=t3 y hy;rw[hb];rfl
   ·rw[←t2]at hid;obtain⟨y,hy,he⟩:=List.mem_map.1 hid;exact⟨y,hy,he⟩
  refine⟨x,x1,fun s=>?_,fun id b hb=>?_,fun s id hid=>qA id ?_,fun j cs id hj hh=>qA id ?_⟩
  ·unfold FG;rw[x2];exact NB T.aG s
  ·unfold yp at hb;rw[x2]at hb;obtain⟨y,hy,h1,h2⟩:=tv hb;obtain⟨b',fl,hm⟩:=t3 y hy;rw[h2]at fl;cases fl;rw[←h1];exact hm
  ·have hw:=x4 (T.dz.map (·.1)) fun s hs=>by simp only[iL.gL,List.mem_map]at hs;obtain⟨y,hy,rfl⟩:=hs;exact tO.1 y hy
   have:=zs (M:=T.dz.map (·.1)) T.aG hw s;unfold FG at hid;rw[x2]at hid;exact zr _ this hid
  ·unfold yp at hj;rw[x2]at hj;obtain⟨y,hy,h1,h2⟩:=tv hj;have:=t4 (T.dz.map (·.1)) (fun z hz=>tO.2 z hz) y hy _ h2;exact lq _ (by simpa only[bn.within]using this) hh
 ·cases h
section
variable {E:Env} {w0:bg}
variable{nt:Nat}{μ:Ro}{φ:Nat→aw}{f:Fr}{m:Mem}{a:Act}{w:World}
theorem Rel.dec{f':Fr}{m':Mem}(h:Rel E.P E.ax nt w0 μ φ f m a w)(hf:qt f' f)(hm:∀id b,m' id=some b→m id=some b)(hl:∀t id,(f' t).has id=true→(m' id).isSome=true)(hb:∀j cs id,m' j=some (.box cs)→bO id cs=true→(m' id).isSome=true):Rel E.P E.ax nt w0 μ φ f' m' a w:={below:=h.below,ro:=h.ro,ax:=h.ax,dq:=fun id b hb=>h.dq id b (hm id b hb),own:=fun id b g hb hg=>h.own id b g (hm id b hb) hg,inj:=fun LS id2 b1 b2 g h1 h2=>h.inj LS id2 b1 b2 g (hm _ _ h1) (hm _ _ h2),apart:=fun id b hb=>h.apart id b (hm id b hb),eT:=hb,base:=h.base,dt:=h.dt,wB:=fun id st hid=>h.wB id st (hm _ _ hid),size:=h.size,defers:=h.defers,jG:=h.jG,fr:=(h.weaken hf).fr,live:=hl}
theorem Rel.set(h:Rel E.P E.ax nt w0 μ φ f m a w){t:Nat}{p:PV}(hp:af E.P μ p (aG nt w0 a t)):Rel E.P E.ax nt w0 μ φ (eS f t (.pv p)) m a w:=
 {toal:=h.toal,size:=h.size,defers:=h.defers,jG:=h.jG,fr:=fun s=>by
   by_cases e:s=t
   ·subst e;rw[pt];exact .pv hp
   ·rw[mE e];exact h.fr s,
  live:=fun s id hid=>by
   by_cases e:s=t
   ·subst e;rw[pt]at hid;cases hid
   ·rw[mE e]at hid;exact h.live s id hid}
theorem Rel.freeze{nt:Nat}{μ:Ro}{φ:Nat→aw}{f:Fr}{m:Mem}{a:Act}{w:World}(h:Rel E.P E.ax nt w0 μ φ f m a w){id sz:Nat}{et:TypeId}{es:List PV}(hm:m id=some (.arr sz et es)):Rel E.P E.ax nt w0 (lP μ w (φ id).g) φ f (ai m id (.l6 sz et es)) a w:=
 {toal:=h.toal.freeze hm,size:=h.size,defers:=h.defers.mono (jd h.toal _),jG:=h.jG,fr:=fun s=>(h.fr s).sF (jd h.toal _),live:=fun s i hid=>by
   by_cases e:i=id
   ·subst e;rw[aD];rfl
   ·rw[ak e];exact h.live s i hid}
theorem oZ{A:Type}{nt:Nat}{a:Act}{w:World}:∀{l:List (Nat×Nat)}{μ:Ro}{φ:Nat→aw}{f:Fr}{m:Mem}{k:Fr→Mem→A}{r:A},wx l f m k=r→Rel E.P E.ax nt w0 μ φ f m a w→∃f' m' μ',k f' m'=r∧Rel E.P E.ax nt w0 μ' φ f' m' a w
 |[],μ,φ,f,m,k,r,h,hR=>⟨f,m,μ,h,hR⟩
 |(t,sz)::l,μ,φ,f,m,k,r,h,hR=>by
  unfold wx at h;split at h
  ·rename_i id hf;have hx:ab E.P μ φ (.os id) (aG nt w0 a t):=hf▸hR.fr t;split at h
   ·rename_i s et es hm;have hF:=hR.freeze hm;have hA:=hF.toal.arr (.inr (aD m id _));have hp:af E.P (lP μ w (φ id).g) (.rs s es) (aG nt w0 a t):=hA.full hF.toal (hx.sF (jd hR.toal _)) (fun _ _ h=>h) (fun g hg=>by simp[lP,hg]);exact oZ h (hF.set hp)
   ·rename_i s et es hm;have hB:fm E.P μ φ w id (.l6 s et es):=hR.dq id _ hm;have hp:af E.P μ (.rs s es) (aG nt w0 a t):=(hR.toal.arr (.inr hm)).full hR.toal hx (fun _ _ h=>h) (fun g hg=>by obtain⟨o,ho⟩:=Option.isSome_iff_exists.1 (hB.2 g hg);rw[ho,hR.ro _ _ ho]);exact oZ h (hR.set hp)
   ·exact oZ h hR
  ·rename_i hf;have hx:ab E.P μ φ .aX (aG nt w0 a t):=hf▸hR.fr t;have hp:af E.P μ (.rs sz []) (aG nt w0 a t):=by generalize aG nt w0 a t=y at hx;cases hx;exact .iC
   exact oZ h (hR.set hp)
  ·exact oZ h hR
variable{id:Nat}
theorem Ee{u:V}:∀(cs:List V)(j:Nat),bO id (cs.set j u)=true→bO id cs=true∨u.has id=true:=by
 intro cs j h;obtain⟨v,hv,hh⟩:=cw.1 h;rcases List.mem_or_eq_of_mem_set hv with h1|h1
 ·exact .inl (cw.2 ⟨v,h1,hh⟩)
 ·subst h1;exact .inr hh
theorem Rel.ND(h:Rel E.P E.ax nt w0 μ φ f m a w){j:Nat}{cs:List V}{u:V}(hm:m id=some (.box cs))(hj:cs[j]?=some .aX)(hu:ab E.P μ φ u (.slice none 0 0))(hl:∀i,u.has i=true→(m i).isSome=true):Rel E.P E.ax nt w0 μ φ f (ai m id (.box (cs.set j u))) a w:=by
 have key:∀i b,ai m id (.box (cs.set j u)) i=some b→(i=id∧b=.box (cs.set j u))∨m i=some b:=fun i b hb=>by
  by_cases e:i=id
  ·subst e;rw[aD]at hb;exact .inl ⟨rfl,(Option.some.inj hb).symm⟩
  ·rw[ak e]at hb;exact .inr hb
 have qd:∀i,(m i).isSome=true→(ai m id (.box (cs.set j u)) i).isSome=true:=fun i hi=>by
  by_cases e:i=id
  ·subst e;rw[aD];rfl
  ·rw[ak e];exact hi
 have back:∀i b,ai m id (.box (cs.set j u)) i=some b→∃b',m i=some b'∧(b.gF=true→b'.gF=true)∧b.rowAt=b'.rowAt:=fun i b hb=>by
  rcases key i b hb with⟨rfl,rfl⟩|hb
  ·exact⟨_,hm,fun _=>rfl,rfl⟩
  ·exact⟨b,hb,fun h=>h,rfl⟩
 exact
 {below:=h.below,ro:=h.ro,ax:=h.ax,dq:=fun i b hb=>by
   rcases key i b hb with⟨rfl,rfl⟩|hb
   ·obtain⟨g,c,T,c1,c2,c3,c4,c5,c6⟩:=h.dq _ _ hm;refine⟨g,c,T,c1,c2,by simpa using c3,fun i v x hv hx=>?_,c5,by simpa using c6⟩;rw[List.getElem?_set]at hv;split at hv
    ·rename_i e;subst e;split at hv
     ·simp only[Option.some.injEq]at hv;subst hv;have:=c4 j .aX x hj hx;cases this;exact hu
     ·cases hv
    ·exact c4 i v x hv hx
   ·exact h.dq i b hb,
  own:=fun i b g hb hg=>by obtain⟨b',fl,yF,kU⟩:=back i b hb;obtain⟨o1,o2⟩:=h.own i b' g fl (by unfold bn.owns at hg⊢;rw[←kU];exact hg);exact⟨o1,fun hb=>o2 (yF hb)⟩,
  inj:=fun LS id2 b1 b2 g h1 h2 g1 g2=>by obtain⟨Vy,I5,_,r1⟩:=back LS b1 h1;obtain⟨Vz,Kv,_,r2⟩:=back id2 b2 h2;exact h.inj LS id2 Vy Vz g I5 Kv (by unfold bn.owns at g1⊢;rw[←r1];exact g1) (by unfold bn.owns at g2⊢;rw[←r2];exact g2),
  apart:=fun i b hb=>by obtain⟨b',fl,_,kU⟩:=back i b hb;have:=h.apart i b' fl;unfold bn.apart at this⊢;rw[kU];exact this,
  eT:=fun i A6 lU hi hid=>by
   rcases key i _ hi with⟨rfl,he⟩|hi
   ·simp only[bn.box.injEq]at he;subst he;rcases Ee _ _ hid with hid|hid
    ·exact qd _ (h.eT _ _ _ hm hid)
    ·exact qd _ (hl _ hid)
   ·exact qd _ (h.eT _ _ _ hi hid),
  base:=h.base,dt:=h.dt,
  wB:=fun i st hi=>by
   rcases key i _ hi with⟨_,he⟩|hi
   ·cases he
   ·exact h.wB i st hi,
  size:=h.size,defers:=h.defers,jG:=h.jG,fr:=h.fr,
  live:=fun t i hid=>qd _ (h.live t i hid)}
variable{et:TypeId}
theorem Rel.TF(h:Rel E.P E.ax nt w0 μ φ f m a w){Ml:Nat}(hn:m Ml=none)(dQ:0<aH E.P et):∃φ',(φ' Ml).g=none∧Rel E.P E.ax nt w0 μ φ' f (ai m Ml (.arr (aH E.P et) et [])) a w:=by
 have hf:fresh false Ml (.arr (aH E.P et) et []) f m (fun f m _=>some (f,m))=some (f,ai m Ml (.arr (aH E.P et) et [])):=by simp[fresh,hn]
 obtain⟨f1,m1,_,hk,_,_,qq⟩:=bR hf;simp only[Option.some.injEq,Prod.mk.injEq]at hk;obtain⟨rfl,rfl⟩:=hk;obtain⟨φ',a1,a2,a3⟩:=qq E.P E.ax w0 μ φ w w (aG nt w0 a) (xt none 0 0 (aH E.P et)) h.toal ⟨h.fr,h.live⟩ ⟨iJ.refl _ _,h.toal.ro,fun _ _ _ _ _=>rfl,by simp,fun φ' hp _=>by refine⟨by rw[hp];rfl,by rw[hp],rfl,dQ,by simp,by rw[hp];simp[maxLen],?_⟩;rw[hp];exact⟨rfl,rfl⟩,by simp[bn.names],fun st h=>by cases h⟩;exact⟨φ',by rw[a1],{toal:=a2,size:=h.size,defers:=h.defers,jG:=h.jG,fr:=a3.fr,live:=a3.live}⟩
theorem o6{A:Type}{nt:Nat}{a:Act}{w:World}:∀{l:List (Nat×Nat×Nat×TypeId)}{μ:Ro}{φ:Nat→aw}{f:Fr}{m:Mem}{k:Mem→A}{r:A},wy E.P l m k=r→Rel E.P E.ax nt w0 μ φ f m a w→∃m' φ',k m'=r∧Rel E.P E.ax nt w0 μ φ' f m' a w
 |[],μ,φ,f,m,k,r,h,hR=>⟨m,φ,h,hR⟩
 |(id,j,Ml,et)::l,μ,φ,f,m,k,r,h,hR=>by
  unfold wy at h;split at h
  ·rename_i cs hm;split at h
   ·rename_i hj;split at h
    ·rename_i hn;split at h
     ·rename_i dQ;obtain⟨φ',g0,gE⟩:=hR.TF hn dQ;have cq:id≠Ml:=fun e=>by subst e;rw[hm]at hn;cases hn
      exact o6 h (gE.ND (by rw[ak cq];exact hm) hj (.np g0) fun i hi=>by have:=Nat.eq_of_beq_eq_true hi;subst this;simp)
     ·exact o6 h hR
    ·exact o6 h hR
   ·exact o6 h hR
  ·exact o6 h hR
theorem uB{A:Type}{nt:Nat}{a:Act}{w:World}:∀{l:List (Nat×Nat×Nat)}{μ:Ro}{φ:Nat→aw}{f:Fr}{m:Mem}{k:Mem→A}{r:A},AP l m k=r→Rel E.P E.ax nt w0 μ φ f m a w→∃m',k m'=r∧Rel E.P E.ax nt w0 μ φ f m' a w
 |[],μ,φ,f,m,k,r,h,hR=>⟨m,h,hR⟩
 |(id,j,sz)::l,μ,φ,f,m,k,r,h,hR=>by
  unfold AP at h;split at h
  ·rename_i cs hm;split at h
   ·rename_i hj;exact uB h (hR.ND hm hj (.pv .iC) (fun i hi=>by cases hi))
   ·exact uB h hR
  ·exact uB h hR
theorem fV{T:Type}{l:List T}{n i:Nat}{e:T}(h:(l.take n)[i]?=some e):l[i]?=some e∧i<n:=by
 rw[List.getElem?_take]at h;split at h
 ·exact⟨h,‹_›⟩
 ·cases h
theorem Rel.Qv(h:Rel E.P E.ax nt w0 μ φ f m a w){s:Nat}{es:List PV}(hm:m id=some (.arr s et es)):Rel E.P E.ax nt w0 μ φ f (ai m id (.nest s et es)) a w:=by
 have hA:ay E.P μ φ w id s et es:=h.dq id _ hm;have key:∀i b,ai m id (.nest s et es) i=some b→(i=id∧b=.nest s et es)∨m i=some b:=fun i b hb=>by
  by_cases e:i=id
  ·subst e;rw[aD]at hb;exact .inl ⟨rfl,(Option.some.inj hb).symm⟩
  ·rw[ak e]at hb;exact .inr hb
 have qd:∀i,(m i).isSome=true→(ai m id (.nest s et es) i).isSome=true:=fun i hi=>by
  by_cases e:i=id
  ·subst e;rw[aD];rfl
  ·rw[ak e];exact hi
 have hN:aL E.P μ φ w id s et es:=by
  obtain⟨h1,h2,h3,h4,h5,h6,h7⟩:=hA;refine⟨h1,h2,h3,h4,h5,h6,?_⟩;cases hg:(φ id).g with
  |none=>rw[hg]at h7;exact h7
  |some g=>rw[hg]at h7;obtain⟨c,T,c1,c2,c3,c4,c5⟩:=h7;exact⟨c,T,c1,c2,c3,fun i e j p x he hp hx=>.pure (c4 i e j p x he hp hx),c5⟩
 have vB:∀i off,(bn.nest s et es).rowAt i off=true→False:=fun i off hr=>by
  rcases gT hr with⟨_,_,_,e,s',rs,hb,he,hp⟩|⟨_,_,_,_,_,_,hb,_⟩
  ·cases hb;obtain⟨h1,h2,h3,h4,h5,h6,h7⟩:=hA;cases hg:(φ id).g with
   |none=>rw[hg]at h7;obtain⟨rfl,_⟩:=h7;simp at he
   |some g=>
    rw[hg]at h7;obtain⟨c,T,c1,c2,c3,c4,c5⟩:=h7;have hi:i<es.length:=(List.getElem?_eq_some_iff.1 he).1;have hj:off<s:=by have:=(List.getElem?_eq_some_iff.1 hp).1;rw[h5 _ _ he]at this;exact this
    have ba:i*s+off<c.size:=by have:(i+1)*s≤(φ id).cap*s:=Nat.mul_le_mul_right _ (by omega);rw[Nat.succ_mul]at this;omega
    exact Bool.noConfusion (af.xK (c4 i e off _ _ he hp (Array.getElem?_eq_getElem ba)))
  ·cases hb
 have acL:∀i off,(bn.arr s et es).rowAt i off=true→False:=l7;have hM:al E.P E.ax w0 μ φ (ai m id (.nest s et es)) w:=by
  refine h.toal.I8 (fun _ k=>k) (fun j b' hb=>?_) (fun j b' g hb hg=>?_) (fun j b' hb=>?_) (fun j cs i hb hh=>?_) (fun j st hb=>?_)
  ·rcases key j b' hb with⟨rfl,rfl⟩|hb
   ·exact hN
   ·exact h.dq j b' hb
  ·rcases key j b' hb with⟨rfl,rfl⟩|hb
   ·exact⟨j,_,hm,.inl (kV vB hg),fun _=>rfl,rfl⟩
   ·exact⟨j,b',hb,hg,fun h=>h,rfl⟩
  ·rcases key j b' hb with⟨rfl,rfl⟩|hb
   ·exact mF vB
   ·exact h.apart j b' hb
  ·rcases key j _ hb with⟨_,hb⟩|hb
   ·cases hb
   ·exact qd _ (h.eT j cs i hb hh)
  ·rcases key j _ hb with⟨_,hb⟩|hb
   ·cases hb
   ·exact⟨hb,rfl⟩
 exact{toal:=hM,size:=h.size,defers:=h.defers,jG:=h.jG,fr:=h.fr,live:=fun t i hid=>qd _ (h.live t i hid)}
theorem zt{A:Type}{nt:Nat}{a:Act}{w:World}:∀{l:List Nat}{μ:Ro}{φ:Nat→aw}{f:Fr}{m:Mem}{k:Mem→A}{r:A},Dz l m k=r→Rel E.P E.ax nt w0 μ φ f m a w→∃m',k m'=r∧Rel E.P E.ax nt w0 μ φ f m' a w
 |[],μ,φ,f,m,k,r,h,hR=>⟨m,h,hR⟩
 |id::l,μ,φ,f,m,k,r,h,hR=>by
  unfold Dz at h;split at h
  ·rename_i s et es hm;exact zt h (hR.Qv hm)
  ·exact zt h hR
theorem Rel.cut(h:Rel E.P E.ax nt w0 μ φ f m a w){j d len s:Nat}{cs:List V}{es:List PV}(hm:m id=some (.box cs))(hj:cs[j]?=some (.eR d 0 len))(hd:m d=some (.arr s et es))(cq:d≠id):∃φ',Rel E.P E.ax nt w0 μ φ' (eB d f) (ai (ai (aQ (bk d m) d) d (.arr s et (es.take len))) id (.box ((cs.map (nC d)).set j (.os d)))) a w:=by
 obtain⟨m',PB⟩:∃m',m'=ai (ai (aQ (bk d m) d) d (.arr s et (es.take len))) id (.box ((cs.map (nC d)).set j (.os d))):=⟨_,rfl⟩;rw[←PB];obtain⟨g0,c,T,c1,c2,c3,c4,c5,c6⟩:=h.dq _ _ hm;have hA:ay E.P μ φ w d s et es:=h.dq d _ hd;have u9:j<cs.length:=(List.getElem?_eq_some_iff.1 hj).1;have hx:=c4 j _ _ hj (Array.getElem?_eq_getElem (by omega));obtain⟨φ',f1,f2,f3,f4⟩:∃φ':Nat→aw,(∀i,i≠d→φ' i=φ i)∧(φ' d).g=(φ d).g∧ay E.P μ φ' w d s et (es.take len)∧ab E.P μ φ' (.os d) c[j]:=by
  obtain⟨h1,h2,h3,h4,h5,h6,h7⟩:=hA;generalize c[j]=x at hx;cases hx with
  |my hg=>refine⟨φ,fun _ _=>rfl,rfl,?_,.np hg⟩;rw[hg]at h7;obtain⟨rfl,h7⟩:=h7;refine⟨h1,h2,h3,h4,by simp,h6,?_⟩;rw[hg];exact⟨rfl,h7⟩
  | @eR _ _ _ cap g ad hg hl ha hc Ms=>
   rw[hg]at h7;obtain⟨q,Tq,q1,q2,q3,q4,q5⟩:=h7;have hlen:(es.take len).length=len:=by rw[List.length_take];omega
   have had:ad=⟨g,0,none⟩:=by
    rcases ha with ha|⟨_,ha⟩
    ·rw[ha];simp
    ·omega
   subst had;refine⟨fun i=>if i=d then{φ d with cap:=cap,len:=len}else φ i,fun i hi=>if_neg hi,by simp,⟨by simp[hlen],by simpa using h2,h3,h4,fun i e he=>h5 i e (fV he).1,by simp;omega,?_⟩,?_⟩
   ·simp only[if_true,hg];refine⟨q,Tq,q1,Nat.le_trans (Nat.mul_le_mul_right _ (by omega)) q2,by rw[hlen];exact hc,fun i e j p x he hp hx=>q4 i e j p x (fV he).1 hp hx,fun i x hi hx=>q5 i x (Nat.lt_of_lt_of_le hi (Nat.mul_le_mul_right _ (by rw[hlen];omega))) hx⟩
   ·have:=ab.os (P:=E.P) (μ:=μ) (φ:=fun i=>if i=d then{φ d with cap:=cap,len:=len}else φ i) (id:=d) (g:=g) (by simp[hg]);simpa using this
 have key:∀i b,m' i=some b→(i=id∧b=.box ((cs.map (nC d)).set j (.os d)))∨(i=d∧b=.arr s et (es.take len))∨(i≠id∧i≠d∧∃b',m i=some b'∧b=ff d b'):=fun i b hb=>by
  rw[PB]at hb;by_cases e:i=id
  ·subst e;rw[aD]at hb;exact .inl ⟨rfl,(Option.some.inj hb).symm⟩
  ·rw[ak e]at hb;by_cases e':i=d
   ·subst e';rw[aD]at hb;exact .inr (.inl ⟨rfl,(Option.some.inj hb).symm⟩)
   ·rw[ak e']at hb;exact .inr (.inr ⟨e,(ey hb).1,(ey hb).2⟩)
 have qd:∀i,(m i).isSome=true→(m' i).isSome=true:=fun i hi=>by
  rw[PB];by_cases e:i=id
  ·subst e;rw[aD];rfl
  ·rw[ak e];by_cases e':i=d
   ·subst e';rw[aD];rfl
   ·rw[ak e'];exact nW e' hi
 have TG:∀{i:Nat}{b':bn},(ff d b').names i=true→i≠d:=fun{i b'}hn=>by cases b'<;>simp only[ff,bn.names]at hn<;>first|cases hn|exact(rW hn).2
 have hM:al E.P E.ax w0 μ φ' m' w:=by
  refine h.toal.I8 (fun _ k=>k) (fun i b' hb=>?_) (fun i b' g hb hg=>?_) (fun i b' hb=>?_) (fun i A6 i' hb hh=>?_) (fun i st hb=>?_)
  ·rcases key i b' hb with⟨rfl,rfl⟩|⟨rfl,rfl⟩|⟨e1,e2,b2,nq,rfl⟩
   ·refine⟨g0,c,T,by rw[f1 _ (Ne.symm cq)];exact c1,c2,by simpa using c3,fun n v x hv DL=>?_,c5,by rw[f1 _ (Ne.symm cq)];simpa using c6⟩;rw[List.getElem?_set]at hv;split at hv
    ·rename_i e;subst e;split at hv
     ·simp only[Option.some.injEq]at hv;subst hv;rw[Array.getElem?_eq_getElem (by omega)]at DL;simp only[Option.some.injEq]at DL;subst DL;exact f4
     ·cases hv
    ·simp only[List.getElem?_map,Option.map_eq_some_iff]at hv;obtain⟨v',FM,rfl⟩:=hv;exact((c4 n v' x FM DL).kill d).mono (fun _ _ h=>h) fun i hi=>f1 i (qM hi).2
   ·exact f3
   ·exact(h.dq i b2 nq).kill.cj (fun k hk=>f1 k (TG hk)) (f1 i e2) (fun _ _ h=>h) (fun _ _=>rfl)
  ·rcases key i b' hb with⟨rfl,rfl⟩|⟨rfl,rfl⟩|⟨e1,e2,b2,nq,rfl⟩
   ·refine⟨i,_,hm,.inl ?_,fun _=>rfl,rfl⟩;have:=kV (by intro i off h;simp[bn.rowAt]at h) hg;rw[←this,f1 _ (Ne.symm cq)]
   ·refine⟨i,_,hd,.inl ?_,fun _=>rfl,rfl⟩;rw[←f2];exact kV l7 hg
   ·refine⟨i,b2,nq,?_,fun yF=>by rw[rX]at yF;exact yF,rfl⟩;rw[f1 i e2]at hg;exact fa.1 hg
  ·rcases key i b' hb with⟨rfl,rfl⟩|⟨rfl,rfl⟩|⟨e1,e2,b2,nq,rfl⟩
   ·exact mF (by intro i off h;simp[bn.rowAt]at h)
   ·exact mF l7
   ·rw[f1 i e2];exact px.2 (h.apart i b2 nq)
  ·rcases key i _ hb with⟨rfl,hb⟩|⟨rfl,hb⟩|⟨e1,e2,b2,nq,e⟩
   ·simp only[bn.box.injEq]at hb;subst hb;rcases Ee _ _ hh with hh|hh
    ·exact qd _ (h.eT _ _ _ hm (rW hh).1)
    ·have:=Nat.eq_of_beq_eq_true hh;subst this;exact qd _ (by rw[hd];rfl)
   ·cases hb
   ·cases b2 with
    |box cs2=>simp only[ff,bn.box.injEq]at e;subst e;exact qd _ (h.eT _ _ _ nq (rW hh).1)
    |_=>simp[ff]at e
  ·rcases key i _ hb with⟨rfl,hb⟩|⟨rfl,hb⟩|⟨e1,e2,b2,nq,e⟩
   ·cases hb
   ·cases hb
   ·cases b2 with
    |loop st2=>simp only[ff,bn.loop.injEq]at e;subst e;exact⟨nq,by rw[f1 i e2]⟩
    |_=>simp[ff]at e
 exact⟨φ',{toal:=hM,size:=h.size,defers:=h.defers,jG:=h.jG,fr:=(fun t=>((h.fr t).kill d).mono (fun _ _ h=>h) fun i hi=>f1 i (qM hi).2),live:=fun t i hid=>qd _ (h.live t i (qM hid).1)}⟩
theorem o8{A:Type}{nt:Nat}{a:Act}{w:World}:∀{l:List (Nat×Nat)}{μ:Ro}{φ:Nat→aw}{f:Fr}{m:Mem}{k:Fr→Mem→A}{r:A},wz l f m k=r→Rel E.P E.ax nt w0 μ φ f m a w→∃f' m' φ',k f' m'=r∧Rel E.P E.ax nt w0 μ φ' f' m' a w
 |[],μ,φ,f,m,k,r,h,hR=>⟨f,m,φ,h,hR⟩
 |(id,j)::l,μ,φ,f,m,k,r,h,hR=>by
  unfold wz at h;split at h
  ·rename_i cs hm;split at h
   ·rename_i d len hj;split at h
    ·rename_i s et es hd;split at h
     ·exact o8 h hR
     ·rename_i cq;have cq:d≠id:=fun e=>cq (by rw[e];exact Nat.beq_refl _);obtain⟨φ',gE⟩:=hR.cut hm hj hd cq;exact o8 h gE
    ·exact o8 h hR
   ·exact o8 h hR
  ·exact o8 h hR
theorem Ef{A:Type}{T:iL}{k:Fr→Mem→A}{r:A}(h:AQ E.P T f m k=r)(hR:Rel E.P E.ax nt w0 μ φ f m a w):∃f' m' μ' φ',k f' m'=r∧Rel E.P E.ax nt w0 μ' φ' f' m' a w:=by unfold AQ at h;obtain⟨_,_,_,h,hR⟩:=o8 h hR;obtain⟨m1,φ1,h,hR⟩:=o6 h hR;obtain⟨m',h,hR⟩:=uB h hR;obtain⟨m',h,hR⟩:=zt h hR;obtain⟨f',m',μ',h,hR⟩:=oZ h hR;exact⟨f',m',μ',φ1,h,hR⟩
def NF:Ex→Exit
 |.normal=>.normal
 |.exit id=>.exit id
 |.ret=>.ret
theorem Rel.NG(h:Rel E.P E.ax nt w0 μ φ f m a w):Rel E.P E.ax nt w0 μ φ f m a {w with drawn:=w.drawn+1}:={toal:=h.toal.drew,size:=h.size,defers:=h.defers,jG:=h.jG,fr:=h.fr,live:=h.live}
theorem KZ{rd:Option Nat}(hE:gP E)(hY:oM E.P E.ax E.fn.ntmps E.yl w0){R:Type}{ops:Array Oper}{draw:Bool}{k:Ex→Fr→Mem→Option R}{r:R}(h:eL E (.region id ops draw) f m k=some r){Q:Exit→Act→World→Prop}(hR:Rel E.P E.ax E.fn.ntmps w0 μ φ f m a w)(hQ:∀f' m' μ' φ' a' w',k .normal f' m'=some r→Rel E.P E.ax E.fn.ntmps w0 μ' φ' f' m' a' w'→Q .normal a' w'):(Code.region id ops draw).wpIn (FR rd) 0 E.P Q a w:=by
 simp only[eL]at h;cases draw with
 |false=>
  simp only[Bool.false_eq_true,if_false]at h;refine wpIn_region ?_;have hmz:∀x∈(List.range ops.size).zip ops.toList,ops[x.1]?=some x.2:=fun x hx=>by have:=(od (l:=ops.toList) (i:=x.1) (o:=x.2)).1 (by simpa using hx);rwa[Array.getElem?_toList]at this
  have:=fR (rd:=rd) hE hY _ (.inl rfl) h hmz (by intro x hx g hg;cases hg) (fun h=>by cases h) μ φ a w Q [] hR (by intro g hg;cases hg) fun f' m' μ' φ' a' w' hk gE _ _=>hQ f' m' μ' φ' a' w' hk gE;rw[List.append_nil,List.map_fst_zip (by simp)]at this;exact this
 |true=>
  simp only[if_true]at h;split at h
  ·split at h
   ·rename_i hc;simp only[Bool.and_eq_true]at hc;exact wpIn_region_any hE.mixed (Gi hE hY hc.1.1 hc.1.2 hc.2 h hR.NG hQ)
   ·cases h
  split at h
  ·rename_i hi;refine wpIn_region_any hE.mixed ?_;split at h
   ·rename_i xz;exact zp hE hY (.inl rfl) (fun _ o ho=>List.all_eq_true.1 xz o (Array.mem_toList_iff.2 ho)) hi h hR.NG hQ
   ·exact zp hE hY (.inr rfl) (fun h=>by cases h) hi h hR.NG hQ
  ·cases h
end
theorem Qw{g:FuncId}{fn:Func}(hf:P.funcs[g]?=some fn)(M1:(fn.name== "runtime.NumGoroutine")=false)(hb:fn.body=some c){args:Array Value}{w:World}:(callFunc g args).run P w=.ok (.enter g args) w:=sd hf M1 hb
theorem K0{nt:Nat}{w0:bg}{a:Act}{t:Nat}:aG nt w0 a (t+nt)=w0.sv (t+nt):=by unfold aG;rw[if_neg (by omega)]
def vJ(c:Code):Prop:=∀{E:Env}{w0:bg}{rd:Option Nat}(_:gP E)(_:oM E.P E.ax E.fn.ntmps E.yl w0)(_:E.SM=false→rd=none){R:Type}{f:Fr}{m:Mem}{k:Ex→Fr→Mem→Option R}{r:R},eL E c f m k=some r→∀{μ:Ro}{φ:Nat→aw}{a:Act}{w:World}{Q:Exit→Act→World→Prop},Rel E.P E.ax E.fn.ntmps w0 μ φ f m a w→(∀e f' m' μ' φ' a' w',k e f' m'=some r→Rel E.P E.ax E.fn.ntmps w0 μ' φ' f' m' a' w'→Q (NF e) a' w')→c.wpIn (FR rd) 0 E.P Q a w
theorem NH{as b:Code}(Wy:vJ as)(Wz:vJ b){E:Env}(hE:gP E){w2:bg}{lid l WA:Nat}{ps:Array Nat}{rc:Loop}{fid:Nat}(Qr:w2.rc lid=some (l,rc))(kx:rc.params=ps)(has:rc.assign=as)(hb:rc.body=b)(jF:rc.tmps.size=E.fn.ntmps)(hsv:∀t,t<E.fn.ntmps→w2.sv (t+WA)=rc.tmps.getD t undef):oM E.P E.ax WA (fun _ nt _ id args F m k=>bif Nat.beq id lid then roundOf (eL {E with fid:=fid,yl:=vd,SM:=true} as) (eL {E with fid:=fid,yl:=vd,SM:=true} b) lid E.fn.ntmps ps.toList nt args F m k else none) w2:=by
 intro R site id args F m k r hy μ φ ρ w xs hM hF hρ hl hr Ch g hg;dsimp only at hy;cases hid:Nat.beq id lid with
 |false=>rw[hid]at hy;cases hy
 |true=>
  rw[hid]at hy;have hid:=Nat.eq_of_beq_eq_true hid;subst hid;simp only[cond_true]at hy;unfold roundOf at hy;split at hy
  ·rename_i L5;split at hy
   ·rename_i Kq;obtain⟨g',rc',l1,l2,l3⟩:=hM.wB id _ L5;rw[Qr]at l2;simp only[Option.some.injEq,Prod.mk.injEq]at l2;obtain⟨rfl,rfl⟩:=l2;rw[l1]at hg;simp only[Option.some.injEq]at hg;subst hg;have Co:xs.size=(Fo.ready.obj rc).params.size:=by
     have:ps.toList.length=ps.size:=by simp
     show xs.size=rc.params.size;rw[kx];omega
    refine⟨_,_,_,_,run_yield l3 Co,?_⟩;have UL:gP {E with fid:=fid,yl:=vd,SM:=true}:=⟨hE.mixed,hE.lp,hE.ctx,hE.own,hE.inl,hE.SL⟩;have RU:=Br (P:=E.P) (μ:=μ) (φ:=φ) ps.toList args xs.toList (qF WA F) rc.tmps jF (by simpa using hl) (fun t ht=>by have:=hF.fr (t+WA);rw[hρ _ (by omega),hsv t ht]at this;exact this) (fun i v x hv hx=>hr i v x hv (by simpa using hx));have Wv:Rel E.P E.ax E.fn.ntmps {w2 with sv:=fun t=>ρ (t-E.fn.ntmps),dt:=μ,jG:=fun _=>none} μ φ (IL E.fn.ntmps (yq ps.toList args (qF WA F)) F) m {tmps:=((Fo.ready.obj rc).params.zip xs).foldl (fun tmps(t,a)=>tmps.setIfInBounds t a) (Fo.ready.obj rc).tmps,defers:=[]} w:=by
     have e:((Fo.ready.obj rc).params.zip xs).foldl (fun tmps(t,a)=>tmps.setIfInBounds t a) (Fo.ready.obj rc).tmps=(ps.toList.zip xs.toList).foldl (fun tmps(x:Nat×Value)=>tmps.setIfInBounds x.1 x.2) rc.tmps:=by rw[NA];show(rc.params.toList.zip xs.toList).foldl _ rc.tmps=_;rw[kx]
     rw[e];refine{toal:=hM.qL rfl rfl (fun _ _ h=>h) (fun _ _ _=>rfl),size:=RU.1,defers:=.nil _ _ _,jG:=fun _ _ h=>(by cases h),fr:=fun t=>?_,live:=fun t id hid=>?_}
     ·unfold IL aG;by_cases ht:t<E.fn.ntmps
      ·rw[show Nat.blt t E.fn.ntmps=true by rw[Nat.blt_eq];exact ht,if_pos ht];exact RU.2 t ht
      ·rw[show Nat.blt t E.fn.ntmps=false by rw[←Bool.not_eq_true,Nat.blt_eq];exact ht,if_neg ht];exact hF.fr _
     ·unfold IL at hid;cases e:Nat.blt t E.fn.ntmps with
      |true=>
       rw[e]at hid;rcases zq _ _ _ _ hid with h|h
       ·exact Ch id h
       ·exact hF.live _ id h
      |false=>rw[e]at hid;exact hF.live _ id hid
    refine roundIn_of_wpIn trivial ?_;show(Fo.ready.obj rc).assign.wpIn (FR (some l)) 0 E.P _ _ _;have Rs:(Fo.ready.obj rc).assign=as:=has;rw[Rs];refine Wy (rd:=some l) UL (tZ _ _ _ _) (fun h=>by cases h) hy Wv fun e f1 m1 μ1 φ1 a1 w1 KC Gd=>?_;split at KC
    ·rename_i Tw;obtain⟨g1,rc1,p1,p2,p3⟩:=Gd.wB id _ Tw;have p2:w2.rc id=some (g1,rc1):=p2;rw[Qr]at p2;simp only[Option.some.injEq,Prod.mk.injEq]at p2;obtain⟨rfl,rfl⟩:=p2;refine⟨_,run_beginRound p3 rfl,?_⟩;have fl:(Fo.ready.obj rc).body=b:=hb;refine Eq.mpr (congrArg (fun c:Code=>c.wpIn (FR (some l)) 0 E.P _ a1 _) fl) ?_;have oS:=Gd.toal.turn (st':=.busy) Tw p1 Qr;have aaH:Rel E.P E.ax E.fn.ntmps {w2 with sv:=fun t=>ρ (t-E.fn.ntmps),dt:=μ,jG:=fun _=>none} μ1 φ1 f1 (ai m1 id (.loop .busy)) a1 (w1.putObj l (.loop {Fo.ready.obj rc with state:=.busy})):=
      {toal:=oS,size:=Gd.size,defers:=Gd.defers,jG:=Gd.jG,fr:=Gd.fr,live:=fun t j hj=>by
        by_cases e:j=id
        ·subst e;simp
        ·rw[ak e];exact Gd.live t j hj}
     refine Wz (rd:=some l) UL (tZ _ _ _ _) (fun h=>by cases h) KC aaH fun e f2 m2 μ2 φ2 a2 w2' Qb Bg=>?_;split at Qb
     ·rename_i bY;obtain⟨g2,rc2,q1,q2,q3⟩:=Bg.wB id _ bY;have q2:w2.rc id=some (g2,rc2):=q2;rw[Qr]at q2;simp only[Option.some.injEq,Prod.mk.injEq]at q2;obtain⟨rfl,rfl⟩:=q2;have hle:DY μ μ2:=Bg.dt;have hFp:bJ E.P μ2 φ2 m2 (qF E.fn.ntmps f2) ρ:=by refine⟨fun t=>?_,fun t id hid=>Bg.live _ id hid⟩;have:=Bg.fr (t+E.fn.ntmps);rw[K0]at this;simpa[qF]using this
      have fin:∀(st:Fo)(v:Bool),k (.pv (.bool v)) (qF E.fn.ntmps f2) (ai m2 id (.loop st))=some r→∃v' f' m' y μ' φ',k v' f' m'=some r∧Ending.returned (.bool v)=.returned y∧DY μ μ'∧al E.P E.ax w2 μ' φ' m' (w2'.putObj l (.loop (st.obj rc)))∧bJ E.P μ' φ' m' f' ρ∧ab E.P μ' φ' v' y∧∀id,v'.has id=true→(m' id).isSome=true:=by
       intro st v hk;have UJ:=Bg.toal.turn (st':=st) bY q1 Qr;refine⟨_,_,_,_,μ2,φ2,hk,rfl,hle,UJ.qL rfl rfl (fun b o hb=>hle b o (hM.dt b o hb)) (fun _ _ _=>rfl),⟨hFp.fr,fun t j hj=>?_⟩,.pv .bool,fun id hid=>by cases hid⟩;by_cases e:j=id
       ·subst e;simp
       ·rw[ak e];exact hFp.live t j hj
      cases e with
      |normal=>exact⟨_,_,run_endRound none q3,fin .ready true Qb⟩
      |exit j=>exact⟨_,_,run_endRound (some (.exit j)) q3,fin (.done (.exit j)) false Qb⟩
      |ret=>exact⟨_,_,run_endRound (some .ret) q3,fin (.done .ret) false Qb⟩
     ·cases Qb
    ·cases KC
   ·cases hy
  ·cases hy
theorem Qx{μ:Ro}{φ:Nat→aw}{m:Mem}{v:V}{g:FuncId}{caps:List V}{y:Value}(h:SN v=some (g,caps))(hv:ab P μ φ v y)(hl:∀id,v.has id=true→(m id).isSome=true):∃xs,y=.func (.func g) #[] xs∧caps.length=xs.size∧(∀(i:Nat)v x,caps[i]?=some v→xs[i]?=some x→ab P μ φ v x)∧∀id,bO id caps=true→(m id).isSome=true:=by
 unfold SN at h;split at h
 ·rename_i g0 c0;cases e:Nat.blt g0 xq with
  |false=>rw[e]at h;cases h
  |true=>
  rw[e]at h;simp only[cond_true,Option.some.injEq,Prod.mk.injEq]at h;obtain⟨rfl,rfl⟩:=h;cases hv with
  | @fn _ _ xs h1 h2=>exact⟨xs,mA e,h1,h2,fun id hid=>hl id (by simpa only[V.has]using hid)⟩
 ·rename_i g0 c0;cases e:Nat.blt g0 xq with
  |false=>rw[e]at h;cases h
  |true=>
  rw[e]at h;simp only[cond_true,Option.some.injEq,Prod.mk.injEq]at h;obtain⟨rfl,rfl⟩:=h;cases hv with
  |pv hv=>cases hv with
   | @fn _ _ xs h1 h2=>
    refine⟨xs,mA e,by simpa using h1,fun i v x hv hx=>?_,fun id hid=>?_⟩
    ·simp only[List.getElem?_map,Option.map_eq_some_iff]at hv;obtain⟨q,hq,rfl⟩:=hv;exact .pv (h2 i q x hq hx)
    ·obtain⟨v,hv,hh⟩:=cw.1 hid;obtain⟨q,_,rfl⟩:=List.mem_map.1 hv;cases hh
 ·cases h
theorem CD{g:Operand}{ps:Array Tmp}{as b:Code}(Wy:vJ as)(Wz:vJ b):vJ (.rangeFunc g ps as b):=by
 intro E w0 rd hE hY ug R f m k r h μ φ a w Q hR hQ;simp only[eL]at h;split at h
 ·cases h
 rename_i Gc;have ug:=ug (by simpa using Gc);subst ug;split at h;rotate_left
 ·cases h
 rename_i p0 pr Ao;generalize acM:cg E (some p0)=lid at h;obtain⟨f1,m1,_,h,L5,sw,aaI⟩:=bR h;obtain⟨Wa,rfl,rfl⟩:=sw rfl;refine wpIn_rangeFunc fun fn _=>?_;obtain⟨rec,CE⟩:∃rec:Loop,rec={state:=.ready,pending:=none,fn,tmps:=a.tmps,params:=ps,assign:=as,body:=b,defers:=w.heap.size}:=⟨_,rfl⟩;obtain⟨wD,hwD⟩:∃wD,wD=w.alloc (.deferred (some [])):=⟨_,rfl⟩;obtain⟨W1,WB⟩:∃W1,W1=wD.alloc (.loop rec):=⟨_,rfl⟩;obtain⟨l,hl⟩:∃l,l=wD.heap.size:=⟨_,rfl⟩;have Mv:l=w.heap.size+1:=by rw[hl,hwD];simp
 obtain⟨μD,TH⟩:∃μD,μD=wW μ w (.deferred (some [])):=⟨_,rfl⟩;have NI:DY μ μD:=TH▸Eb hR.toal _;have hMD:al E.P E.ax w0 μD φ m wD:=TH▸hwD▸hR.toal.Qs _;have hD:μD w.heap.size=some (.deferred (some [])):=by rw[TH];simp[wW]
 obtain⟨w1,I7⟩:∃w1:bg,w1={w0 with dt:=μD,rc:=fun i=>if i=lid then some (l,rec)else w0.rc i}:=⟨_,rfl⟩;have WC:al E.P E.ax w1 μD φ m wD:=I7▸hMD.qL rfl rfl (fun _ _ h=>h) (fun id st hid=>if_neg fun e=>by subst e;rw[Wa]at hid;cases hid);have wJ:aG E.fn.ntmps w1 a=aG E.fn.ntmps w0 a:=by subst I7;rfl
 have hFD:bJ E.P μD φ m f1 (aG E.fn.ntmps w0 a):=⟨fun t=>(hR.fr t).sF NI,hR.live⟩;have TI:w1.rc lid=some (l,rec):=by subst I7;exact if_pos rfl
 have Cp:W1.heap[l]?=some (.loop rec):=by rw[WB,hl];exact heap_alloc_new wD _
 have Ap:Fo.ready.obj rec=rec:=by subst CE;rfl
 have oc:iD E.P w1 μD φ m wD W1 lid (.loop .ready) (xt (some l) 0 0 0):=by
  rw[WB];refine iD.alloc WC (by rw[hl]) (fun φ' hp _=>⟨l,rec,by rw[hp],?_⟩) (by simp[bn.names]) fun st sJ=>?_
  ·rw[Ap,←WB];exact Cp
  ·cases sJ;exact⟨l,rec,rfl,TI,by rw[Ap,←WB];exact Cp⟩
 obtain⟨φ1,aaJ,oS,xy⟩:=aaI E.P E.ax w1 μD φ wD W1 (aG E.fn.ntmps w0 a) (xt (some l) 0 0 0) WC hFD oc;have Gd:Rel E.P E.ax E.fn.ntmps w1 μD φ1 f1 (ai m lid (.loop .ready)) a W1:={toal:=oS,size:=hR.size,defers:=(by have:=hR.defers.mono NI;subst I7;exact this),jG:=(by subst I7;exact fun b o hb=>NI b o (hR.dt b o (hR.jG b o hb))),fr:=fun t=>by rw[wJ];exact xy.fr t,live:=xy.live};have KO:=ah Gd g;split at h;rotate_left
 ·cases h
 rename_i gid caps lE;obtain⟨xs,hgv,hlen,ib,aaK⟩:=Qx lE KO.1 KO.2
 ·clear KO;obtain⟨fnI,cI,f1,f2,f3,gI⟩:=hE.SL _ _ _ _ _ _ _ _ _ h;have LQ:ab E.P μD φ1 (.yl lid) (.func (.yield l) #[] #[]):=.yl (by rw[aaJ]);have hC:=gI w1 μD φ1 (aG E.fn.ntmps w0 a) W1 (#[.func (.yield l) #[] #[]]++xs) oS xy (by simp;omega) (fun i v x hv hx=>by
    cases i with
    |zero=>simp at hv;subst hv;rw[Array.getElem?_append]at hx;simp at hx;subst hx;exact LQ
    |succ i=>simp at hv;rw[Array.getElem?_append_right (by simp)]at hx;exact ib i v x hv (by simpa using hx)) (fun id hid=>by
    simp only[bO,Bool.or_eq_true]at hid;rcases hid with hid|hid
    ·have:=Nat.eq_of_beq_eq_true hid;subst this;simp
    ·exact aaK id hid) (by
   refine fun R site id args F m k r hy=>NH (fid:=site*4096+E.fid%4096) Wy Wz hE (w2:={w1 with sv:=fun t=>aG E.fn.ntmps w0 a (t-fnI.ntmps)}) (rc:=rec) (l:=l) (lid:=lid) (ps:=ps) TI (by subst CE;rfl) (by subst CE;rfl) (by subst CE;rfl) (by subst CE;exact hR.size) (fun t ht=>by subst CE;show aG E.fn.ntmps w0 a (t+fnI.ntmps-fnI.ntmps)=_;rw[Nat.add_sub_cancel,mw ht]) R site id args F m k r hy)
  refine⟨l,[{target:=.collected w.heap.size,args:= #[]}],W1,{target:=.fn (.func gid) xs,args:= #[.func (.yield l) #[] #[]]},W1,gid,#[.func (.yield l) #[] #[]]++xs,W1,?_,?_,?_,?_,?_,?_⟩
  ·have:=run_enterLoop_outer (P:=E.P) (w:=w) fn a.tmps ps as b;rw[Mv,WB,hwD,CE];exact this
  ·simp only[resolve,hgv];simp[go_sem]
  ·exact fun _ _=>trivial
  ·simp[invoke,go_sem,Qw f1 f3 f2]
  ·exact fun h=>by cases h
  ·refine FR.Jc (hC.mono ?_);rintro e w' ⟨v,f',m',y,μ',φ',hk,rfl,MG,Vo,_,_⟩;have TJ:DY μD μ':=by have:=MG.dt;subst I7;exact this
   have hD':μ' w.heap.size=some (.deferred (some [])):=TJ _ _ hD;have main:∀st,m' lid=some (.loop st)→st≠.busy→∃w4,(Instr.endLoop l).run E.P w'=.ok (st.obj rec).pending w4∧Rel E.P E.ax E.fn.ntmps w0 μ' φ' (eB lid f') (aQ (bk lid m') lid) {a with defers:=[{target:=.collected w.heap.size,args:= #[]}]++a.defers} w4:=by
    intro st sJ VA;obtain⟨g',rc',p1,p2,p3⟩:=MG.wB lid st sJ;rw[TI]at p2;simp only[Option.some.injEq,Prod.mk.injEq]at p2;obtain⟨rfl,rfl⟩:=p2;have pk:=MG.own lid _ _ sJ (.inl p1);have hMf:=MG.forget lid;have vB:∀id b,aQ (bk lid m') lid id=some b→¬b.owns (φ' id) l:=fun id b' hid e=>by obtain⟨cq,b2,nq,rfl⟩:=ey hid;exact cq (MG.inj id lid b2 _ l nq sJ (fa.1 e) (.inl p1))
    have hM4:=hMf.other (.loop {st.obj rec with state:=.exhausted}) pk.1 (pk.2 rfl) vB;have hM5:al E.P E.ax w0 μ' φ' (aQ (bk lid m') lid) (w'.putObj l (.loop {st.obj rec with state:=.exhausted})):=hM4.qL (by subst I7;rfl) (by subst I7;rfl) (fun b o hb=>TJ b o (NI b o (hR.dt b o hb))) (fun id st hid=>by
      have cq:id≠lid:=fun e=>by subst e;simp at hid
      subst I7;exact(if_neg cq).symm)
    refine⟨_,run_endLoop p3 (by cases st<;>simp_all[Fo.obj]),{toal:=hM5,size:=hR.size,defers:=?_,jG:=hR.jG,fr:=?_,live:=?_}⟩
    ·obtain⟨Ds,e,PA,hDs⟩:=hR.defers;have ba:∀b o,μ b=some o→b<w.heap.size:=fun b o hb=>(Array.getElem?_eq_some_iff.1 (hR.ro b o hb)).1;refine⟨w.heap.size::Ds,by simp[e],List.nodup_cons.2 ⟨fun hd=>?_,PA⟩,fun D hd=>?_⟩
     ·have:=ba _ _ (hDs _ hd).2.2;omega
     ·rcases List.mem_cons.1 hd with rfl|hd
      ·refine⟨hR.below.size,?_,hD'⟩;cases ho:w0.jG w.heap.size with
       |none=>rfl
       |some o=>have:=ba _ _ (hR.dt _ _ (hR.jG _ _ ho));omega
      ·exact⟨(hDs D hd).1,(hDs D hd).2.1,TJ _ _ (NI _ _ (hDs D hd).2.2)⟩
    ·exact(Vo.forget lid).fr
    ·exact(Vo.forget lid).live
   dsimp only at hk;split at hk
   ·rename_i sJ;obtain⟨w4,e1,e2⟩:=main .ready sJ (by simp);exact⟨none,w4,e1,hQ .normal _ _ _ _ _ _ hk e2⟩
   ·rename_i j sJ;obtain⟨w4,e1,e2⟩:=main (.done j) sJ (by simp);refine⟨some j.code,w4,e1,?_⟩;cases j with
    |ret=>exact wpIn_ret (hQ .ret _ _ _ _ _ _ hk e2)
    |exit id=>exact wpIn_exit (hQ (.exit id) _ _ _ _ _ _ hk e2)
   ·cases hk
theorem NJ:∀(c:Code),vJ c:=by
 intro c;induction c with
 |skip=>intro E w0 rd hE hY ug R f m k r h μ φ a w Q hR hQ;simp only[eL]at h;exact wpIn_skip (hQ .normal _ _ _ _ _ _ h hR)
 |region id ops draw=>intro E w0 rd hE hY ug R f m k r h μ φ a w Q hR hQ;exact KZ hE hY h hR (hQ .normal)
 |seq x y ihx ihy=>
  intro E w0 rd hE hY ug R f m k r h μ φ a w Q hR hQ;simp only[eL]at h;refine wpIn_seq (ihx hE hY ug h hR fun e f' m' μ' φ' a' w' hk gE=>?_);cases e with
  |normal=>exact ihy hE hY ug hk gE hQ
  |exit id=>exact hQ (.exit id) _ _ _ _ _ _ hk gE
  |ret=>exact hQ .ret _ _ _ _ _ _ hk gE
 |cond c x y ihx ihy=>
  intro E w0 rd hE hY ug R f m k r h μ φ a w Q hR hQ;simp only[eL]at h;split at h
  ·rename_i t b hb;have hv:a.eval (.tmp t)=.bool b:=by have:=(ah hR (.tmp t)).1;rw[hb]at this;exact mL this
   have fl:f t=.pv (.bool b):=(y8 hb).2;have hle:qt (eS f t (.pv (.bool b))) f:=fun s=>by
    simp only[eS];cases e:Nat.beq s t with
    |true=>have:=Nat.eq_of_beq_eq_true e;subst this;exact .inl fl.symm
    |false=>exact .inl rfl
   cases b with
   |true=>simp only[if_true]at h;exact wpIn_cond_true hv (ihx hE hY ug h (hR.weaken hle) hQ)
   |false=>simp only[Bool.false_eq_true,if_false]at h;exact wpIn_cond_false hv (ihy hE hY ug h (hR.weaken hle) hQ)
  ·cases h
 |block id b ih=>
  intro E w0 rd hE hY ug R f m k r h μ φ a w Q hR hQ;simp only[eL]at h;refine wpIn_block (ih hE hY ug h hR fun e f' m' μ' φ' a' w' hk gE=>?_);cases e with
  |normal=>exact hQ .normal _ _ _ _ _ _ hk gE
  |exit j=>
   simp only[Ex.Mm]at hk;simp only[NF,Exit.inBlock];split at hk
   ·rename_i hj;rw[if_pos hj];exact hQ .normal _ _ _ _ _ _ hk gE
   ·rename_i hj;rw[if_neg hj];exact hQ (.exit j) _ _ _ _ _ _ hk gE
  |ret=>exact hQ .ret _ _ _ _ _ _ hk gE
 |loop b ih=>
  intro E w0 rd hE hY ug R f m k r h μ φ a w Q hR hQ;simp only[eL]at h;split at h
  ·rename_i T _;obtain⟨f,m,μ,φ,h,hR⟩:=Ef h hR;obtain⟨s,hs,s1,s2,s3,s4⟩:=NC h;obtain⟨n0,hs⟩:=hE.lp _ _ _ _ _ hs;refine Bs (fun n a w=>∃s μ φ,Rel E.P E.ax E.fn.ntmps w0 μ φ (FG T s) (yp T s) a w∧cd (fun s rec=>eL E b (FG T s) (yp T s) (Ex.DA (fun f m=>AQ E.P T f m fun f m=>enc T f m rec) k)) n s=some r) ?_ n0 a w ⟨s,μ,φ,hR.dec s1 s2 s3 s4,hs⟩;rintro n a w ⟨s,μ,φ,hR,hs⟩;cases n with
   |zero=>simp[cd]at hs
   |succ n=>
    refine⟨n,rfl,?_⟩;simp only[cd]at hs;refine ih hE hY ug hs hR fun e f' m' μ' φ' a' w' hk gE=>?_;cases e with
    |normal=>obtain⟨f',m',μ',φ',hk,gE⟩:=Ef hk gE;obtain⟨s',V5,t1,t2,t3,t4⟩:=NC hk;exact⟨s',μ',φ',gE.dec t1 t2 t3 t4,V5⟩
    |exit j=>exact hQ (.exit j) _ _ _ _ _ _ hk gE
    |ret=>exact hQ .ret _ _ _ _ _ _ hk gE
  ·refine Bs (fun n a w=>∃f m μ φ,Rel E.P E.ax E.fn.ntmps w0 μ φ f m a w∧Dy (fun f m rec=>eL E b f m (Ex.DA rec k)) n f m=some r) ?_ E.u a w ⟨f,m,μ,φ,hR,h⟩;rintro n a w ⟨f,m,μ,φ,hR,hs⟩;cases n with
   |zero=>simp[Dy]at hs
   |succ n=>
    refine⟨n,rfl,?_⟩;simp only[Dy]at hs;refine ih hE hY ug hs hR fun e f' m' μ' φ' a' w' hk gE=>?_;cases e with
    |normal=>exact⟨f',m',μ',φ',gE,hk⟩
    |exit j=>exact hQ (.exit j) _ _ _ _ _ _ hk gE
    |ret=>exact hQ .ret _ _ _ _ _ _ hk gE
 |exit id=>intro E w0 rd hE hY ug R f m k r h μ φ a w Q hR hQ;simp only[eL]at h;exact wpIn_exit (hQ (.exit id) _ _ _ _ _ _ h hR)
 |label l=>intro E w0 rd hE hY ug R f m k r h μ φ a w Q hR hQ;simp only[eL]at h;exact wpIn_label (hQ .normal _ _ _ _ _ _ h hR)
 |ret=>intro E w0 rd hE hY ug R f m k r h μ φ a w Q hR hQ;simp only[eL]at h;exact wpIn_ret (hQ .ret _ _ _ _ _ _ h hR)
 |scope b ih=>intro E w0 rd hE hY ug R f m k r h μ φ a w Q hR hQ;simp only[eL]at h;exact KY (ih hE hY ug h hR fun e f' m' μ' φ' a' w' hk gE=>by cases e<;>exact hQ _ _ _ _ _ _ _ hk gE)
 |rangeFunc g ps as b Wy Wz=>exact CD Wy Wz
 |_=>intro E w0 rd hE hY ug R f m k r h;simp[eL]at h
end Go.Ab
set_option linter.unusedVariables false
namespace Go.Ab
open Go.RowKit (Below)
def Obj.TK:Obj→Bool
 |.cells .. =>true
 |.map .. =>true
 |_=>false
def Jm(μ μ':Ro):Prop:=∀b o,μ b=some o→Obj.TK o=true→μ' b=some o
theorem Jm.trans{a b c:Ro}(h:Jm a b)(k:Jm b c):Jm a c:=fun x o hx ho=>k x o (h x o hx ho) ho
section
variable {P:Program} {G:Nat→Option (List PV)} {w0:bg} {μ μ':Ro} {φ:Nat→aw} {m:Mem} {w w':World}
variable{x:Value}
theorem zu(h:Jm μ μ'){b o:Nat}(hx:cellAt μ b o=some x):cellAt μ' b o=some x:=by
 unfold cellAt at*;split at hx
 ·rename_i c t fz hb;rw[h _ _ hb rfl];exact hx
 ·cases hx
theorem af.off(h:Jm μ μ'){p:PV}(hp:af P μ p x):af P μ' p x:=by
 induction hp with
 |int h=>exact .int h
 |bool=>exact .bool
 |str h=>exact .str h
 |agg h1 _ h3 ih=>exact .agg h1 ih h3
 |bA h1 _ ih=>exact .bA h1 ih
 |lS=>exact .lS
 |rp X h1 _ h3 ih=>exact .rp X (fun i p hi=>zu h (h1 i p hi)) ih h3
 |iC=>exact .iC
 |Dg h=>exact .Dg h
 |rs X h1 h2 h3 h4 _ h6 ih=>exact .rs X h1 h2 h3 (fun i e j p hi hj=>zu h (h4 i e j p hi hj)) ih h6
 |qm=>exact .qm
 |rm h1 h2 h3 h4 h5 _ _ ih1 ih2=>exact .rm (h _ _ h1 rfl) h2 h3 h4 h5 ih1 ih2
 |vb=>exact .vb
 |fn h1 _ ih=>exact .fn h1 ih
 |Mu=>exact .Mu
 |PQ=>exact .PQ
 |bad=>exact .bad
theorem sE.off(h:Jm μ μ'){g:Nat}{cs:List PV}(hv:sE P μ g cs):sE P μ' g cs:=⟨hv.rep.off h,let⟨c,T,z,h1,h2⟩:=hv.size;⟨c,T,z,h _ _ h1 rfl,h2⟩⟩
theorem ab.off(h:Jm μ μ'){v:V}{x:Value}(hv:ab P μ φ v x):ab P μ' φ v x:=by
 induction hv with
 |pv hp=>exact .pv (hp.off h)
 |aX=>exact .aX
 |op hg=>exact .op hg
 |oe hg=>exact .oe hg
 |np hg=>exact .np hg
 |os hg=>exact .os hg
 |my hg=>exact .my hg
 |eR hg hl ha hc Ms=>exact .eR hg hl ha hc Ms
 |Ci hg=>exact .Ci hg
 |qD hg=>exact .qD hg
 |tP hg hs=>exact .tP hg hs
 |om hg=>exact .om hg
 |yl hg=>exact .yl hg
 |it hg=>exact .it hg
 |fn h1 _ ih=>exact .fn h1 ih
 |agg h1 _ h3 ih=>exact .agg h1 ih h3
 |bA h1 _ ih=>exact .bA h1 ih
 |top=>exact .top
theorem ay.off(h:Jm μ μ'){id sz:Nat}{et:TypeId}{es:List PV}(ha:ay P μ φ w id sz et es)(hw:∀g,(φ id).g=some g→w'.heap[g]?=w.heap[g]?):ay P μ' φ w' id sz et es:=by
 obtain⟨a1,a2,a3,a4,a5,a6,a7⟩:=ha;refine⟨a1,a2,a3,a4,a5,a6,?_⟩;cases hg:(φ id).g with
 |none=>rw[hg]at a7;exact a7
 |some g=>rw[hg]at a7;obtain⟨c,T,c1,c2,c3,c4,c5⟩:=a7;exact⟨c,T,by rw[hw g hg];exact c1,c2,c3,fun i e j p x h1 h2 h3=>(c4 i e j p x h1 h2 h3).off h,c5⟩
theorem eu.off(hh:Jm μ μ'){R:wC}{s:Nat}{rs:List PV}{x:Value}(h:eu P μ R w s rs x)(hw:∀g,R.g=some g→w'.heap[g]?=w.heap[g]?):eu P μ' R w' s rs x:=
 let⟨⟨et,hA⟩,hV⟩:=h
 ⟨⟨et,hA.off hh hw⟩,hV.off hh⟩
theorem dW.off(hh:Jm μ μ'){R:wC}{p:PV}{x:Value}(h:dW P μ R w p x)(hw:p.isRow=true→∀g,R.g=some g→w'.heap[g]?=w.heap[g]?):dW P μ' R w' p x:=by
 unfold dW at*;split at h
 ·exact eu.off hh h (hw rfl)
 ·exact af.off hh h
theorem aL.off(hh:Jm μ μ'){id sz:Nat}{et:TypeId}{es:List PV}(h:aL P μ φ w id sz et es)(hw:∀g,(bn.nest sz et es).owns (φ id) g→w'.heap[g]?=w.heap[g]?):aL P μ' φ w' id sz et es:=by
 obtain⟨a1,a2,a3,a4,a5,a6,a7⟩:=h;refine⟨a1,a2,a3,a4,a5,a6,?_⟩;cases hg:(φ id).g with
 |none=>rw[hg]at a7;exact a7
 |some g=>rw[hg]at a7;obtain⟨c,T,c1,c2,c3,c4,c5⟩:=a7;exact⟨c,T,by rw[hw g (.inl hg)];exact c1,c2,c3,fun i e j p x h1 h2 h3=>(c4 i e j p x h1 h2 h3).off hh fun hr g' bF=>hw g' (.inr ⟨i,j,by rw[dm h1 h2];exact hr,bF⟩),c5⟩
theorem eu.Jn{R:wC}{s g:Nat}{rs:List PV}(h:eu P μ R w s rs x)(hg:R.g=some g):∃c T z,w.heap[g]?=some (.cells c T z):=by obtain⟨⟨et,_,_,_,_,_,_,a7⟩,_⟩:=h;have bF:R.up.g=some g:=hg;simp only[bF]at a7;obtain⟨c,_,c1,_⟩:=a7;exact⟨_,_,_,c1⟩
theorem fm.NK{id g i off:Nat}{b:bn}(h:fm P μ φ w id b)(hr:b.rowAt i off=true)(hg:((φ id).row i off).g=some g):∃c T z,w.heap[g]?=some (.cells c T z):=by
 rcases gT hr with⟨sz,et,es,e,s,rs,rfl,he,hp⟩|⟨kt,e0,es,k,s,rs,rfl,rfl,he⟩
 ·have hN:aL P μ φ w id sz et es:=h;have hgg:∃g0,(φ id).g=some g0:=by
   cases hq:(φ id).g with
   |some g0=>exact⟨g0,rfl⟩
   |none=>have a7:=hN.2.2.2.2.2.2;rw[hq]at a7;rw[a7.1]at he;simp at he
  obtain⟨g0,Fq⟩:=hgg;obtain⟨c,_,x,_,_,c3,_⟩:=hN.cell Fq he hp;exact eu.Jn (show eu P μ _ w s rs x from c3) hg
 ·obtain⟨g0,en,clock,kk,Fq,hh,hs,hk,hc,pY,hv⟩:=h;have hi:i<en.size:=by rw[hs];exact(List.getElem?_eq_some_iff.1 he).1
  have h3:=(hv i k _ en[i] he (Array.getElem?_eq_getElem hi)).2;exact eu.Jn (P:=P) (μ:=μ) (R:=(φ id).row i 0) (s:=s) (rs:=rs) (x:=en[i].val) ⟨⟨_,h3.1⟩,h3.2⟩ hg
theorem fm.off(h:Jm μ μ')(kU:∀b o,μ b=some o→w.heap[b]?=some o){id:Nat}{b:bn}(hb:fm P μ φ w id b)(hw:∀g,b.owns (φ id) g→w'.heap[g]?=w.heap[g]?):fm P μ' φ w' id b:=by
 cases b with
 |nest sz et es=>exact aL.off h hb hw
 |eG kt e0 es=>
  obtain⟨g,en,clock,kk,hg,hh,hs,hk,hc,pY,hv⟩:=hb;refine⟨g,en,clock,kk,hg,by rw[hw g (.inl hg)];exact hh,hs,hk,hc,pY,fun i k v e h1 h2=>⟨(hv i k v e h1 h2).1.off h,?_⟩⟩;have h3:=(hv i k v e h1 h2).2;split at h3
  ·exact⟨h3.1.off h fun g' bF=>hw g' (.inr ⟨i,0,by rw[gS h1];rfl,bF⟩),h3.2.off h⟩
  ·exact h3.off h
 |box cs=>obtain⟨g,c,T,hg,hh,hs,hv,h1,vq⟩:=hb;exact⟨g,c,T,hg,by rw[hw g (.inl hg)];exact hh,hs,fun i v x hi hx=>(hv i v x hi hx).off h,h1,vq⟩
 |arr sz et es=>exact ay.off h hb fun g hg=>hw g (.inl hg)
 |l6 sz et es=>refine⟨ay.off h hb.1 fun g hg=>hw g (.inl hg),fun g hg=>?_⟩;obtain⟨o,ho⟩:=Option.isSome_iff_exists.1 (hb.2 g hg);obtain⟨_,_,_,_,_,_,a7⟩:=hb.1;rw[hg]at a7;obtain⟨c,_,c1,_⟩:=a7;have:=kU g o ho;rw[c1]at this;cases this;rw[h _ _ ho rfl];rfl
 |map kt es=>obtain⟨g,en,clock,kk,hg,hh,hs,hk,hc,pY,hv⟩:=hb;exact⟨g,en,clock,kk,hg,by rw[hw g (.inl hg)];exact hh,hs,hk,hc,pY,fun i k v e h1 h2=>⟨(hv i k v e h1 h2).1.off h,(hv i k v e h1 h2).2.off h⟩⟩
 |iter t es cur=>obtain⟨g,mg,en,clock,seen,hg,hh,yF,pY,vq,hv,Vw⟩:=hb;exact⟨g,mg,en,clock,seen,hg,by rw[hw g (.inl hg)];exact hh,h _ _ yF rfl,pY,vq,fun i k v e h1 h2=>⟨(hv i k v e h1 h2).1.off h,(hv i k v e h1 h2).2.off h⟩,fun k v hc=>let⟨i,e,h1,h2,h3,h4⟩:=Vw k v hc;⟨i,e,h1,h2,h3.off h,h4.off h⟩⟩
 |loop st=>obtain⟨g,rc,hg,hh⟩:=hb;exact⟨g,rc,hg,by rw[hw g (.inl hg)];exact hh⟩
def wX(μ:Ro)(D:Nat):Ro:=fun b=>if b=D then none else μ b
theorem Jo{D:Nat}(hD:μ D=some (.deferred (some []))):Jm μ (wX μ D):=by intro b o hb ho;unfold wX;rw[if_neg fun e=>by subst e;rw[hD]at hb;cases hb;cases ho];exact hb
theorem al.shut(hM:al P G w0 μ φ m w){D:Nat}(hB:w0.heap.size≤D)(hk:w0.dt D=none)(hD:μ D=some (.deferred (some []))):al P G w0 (wX μ D) φ m (w.putObj D (.deferred none)):=by
 have hc:=Jo hD;have hh:=hM.ro _ _ hD;have xA:∀k,k≠D→(w.putObj D (.deferred none)).heap[k]?=w.heap[k]?:=fun k hk=>World.putObj_heap_other hk;have cq:∀id b g,m id=some b→b.owns (φ id) g→g≠D:=fun id b g hm hg e=>by
  subst e;have hR:=hM.dq id b hm;rcases hg with hg|⟨i,off,hr,hg⟩
  rotate_left
  ·obtain⟨c,T,z,h2⟩:=hR.NK hr hg;rw[hh]at h2;cases h2
  cases b with
  |nest sz et es=>obtain⟨_,_,_,_,_,_,a7⟩:=hR;rw[hg]at a7;obtain⟨c,_,c1,_⟩:=a7;rw[hh]at c1;cases c1
  |eG kt e0 es=>obtain⟨g',en,clock,kk,bF,h2,_⟩:=hR;rw[hg]at bF;cases bF;rw[hh]at h2;cases h2
  |box cs=>obtain⟨g',c,T,bF,h2,_⟩:=hR;rw[hg]at bF;cases bF;rw[hh]at h2;cases h2
  |arr sz et es=>obtain⟨_,_,_,_,_,_,a7⟩:=hR;rw[hg]at a7;obtain⟨c,_,c1,_⟩:=a7;rw[hh]at c1;cases c1
  |l6 sz et es=>obtain⟨⟨_,_,_,_,_,_,a7⟩,_⟩:=hR;rw[hg]at a7;obtain⟨c,_,c1,_⟩:=a7;rw[hh]at c1;cases c1
  |map kt es=>obtain⟨g',en,clock,kk,bF,h2,_⟩:=hR;rw[hg]at bF;cases bF;rw[hh]at h2;cases h2
  |loop st=>obtain⟨g',rc,bF,h2⟩:=hR;rw[hg]at bF;cases bF;rw[hh]at h2;cases h2
  |iter t es cur=>obtain⟨g',mg,en,clock,seen,bF,h2,_⟩:=hR;rw[hg]at bF;cases bF;rw[hh]at h2;cases h2
 refine⟨hM.below.trans ((iJ.putObj w D _).mono hB),fun b o hb=>?_,fun g cs hg=>(hM.ax g cs hg).off hc,fun id b hm=>(hM.dq id b hm).off hc hM.ro fun g hg=>xA g (cq id b g hm hg),fun id b g hm hg=>?_,hM.inj,hM.apart,hM.eT,fun b o hb ba=>?_,fun b o hb=>?_,fun id st hm=>?_⟩
 ·unfold wX at hb;split at hb
  ·cases hb
  ·rename_i e;rw[xA b e];exact hM.ro b o hb
 ·obtain⟨h1,h2⟩:=hM.own id b g hm hg;refine⟨h1,fun DG=>?_⟩;unfold wX;rw[if_neg (cq id b g hm hg)];exact h2 DG
 ·unfold wX at hb;split at hb
  ·cases hb
  ·exact hM.base b o hb ba
 ·unfold wX;rw[if_neg fun e=>by subst e;rw[hk]at hb;cases hb];exact hM.dt b o hb
 ·obtain⟨g,rc,h1,h2,h3⟩:=hM.wB id st hm;exact⟨g,rc,h1,h2,by rw[xA g (cq id _ g hm (.inl h1))];exact h3⟩
end
section
variable {E:Env} {w0:bg}
theorem uD{R:Ending→World→Prop}{f:Fr}{m:Mem}{φ:Nat→aw}{fn:Func}{tmps:Array Value}:∀(Ds:List Nat){μ:Ro}{w:World},Ds.Nodup→(∀D∈Ds,w0.heap.size≤D∧w0.dt D=none∧μ D=some (.deferred (some [])))→Rel E.P E.ax E.fn.ntmps w0 μ φ f m {tmps,defers:=[]} w→(∀μ' w',Rel E.P E.ax E.fn.ntmps w0 μ' φ f m {tmps,defers:=[]} w'→∃v,(results fn tmps).run E.P w'=.ok v w'∧R (.returned v) w')→LeavesInM (FR none) 0 E.P fn tmps R (Ds.map fun D=>{target:=.collected D,args:= #[]}) .returning w
 |[],μ,w,_,_,hR,CF=>CF μ w hR
 |D::Ds,μ,w,hn,hD,hR,CF=>by obtain⟨h1,h2,h3⟩:=hD D (by simp);obtain⟨n1,n2⟩:=List.nodup_cons.1 hn;have hM:=hR.toal.shut h1 h2 h3;refine⟨by simp,.inl ⟨D,_,rfl,run_takeDeferred (hR.ro _ _ h3),?_⟩⟩;refine uD Ds n2 (fun D' I3=>?_) {toal:=hM,size:=hR.size,defers:=.nil _ _ _,jG:=hR.jG,fr:=fun t=>(hR.fr t).off (Jo h3),live:=hR.live} CF;obtain⟨a1,a2,a3⟩:=hD D' (by simp[I3]);refine⟨a1,a2,?_⟩;unfold wX;rw[if_neg fun e=>by subst e;exact n1 I3];exact a3
theorem nT(hE:gP E)(hY:oM E.P E.ax E.fn.ntmps E.yl w0)(hko:∀b o,w0.dt b=some o→w0.jG b=some o){g:FuncId}{c:Code}(hf:E.P.funcs[g]?=some E.fn)(hb:E.fn.body=some c){xs:Array Value}{R:Ending→World→Prop}{S:Type}{f:Fr}{m:Mem}{k:Ex→Fr→Mem→Option S}{r:S}(h:eL E c f m k=some r){μ:Ro}{φ:Nat→aw}{w:World}(hR:Rel E.P E.ax E.fn.ntmps w0 μ φ f m {tmps:=xs++Array.replicate (E.fn.ntmps-xs.size) undef,defers:=[]} w)(CF:∀e f' m' μ' φ' tmps w',k e f' m'=some r→Rel E.P E.ax E.fn.ntmps w0 μ' φ' f' m' {tmps,defers:=[]} w'→(∀id,e≠.exit id)∧∃v,(results E.fn tmps).run E.P w'=.ok v w'∧R (.returned v) w'):Calls E.P g xs w R:=by
 refine(callsIn_wide (n:=0)).1 (callsIn_of_wp_marks (F:=FR none) hf hb trivial ?_);refine NJ c hE hY (fun _=>rfl) h hR fun e f' m' μ' φ' a' w' hk gE=>?_;obtain⟨Ds,e1,e2,e3⟩:=gE.defers;have Bg:Rel E.P E.ax E.fn.ntmps w0 μ' φ' f' m' {tmps:=a'.tmps,defers:=[]} w':={toal:=gE.toal,size:=gE.size,defers:=.nil _ _ _,jG:=gE.jG,fr:=gE.fr,live:=gE.live};have key:(∀id,e≠.exit id)→LeavesInM (FR none) 0 E.P E.fn a'.tmps R a'.defers .returning w':=fun _=>by
  rw[e1];refine uD Ds e2 (fun D hd=>?_) Bg fun μ2 w2 Wv=>(CF e f' m' μ2 φ' a'.tmps w2 hk Wv).2;obtain⟨a1,a2,a3⟩:=e3 D hd;refine⟨a1,?_,a3⟩;cases hq:w0.dt D with
  |none=>rfl
  |some o=>rw[hko D o hq]at a2;cases a2
 have cq:=(CF e f' m' μ' φ' a'.tmps w' hk Bg).1;cases e with
 |normal=>exact key cq
 |ret=>exact key cq
 |exit id=>exact absurd rfl (cq id)
end
end Go.Ab
