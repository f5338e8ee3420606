import Derived.Test.YtcmhmlnkhmefbaaGreatAbP7
import Derived.RangeFuncIn
import Derived.Scope
set_option linter.unusedVariables false
namespace Go.Ab
open Go.RowKit (Below)
section
variable {P:Program} {G:Nat→Option (List PV)} {w0:bA} {μ:Ro} {φ:Nat→aG} {m:Mem} {w:World}
theorem jB.putObj(w:World)(g:Nat)(o:Obj):jB g w (w.putObj g o):=⟨⟨rfl,rfl,rfl,by simp,fun k hk=>World.putObj_heap_other (by omega)⟩,fun _=>Nat.le_refl _⟩
theorem ay.tp(h:ay P G w0 μ φ m w){w1:bA}(hw:w1.w=w0.w)(Bg:w1.mu=w0.mu)(hk:∀b o,w1.dG b=some o→μ b=some o)(Up:∀id st,m id=some (.loop st)→w1.rc id=w0.rc id):ay P G w1 μ φ m w:=by obtain⟨a0,b0,c0,d0,e0⟩:=w0;obtain⟨a1,b1,c1,d1,e1⟩:=w1;simp only at hw Bg;subst hw;subst Bg;refine⟨h.below,h.ro,h.aI,h.dL,h.own,h.inj,h.apart,h.fl,h.base,hk,fun id st hid=>?_⟩;obtain⟨g,rc,h1,h2,h3⟩:=h.zg id st hid;exact⟨g,rc,h1,(Up id st hid).trans h2,h3⟩
def zA(μ:Ro)(w:World)(o:Obj):Ro:=fun b=>if b=w.heap.size then some o else μ b
theorem GR(hM:ay P G w0 μ φ m w)(o:Obj):GH μ (zA μ w o):=by intro b o' hb;have:=(Array.getElem?_eq_some_iff.1 (hM.ro b o' hb)).1;unfold zA;rw[if_neg (by omega)];exact hb
theorem ay.Uq(hM:ay P G w0 μ φ m w)(o:Obj):ay P G w0 (zA μ w o) φ m (w.alloc o):=by
 have hle:=GR hM o;have hold:∀k,k<w.heap.size→(w.alloc o).heap[k]?=w.heap[k]?:=fun k hk=>jB.heap_alloc w o k hk;have kR:w0.heap.size≤w.heap.size:=hM.below.size;refine⟨hM.below.alloc hM.below.size o,fun b o' hb=>?_,fun g cs hg=>(hM.aI g cs hg).mono hle,fun id b hid=>?_,fun id b g hid hg=>?_,hM.inj,hM.apart,hM.fl,fun b o' hb bt=>?_,fun b o' hb=>hle b o' (hM.dG b o' hb),fun id st hid=>?_⟩
 ·unfold zA at hb;split at hb
  ·rename_i e;subst e;cases hb;exact heap_alloc_new w o
  ·have:=hM.ro b o' hb;rw[hold b (Array.getElem?_eq_some_iff.1 this).1];exact this
 ·have hR:=hM.dL id b hid;exact hR.cJ (fun _ _=>rfl) rfl hle (fun g hg=>hold g (hR.Bh hg))
 ·obtain⟨h1,h2⟩:=hM.own id b g hid hg;refine⟨h1,fun Gn=>?_⟩;have:=(hM.dL id b hid).Bh hg;unfold zA;rw[if_neg (by omega)];exact h2 Gn
 ·unfold zA at hb;rw[if_neg (by omega)]at hb;exact hM.base b o' hb bt
 ·obtain⟨g,rc,h1,h2,h3⟩:=hM.zg id st hid;exact⟨g,rc,h1,h2,by rw[hold g (Array.getElem?_eq_some_iff.1 h3).1];exact h3⟩
theorem ay.other(hM:ay P G w0 μ φ m w){g:Nat}(o:Obj)(hg:w0.heap.size≤g)(hμ:μ g=none)(yw:∀id b,m id=some b→¬b.eh (φ id) g):ay P G w0 μ φ m (w.putObj g o):=by
 have Aj:∀k,k≠g→(w.putObj g o).heap[k]?=w.heap[k]?:=fun k hk=>World.putObj_heap_other hk;refine⟨hM.below.trans ((jB.putObj w g o).mono hg),fun b o' hb=>?_,hM.aI,fun id b hid=>?_,hM.own,hM.inj,hM.apart,hM.fl,hM.base,hM.dG,fun id st hid=>?_⟩
 ·rw[Aj b fun e=>by subst e;rw[hμ]at hb;cases hb];exact hM.ro b o' hb
 ·have hR:=hM.dL id b hid;exact hR.cJ (fun _ _=>rfl) rfl (fun _ _ h=>h) (fun g' bY=>Aj g' fun e=>by subst e;exact yw id b hid bY)
 ·obtain⟨g',rc,h1,h2,h3⟩:=hM.zg id st hid;exact⟨g',rc,h1,h2,by rw[Aj g' fun e=>by subst e;exact yw id _ hid (.inl h1)];exact h3⟩
theorem ay.turn(hM:ay P G w0 μ φ m w){id g:Nat}{st st':Ix}{rc:Loop}(hm:m id=some (.loop st))(hg:(φ id).g=some g)(Up:w0.rc id=some (g,rc)):ay P G w0 μ φ (ao m id (.loop st')) (w.putObj g (.loop (st'.obj rc))):=by have bt:=(hM.dL id _ hm).Bh (.inl hg);have EA:(w.putObj g (.loop (st'.obj rc))).heap[g]?=some (.loop (st'.obj rc)):=World.putObj_heap_same bt;exact hM.write hm rfl hg (jB.putObj w g _) (by simp) (fun k hk=>World.putObj_heap_other hk) ⟨g,rc,hg,EA⟩ rfl (by simp[bL.names]) fun s hs=>by cases hs;exact⟨rc,Up,EA⟩
end
section
variable {P:Program} {μ:Ro} {φ:Nat→aG}
theorem DK{nt:Nat}:∀(ps:List Nat)(args:List V)(xs:List Value)(f:Fr)(tmps:Array Value),tmps.size=nt→args.length=xs.length→(∀t,t<nt→ai P μ φ (f t) (tmps.getD t undef))→(∀(i:Nat)v x,args[i]?=some v→xs[i]?=some x→ai P μ φ v x)→((ps.zip xs).foldl (fun tmps(x:Nat×Value)=>tmps.setIfInBounds x.1 x.2) tmps).size=nt∧∀t,t<nt→ai P μ φ (A3 ps args f t) (((ps.zip xs).foldl (fun tmps(x:Nat×Value)=>tmps.setIfInBounds x.1 x.2) tmps).getD t undef)
 |[],args,xs,f,tmps,hs,_,hf,_=>by cases args<;>exact⟨hs,hf⟩
 |p::ps,[],xs,f,tmps,hs,hl,hf,_=>by have:xs=[]:=List.eq_nil_of_length_eq_zero (by simpa using hl.symm);subst this;exact⟨hs,hf⟩
 |p::ps,v::args,[],f,tmps,hs,hl,hf,_=>by simp at hl
 |p::ps,v::args,x::xs,f,tmps,hs,hl,hf,hr=>by
  simp only[List.zip_cons_cons,List.foldl_cons,A3];refine DK ps args xs (fk f p v) (tmps.setIfInBounds p x) (by simpa using hs) (by simpa using hl) (fun t ht=>?_) (fun i u y hu hy=>hr (i+1) u y (by simpa using hu) (by simpa using hy));by_cases e:t=p
  ·subst e;rw[rZ];have:(tmps.setIfInBounds t x).getD t undef=x:=by rw[Array.getD_eq_getD_getElem?,Array.getElem?_setIfInBounds];simp[show t<tmps.size by omega]
   rw[this];exact hr 0 v x rfl rfl
  ·rw[oz e];have:(tmps.setIfInBounds p x).getD t undef=tmps.getD t undef:=by rw[Array.getD_eq_getD_getElem?,Array.getD_eq_getD_getElem?,Array.getElem?_setIfInBounds,if_neg (fun h=>e h.symm)]
   rw[this];exact hf t ht
theorem B0{id:Nat}:∀(ps:List Nat)(args:List V)(f:Fr)(t:Nat),(A3 ps args f t).has id=true→cr id args=true∨(f t).has id=true
 |[],args,f,t,h=>by cases args<;>exact .inr h
 |p::ps,[],f,t,h=>.inr h
 |p::ps,v::args,f,t,h=>by
  simp only[A3]at h;rcases B0 ps args _ t h with h|h
  ·exact .inl (by simp[cr,h])
  ·by_cases e:t=p
   ·subst e;rw[rZ]at h;exact .inl (by simp[cr,h])
   ·rw[oz e]at h;exact .inr h
theorem Ru(ps:Array Nat)(xs:Array Value)(tmps:Array Value):(ps.zip xs).foldl (fun tmps(t,a)=>tmps.setIfInBounds t a) tmps=(ps.toList.zip xs.toList).foldl (fun tmps(x:Nat×Value)=>tmps.setIfInBounds x.1 x.2) tmps:=by rw[←Array.foldl_toList,Array.toList_zip]
end
end Go.Ab
set_option linter.unusedVariables false
namespace Go.Ab
open Go.RowKit (Below)
variable{P:Program}{c:Code}{Q:Exit→Act→World→Prop}
theorem DL{F:Fence}{nn:Nat}(I:Nat→Act→World→Prop)(round:∀n a w,I n a w→∃n',n=n'+1∧c.wpIn F nn P (Exit.then (I n') Q) a w):∀n a w,I n a w→(Code.loop c).wpIn F nn P Q a w:=by
 intro n a w hI b k cs mn hb hr;have key:∀n a w,I n a w→∃e a' w',Q e a' w'∧ArrivesIn (Machine.fenced P F) P (lone (b.atR a (.code c::.inLoop c::k)) cs w) b k cs e a' w':=by
  intro n;induction n with
  |zero=>intro a w h;obtain⟨n',h,_⟩:=round 0 a w h;omega
  |succ n ih=>
   intro a w h;obtain⟨n',hn,wY⟩:=round _ a w h;have hn:n=n':=by omega
   subst hn;obtain⟨e,a₁,w₁,hq,xi⟩:=wY b (.inLoop c::k) cs mn hb hr;cases e with
   |normal=>obtain⟨e₂,a₂,w₂,aas,Ur⟩:=ih a₁ w₁ hq;exact⟨e₂,a₂,w₂,aas,.of_steps (StepsIn.trans xi (.one (fenced_calm hb hr rfl) stepR_inLoop)) Ur⟩
   |_=>exact⟨_,a₁,w₁,hq,.pass (x:=.inLoop c) rfl (fun _ _=>.inl (by simp)) xi⟩
 obtain⟨e,a',w',hq,xi⟩:=key n a w hI;exact⟨e,a',w',hq,.of_steps (.one (fenced_calm hb hr rfl) stepR_loop) xi⟩
theorem OG{rd:Option Nat}{n:Nat}{a:Act}{w:World}(h:c.wpIn (FR rd) n P (Exit.noGoto Q) a w):(Code.scope c).wpIn (FR rd) n P Q a w:=by
 intro b k cs mn hb hr;obtain⟨e,a₁,w₁,hq,xi⟩:=h b (.inScope c::k) cs mn hb hr;have s1:StepsIn (Machine.fenced P (FR rd)) P (lone (b.atR a (.code (.scope c)::k)) cs w) (lone (b.atR a (.code c::.inScope c::k)) cs w):=.one (fenced_calm hb hr rfl) (step_lone_go (by simp[stepG,stepG.exec,Frame.atR]));have s2:∀a w,StepsIn (Machine.fenced P (FR rd)) P (lone (b.atR a (.inScope c::k)) cs w) (lone (b.atR a k) cs w):=fun a w=>.one (fenced_calm hb hr rfl) (step_lone_go (by simp[stepG,stepG.exec,Frame.atR]));cases e with
 |normal=>exact⟨.normal,a₁,w₁,hq,s1.trans (StepsIn.trans xi (s2 _ _))⟩
 |exit id=>exact⟨.exit id,a₁,w₁,hq,fun k' hk=>s1.trans (xi.1 k' (by simp[exitTo,hk])),fun hr hk=>let⟨k₁,h1,h2⟩:=xi.2 hr (by simp[exitTo,hk]);⟨k₁,h1,s1.trans h2⟩⟩
 |goto l=>exact hq.elim
 |ret=>exact⟨_,a₁,w₁,hq,.of_steps s1 xi⟩
 |panic ch=>exact⟨_,a₁,w₁,hq,.of_steps s1 xi⟩
 |outgrown=>exact⟨_,a₁,w₁,hq,.of_steps s1 xi⟩
mutual
theorem ML:∀{v u:V},v.same u=true→v=u
 |.op i o,u,h=>by cases u<;>simp only[V.same,Bool.and_eq_true,Bool.false_eq_true]at h;rw[Nat.eq_of_beq_eq_true h.1,Nat.eq_of_beq_eq_true h.2]
 |.oe i a o,u,h=>by cases u<;>simp only[V.same,Bool.and_eq_true,Bool.false_eq_true]at h;rw[Nat.eq_of_beq_eq_true h.1.1,Nat.eq_of_beq_eq_true h.1.2,Nat.eq_of_beq_eq_true h.2]
 |.os i,u,h=>by cases u<;>simp only[V.same,Bool.false_eq_true]at h;rw[Nat.eq_of_beq_eq_true h]
 |.om i,u,h=>by cases u<;>simp only[V.same,Bool.false_eq_true]at h;rw[Nat.eq_of_beq_eq_true h]
 |.yl i,u,h=>by cases u<;>simp only[V.same,Bool.false_eq_true]at h;rw[Nat.eq_of_beq_eq_true h]
 |.it i,u,h=>by cases u<;>simp only[V.same,Bool.false_eq_true]at h;rw[Nat.eq_of_beq_eq_true h]
 |.bk,u,h=>by cases u<;>simp only[V.same,Bool.false_eq_true]at h;rfl
 |.fn f cs,u,h=>by cases u<;>simp only[V.same,Bool.and_eq_true,Bool.false_eq_true]at h;rw[Nat.eq_of_beq_eq_true h.1,GS h.2]
 |.pv p,u,h=>by
  cases u<;>try (cases p<;>simp[V.same]at h;done)
  rename_i q;cases p<;>cases q<;>first|rfl|(simp[V.same]at h;done)|(simp only[V.same,Bool.and_eq_true,decide_eq_true_eq]at h;rw[h.1,h.2])
 |.fj _ _ _,u,h=>by cases u<;>simp[V.same]at h
 |.agg _,u,h=>by cases u<;>simp[V.same]at h
 |.bl _,u,h=>by cases u<;>simp[V.same]at h
 |.top,u,h=>by cases u<;>simp[V.same]at h
theorem GS:∀{vs us:List V},C9 vs us=true→vs=us
 |[],us,h=>by
  cases us with
  |nil=>rfl
  |cons _ _=>simp[C9]at h
 |v::vs,us,h=>by
  cases us with
  |nil=>simp[C9]at h
  |cons u us=>simp only[C9,Bool.and_eq_true]at h;rw[ML h.1,GS h.2]
end
variable{R:Type}
theorem MM{T:Type}:∀{iI:List Sh}{vs:List V}{t:T}{k:Mg iI T→Option R}{r:R},iJ iI vs t k=some r→∃x,k x=some r∧pA iI x=(vs,t)∧vs.length=iI.length∧∀M,(∀sh∈iI,sh.within M=true)→jc M vs=true:=by
 intro iI;induction iI with
 |nil=>
  intro vs t k r h;cases vs with
  |nil=>exact⟨t,h,rfl,rfl,fun _ _=>rfl⟩
  |cons v vs=>simp[iJ]at h
 |cons sh iI ih=>
  intro vs t k r h;cases vs with
  |nil=>cases sh<;>simp[iJ]at h
  |cons v vs=>
   have push:∀{M},v.within M=true→jc M vs=true→jc M (v::vs)=true:=fun h1 h2=>by simp[jc,h1,h2]
   cases sh with
   |own u=>
    simp only[iJ]at h;split at h
    ·rename_i hs;obtain⟨x,x1,x2,x3,x4⟩:=ih h;have:=ML hs;subst this;refine⟨x,x1,by simp only[pA];rw[x2],by simp[x3],fun M hM=>push ?_ (x4 M fun s hs=>hM s (by simp[hs]))⟩;exact hM (.own u) (by simp)
    ·cases h
   |int q=>
    cases v<;>try (simp[iJ]at h;done)
    rename_i p;cases p<;>try (simp[iJ]at h;done)
    simp only[iJ]at h;split at h
    ·rename_i hq;subst hq;obtain⟨x,x1,x2,x3,x4⟩:=ih h;exact⟨_,x1,by simp only[pA];rw[x2],by simp[x3],fun M hM=>push rfl (x4 M fun s hs=>hM s (by simp[hs]))⟩
    ·cases h
   |row id off=>
    cases v<;>try (simp[iJ]at h;done)
    rename_i nE i qk;simp only[iJ]at h;split at h
    ·rename_i hq;obtain⟨rfl,rfl⟩:=hq;obtain⟨x,x1,x2,x3,x4⟩:=ih h;exact⟨_,x1,by simp only[pA,Int.toNat_natCast];rw[x2],by simp[x3],fun M hM=>push (hM (.row nE qk) (by simp)) (x4 M fun s hs=>hM s (by simp[hs]))⟩
    ·cases h
   |raw=>
    cases v<;>try (simp[iJ]at h;done)
    simp only[iJ]at h;obtain⟨x,x1,x2,x3,x4⟩:=ih h;exact⟨_,x1,by simp only[pA];rw[x2],by simp[x3],fun M hM=>push rfl (x4 M fun s hs=>hM s (by simp[hs]))⟩
   |bool=>
    cases v<;>try (simp[iJ]at h;done)
    rename_i p;cases p<;>try (simp[iJ]at h;done)
    simp only[iJ]at h;obtain⟨x,x1,x2,x3,x4⟩:=ih h;exact⟨_,x1,by simp only[pA];rw[x2],by simp[x3],fun M hM=>push rfl (x4 M fun s hs=>hM s (by simp[hs]))⟩
   |str=>
    cases v<;>try (simp[iJ]at h;done)
    rename_i p;cases p<;>try (simp[iJ]at h;done)
    simp only[iJ]at h;obtain⟨x,x1,x2,x3,x4⟩:=ih h;exact⟨_,x1,by simp only[pA];rw[x2],by simp[x3],fun M hM=>push rfl (x4 M fun s hs=>hM s (by simp[hs]))⟩
   |rp n=>
    cases v<;>try (simp[iJ]at h;done)
    rename_i p;cases p<;>try (simp[iJ]at h;done)
    rename_i cs;simp only[iJ]at h;split at h
    ·rename_i hq;obtain⟨x,x1,x2,x3,x4⟩:=ih h;have he:aL n (.agg cs)=cs:=by
      apply List.ext_getElem?;intro j;by_cases hj:j<n
      ·have hl:j<(aL n (.agg cs)).length:=by rw[bm];exact hj
       rw[List.getElem?_eq_getElem hl];obtain⟨_,h6⟩:=ml (List.getElem?_eq_getElem hl);rw[h6];simp[cell,PV.cells,List.getD,show j<cs.length by omega]
      ·rw[List.getElem?_eq_none (by rw[bm];omega),List.getElem?_eq_none (by omega)]
     exact⟨_,x1,by simp only[pA];rw[x2,he],by simp[x3],fun M hM=>push rfl (x4 M fun s hs=>hM s (by simp[hs]))⟩
    ·cases h
   |fs s=>
    cases v<;>try (simp[iJ]at h;done)
    rename_i p;simp only[iJ]at h;obtain⟨ls,Xv,h⟩:=Option.bind_eq_some_iff.1 h;obtain⟨x,x1,x2,x3,x4⟩:=ih h;exact⟨_,x1,by simp only[pA];rw[x2,My Xv],by simp[x3],fun M hM=>push rfl (x4 M fun s hs=>hM s (by simp[hs]))⟩
   |rs sz=>
    cases v<;>try (simp[iJ]at h;done)
    rename_i p;cases p<;>try (simp[iJ]at h;done)
    simp only[iJ]at h;split at h
    ·rename_i hq;subst hq;obtain⟨x,x1,x2,x3,x4⟩:=ih h;exact⟨_,x1,by simp only[pA];rw[x2],by simp[x3],fun M hM=>push rfl (x4 M fun s hs=>hM s (by simp[hs]))⟩
    ·cases h
theorem wh:∀{l:List (Nat×Option bL)}{id:Nat}{b:bL},AO l id=some b→∃x∈l,x.1=id∧x.2=some b
 |[],_,_,h=>by simp[AO]at h
 |(d,b')::r,id,b,h=>by
  simp only[AO]at h;cases e:Nat.beq id d with
  |true=>rw[e]at h;exact⟨(d,b'),by simp,(Nat.eq_of_beq_eq_true e).symm,h⟩
  |false=>rw[e]at h;obtain⟨x,hx,h1,h2⟩:=wh h;exact⟨x,by simp[hx],h1,h2⟩
theorem xj:∀{l:List (Nat×Option bL)}{id:Nat},(∀x∈l,x.2.isSome=true)→(∃x∈l,x.1=id)→(AO l id).isSome=true
 |[],_,_,⟨x,hx,_⟩=>by cases hx
 |(d,b')::r,id,h,⟨x,hx,he⟩=>by
  simp only[AO];cases e:Nat.beq id d with
  |true=>exact h (d,b') (by simp)
  |false=>
   rcases List.mem_cons.1 hx with rfl|hx
   ·simp only at he;subst he;simp[Nat.beq_refl]at e
   ·exact xj (fun y hy=>h y (by simp[hy])) ⟨x,hx,he⟩
theorem Us{m:Mem}:∀{bs:List (Nat×Qi)}{k:FU bs→Option R}{r:R},qT m bs k=some r→∃x,k x=some r∧(gd bs x).map (·.1)=bs.map (·.1)∧(∀y∈gd bs x,∃b,y.2=some b∧m y.1=some b)∧∀M,(∀y∈bs,y.2.within M=true)→∀y∈gd bs x,∀b,y.2=some b→b.within M=true:=by
 intro bs;induction bs with
 |nil=>intro k r h;exact⟨(),h,rfl,by simp[gd],by simp[gd]⟩
 |cons y bs ih=>
  intro k r h;obtain⟨id,sh⟩:=y;cases sh with
  |box cs=>
   simp only[qT]at h;split at h
   ·rename_i vs hm;obtain⟨t,t1,t2,t3,t4⟩:=ih h;obtain⟨x,x1,x2,x3,x4⟩:=MM t1;refine⟨x,x1,by simp only[gd,x2];simp[t2],fun y hy=>?_,fun M hM y hy b hb=>?_⟩
    ·simp only[gd,x2]at hy;rcases List.mem_cons.1 hy with rfl|hy
     ·exact⟨_,rfl,hm⟩
     ·exact t3 y hy
    ·simp only[gd,x2]at hy;rcases List.mem_cons.1 hy with rfl|hy
     ·simp only[Option.some.injEq]at hb;subst hb;simp only[bL.within];refine x4 M fun s hs=>?_;have:=hM (id,.box cs) (by simp);simp only[Qi.within,List.all_eq_true]at this;exact this s hs
     ·exact t4 M (fun z hz=>hM z (by simp[hz])) y hy b hb
   ·cases h
  |arr sz et=>
   simp only[qT]at h;split at h
   ·rename_i CG AW es hm;split at h
    ·rename_i he;obtain⟨rfl,rfl⟩:=he;obtain⟨t,t1,t2,t3,t4⟩:=ih h;refine⟨(es,t),t1,by simp only[gd];simp[t2],fun y hy=>?_,fun M hM y hy b hb=>?_⟩
     ·simp only[gd]at hy;rcases List.mem_cons.1 hy with rfl|hy
      ·exact⟨_,rfl,hm⟩
      ·exact t3 y hy
     ·simp only[gd]at hy;rcases List.mem_cons.1 hy with rfl|hy
      ·simp only[Option.some.injEq]at hb;subst hb;rfl
      ·exact t4 M (fun z hz=>hM z (by simp[hz])) y hy b hb
    ·cases h
   ·cases h
  |nP sz et=>
   simp only[qT]at h;split at h
   ·rename_i CG AW es hm;split at h
    ·rename_i he;obtain⟨rfl,rfl⟩:=he;obtain⟨t,t1,t2,t3,t4⟩:=ih h;refine⟨(es,t),t1,by simp only[gd];simp[t2],fun y hy=>?_,fun M hM y hy b hb=>?_⟩
     ·simp only[gd]at hy;rcases List.mem_cons.1 hy with rfl|hy
      ·exact⟨_,rfl,hm⟩
      ·exact t3 y hy
     ·simp only[gd]at hy;rcases List.mem_cons.1 hy with rfl|hy
      ·simp only[Option.some.injEq]at hb;subst hb;rfl
      ·exact t4 M (fun z hz=>hM z (by simp[hz])) y hy b hb
    ·cases h
   ·cases h
  |nest sz et=>
   simp only[qT]at h;split at h
   ·rename_i CG AW es hm;split at h
    ·rename_i he;obtain⟨rfl,rfl⟩:=he;obtain⟨t,t1,t2,t3,t4⟩:=ih h;refine⟨(es,t),t1,by simp only[gd];simp[t2],fun y hy=>?_,fun M hM y hy b hb=>?_⟩
     ·simp only[gd]at hy;rcases List.mem_cons.1 hy with rfl|hy
      ·exact⟨_,rfl,hm⟩
      ·exact t3 y hy
     ·simp only[gd]at hy;rcases List.mem_cons.1 hy with rfl|hy
      ·simp only[Option.some.injEq]at hb;subst hb;rfl
      ·exact t4 M (fun z hz=>hM z (by simp[hz])) y hy b hb
    ·cases h
   ·cases h
  |eX kt et=>
   simp only[qT]at h;split at h
   ·rename_i sU AW es hm;split at h
    ·rename_i he;obtain⟨rfl,rfl⟩:=he;obtain⟨t,t1,t2,t3,t4⟩:=ih h;refine⟨(es,t),t1,by simp only[gd];simp[t2],fun y hy=>?_,fun M hM y hy b hb=>?_⟩
     ·simp only[gd]at hy;rcases List.mem_cons.1 hy with rfl|hy
      ·exact⟨_,rfl,hm⟩
      ·exact t3 y hy
     ·simp only[gd]at hy;rcases List.mem_cons.1 hy with rfl|hy
      ·simp only[Option.some.injEq]at hb;subst hb;rfl
      ·exact t4 M (fun z hz=>hM z (by simp[hz])) y hy b hb
    ·cases h
   ·cases h
  |map kt=>
   simp only[qT]at h;split at h
   ·rename_i sU es hm;split at h
    ·rename_i he;subst he;obtain⟨t,t1,t2,t3,t4⟩:=ih h;refine⟨(es,t),t1,by simp only[gd];simp[t2],fun y hy=>?_,fun M hM y hy b hb=>?_⟩
     ·simp only[gd]at hy;rcases List.mem_cons.1 hy with rfl|hy
      ·exact⟨_,rfl,hm⟩
      ·exact t3 y hy
     ·simp only[gd]at hy;rcases List.mem_cons.1 hy with rfl|hy
      ·simp only[Option.some.injEq]at hb;subst hb;rfl
      ·exact t4 M (fun z hz=>hM z (by simp[hz])) y hy b hb
    ·cases h
   ·cases h
  |iter ty=>
   simp only[qT]at h;split at h
   ·rename_i t' es hm;split at h
    ·rename_i he;subst he;obtain⟨t,t1,t2,t3,t4⟩:=ih h;refine⟨(es,t),t1,by simp only[gd];simp[t2],fun y hy=>?_,fun M hM y hy b hb=>?_⟩
     ·simp only[gd]at hy;rcases List.mem_cons.1 hy with rfl|hy
      ·exact⟨_,rfl,hm⟩
      ·exact t3 y hy
     ·simp only[gd]at hy;rcases List.mem_cons.1 hy with rfl|hy
      ·simp only[Option.some.injEq]at hb;subst hb;rfl
      ·exact t4 M (fun z hz=>hM z (by simp[hz])) y hy b hb
    ·cases h
   ·cases h
  |loop=>
   simp only[qT]at h;split at h
   ·rename_i hm;obtain⟨t,t1,t2,t3,t4⟩:=ih h;refine⟨t,t1,by simp only[gd];simp[t2],fun y hy=>?_,fun M hM y hy b hb=>?_⟩
    ·simp only[gd]at hy;rcases List.mem_cons.1 hy with rfl|hy
     ·exact⟨_,rfl,hm⟩
     ·exact t3 y hy
    ·simp only[gd]at hy;rcases List.mem_cons.1 hy with rfl|hy
     ·simp only[Option.some.injEq]at hb;subst hb;rfl
     ·exact t4 M (fun z hz=>hM z (by simp[hz])) y hy b hb
   ·cases h
  |busy=>
   simp only[qT]at h;split at h
   ·rename_i hm;obtain⟨t,t1,t2,t3,t4⟩:=ih h;refine⟨t,t1,by simp only[gd];simp[t2],fun y hy=>?_,fun M hM y hy b hb=>?_⟩
    ·simp only[gd]at hy;rcases List.mem_cons.1 hy with rfl|hy
     ·exact⟨_,rfl,hm⟩
     ·exact t3 y hy
    ·simp only[gd]at hy;rcases List.mem_cons.1 hy with rfl|hy
     ·simp only[Option.some.injEq]at hb;subst hb;rfl
     ·exact t4 M (fun z hz=>hM z (by simp[hz])) y hy b hb
   ·cases h
mutual
theorem B1{M:List Nat}{id:Nat}:∀(v:V),v.within M=true→v.has id=true→id∈M
 |.agg cs,h,hh=>mM cs (by simpa only[V.within]using h) (by simpa only[V.has]using hh)
 |.bl cs,h,hh=>mM cs (by simpa only[V.within]using h) (by simpa only[V.has]using hh)
 |.fn _ cs,h,hh=>mM cs (by simpa only[V.within]using h) (by simpa only[V.has]using hh)
 |.os j,h,hh=>by have:=Nat.eq_of_beq_eq_true hh;subst this;simpa[V.within]using h
 |.fj j _ _,h,hh=>by have:=Nat.eq_of_beq_eq_true hh;subst this;simpa[V.within]using h
 |.oe j _ _,h,hh=>by have:=Nat.eq_of_beq_eq_true hh;subst this;simpa[V.within]using h
 |.om j,h,hh=>by have:=Nat.eq_of_beq_eq_true hh;subst this;simpa[V.within]using h
 |.tc j _ _,h,hh=>by have:=Nat.eq_of_beq_eq_true hh;subst this;simpa[V.within]using h
 |.wL j _ _ _ _ _,h,hh=>by have:=Nat.eq_of_beq_eq_true hh;subst this;simpa[V.within]using h
 |.op j _,h,hh=>by have:=Nat.eq_of_beq_eq_true hh;subst this;simpa[V.within]using h
 |.it j,h,hh=>by have:=Nat.eq_of_beq_eq_true hh;subst this;simpa[V.within]using h
 |.yl j,h,hh=>by have:=Nat.eq_of_beq_eq_true hh;subst this;simpa[V.within]using h
 |.pv _,_,hh=>by cases hh
 |.bk,_,hh=>by cases hh
 |.top,_,hh=>by cases hh
theorem mM{M:List Nat}{id:Nat}:∀(cs:List V),jc M cs=true→cr id cs=true→id∈M
 |[],_,hh=>by cases hh
 |v::r,h,hh=>by
  simp only[jc,Bool.and_eq_true]at h;simp only[cr,Bool.or_eq_true]at hh;rcases hh with hh|hh
  ·exact B1 v h.1 hh
  ·exact mM r h.2 hh
end
theorem Rv{f:Fr}:∀(aA:List (Nat×Sh))(t:Nat),IG (oi aA (aA.map fun(x:Nat×Sh)=>f x.1)) t=f t∨IG (oi aA (aA.map fun(x:Nat×Sh)=>f x.1)) t=.top
 |[],t=>.inr rfl
 |(d,s)::r,t=>by
  simp only[List.map_cons,oi,IG,fk];cases e:Nat.beq t d with
  |true=>have:=Nat.eq_of_beq_eq_true e;subst this;exact .inl rfl
  |false=>exact Rv r t
theorem B2{f:Fr}{M:List Nat}:∀(aA:List (Nat×Sh)),jc M (aA.map fun(x:Nat×Sh)=>f x.1)=true→∀t,(IG (oi aA (aA.map fun(x:Nat×Sh)=>f x.1)) t).within M=true
 |[],_,t=>rfl
 |(d,s)::r,h,t=>by
  simp only[List.map_cons,jc,Bool.and_eq_true]at h;simp only[List.map_cons,oi,IG,fk];cases e:Nat.beq t d with
  |true=>have:=Nat.eq_of_beq_eq_true e;subst this;exact h.1
  |false=>exact B2 r h.2 t
theorem Rw{T:fi}{f:Fr}{m:Mem}{k:T.ty→Option R}{r:R}(h:enc T f m k=some r):∃x,k x=some r∧sV (IL T x) f∧(∀id b,A2 T x id=some b→m id=some b)∧(∀t id,(IL T x t).has id=true→(A2 T x id).isSome=true)∧∀j cs id,A2 T x j=some (.box cs)→cr id cs=true→(A2 T x id).isSome=true:=by
 unfold enc at h;split at h
 ·rename_i vi;obtain⟨t,t1,t2,t3,t4⟩:=Us h;obtain⟨x,x1,x2,x3,x4⟩:=MM t1;simp only[fi.ok,Bool.and_eq_true,List.all_eq_true]at vi;have pT:∀id,id∈T.bR.map (·.1)→(A2 T x id).isSome=true:=fun id hid=>by
   unfold A2;rw[x2];refine xj (fun y hy=>?_) ?_
   ·obtain⟨b,hb,_⟩:=t3 y hy;rw[hb];rfl
   ·rw[←t2]at hid;obtain⟨y,hy,he⟩:=List.mem_map.1 hid;exact⟨y,hy,he⟩
  refine⟨x,x1,fun s=>?_,fun id b hb=>?_,fun s id hid=>pT id ?_,fun j cs id hj hh=>pT id ?_⟩
  ·unfold IL;rw[x2];exact Rv T.aA s
  ·unfold A2 at hb;rw[x2]at hb;obtain⟨y,hy,h1,h2⟩:=wh hb;obtain⟨b',fR,hm⟩:=t3 y hy;rw[h2]at fR;cases fR;rw[←h1];exact hm
  ·have hw:=x4 (T.bR.map (·.1)) fun s hs=>by simp only[fi.iI,List.mem_map]at hs;obtain⟨y,hy,rfl⟩:=hs;exact vi.1 y hy
   have:=B2 (M:=T.bR.map (·.1)) T.aA hw s;unfold IL at hid;rw[x2]at hid;exact B1 _ this hid
  ·unfold A2 at hj;rw[x2]at hj;obtain⟨y,hy,h1,h2⟩:=wh hj;have:=t4 (T.bR.map (·.1)) (fun z hz=>vi.2 z hz) y hy _ h2;exact mM _ (by simpa only[bL.within]using this) hh
 ·cases h
section
variable {E:Env} {w0:bA}
variable{nt:Nat}{μ:Ro}{φ:Nat→aG}{f:Fr}{m:Mem}{a:Act}{w:World}
theorem Rel.dec{f':Fr}{m':Mem}(h:Rel E.P E.aI nt w0 μ φ f m a w)(hf:sV f' f)(hm:∀id b,m' id=some b→m id=some b)(hl:∀t id,(f' t).has id=true→(m' id).isSome=true)(hb:∀j cs id,m' j=some (.box cs)→cr id cs=true→(m' id).isSome=true):Rel E.P E.aI nt w0 μ φ f' m' a w:={below:=h.below,ro:=h.ro,aI:=h.aI,dL:=fun id b hb=>h.dL id b (hm id b hb),own:=fun id b g hb hg=>h.own id b g (hm id b hb) hg,inj:=fun PX id2 b1 b2 g h1 h2=>h.inj PX id2 b1 b2 g (hm _ _ h1) (hm _ _ h2),apart:=fun id b hb=>h.apart id b (hm id b hb),fl:=hb,base:=h.base,dG:=h.dG,zg:=fun id st hid=>h.zg id st (hm _ _ hid),size:=h.size,defers:=h.defers,kL:=h.kL,fr:=(h.weaken hf).fr,live:=hl}
theorem Rel.set(h:Rel E.P E.aI nt w0 μ φ f m a w){t:Nat}{p:PV}(hp:ak E.P μ p (aA nt w0 a t)):Rel E.P E.aI nt w0 μ φ (fk f t (.pv p)) m a w:=
 {toay:=h.toay,size:=h.size,defers:=h.defers,kL:=h.kL,fr:=fun s=>by
   by_cases e:s=t
   ·subst e;rw[rZ];exact .pv hp
   ·rw[oz e];exact h.fr s,
  live:=fun s id hid=>by
   by_cases e:s=t
   ·subst e;rw[rZ]at hid;cases hid
   ·rw[oz e]at hid;exact h.live s id hid}
theorem Rel.freeze{nt:Nat}{μ:Ro}{φ:Nat→aG}{f:Fr}{m:Mem}{a:Act}{w:World}(h:Rel E.P E.aI nt w0 μ φ f m a w){id sz:Nat}{et:TypeId}{es:List PV}(hm:m id=some (.arr sz et es)):Rel E.P E.aI nt w0 (nB μ w (φ id).g) φ f (ao m id (.nP sz et es)) a w:=
 {toay:=h.toay.freeze hm,size:=h.size,defers:=h.defers.mono (j3 h.toay _),kL:=h.kL,fr:=fun s=>(h.fr s).vv (j3 h.toay _),live:=fun s i hid=>by
   by_cases e:i=id
   ·subst e;rw[aN];rfl
   ·rw[aq e];exact h.live s i hid}
theorem rn{A:Type}{nt:Nat}{a:Act}{w:World}:∀{l:List (Nat×Nat)}{μ:Ro}{φ:Nat→aG}{f:Fr}{m:Mem}{k:Fr→Mem→A}{r:A},zb l f m k=r→Rel E.P E.aI nt w0 μ φ f m a w→∃f' m' μ',k f' m'=r∧Rel E.P E.aI nt w0 μ' φ f' m' a w
 |[],μ,φ,f,m,k,r,h,hR=>⟨f,m,μ,h,hR⟩
 |(t,sz)::l,μ,φ,f,m,k,r,h,hR=>by
  unfold zb at h;split at h
  ·rename_i id hf;have hx:ai E.P μ φ (.os id) (aA nt w0 a t):=hf▸hR.fr t;split at h
   ·rename_i s et es hm;have hF:=hR.freeze hm;have hA:=hF.toay.arr (.inr (aN m id _));have hp:ak E.P (nB μ w (φ id).g) (.rs s es) (aA nt w0 a t):=hA.full hF.toay (hx.vv (j3 hR.toay _)) (fun _ _ h=>h) (fun g hg=>by simp[nB,hg]);exact rn h (hF.set hp)
   ·rename_i s et es hm;have hB:fS E.P μ φ w id (.nP s et es):=hR.dL id _ hm;have hp:ak E.P μ (.rs s es) (aA nt w0 a t):=(hR.toay.arr (.inr hm)).full hR.toay hx (fun _ _ h=>h) (fun g hg=>by obtain⟨o,ho⟩:=Option.isSome_iff_exists.1 (hB.2 g hg);rw[ho,hR.ro _ _ ho]);exact rn h (hR.set hp)
   ·exact rn h hR
  ·rename_i hf;have hx:ai E.P μ φ .bk (aA nt w0 a t):=hf▸hR.fr t;have hp:ak E.P μ (.rs sz []) (aA nt w0 a t):=by generalize aA nt w0 a t=y at hx;cases hx;exact .jr
   exact rn h (hR.set hp)
  ·exact rn h hR
variable{id:Nat}
theorem GU{u:V}:∀(cs:List V)(j:Nat),cr id (cs.set j u)=true→cr id cs=true∨u.has id=true:=by
 intro cs j h;obtain⟨v,hv,hh⟩:=cV.1 h;rcases List.mem_or_eq_of_mem_set hv with h1|h1
 ·exact .inl (cV.2 ⟨v,h1,hh⟩)
 ·subst h1;exact .inr hh
theorem Rel.Rx(h:Rel E.P E.aI nt w0 μ φ f m a w){j:Nat}{cs:List V}{u:V}(hm:m id=some (.box cs))(hj:cs[j]?=some .bk)(hu:ai E.P μ φ u (.slice none 0 0))(hl:∀i,u.has i=true→(m i).isSome=true):Rel E.P E.aI nt w0 μ φ f (ao m id (.box (cs.set j u))) a w:=by
 have key:∀i b,ao m id (.box (cs.set j u)) i=some b→(i=id∧b=.box (cs.set j u))∨m i=some b:=fun i b hb=>by
  by_cases e:i=id
  ·subst e;rw[aN]at hb;exact .inl ⟨rfl,(Option.some.inj hb).symm⟩
  ·rw[aq e]at hb;exact .inr hb
 have sL:∀i,(m i).isSome=true→(ao m id (.box (cs.set j u)) i).isSome=true:=fun i hi=>by
  by_cases e:i=id
  ·subst e;rw[aN];rfl
  ·rw[aq e];exact hi
 have back:∀i b,ao m id (.box (cs.set j u)) i=some b→∃b',m i=some b'∧(b.iA=true→b'.iA=true)∧b.rowAt=b'.rowAt:=fun i b hb=>by
  rcases key i b hb with⟨rfl,rfl⟩|hb
  ·exact⟨_,hm,fun _=>rfl,rfl⟩
  ·exact⟨b,hb,fun h=>h,rfl⟩
 exact
 {below:=h.below,ro:=h.ro,aI:=h.aI,dL:=fun i b hb=>by
   rcases key i b hb with⟨rfl,rfl⟩|hb
   ·obtain⟨g,c,T,c1,c2,c3,c4,c5,c6⟩:=h.dL _ _ hm;refine⟨g,c,T,c1,c2,by simpa using c3,fun i v x hv hx=>?_,c5,by simpa using c6⟩;rw[List.getElem?_set]at hv;split at hv
    ·rename_i e;subst e;split at hv
     ·simp only[Option.some.injEq]at hv;subst hv;have:=c4 j .bk x hj hx;cases this;exact hu
     ·cases hv
    ·exact c4 i v x hv hx
   ·exact h.dL i b hb,
  own:=fun i b g hb hg=>by obtain⟨b',fR,Bg,mn⟩:=back i b hb;obtain⟨o1,o2⟩:=h.own i b' g fR (by unfold bL.eh at hg⊢;rw[←mn];exact hg);exact⟨o1,fun hb=>o2 (Bg hb)⟩,
  inj:=fun PX id2 b1 b2 g h1 h2 g1 g2=>by obtain⟨ZO,Mw,_,r1⟩:=back PX b1 h1;obtain⟨ZP,N9,_,r2⟩:=back id2 b2 h2;exact h.inj PX id2 ZO ZP g Mw N9 (by unfold bL.eh at g1⊢;rw[←r1];exact g1) (by unfold bL.eh at g2⊢;rw[←r2];exact g2),
  apart:=fun i b hb=>by obtain⟨b',fR,_,mn⟩:=back i b hb;have:=h.apart i b' fR;unfold bL.apart at this⊢;rw[mn];exact this,
  fl:=fun i Dm nE hi hid=>by
   rcases key i _ hi with⟨rfl,he⟩|hi
   ·simp only[bL.box.injEq]at he;subst he;rcases GU _ _ hid with hid|hid
    ·exact sL _ (h.fl _ _ _ hm hid)
    ·exact sL _ (hl _ hid)
   ·exact sL _ (h.fl _ _ _ hi hid),
  base:=h.base,dG:=h.dG,
  zg:=fun i st hi=>by
   rcases key i _ hi with⟨_,he⟩|hi
   ·cases he
   ·exact h.zg i st hi,
  size:=h.size,defers:=h.defers,kL:=h.kL,fr:=h.fr,
  live:=fun t i hid=>sL _ (h.live t i hid)}
variable{et:TypeId}
theorem Rel.Xw(h:Rel E.P E.aI nt w0 μ φ f m a w){Qp:Nat}(hn:m Qp=none)(eu:0<aT E.P et):∃φ',(φ' Qp).g=none∧Rel E.P E.aI nt w0 μ φ' f (ao m Qp (.arr (aT E.P et) et [])) a w:=by
 have hf:fresh false Qp (.arr (aT E.P et) et []) f m (fun f m _=>some (f,m))=some (f,ao m Qp (.arr (aT E.P et) et [])):=by simp[fresh,hn]
 obtain⟨f1,m1,_,hk,_,_,tl⟩:=cK hf;simp only[Option.some.injEq,Prod.mk.injEq]at hk;obtain⟨rfl,rfl⟩:=hk;obtain⟨φ',a1,a2,a3⟩:=tl E.P E.aI w0 μ φ w w (aA nt w0 a) (CH none 0 0 (aT E.P et)) h.toay ⟨h.fr,h.live⟩ ⟨jB.refl _ _,h.toay.ro,fun _ _ _ _ _=>rfl,by simp,fun φ' hp _=>by refine⟨by rw[hp];rfl,by rw[hp],rfl,eu,by simp,by rw[hp];simp[maxLen],?_⟩;rw[hp];exact⟨rfl,rfl⟩,by simp[bL.names],fun st h=>by cases h⟩;exact⟨φ',by rw[a1],{toay:=a2,size:=h.size,defers:=h.defers,kL:=h.kL,fr:=a3.fr,live:=a3.live}⟩
theorem rq{A:Type}{nt:Nat}{a:Act}{w:World}:∀{l:List (Nat×Nat×Nat×TypeId)}{μ:Ro}{φ:Nat→aG}{f:Fr}{m:Mem}{k:Mem→A}{r:A},zd E.P l m k=r→Rel E.P E.aI nt w0 μ φ f m a w→∃m' φ',k m'=r∧Rel E.P E.aI nt w0 μ φ' f m' a w
 |[],μ,φ,f,m,k,r,h,hR=>⟨m,φ,h,hR⟩
 |(id,j,Qp,et)::l,μ,φ,f,m,k,r,h,hR=>by
  unfold zd at h;split at h
  ·rename_i cs hm;split at h
   ·rename_i hj;split at h
    ·rename_i hn;split at h
     ·rename_i eu;obtain⟨φ',g0,iy⟩:=hR.Xw hn eu;have cR:id≠Qp:=fun e=>by subst e;rw[hm]at hn;cases hn
      exact rq h (iy.Rx (by rw[aq cR];exact hm) hj (.pB g0) fun i hi=>by have:=Nat.eq_of_beq_eq_true hi;subst this;simp)
     ·exact rq h hR
    ·exact rq h hR
   ·exact rq h hR
  ·exact rq h hR
theorem xl{A:Type}{nt:Nat}{a:Act}{w:World}:∀{l:List (Nat×Nat×Nat)}{μ:Ro}{φ:Nat→aG}{f:Fr}{m:Mem}{k:Mem→A}{r:A},Da l m k=r→Rel E.P E.aI nt w0 μ φ f m a w→∃m',k m'=r∧Rel E.P E.aI nt w0 μ φ f m' a w
 |[],μ,φ,f,m,k,r,h,hR=>⟨m,h,hR⟩
 |(id,j,sz)::l,μ,φ,f,m,k,r,h,hR=>by
  unfold Da at h;split at h
  ·rename_i cs hm;split at h
   ·rename_i hj;exact xl h (hR.Rx hm hj (.pv .jr) (fun i hi=>by cases hi))
   ·exact xl h hR
  ·exact xl h hR
theorem gH{T:Type}{l:List T}{n i:Nat}{e:T}(h:(l.take n)[i]?=some e):l[i]?=some e∧i<n:=by
 rw[List.getElem?_take]at h;split at h
 ·exact⟨h,‹_›⟩
 ·cases h
theorem Rel.Ut(h:Rel E.P E.aI nt w0 μ φ f m a w){s:Nat}{es:List PV}(hm:m id=some (.arr s et es)):Rel E.P E.aI nt w0 μ φ f (ao m id (.nest s et es)) a w:=by
 have hA:aM E.P μ φ w id s et es:=h.dL id _ hm;have key:∀i b,ao m id (.nest s et es) i=some b→(i=id∧b=.nest s et es)∨m i=some b:=fun i b hb=>by
  by_cases e:i=id
  ·subst e;rw[aN]at hb;exact .inl ⟨rfl,(Option.some.inj hb).symm⟩
  ·rw[aq e]at hb;exact .inr hb
 have sL:∀i,(m i).isSome=true→(ao m id (.nest s et es) i).isSome=true:=fun i hi=>by
  by_cases e:i=id
  ·subst e;rw[aN];rfl
  ·rw[aq e];exact hi
 have hN:aV E.P μ φ w id s et es:=by
  obtain⟨h1,h2,h3,h4,h5,h6,h7⟩:=hA;refine⟨h1,h2,h3,h4,h5,h6,?_⟩;cases hg:(φ id).g with
  |none=>rw[hg]at h7;exact h7
  |some g=>rw[hg]at h7;obtain⟨c,c1,c2,c3,c4,c5⟩:=h7;exact⟨c,c1,c2,c3,fun i e j p x he hp hx=>.pure (c4 i e j p x he hp hx),c5⟩
 have yw:∀i off,(bL.nest s et es).rowAt i off=true→False:=fun i off hr=>by
  rcases iS hr with⟨_,_,_,e,s',rs,hb,he,hp⟩|⟨_,_,_,_,_,_,hb,_⟩
  ·cases hb;obtain⟨h1,h2,h3,h4,h5,h6,h7⟩:=hA;cases hg:(φ id).g with
   |none=>rw[hg]at h7;obtain⟨rfl,_⟩:=h7;simp at he
   |some g=>
    rw[hg]at h7;obtain⟨c,c1,c2,c3,c4,c5⟩:=h7;have hi:i<es.length:=(List.getElem?_eq_some_iff.1 he).1;have hj:off<s:=by have:=(List.getElem?_eq_some_iff.1 hp).1;rw[h5 _ _ he]at this;exact this
    have bt:i*s+off<c.size:=by have:(i+1)*s≤(φ id).cap*s:=Nat.mul_le_mul_right _ (by omega);rw[Nat.succ_mul]at this;omega
    exact Bool.noConfusion (ak.Ax (c4 i e off _ _ he hp (Array.getElem?_eq_getElem bt)))
  ·cases hb
 have agw:∀i off,(bL.arr s et es).rowAt i off=true→False:=nQ;have hM:ay E.P E.aI w0 μ φ (ao m id (.nest s et es)) w:=by
  refine h.toay.MA (fun _ k=>k) (fun j b' hb=>?_) (fun j b' g hb hg=>?_) (fun j b' hb=>?_) (fun j cs i hb hh=>?_) (fun j st hb=>?_)
  ·rcases key j b' hb with⟨rfl,rfl⟩|hb
   ·exact hN
   ·exact h.dL j b' hb
  ·rcases key j b' hb with⟨rfl,rfl⟩|hb
   ·exact⟨j,_,hm,.inl (mo yw hg),fun _=>rfl,rfl⟩
   ·exact⟨j,b',hb,hg,fun h=>h,rfl⟩
  ·rcases key j b' hb with⟨rfl,rfl⟩|hb
   ·exact oA yw
   ·exact h.apart j b' hb
  ·rcases key j _ hb with⟨_,hb⟩|hb
   ·cases hb
   ·exact sL _ (h.fl j cs i hb hh)
  ·rcases key j _ hb with⟨_,hb⟩|hb
   ·cases hb
   ·exact⟨hb,rfl⟩
 exact{toay:=hM,size:=h.size,defers:=h.defers,kL:=h.kL,fr:=h.fr,live:=fun t i hid=>sL _ (h.live t i hid)}
theorem B3{A:Type}{nt:Nat}{a:Act}{w:World}:∀{l:List Nat}{μ:Ro}{φ:Nat→aG}{f:Fr}{m:Mem}{k:Mem→A}{r:A},Gh l m k=r→Rel E.P E.aI nt w0 μ φ f m a w→∃m',k m'=r∧Rel E.P E.aI nt w0 μ φ f m' a w
 |[],μ,φ,f,m,k,r,h,hR=>⟨m,h,hR⟩
 |id::l,μ,φ,f,m,k,r,h,hR=>by
  unfold Gh at h;split at h
  ·rename_i s et es hm;exact B3 h (hR.Ut hm)
  ·exact B3 h hR
theorem Rel.cut(h:Rel E.P E.aI nt w0 μ φ f m a w){j d len s:Nat}{cs:List V}{es:List PV}(hm:m id=some (.box cs))(hj:cs[j]?=some (.fj d 0 len))(hd:m d=some (.arr s et es))(cR:d≠id):∃φ',Rel E.P E.aI nt w0 μ φ' (eS d f) (ao (ao (bh (bE d m) d) d (.arr s et (es.take len))) id (.box ((cs.map (pN d)).set j (.os d)))) a w:=by
 obtain⟨m',Tr⟩:∃m',m'=ao (ao (bh (bE d m) d) d (.arr s et (es.take len))) id (.box ((cs.map (pN d)).set j (.os d))):=⟨_,rfl⟩;rw[←Tr];obtain⟨g0,c,T,c1,c2,c3,c4,c5,c6⟩:=h.dL _ _ hm;have hA:aM E.P μ φ w d s et es:=h.dL d _ hd;have xR:j<cs.length:=(List.getElem?_eq_some_iff.1 hj).1;have hx:=c4 j _ _ hj (Array.getElem?_eq_getElem (by omega));obtain⟨φ',f1,f2,f3,f4⟩:∃φ':Nat→aG,(∀i,i≠d→φ' i=φ i)∧(φ' d).g=(φ d).g∧aM E.P μ φ' w d s et (es.take len)∧ai E.P μ φ' (.os d) c[j]:=by
  obtain⟨h1,h2,h3,h4,h5,h6,h7⟩:=hA;generalize c[j]=x at hx;cases hx with
  |ot hg=>refine⟨φ,fun _ _=>rfl,rfl,?_,.pB hg⟩;rw[hg]at h7;obtain⟨rfl,h7⟩:=h7;refine⟨h1,h2,h3,h4,by simp,h6,?_⟩;rw[hg];exact⟨rfl,h7⟩
  | @fj _ _ _ cap g ad hg hl ha hc PU=>
   rw[hg]at h7;obtain⟨q,q1,q2,q3,q4,q5⟩:=h7;have hlen:(es.take len).length=len:=by rw[List.length_take];omega
   have had:ad=⟨g,0,none⟩:=by
    rcases ha with ha|⟨_,ha⟩
    ·rw[ha];simp
    ·omega
   subst had;refine⟨fun i=>if i=d then{φ d with cap:=cap,len:=len}else φ i,fun i hi=>if_neg hi,by simp,⟨by simp[hlen],by simpa using h2,h3,h4,fun i e he=>h5 i e (gH he).1,by simp;omega,?_⟩,?_⟩
   ·simp only[if_true,hg];refine⟨q,q1,Nat.le_trans (Nat.mul_le_mul_right _ (by omega)) q2,by rw[hlen];exact hc,fun i e j p x he hp hx=>q4 i e j p x (gH he).1 hp hx,fun i x hi hx=>q5 i x (Nat.lt_of_lt_of_le hi (Nat.mul_le_mul_right _ (by rw[hlen];omega))) hx⟩
   ·have:=ai.os (P:=E.P) (μ:=μ) (φ:=fun i=>if i=d then{φ d with cap:=cap,len:=len}else φ i) (id:=d) (g:=g) (by simp[hg]);simpa using this
 have key:∀i b,m' i=some b→(i=id∧b=.box ((cs.map (pN d)).set j (.os d)))∨(i=d∧b=.arr s et (es.take len))∨(i≠id∧i≠d∧∃b',m i=some b'∧b=fJ d b'):=fun i b hb=>by
  rw[Tr]at hb;by_cases e:i=id
  ·subst e;rw[aN]at hb;exact .inl ⟨rfl,(Option.some.inj hb).symm⟩
  ·rw[aq e]at hb;by_cases e':i=d
   ·subst e';rw[aN]at hb;exact .inr (.inl ⟨rfl,(Option.some.inj hb).symm⟩)
   ·rw[aq e']at hb;exact .inr (.inr ⟨e,(eO hb).1,(eO hb).2⟩)
 have sL:∀i,(m i).isSome=true→(m' i).isSome=true:=fun i hi=>by
  rw[Tr];by_cases e:i=id
  ·subst e;rw[aN];rfl
  ·rw[aq e];by_cases e':i=d
   ·subst e';rw[aN];rfl
   ·rw[aq e'];exact qp e' hi
 have Xx:∀{i:Nat}{b':bL},(fJ d b').names i=true→i≠d:=fun{i b'}hn=>by cases b'<;>simp only[fJ,bL.names]at hn<;>first|cases hn|exact(uO hn).2
 have hM:ay E.P E.aI w0 μ φ' m' w:=by
  refine h.toay.MA (fun _ k=>k) (fun i b' hb=>?_) (fun i b' g hb hg=>?_) (fun i b' hb=>?_) (fun i Dm i' hb hh=>?_) (fun i st hb=>?_)
  ·rcases key i b' hb with⟨rfl,rfl⟩|⟨rfl,rfl⟩|⟨e1,e2,b2,pC,rfl⟩
   ·refine⟨g0,c,T,by rw[f1 _ (Ne.symm cR)];exact c1,c2,by simpa using c3,fun n v x hv IX=>?_,c5,by rw[f1 _ (Ne.symm cR)];simpa using c6⟩;rw[List.getElem?_set]at hv;split at hv
    ·rename_i e;subst e;split at hv
     ·simp only[Option.some.injEq]at hv;subst hv;rw[Array.getElem?_eq_getElem (by omega)]at IX;simp only[Option.some.injEq]at IX;subst IX;exact f4
     ·cases hv
    ·simp only[List.getElem?_map,Option.map_eq_some_iff]at hv;obtain⟨v',FX,rfl⟩:=hv;exact((c4 n v' x FX IX).kill d).mono (fun _ _ h=>h) fun i hi=>f1 i (tr hi).2
   ·exact f3
   ·exact(h.dL i b2 pC).kill.cJ (fun k hk=>f1 k (Xx hk)) (f1 i e2) (fun _ _ h=>h) (fun _ _=>rfl)
  ·rcases key i b' hb with⟨rfl,rfl⟩|⟨rfl,rfl⟩|⟨e1,e2,b2,pC,rfl⟩
   ·refine⟨i,_,hm,.inl ?_,fun _=>rfl,rfl⟩;have:=mo (by intro i off h;simp[bL.rowAt]at h) hg;rw[←this,f1 _ (Ne.symm cR)]
   ·refine⟨i,_,hd,.inl ?_,fun _=>rfl,rfl⟩;rw[←f2];exact mo nQ hg
   ·refine⟨i,b2,pC,?_,fun Bg=>by rw[uP]at Bg;exact Bg,rfl⟩;rw[f1 i e2]at hg;exact fF.1 hg
  ·rcases key i b' hb with⟨rfl,rfl⟩|⟨rfl,rfl⟩|⟨e1,e2,b2,pC,rfl⟩
   ·exact oA (by intro i off h;simp[bL.rowAt]at h)
   ·exact oA nQ
   ·rw[f1 i e2];exact sd.2 (h.apart i b2 pC)
  ·rcases key i _ hb with⟨rfl,hb⟩|⟨rfl,hb⟩|⟨e1,e2,b2,pC,e⟩
   ·simp only[bL.box.injEq]at hb;subst hb;rcases GU _ _ hh with hh|hh
    ·exact sL _ (h.fl _ _ _ hm (uO hh).1)
    ·have:=Nat.eq_of_beq_eq_true hh;subst this;exact sL _ (by rw[hd];rfl)
   ·cases hb
   ·cases b2 with
    |box cs2=>simp only[fJ,bL.box.injEq]at e;subst e;exact sL _ (h.fl _ _ _ pC (uO hh).1)
    |_=>simp[fJ]at e
  ·rcases key i _ hb with⟨rfl,hb⟩|⟨rfl,hb⟩|⟨e1,e2,b2,pC,e⟩
   ·cases hb
   ·cases hb
   ·cases b2 with
    |loop st2=>simp only[fJ,bL.loop.injEq]at e;subst e;exact⟨pC,by rw[f1 i e2]⟩
    |_=>simp[fJ]at e
 exact⟨φ',{toay:=hM,size:=h.size,defers:=h.defers,kL:=h.kL,fr:=(fun t=>((h.fr t).kill d).mono (fun _ _ h=>h) fun i hi=>f1 i (tr hi).2),live:=fun t i hid=>sL _ (h.live t i (tr hid).1)}⟩
theorem rr{A:Type}{nt:Nat}{a:Act}{w:World}:∀{l:List (Nat×Nat)}{μ:Ro}{φ:Nat→aG}{f:Fr}{m:Mem}{k:Fr→Mem→A}{r:A},ze l f m k=r→Rel E.P E.aI nt w0 μ φ f m a w→∃f' m' φ',k f' m'=r∧Rel E.P E.aI nt w0 μ φ' f' m' a w
 |[],μ,φ,f,m,k,r,h,hR=>⟨f,m,φ,h,hR⟩
 |(id,j)::l,μ,φ,f,m,k,r,h,hR=>by
  unfold ze at h;split at h
  ·rename_i cs hm;split at h
   ·rename_i d len hj;split at h
    ·rename_i s et es hd;split at h
     ·exact rr h hR
     ·rename_i cR;have cR:d≠id:=fun e=>cR (by rw[e];exact Nat.beq_refl _);obtain⟨φ',iy⟩:=hR.cut hm hj hd cR;exact rr h iy
    ·exact rr h hR
   ·exact rr h hR
  ·exact rr h hR
theorem GV{A:Type}{T:fi}{k:Fr→Mem→A}{r:A}(h:Db E.P T f m k=r)(hR:Rel E.P E.aI nt w0 μ φ f m a w):∃f' m' μ' φ',k f' m'=r∧Rel E.P E.aI nt w0 μ' φ' f' m' a w:=by unfold Db at h;obtain⟨_,_,_,h,hR⟩:=rr h hR;obtain⟨m1,φ1,h,hR⟩:=rq h hR;obtain⟨m',h,hR⟩:=xl h hR;obtain⟨m',h,hR⟩:=B3 h hR;obtain⟨f',m',μ',h,hR⟩:=rn h hR;exact⟨f',m',μ',φ1,h,hR⟩
def Ry:Ex→Exit
 |.normal=>.normal
 |.exit id=>.exit id
 |.ret=>.ret
theorem Rel.Rz(h:Rel E.P E.aI nt w0 μ φ f m a w):Rel E.P E.aI nt w0 μ φ f m a {w with drawn:=w.drawn+1}:={toay:=h.toay.drew,size:=h.size,defers:=h.defers,kL:=h.kL,fr:=h.fr,live:=h.live}
theorem OH{rd:Option Nat}(hE:iO E)(hY:qV E.P E.aI E.fn.ntmps E.yl w0){R:Type}{ops:Array Oper}{draw:Bool}{k:Ex→Fr→Mem→Option R}{r:R}(h:e9 E (.region id ops draw) f m k=some r){Q:Exit→Act→World→Prop}(hR:Rel E.P E.aI E.fn.ntmps w0 μ φ f m a w)(hQ:∀f' m' μ' φ' a' w',k .normal f' m'=some r→Rel E.P E.aI E.fn.ntmps w0 μ' φ' f' m' a' w'→Q .normal a' w'):(Code.region id ops draw).wpIn (FR rd) 0 E.P Q a w:=by
 simp only[e9]at h;cases draw with
 |false=>
  simp only[Bool.false_eq_true,if_false]at h;refine wpIn_region ?_;have hmz:∀x∈(List.range ops.size).zip ops.toList,ops[x.1]?=some x.2:=fun x hx=>by have:=(qy (l:=ops.toList) (i:=x.1) (o:=x.2)).1 (by simpa using hx);rwa[Array.getElem?_toList]at this
  have:=gA (rd:=rd) hE hY _ (.inl rfl) h hmz (by intro x hx g hg;cases hg) (fun h=>by cases h) μ φ a w Q [] hR (by intro g hg;cases hg) fun f' m' μ' φ' a' w' hk iy _ _=>hQ f' m' μ' φ' a' w' hk iy;rw[List.append_nil,List.map_fst_zip (by simp)]at this;exact this
 |true=>
  simp only[if_true]at h;split at h
  ·split at h
   ·rename_i hc;simp only[Bool.and_eq_true]at hc;exact wpIn_region_any hE.mixed (Jq hE hY hc.1.1 hc.1.2 hc.2 h hR.Rz hQ)
   ·cases h
  split at h
  ·rename_i hi;refine wpIn_region_any hE.mixed ?_;split at h
   ·rename_i Ai;exact BZ hE hY (.inl rfl) (fun _ o ho=>List.all_eq_true.1 Ai o (Array.mem_toList_iff.2 ho)) hi h hR.Rz hQ
   ·exact BZ hE hY (.inr rfl) (fun h=>by cases h) hi h hR.Rz hQ
  ·cases h
end
theorem Uu{g:FuncId}{fn:Func}(hf:P.funcs[g]?=some fn)(Q1:(fn.name== "runtime.NumGoroutine")=false)(hb:fn.body=some c){args:Array Value}{w:World}:(callFunc g args).run P w=.ok (.enter g args) w:=uV hf Q1 hb
theorem OI{nt:Nat}{w0:bA}{a:Act}{t:Nat}:aA nt w0 a (t+nt)=w0.sv (t+nt):=by unfold aA;rw[if_neg (by omega)]
def yF(c:Code):Prop:=∀{E:Env}{w0:bA}{rd:Option Nat}(_:iO E)(_:qV E.P E.aI E.fn.ntmps E.yl w0)(_:E.WD=false→rd=none){R:Type}{f:Fr}{m:Mem}{k:Ex→Fr→Mem→Option R}{r:R},e9 E c f m k=some r→∀{μ:Ro}{φ:Nat→aG}{a:Act}{w:World}{Q:Exit→Act→World→Prop},Rel E.P E.aI E.fn.ntmps w0 μ φ f m a w→(∀e f' m' μ' φ' a' w',k e f' m'=some r→Rel E.P E.aI E.fn.ntmps w0 μ' φ' f' m' a' w'→Q (Ry e) a' w')→c.wpIn (FR rd) 0 E.P Q a w
theorem RA{as b:Code}(ihA:yF as)(ihB:yF b){E:Env}(hE:iO E){w2:bA}{lid l ntI:Nat}{ps:Array Nat}{rc:Loop}{fid:Nat}(Up:w2.rc lid=some (l,rc))(l7:rc.params=ps)(has:rc.assign=as)(hb:rc.body=b)(kR:rc.tmps.size=E.fn.ntmps)(hsv:∀t,t<E.fn.ntmps→w2.sv (t+ntI)=rc.tmps.getD t undef):qV E.P E.aI ntI (fun _ nt _ id args F m k=>bif Nat.beq id lid then roundOf (e9 {E with fid:=fid,yl:=xV,WD:=true} as) (e9 {E with fid:=fid,yl:=xV,WD:=true} b) lid E.fn.ntmps ps.toList nt args F m k else none) w2:=by
 intro R site id args F m k r hy μ φ ρ w xs hM hF hρ hl hr Et g hg;dsimp only at hy;cases hid:Nat.beq id lid with
 |false=>rw[hid]at hy;cases hy
 |true=>
  rw[hid]at hy;have hid:=Nat.eq_of_beq_eq_true hid;subst hid;simp only[cond_true]at hy;unfold roundOf at hy;split at hy
  ·rename_i P5;split at hy
   ·rename_i N4;obtain⟨g',rc',l1,l2,l3⟩:=hM.zg id _ P5;rw[Up]at l2;simp only[Option.some.injEq,Prod.mk.injEq]at l2;obtain⟨rfl,rfl⟩:=l2;rw[l1]at hg;simp only[Option.some.injEq]at hg;subst hg;have Gu:xs.size=(Ix.ready.obj rc).params.size:=by
     have:ps.toList.length=ps.size:=by simp
     show xs.size=rc.params.size;rw[l7];omega
    refine⟨_,_,_,_,run_yield l3 Gu,?_⟩;have Y6:iO {E with fid:=fid,yl:=xV,WD:=true}:=⟨hE.mixed,hE.lp,hE.ctx,hE.own,hE.inl,hE.WC⟩;have VV:=DK (P:=E.P) (μ:=μ) (φ:=φ) ps.toList args xs.toList (te ntI F) rc.tmps kR (by simpa using hl) (fun t ht=>by have:=hF.fr (t+ntI);rw[hρ _ (by omega),hsv t ht]at this;exact this) (fun i v x hv hx=>hr i v x hv (by simpa using hx));have hR3:Rel E.P E.aI E.fn.ntmps {w2 with sv:=fun t=>ρ (t-E.fn.ntmps),dG:=μ,kL:=fun _=>none} μ φ (Mh E.fn.ntmps (A3 ps.toList args (te ntI F)) F) m {tmps:=((Ix.ready.obj rc).params.zip xs).foldl (fun tmps(t,a)=>tmps.setIfInBounds t a) (Ix.ready.obj rc).tmps,defers:=[]} w:=by
     have e:((Ix.ready.obj rc).params.zip xs).foldl (fun tmps(t,a)=>tmps.setIfInBounds t a) (Ix.ready.obj rc).tmps=(ps.toList.zip xs.toList).foldl (fun tmps(x:Nat×Value)=>tmps.setIfInBounds x.1 x.2) rc.tmps:=by rw[Ru];show(rc.params.toList.zip xs.toList).foldl _ rc.tmps=_;rw[l7]
     rw[e];refine{toay:=hM.tp rfl rfl (fun _ _ h=>h) (fun _ _ _=>rfl),size:=VV.1,defers:=.nil _ _ _,kL:=fun _ _ h=>(by cases h),fr:=fun t=>?_,live:=fun t id hid=>?_}
     ·unfold Mh aA;by_cases ht:t<E.fn.ntmps
      ·rw[show Nat.blt t E.fn.ntmps=true by rw[Nat.blt_eq];exact ht,if_pos ht];exact VV.2 t ht
      ·rw[show Nat.blt t E.fn.ntmps=false by rw[←Bool.not_eq_true,Nat.blt_eq];exact ht,if_neg ht];exact hF.fr _
     ·unfold Mh at hid;cases e:Nat.blt t E.fn.ntmps with
      |true=>
       rw[e]at hid;rcases B0 _ _ _ _ hid with h|h
       ·exact Et id h
       ·exact hF.live _ id h
      |false=>rw[e]at hid;exact hF.live _ id hid
    refine roundIn_of_wpIn trivial ?_;show(Ix.ready.obj rc).assign.wpIn (FR (some l)) 0 E.P _ _ _;have Vs:(Ix.ready.obj rc).assign=as:=has;rw[Vs];refine ihA (rd:=some l) Y6 (wT _ _ _ _) (fun h=>by cases h) hy hR3 fun e f1 m1 μ1 φ1 a1 w1 Og Jl=>?_;split at Og
    ·rename_i Xk;obtain⟨g1,rc1,p1,p2,p3⟩:=Jl.zg id _ Xk;have p2:w2.rc id=some (g1,rc1):=p2;rw[Up]at p2;simp only[Option.some.injEq,Prod.mk.injEq]at p2;obtain⟨rfl,rfl⟩:=p2;refine⟨_,run_beginRound p3 rfl,?_⟩;have fR:(Ix.ready.obj rc).body=b:=hb;refine Eq.mpr (congrArg (fun c:Code=>c.wpIn (FR (some l)) 0 E.P _ a1 _) fR) ?_;have q6:=Jl.toay.turn (st':=.busy) Xk p1 Up;have aen:Rel E.P E.aI E.fn.ntmps {w2 with sv:=fun t=>ρ (t-E.fn.ntmps),dG:=μ,kL:=fun _=>none} μ1 φ1 f1 (ao m1 id (.loop .busy)) a1 (w1.putObj l (.loop {Ix.ready.obj rc with state:=.busy})):=
      {toay:=q6,size:=Jl.size,defers:=Jl.defers,kL:=Jl.kL,fr:=Jl.fr,live:=fun t j hj=>by
        by_cases e:j=id
        ·subst e;simp
        ·rw[aq e];exact Jl.live t j hj}
     refine ihB (rd:=some l) Y6 (wT _ _ _ _) (fun h=>by cases h) Og aen fun e f2 m2 μ2 φ2 a2 w2' T9 Dy=>?_;split at T9
     ·rename_i cP;obtain⟨g2,rc2,q1,q2,q3⟩:=Dy.zg id _ cP;have q2:w2.rc id=some (g2,rc2):=q2;rw[Up]at q2;simp only[Option.some.injEq,Prod.mk.injEq]at q2;obtain⟨rfl,rfl⟩:=q2;have hle:GH μ μ2:=Dy.dG;have hFp:cm E.P μ2 φ2 m2 (te E.fn.ntmps f2) ρ:=by refine⟨fun t=>?_,fun t id hid=>Dy.live _ id hid⟩;have:=Dy.fr (t+E.fn.ntmps);rw[OI]at this;simpa[te]using this
      have fin:∀(st:Ix)(v:Bool),k (.pv (.bool v)) (te E.fn.ntmps f2) (ao m2 id (.loop st))=some r→∃v' f' m' y μ' φ',k v' f' m'=some r∧Ending.returned (.bool v)=.returned y∧GH μ μ'∧ay E.P E.aI w2 μ' φ' m' (w2'.putObj l (.loop (st.obj rc)))∧cm E.P μ' φ' m' f' ρ∧ai E.P μ' φ' v' y∧∀id,v'.has id=true→(m' id).isSome=true:=by
       intro st v hk;have Y4:=Dy.toay.turn (st':=st) cP q1 Up;refine⟨_,_,_,_,μ2,φ2,hk,rfl,hle,Y4.tp rfl rfl (fun b o hb=>hle b o (hM.dG b o hb)) (fun _ _ _=>rfl),⟨hFp.fr,fun t j hj=>?_⟩,.pv .bool,fun id hid=>by cases hid⟩;by_cases e:j=id
       ·subst e;simp
       ·rw[aq e];exact hFp.live t j hj
      cases e with
      |normal=>exact⟨_,_,run_endRound none q3,fin .ready true T9⟩
      |exit j=>exact⟨_,_,run_endRound (some (.exit j)) q3,fin (.done (.exit j)) false T9⟩
      |ret=>exact⟨_,_,run_endRound (some .ret) q3,fin (.done .ret) false T9⟩
     ·cases T9
    ·cases Og
   ·cases hy
  ·cases hy
theorem Uv{μ:Ro}{φ:Nat→aG}{m:Mem}{v:V}{g:FuncId}{lY:List V}{y:Value}(h:WE v=some (g,lY))(hv:ai P μ φ v y)(hl:∀id,v.has id=true→(m id).isSome=true):∃xs,y=.func (.func g) #[] xs∧lY.length=xs.size∧(∀(i:Nat)v x,lY[i]?=some v→xs[i]?=some x→ai P μ φ v x)∧∀id,cr id lY=true→(m id).isSome=true:=by
 unfold WE at h;split at h
 ·simp only[Option.some.injEq,Prod.mk.injEq]at h;obtain⟨rfl,rfl⟩:=h;cases hv with
  | @fn _ _ xs h1 h2=>exact⟨xs,rfl,h1,h2,fun id hid=>hl id (by simpa only[V.has]using hid)⟩
 ·simp only[Option.some.injEq,Prod.mk.injEq]at h;obtain⟨rfl,rfl⟩:=h;cases hv with
  |pv hv=>cases hv with
   | @fn _ _ xs h1 h2=>
    refine⟨xs,rfl,by simpa using h1,fun i v x hv hx=>?_,fun id hid=>?_⟩
    ·simp only[List.getElem?_map,Option.map_eq_some_iff]at hv;obtain⟨q,hq,rfl⟩:=hv;exact .pv (h2 i q x hq hx)
    ·obtain⟨v,hv,hh⟩:=cV.1 hid;obtain⟨q,_,rfl⟩:=List.mem_map.1 hv;cases hh
 ·cases h
theorem EN{g:Operand}{ps:Array Tmp}{as b:Code}(ihA:yF as)(ihB:yF b):yF (.rangeFunc g ps as b):=by
 intro E w0 rd hE hY wY R f m k r h μ φ a w Q hR hQ;simp only[e9]at h;split at h
 ·cases h
 rename_i IE;have wY:=wY (by simpa using IE);subst wY;split at h;rotate_left
 ·cases h
 rename_i p0 pr CI;generalize agx:cH E (some p0)=lid at h;obtain⟨f1,m1,_,h,P5,vW,aeo⟩:=cK h;obtain⟨P4,rfl,rfl⟩:=vW rfl;refine wpIn_rangeFunc fun fn _=>?_;obtain⟨rec,EO⟩:∃rec:Loop,rec={state:=.ready,pending:=none,fn,tmps:=a.tmps,params:=ps,assign:=as,body:=b,defers:=w.heap.size}:=⟨_,rfl⟩;obtain⟨wD,hwD⟩:∃wD,wD=w.alloc (.deferred (some [])):=⟨_,rfl⟩;obtain⟨W1,hW1⟩:∃W1,W1=wD.alloc (.loop rec):=⟨_,rfl⟩;obtain⟨l,hl⟩:∃l,l=wD.heap.size:=⟨_,rfl⟩;have Iy:l=w.heap.size+1:=by rw[hl,hwD];simp
 obtain⟨μD,Xy⟩:∃μD,μD=zA μ w (.deferred (some [])):=⟨_,rfl⟩;have RB:GH μ μD:=Xy▸GR hR.toay _;have hMD:ay E.P E.aI w0 μD φ m wD:=Xy▸hwD▸hR.toay.Uq _;have hD:μD w.heap.size=some (.deferred (some [])):=by rw[Xy];simp[zA]
 obtain⟨w1,Mz⟩:∃w1:bA,w1={w0 with dG:=μD,rc:=fun i=>if i=lid then some (l,rec)else w0.rc i}:=⟨_,rfl⟩;have aat:ay E.P E.aI w1 μD φ m wD:=Mz▸hMD.tp rfl rfl (fun _ _ h=>h) (fun id st hid=>if_neg fun e=>by subst e;rw[P4]at hid;cases hid);have Be:aA E.fn.ntmps w1 a=aA E.fn.ntmps w0 a:=by subst Mz;rfl
 have hFD:cm E.P μD φ m f1 (aA E.fn.ntmps w0 a):=⟨fun t=>(hR.fr t).vv RB,hR.live⟩;have Xz:w1.rc lid=some (l,rec):=by subst Mz;exact if_pos rfl
 have EA:W1.heap[l]?=some (.loop rec):=by rw[hW1,hl];exact heap_alloc_new wD _
 have Ae:Ix.ready.obj rec=rec:=by subst EO;rfl
 have qw:jD E.P w1 μD φ m wD W1 lid (.loop .ready) (CH (some l) 0 0 0):=by
  rw[hW1];refine jD.alloc aat (by rw[hl]) (fun φ' hp _=>⟨l,rec,by rw[hp],?_⟩) (by simp[bL.names]) fun st sZ=>?_
  ·rw[Ae,←hW1];exact EA
  ·cases sZ;exact⟨l,rec,rfl,Xz,by rw[Ae,←hW1];exact EA⟩
 obtain⟨φ1,aep,q6,Ah⟩:=aeo E.P E.aI w1 μD φ wD W1 (aA E.fn.ntmps w0 a) (CH (some l) 0 0 0) aat hFD qw;have Jl:Rel E.P E.aI E.fn.ntmps w1 μD φ1 f1 (ao m lid (.loop .ready)) a W1:={toay:=q6,size:=hR.size,defers:=(by have:=hR.defers.mono RB;subst Mz;exact this),kL:=(by subst Mz;exact fun b o hb=>RB b o (hR.dG b o (hR.kL b o hb))),fr:=fun t=>by rw[Be];exact Ah.fr t,live:=Ah.live};have Ov:=al Jl g;split at h;rotate_left
 ·cases h
 rename_i gid lY ng;obtain⟨xs,hgv,hlen,jd,aeq⟩:=Uv ng Ov.1 Ov.2
 ·clear Ov;obtain⟨fnI,cI,f1,f2,f3,gB⟩:=hE.WC _ _ _ _ _ _ _ _ _ h;have PT:ai E.P μD φ1 (.yl lid) (.func (.yield l) #[] #[]):=.yl (by rw[aep]);have hC:=gB w1 μD φ1 (aA E.fn.ntmps w0 a) W1 (#[.func (.yield l) #[] #[]]++xs) q6 Ah (by simp;omega) (fun i v x hv hx=>by
    cases i with
    |zero=>simp at hv;subst hv;rw[Array.getElem?_append]at hx;simp at hx;subst hx;exact PT
    |succ i=>simp at hv;rw[Array.getElem?_append_right (by simp)]at hx;exact jd i v x hv (by simpa using hx)) (fun id hid=>by
    simp only[cr,Bool.or_eq_true]at hid;rcases hid with hid|hid
    ·have:=Nat.eq_of_beq_eq_true hid;subst this;simp
    ·exact aeq id hid) (by
   refine fun R site id args F m k r hy=>RA (fid:=site*4096+E.fid%4096) ihA ihB hE (w2:={w1 with sv:=fun t=>aA E.fn.ntmps w0 a (t-fnI.ntmps)}) (rc:=rec) (l:=l) (lid:=lid) (ps:=ps) Xz (by subst EO;rfl) (by subst EO;rfl) (by subst EO;rfl) (by subst EO;exact hR.size) (fun t ht=>by subst EO;show aA E.fn.ntmps w0 a (t+fnI.ntmps-fnI.ntmps)=_;rw[Nat.add_sub_cancel,oq ht]) R site id args F m k r hy)
  refine⟨l,[{target:=.collected w.heap.size,args:= #[]}],W1,{target:=.fn (.func gid) xs,args:= #[.func (.yield l) #[] #[]]},W1,gid,#[.func (.yield l) #[] #[]]++xs,W1,?_,?_,?_,?_,?_,?_⟩
  ·have:=run_enterLoop_outer (P:=E.P) (w:=w) fn a.tmps ps as b;rw[Iy,hW1,hwD,EO];exact this
  ·simp only[resolve,hgv];simp[go_sem]
  ·exact fun _ _=>trivial
  ·simp[invoke,go_sem,Uu f1 f3 f2]
  ·exact fun h=>by cases h
  ·refine FR.MF (hC.mono ?_);rintro e w' ⟨v,f',m',y,μ',φ',hk,rfl,QG,ZF,_,_⟩;have XA:GH μD μ':=by have:=QG.dG;subst Mz;exact this
   have hD':μ' w.heap.size=some (.deferred (some [])):=XA _ _ hD;have main:∀st,m' lid=some (.loop st)→st≠.busy→∃w4,(Instr.endLoop l).run E.P w'=.ok (st.obj rec).pending w4∧Rel E.P E.aI E.fn.ntmps w0 μ' φ' (eS lid f') (bh (bE lid m') lid) {a with defers:=[{target:=.collected w.heap.size,args:= #[]}]++a.defers} w4:=by
    intro st sZ ZQ;obtain⟨g',rc',p1,p2,p3⟩:=QG.zg lid st sZ;rw[Xz]at p2;simp only[Option.some.injEq,Prod.mk.injEq]at p2;obtain⟨rfl,rfl⟩:=p2;have rV:=QG.own lid _ _ sZ (.inl p1);have hMf:=QG.forget lid;have yw:∀id b,bh (bE lid m') lid id=some b→¬b.eh (φ' id) l:=fun id b' hid e=>by obtain⟨cR,b2,pC,rfl⟩:=eO hid;exact cR (QG.inj id lid b2 _ l pC sZ (fF.1 e) (.inl p1))
    have hM4:=hMf.other (.loop {st.obj rec with state:=.exhausted}) rV.1 (rV.2 rfl) yw;have hM5:ay E.P E.aI w0 μ' φ' (bh (bE lid m') lid) (w'.putObj l (.loop {st.obj rec with state:=.exhausted})):=hM4.tp (by subst Mz;rfl) (by subst Mz;rfl) (fun b o hb=>XA b o (RB b o (hR.dG b o hb))) (fun id st hid=>by
      have cR:id≠lid:=fun e=>by subst e;simp at hid
      subst Mz;exact(if_neg cR).symm)
    refine⟨_,run_endLoop p3 (by cases st<;>simp_all[Ix.obj]),{toay:=hM5,size:=hR.size,defers:=?_,kL:=hR.kL,fr:=?_,live:=?_}⟩
    ·obtain⟨Ds,e,Tq,hDs⟩:=hR.defers;have bt:∀b o,μ b=some o→b<w.heap.size:=fun b o hb=>(Array.getElem?_eq_some_iff.1 (hR.ro b o hb)).1;refine⟨w.heap.size::Ds,by simp[e],List.nodup_cons.2 ⟨fun hd=>?_,Tq⟩,fun D hd=>?_⟩
     ·have:=bt _ _ (hDs _ hd).2.2;omega
     ·rcases List.mem_cons.1 hd with rfl|hd
      ·refine⟨hR.below.size,?_,hD'⟩;cases ho:w0.kL w.heap.size with
       |none=>rfl
       |some o=>have:=bt _ _ (hR.dG _ _ (hR.kL _ _ ho));omega
      ·exact⟨(hDs D hd).1,(hDs D hd).2.1,XA _ _ (RB _ _ (hDs D hd).2.2)⟩
    ·exact(ZF.forget lid).fr
    ·exact(ZF.forget lid).live
   dsimp only at hk;split at hk
   ·rename_i sZ;obtain⟨w4,e1,e2⟩:=main .ready sZ (by simp);exact⟨none,w4,e1,hQ .normal _ _ _ _ _ _ hk e2⟩
   ·rename_i j sZ;obtain⟨w4,e1,e2⟩:=main (.done j) sZ (by simp);refine⟨some j.code,w4,e1,?_⟩;cases j with
    |ret=>exact wpIn_ret (hQ .ret _ _ _ _ _ _ hk e2)
    |exit id=>exact wpIn_exit (hQ (.exit id) _ _ _ _ _ _ hk e2)
   ·cases hk
theorem RC:∀(c:Code),yF c:=by
 intro c;induction c with
 |skip=>intro E w0 rd hE hY wY R f m k r h μ φ a w Q hR hQ;simp only[e9]at h;exact wpIn_skip (hQ .normal _ _ _ _ _ _ h hR)
 |region id ops draw=>intro E w0 rd hE hY wY R f m k r h μ φ a w Q hR hQ;exact OH hE hY h hR (hQ .normal)
 |seq x y ihx ihy=>
  intro E w0 rd hE hY wY R f m k r h μ φ a w Q hR hQ;simp only[e9]at h;refine wpIn_seq (ihx hE hY wY h hR fun e f' m' μ' φ' a' w' hk iy=>?_);cases e with
  |normal=>exact ihy hE hY wY hk iy hQ
  |exit id=>exact hQ (.exit id) _ _ _ _ _ _ hk iy
  |ret=>exact hQ .ret _ _ _ _ _ _ hk iy
 |cond c x y ihx ihy=>
  intro E w0 rd hE hY wY R f m k r h μ φ a w Q hR hQ;simp only[e9]at h;split at h
  ·rename_i t b hb;have hv:a.eval (.tmp t)=.bool b:=by have:=(al hR (.tmp t)).1;rw[hb]at this;exact oH this
   have fR:f t=.pv (.bool b):=(BI hb).2;have hle:sV (fk f t (.pv (.bool b))) f:=fun s=>by
    simp only[fk];cases e:Nat.beq s t with
    |true=>have:=Nat.eq_of_beq_eq_true e;subst this;exact .inl fR.symm
    |false=>exact .inl rfl
   cases b with
   |true=>simp only[if_true]at h;exact wpIn_cond_true hv (ihx hE hY wY h (hR.weaken hle) hQ)
   |false=>simp only[Bool.false_eq_true,if_false]at h;exact wpIn_cond_false hv (ihy hE hY wY h (hR.weaken hle) hQ)
  ·cases h
 |block id b ih=>
  intro E w0 rd hE hY wY R f m k r h μ φ a w Q hR hQ;simp only[e9]at h;refine wpIn_block (ih hE hY wY h hR fun e f' m' μ' φ' a' w' hk iy=>?_);cases e with
  |normal=>exact hQ .normal _ _ _ _ _ _ hk iy
  |exit j=>
   simp only[Ex.Qq]at hk;simp only[Ry,Exit.inBlock];split at hk
   ·rename_i hj;rw[if_pos hj];exact hQ .normal _ _ _ _ _ _ hk iy
   ·rename_i hj;rw[if_neg hj];exact hQ (.exit j) _ _ _ _ _ _ hk iy
  |ret=>exact hQ .ret _ _ _ _ _ _ hk iy
 |loop b ih=>
  intro E w0 rd hE hY wY R f m k r h μ φ a w Q hR hQ;simp only[e9]at h;split at h
  ·rename_i T _;obtain⟨f,m,μ,φ,h,hR⟩:=GV h hR;obtain⟨s,hs,s1,s2,s3,s4⟩:=Rw h;obtain⟨n0,hs⟩:=hE.lp _ _ _ _ _ hs;refine DL (fun n a w=>∃s μ φ,Rel E.P E.aI E.fn.ntmps w0 μ φ (IL T s) (A2 T s) a w∧cG (fun s rec=>e9 E b (IL T s) (A2 T s) (Ex.Gi (fun f m=>Db E.P T f m fun f m=>enc T f m rec) k)) n s=some r) ?_ n0 a w ⟨s,μ,φ,hR.dec s1 s2 s3 s4,hs⟩;rintro n a w ⟨s,μ,φ,hR,hs⟩;cases n with
   |zero=>simp[cG]at hs
   |succ n=>
    refine⟨n,rfl,?_⟩;simp only[cG]at hs;refine ih hE hY wY hs hR fun e f' m' μ' φ' a' w' hk iy=>?_;cases e with
    |normal=>obtain⟨f',m',μ',φ',hk,iy⟩:=GV hk iy;obtain⟨s',hs',t1,t2,t3,t4⟩:=Rw hk;exact⟨s',μ',φ',iy.dec t1 t2 t3 t4,hs'⟩
    |exit j=>exact hQ (.exit j) _ _ _ _ _ _ hk iy
    |ret=>exact hQ .ret _ _ _ _ _ _ hk iy
  ·refine DL (fun n a w=>∃f m μ φ,Rel E.P E.aI E.fn.ntmps w0 μ φ f m a w∧Gg (fun f m rec=>e9 E b f m (Ex.Gi rec k)) n f m=some r) ?_ E.u a w ⟨f,m,μ,φ,hR,h⟩;rintro n a w ⟨f,m,μ,φ,hR,hs⟩;cases n with
   |zero=>simp[Gg]at hs
   |succ n=>
    refine⟨n,rfl,?_⟩;simp only[Gg]at hs;refine ih hE hY wY hs hR fun e f' m' μ' φ' a' w' hk iy=>?_;cases e with
    |normal=>exact⟨f',m',μ',φ',iy,hk⟩
    |exit j=>exact hQ (.exit j) _ _ _ _ _ _ hk iy
    |ret=>exact hQ .ret _ _ _ _ _ _ hk iy
 |exit id=>intro E w0 rd hE hY wY R f m k r h μ φ a w Q hR hQ;simp only[e9]at h;exact wpIn_exit (hQ (.exit id) _ _ _ _ _ _ h hR)
 |label l=>intro E w0 rd hE hY wY R f m k r h μ φ a w Q hR hQ;simp only[e9]at h;exact wpIn_label (hQ .normal _ _ _ _ _ _ h hR)
 |ret=>intro E w0 rd hE hY wY R f m k r h μ φ a w Q hR hQ;simp only[e9]at h;exact wpIn_ret (hQ .ret _ _ _ _ _ _ h hR)
 |scope b ih=>intro E w0 rd hE hY wY R f m k r h μ φ a w Q hR hQ;simp only[e9]at h;exact OG (ih hE hY wY h hR fun e f' m' μ' φ' a' w' hk iy=>by cases e<;>exact hQ _ _ _ _ _ _ _ hk iy)
 |rangeFunc g ps as b ihA ihB=>exact EN ihA ihB
 |_=>intro E w0 rd hE hY wY R f m k r h;simp[e9]at h
end Go.Ab
set_option linter.unusedVariables false
namespace Go.Ab
open Go.RowKit (Below)
def Obj.XB:Obj→Bool
 |.cells .. =>true
 |.map .. =>true
 |_=>false
def MN(μ μ':Ro):Prop:=∀b o,μ b=some o→Obj.XB o=true→μ' b=some o
theorem MN.trans{a b c:Ro}(h:MN a b)(k:MN b c):MN a c:=fun x o hx ho=>k x o (h x o hx ho) ho
section
variable {P:Program} {G:Nat→Option (List PV)} {w0:bA} {μ μ':Ro} {φ:Nat→aG} {m:Mem} {w w':World}
variable{x:Value}
theorem B4(h:MN μ μ'){b o:Nat}(hx:cellAt μ b o=some x):cellAt μ' b o=some x:=by
 unfold cellAt at*;split at hx
 ·rename_i c t fz hb;rw[h _ _ hb rfl];exact hx
 ·cases hx
theorem ak.off(h:MN μ μ'){p:PV}(hp:ak P μ p x):ak P μ' p x:=by
 induction hp with
 |int h=>exact .int h
 |bool=>exact .bool
 |str h=>exact .str h
 |agg h1 _ h3 ih=>exact .agg h1 ih h3
 |bl h1 _ ih=>exact .bl h1 ih
 |nD=>exact .nD
 |rp X h1 _ h3 ih=>exact .rp X (fun i p hi=>B4 h (h1 i p hi)) ih h3
 |jr=>exact .jr
 |FV h=>exact .FV h
 |rs X h1 h2 h3 h4 _ h6 ih=>exact .rs X h1 h2 h3 (fun i e j p hi hj=>B4 h (h4 i e j p hi hj)) ih h6
 |sR=>exact .sR
 |rm h1 h2 h3 h4 h5 _ _ ih1 ih2=>exact .rm (h _ _ h1 rfl) h2 h3 h4 h5 ih1 ih2
 |xT=>exact .xT
 |fn h1 _ ih=>exact .fn h1 ih
 |Qx=>exact .Qx
 |TO=>exact .TO
 |bad=>exact .bad
theorem vu.off(h:MN μ μ'){g:Nat}{cs:List PV}(hv:vu P μ g cs):vu P μ' g cs:=⟨hv.rep.off h,let⟨c,T,z,h1,h2⟩:=hv.size;⟨c,T,z,h _ _ h1 rfl,h2⟩⟩
theorem ai.off(h:MN μ μ'){v:V}{x:Value}(hv:ai P μ φ v x):ai P μ' φ v x:=by
 induction hv with
 |pv hp=>exact .pv (hp.off h)
 |bk=>exact .bk
 |op hg=>exact .op hg
 |oe hg=>exact .oe hg
 |pB hg=>exact .pB hg
 |os hg=>exact .os hg
 |ot hg=>exact .ot hg
 |fj hg hl ha hc PU=>exact .fj hg hl ha hc PU
 |Eu hg=>exact .Eu hg
 |tc hg=>exact .tc hg
 |wL hg hs=>exact .wL hg hs
 |om hg=>exact .om hg
 |yl hg=>exact .yl hg
 |it hg=>exact .it hg
 |fn h1 _ ih=>exact .fn h1 ih
 |agg h1 _ h3 ih=>exact .agg h1 ih h3
 |bl h1 _ ih=>exact .bl h1 ih
 |top=>exact .top
theorem aM.off(h:MN μ μ'){id sz:Nat}{et:TypeId}{es:List PV}(ha:aM P μ φ w id sz et es)(hw:∀g,(φ id).g=some g→w'.heap[g]?=w.heap[g]?):aM P μ' φ w' id sz et es:=by
 obtain⟨a1,a2,a3,a4,a5,a6,a7⟩:=ha;refine⟨a1,a2,a3,a4,a5,a6,?_⟩;cases hg:(φ id).g with
 |none=>rw[hg]at a7;exact a7
 |some g=>rw[hg]at a7;obtain⟨c,c1,c2,c3,c4,c5⟩:=a7;exact⟨c,by rw[hw g hg];exact c1,c2,c3,fun i e j p x h1 h2 h3=>(c4 i e j p x h1 h2 h3).off h,c5⟩
theorem eL.off(hh:MN μ μ'){R:zh}{s:Nat}{rs:List PV}{x:Value}(h:eL P μ R w s rs x)(hw:∀g,R.g=some g→w'.heap[g]?=w.heap[g]?):eL P μ' R w' s rs x:=
 let⟨⟨et,hA⟩,hV⟩:=h
 ⟨⟨et,hA.off hh hw⟩,hV.off hh⟩
theorem ek.off(hh:MN μ μ'){R:zh}{p:PV}{x:Value}(h:ek P μ R w p x)(hw:p.isRow=true→∀g,R.g=some g→w'.heap[g]?=w.heap[g]?):ek P μ' R w' p x:=by
 unfold ek at*;split at h
 ·exact eL.off hh h (hw rfl)
 ·exact ak.off hh h
theorem aV.off(hh:MN μ μ'){id sz:Nat}{et:TypeId}{es:List PV}(h:aV P μ φ w id sz et es)(hw:∀g,(bL.nest sz et es).eh (φ id) g→w'.heap[g]?=w.heap[g]?):aV P μ' φ w' id sz et es:=by
 obtain⟨a1,a2,a3,a4,a5,a6,a7⟩:=h;refine⟨a1,a2,a3,a4,a5,a6,?_⟩;cases hg:(φ id).g with
 |none=>rw[hg]at a7;exact a7
 |some g=>rw[hg]at a7;obtain⟨c,c1,c2,c3,c4,c5⟩:=a7;exact⟨c,by rw[hw g (.inl hg)];exact c1,c2,c3,fun i e j p x h1 h2 h3=>(c4 i e j p x h1 h2 h3).off hh fun hr g' bY=>hw g' (.inr ⟨i,j,by rw[dA h1 h2];exact hr,bY⟩),c5⟩
theorem eL.MO{R:zh}{s g:Nat}{rs:List PV}(h:eL P μ R w s rs x)(hg:R.g=some g):∃c T z,w.heap[g]?=some (.cells c T z):=by obtain⟨⟨et,_,_,_,_,_,_,a7⟩,_⟩:=h;have bY:R.up.g=some g:=hg;simp only[bY]at a7;obtain⟨c,c1,_⟩:=a7;exact⟨_,_,_,c1⟩
theorem fS.RD{id g i off:Nat}{b:bL}(h:fS P μ φ w id b)(hr:b.rowAt i off=true)(hg:((φ id).row i off).g=some g):∃c T z,w.heap[g]?=some (.cells c T z):=by
 rcases iS hr with⟨sz,et,es,e,s,rs,rfl,he,hp⟩|⟨kt,e0,es,k,s,rs,rfl,rfl,he⟩
 ·have hN:aV P μ φ w id sz et es:=h;have hgg:∃g0,(φ id).g=some g0:=by
   cases hq:(φ id).g with
   |some g0=>exact⟨g0,rfl⟩
   |none=>have a7:=hN.2.2.2.2.2.2;rw[hq]at a7;rw[a7.1]at he;simp at he
  obtain⟨g0,Iz⟩:=hgg;obtain⟨c,x,_,_,c3,_⟩:=hN.cell Iz he hp;exact eL.MO (show eL P μ _ w s rs x from c3) hg
 ·obtain⟨g0,en,clock,kk,Iz,hh,hs,hk,hc,sJ,hv⟩:=h;have hi:i<en.size:=by rw[hs];exact(List.getElem?_eq_some_iff.1 he).1
  have h3:=(hv i k _ en[i] he (Array.getElem?_eq_getElem hi)).2;exact eL.MO (P:=P) (μ:=μ) (R:=(φ id).row i 0) (s:=s) (rs:=rs) (x:=en[i].val) ⟨⟨_,h3.1⟩,h3.2⟩ hg
theorem fS.off(h:MN μ μ')(mn:∀b o,μ b=some o→w.heap[b]?=some o){id:Nat}{b:bL}(hb:fS P μ φ w id b)(hw:∀g,b.eh (φ id) g→w'.heap[g]?=w.heap[g]?):fS P μ' φ w' id b:=by
 cases b with
 |nest sz et es=>exact aV.off h hb hw
 |eX kt e0 es=>
  obtain⟨g,en,clock,kk,hg,hh,hs,hk,hc,sJ,hv⟩:=hb;refine⟨g,en,clock,kk,hg,by rw[hw g (.inl hg)];exact hh,hs,hk,hc,sJ,fun i k v e h1 h2=>⟨(hv i k v e h1 h2).1.off h,?_⟩⟩;have h3:=(hv i k v e h1 h2).2;split at h3
  ·exact⟨h3.1.off h fun g' bY=>hw g' (.inr ⟨i,0,by rw[iR h1];rfl,bY⟩),h3.2.off h⟩
  ·exact h3.off h
 |box cs=>obtain⟨g,c,T,hg,hh,hs,hv,h1,yp⟩:=hb;exact⟨g,c,T,hg,by rw[hw g (.inl hg)];exact hh,hs,fun i v x hi hx=>(hv i v x hi hx).off h,h1,yp⟩
 |arr sz et es=>exact aM.off h hb fun g hg=>hw g (.inl hg)
 |nP sz et es=>refine⟨aM.off h hb.1 fun g hg=>hw g (.inl hg),fun g hg=>?_⟩;obtain⟨o,ho⟩:=Option.isSome_iff_exists.1 (hb.2 g hg);obtain⟨_,_,_,_,_,_,a7⟩:=hb.1;rw[hg]at a7;obtain⟨c,c1,_⟩:=a7;have:=mn g o ho;rw[c1]at this;cases this;rw[h _ _ ho rfl];rfl
 |map kt es=>obtain⟨g,en,clock,kk,hg,hh,hs,hk,hc,sJ,hv⟩:=hb;exact⟨g,en,clock,kk,hg,by rw[hw g (.inl hg)];exact hh,hs,hk,hc,sJ,fun i k v e h1 h2=>⟨(hv i k v e h1 h2).1.off h,(hv i k v e h1 h2).2.off h⟩⟩
 |iter t es cur=>obtain⟨g,mg,en,clock,seen,hg,hh,Bg,sJ,yp,hv,ZM⟩:=hb;exact⟨g,mg,en,clock,seen,hg,by rw[hw g (.inl hg)];exact hh,h _ _ Bg rfl,sJ,yp,fun i k v e h1 h2=>⟨(hv i k v e h1 h2).1.off h,(hv i k v e h1 h2).2.off h⟩,fun k v hc=>let⟨i,e,h1,h2,h3,h4⟩:=ZM k v hc;⟨i,e,h1,h2,h3.off h,h4.off h⟩⟩
 |loop st=>obtain⟨g,rc,hg,hh⟩:=hb;exact⟨g,rc,hg,by rw[hw g (.inl hg)];exact hh⟩
def zB(μ:Ro)(D:Nat):Ro:=fun b=>if b=D then none else μ b
theorem MP{D:Nat}(hD:μ D=some (.deferred (some []))):MN μ (zB μ D):=by intro b o hb ho;unfold zB;rw[if_neg fun e=>by subst e;rw[hD]at hb;cases hb;cases ho];exact hb
theorem ay.shut(hM:ay P G w0 μ φ m w){D:Nat}(hB:w0.heap.size≤D)(hk:w0.dG D=none)(hD:μ D=some (.deferred (some []))):ay P G w0 (zB μ D) φ m (w.putObj D (.deferred none)):=by
 have hc:=MP hD;have hh:=hM.ro _ _ hD;have Aj:∀k,k≠D→(w.putObj D (.deferred none)).heap[k]?=w.heap[k]?:=fun k hk=>World.putObj_heap_other hk;have cR:∀id b g,m id=some b→b.eh (φ id) g→g≠D:=fun id b g hm hg e=>by
  subst e;have hR:=hM.dL id b hm;rcases hg with hg|⟨i,off,hr,hg⟩
  rotate_left
  ·obtain⟨c,T,z,h2⟩:=hR.RD hr hg;rw[hh]at h2;cases h2
  cases b with
  |nest sz et es=>obtain⟨_,_,_,_,_,_,a7⟩:=hR;rw[hg]at a7;obtain⟨c,c1,_⟩:=a7;rw[hh]at c1;cases c1
  |eX kt e0 es=>obtain⟨g',en,clock,kk,bY,h2,_⟩:=hR;rw[hg]at bY;cases bY;rw[hh]at h2;cases h2
  |box cs=>obtain⟨g',c,T,bY,h2,_⟩:=hR;rw[hg]at bY;cases bY;rw[hh]at h2;cases h2
  |arr sz et es=>obtain⟨_,_,_,_,_,_,a7⟩:=hR;rw[hg]at a7;obtain⟨c,c1,_⟩:=a7;rw[hh]at c1;cases c1
  |nP sz et es=>obtain⟨⟨_,_,_,_,_,_,a7⟩,_⟩:=hR;rw[hg]at a7;obtain⟨c,c1,_⟩:=a7;rw[hh]at c1;cases c1
  |map kt es=>obtain⟨g',en,clock,kk,bY,h2,_⟩:=hR;rw[hg]at bY;cases bY;rw[hh]at h2;cases h2
  |loop st=>obtain⟨g',rc,bY,h2⟩:=hR;rw[hg]at bY;cases bY;rw[hh]at h2;cases h2
  |iter t es cur=>obtain⟨g',mg,en,clock,seen,bY,h2,_⟩:=hR;rw[hg]at bY;cases bY;rw[hh]at h2;cases h2
 refine⟨hM.below.trans ((jB.putObj w D _).mono hB),fun b o hb=>?_,fun g cs hg=>(hM.aI g cs hg).off hc,fun id b hm=>(hM.dL id b hm).off hc hM.ro fun g hg=>Aj g (cR id b g hm hg),fun id b g hm hg=>?_,hM.inj,hM.apart,hM.fl,fun b o hb bt=>?_,fun b o hb=>?_,fun id st hm=>?_⟩
 ·unfold zB at hb;split at hb
  ·cases hb
  ·rename_i e;rw[Aj b e];exact hM.ro b o hb
 ·obtain⟨h1,h2⟩:=hM.own id b g hm hg;refine⟨h1,fun Gn=>?_⟩;unfold zB;rw[if_neg (cR id b g hm hg)];exact h2 Gn
 ·unfold zB at hb;split at hb
  ·cases hb
  ·exact hM.base b o hb bt
 ·unfold zB;rw[if_neg fun e=>by subst e;rw[hk]at hb;cases hb];exact hM.dG b o hb
 ·obtain⟨g,rc,h1,h2,h3⟩:=hM.zg id st hm;exact⟨g,rc,h1,h2,by rw[Aj g (cR id _ g hm (.inl h1))];exact h3⟩
end
section
variable {E:Env} {w0:bA}
theorem xm{R:Ending→World→Prop}{f:Fr}{m:Mem}{φ:Nat→aG}{fn:Func}{tmps:Array Value}:∀(Ds:List Nat){μ:Ro}{w:World},Ds.Nodup→(∀D∈Ds,w0.heap.size≤D∧w0.dG D=none∧μ D=some (.deferred (some [])))→Rel E.P E.aI E.fn.ntmps w0 μ φ f m {tmps,defers:=[]} w→(∀μ' w',Rel E.P E.aI E.fn.ntmps w0 μ' φ f m {tmps,defers:=[]} w'→∃v,(results fn tmps).run E.P w'=.ok v w'∧R (.returned v) w')→LeavesInM (FR none) 0 E.P fn tmps R (Ds.map fun D=>{target:=.collected D,args:= #[]}) .returning w
 |[],μ,w,_,_,hR,tK=>tK μ w hR
 |D::Ds,μ,w,hn,hD,hR,tK=>by obtain⟨h1,h2,h3⟩:=hD D (by simp);obtain⟨n1,n2⟩:=List.nodup_cons.1 hn;have hM:=hR.toay.shut h1 h2 h3;refine⟨by simp,.inl ⟨D,_,rfl,run_takeDeferred (hR.ro _ _ h3),?_⟩⟩;refine xm Ds n2 (fun D' Mu=>?_) {toay:=hM,size:=hR.size,defers:=.nil _ _ _,kL:=hR.kL,fr:=fun t=>(hR.fr t).off (MP h3),live:=hR.live} tK;obtain⟨a1,a2,a3⟩:=hD D' (by simp[Mu]);refine⟨a1,a2,?_⟩;unfold zB;rw[if_neg fun e=>by subst e;exact n1 Mu];exact a3
theorem qm(hE:iO E)(hY:qV E.P E.aI E.fn.ntmps E.yl w0)(hko:∀b o,w0.dG b=some o→w0.kL b=some o){g:FuncId}{c:Code}(hf:E.P.funcs[g]?=some E.fn)(hb:E.fn.body=some c){xs:Array Value}{R:Ending→World→Prop}{S:Type}{f:Fr}{m:Mem}{k:Ex→Fr→Mem→Option S}{r:S}(h:e9 E c f m k=some r){μ:Ro}{φ:Nat→aG}{w:World}(hR:Rel E.P E.aI E.fn.ntmps w0 μ φ f m {tmps:=xs++Array.replicate (E.fn.ntmps-xs.size) undef,defers:=[]} w)(tK:∀e f' m' μ' φ' tmps w',k e f' m'=some r→Rel E.P E.aI E.fn.ntmps w0 μ' φ' f' m' {tmps,defers:=[]} w'→(∀id,e≠.exit id)∧∃v,(results E.fn tmps).run E.P w'=.ok v w'∧R (.returned v) w'):Calls E.P g xs w R:=by
 refine(callsIn_wide (n:=0)).1 (callsIn_of_wp_marks (F:=FR none) hf hb trivial ?_);refine RC c hE hY (fun _=>rfl) h hR fun e f' m' μ' φ' a' w' hk iy=>?_;obtain⟨Ds,e1,e2,e3⟩:=iy.defers;have Dy:Rel E.P E.aI E.fn.ntmps w0 μ' φ' f' m' {tmps:=a'.tmps,defers:=[]} w':={toay:=iy.toay,size:=iy.size,defers:=.nil _ _ _,kL:=iy.kL,fr:=iy.fr,live:=iy.live};have key:(∀id,e≠.exit id)→LeavesInM (FR none) 0 E.P E.fn a'.tmps R a'.defers .returning w':=fun _=>by
  rw[e1];refine xm Ds e2 (fun D hd=>?_) Dy fun μ2 w2 hR3=>(tK e f' m' μ2 φ' a'.tmps w2 hk hR3).2;obtain⟨a1,a2,a3⟩:=e3 D hd;refine⟨a1,?_,a3⟩;cases hq:w0.dG D with
  |none=>rfl
  |some o=>rw[hko D o hq]at a2;cases a2
 have cR:=(tK e f' m' μ' φ' a'.tmps w' hk Dy).1;cases e with
 |normal=>exact key cR
 |ret=>exact key cR
 |exit id=>exact absurd rfl (cR id)
end
end Go.Ab
