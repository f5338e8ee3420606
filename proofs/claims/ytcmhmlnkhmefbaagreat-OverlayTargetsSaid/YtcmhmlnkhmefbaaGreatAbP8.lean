import Derived.Test.YtcmhmlnkhmefbaaGreatAbP7
import Derived.RangeFuncIn
import Derived.Scope
set_option linter.unusedVariables false
namespace Go.Ab
open Go.RowKit (Below)
section
variable {P:Program} {G:Nat→Option (List PV)} {w0:bt} {μ:Ro} {φ:Nat→aC} {m:Mem} {w:World}
theorem jm.putObj(w:World)(g:Nat)(o:Obj):jm g w (w.putObj g o):=⟨⟨rfl,rfl,rfl,by simp,fun k hk=>World.putObj_heap_other (by omega)⟩,fun _=>Nat.le_refl _⟩
theorem au.sM(h:au P G w0 μ φ m w){w1:bt}(hw:w1.w=w0.w)(AB:w1.mu=w0.mu)(hk:∀b o,w1.dC b=some o→μ b=some o)(Tj:∀id st,m id=some (.loop st)→w1.rc id=w0.rc id):au P G w1 μ φ m w:=by obtain⟨a0,b0,c0,d0,e0⟩:=w0;obtain⟨a1,b1,c1,d1,e1⟩:=w1;simp only at hw AB;subst hw;subst AB;refine⟨h.below,h.ro,h.aD,h.dG,h.own,h.inj,h.apart,h.fh,h.base,hk,fun id st hid=>?_⟩;obtain⟨g,rc,h1,h2,h3⟩:=h.yC id st hid;exact⟨g,rc,h1,(Tj id st hid).trans h2,h3⟩
def yV(μ:Ro)(w:World)(o:Obj):Ro:=fun b=>if b=w.heap.size then some o else μ b
theorem Gc(hM:au P G w0 μ φ m w)(o:Obj):F2 μ (yV μ w o):=by intro b o' hb;have:=(Array.getElem?_eq_some_iff.1 (hM.ro b o' hb)).1;unfold yV;rw[if_neg (by omega)];exact hb
theorem au.Tk(hM:au P G w0 μ φ m w)(o:Obj):au P G w0 (yV μ w o) φ m (w.alloc o):=by
 have hle:=Gc hM o;have hold:∀k,k<w.heap.size→(w.alloc o).heap[k]?=w.heap[k]?:=fun k hk=>jm.heap_alloc w o k hk;have kD:w0.heap.size≤w.heap.size:=hM.below.size;refine⟨hM.below.alloc hM.below.size o,fun b o' hb=>?_,fun g cs hg=>(hM.aD g cs hg).mono hle,fun id b hid=>?_,fun id b g hid hg=>?_,hM.inj,hM.apart,hM.fh,fun b o' hb bp=>?_,fun b o' hb=>hle b o' (hM.dC b o' hb),fun id st hid=>?_⟩
 ·unfold yV at hb;split at hb
  ·rename_i e;subst e;cases hb;exact heap_alloc_new w o
  ·have:=hM.ro b o' hb;rw[hold b (Array.getElem?_eq_some_iff.1 this).1];exact this
 ·have hR:=hM.dG id b hid;exact hR.cG (fun _ _=>rfl) rfl hle (fun g hg=>hold g (hR.AD hg))
 ·obtain⟨h1,h2⟩:=hM.own id b g hid hg;refine⟨h1,fun FJ=>?_⟩;have:=(hM.dG id b hid).AD hg;unfold yV;rw[if_neg (by omega)];exact h2 FJ
 ·unfold yV at hb;rw[if_neg (by omega)]at hb;exact hM.base b o' hb bp
 ·obtain⟨g,rc,h1,h2,h3⟩:=hM.yC id st hid;exact⟨g,rc,h1,h2,by rw[hold g (Array.getElem?_eq_some_iff.1 h3).1];exact h3⟩
theorem au.other(hM:au P G w0 μ φ m w){g:Nat}(o:Obj)(hg:w0.heap.size≤g)(hμ:μ g=none)(xD:∀id b,m id=some b→¬b.ec (φ id) g):au P G w0 μ φ m (w.putObj g o):=by
 have zw:∀k,k≠g→(w.putObj g o).heap[k]?=w.heap[k]?:=fun k hk=>World.putObj_heap_other hk;refine⟨hM.below.trans ((jm.putObj w g o).mono hg),fun b o' hb=>?_,hM.aD,fun id b hid=>?_,hM.own,hM.inj,hM.apart,hM.fh,hM.base,hM.dC,fun id st hid=>?_⟩
 ·rw[zw b fun e=>by subst e;rw[hμ]at hb;cases hb];exact hM.ro b o' hb
 ·have hR:=hM.dG id b hid;exact hR.cG (fun _ _=>rfl) rfl (fun _ _ h=>h) (fun g' bU=>zw g' fun e=>by subst e;exact xD id b hid bU)
 ·obtain⟨g',rc,h1,h2,h3⟩:=hM.yC id st hid;exact⟨g',rc,h1,h2,by rw[zw g' fun e=>by subst e;exact xD id _ hid (.inl h1)];exact h3⟩
theorem au.turn(hM:au P G w0 μ φ m w){id g:Nat}{st st':HM}{rc:Loop}(hm:m id=some (.loop st))(hg:(φ id).g=some g)(Tj:w0.rc id=some (g,rc)):au P G w0 μ φ (al m id (.loop st')) (w.putObj g (.loop (st'.obj rc))):=by have bp:=(hM.dG id _ hm).AD (.inl hg);have DU:(w.putObj g (.loop (st'.obj rc))).heap[g]?=some (.loop (st'.obj rc)):=World.putObj_heap_same bp;exact hM.write hm rfl hg (jm.putObj w g _) (by simp) (fun k hk=>World.putObj_heap_other hk) ⟨g,rc,hg,DU⟩ rfl (by simp[bI.names]) fun s hs=>by cases hs;exact⟨rc,Tj,DU⟩
end
section
variable {P:Program} {μ:Ro} {φ:Nat→aC}
theorem C4{nt:Nat}:∀(ps:List Nat)(args:List V)(xs:List Value)(f:Fr)(tmps:Array Value),tmps.size=nt→args.length=xs.length→(∀t,t<nt→af P μ φ (f t) (tmps.getD t undef))→(∀(i:Nat)v x,args[i]?=some v→xs[i]?=some x→af P μ φ v x)→((ps.zip xs).foldl (fun tmps(x:Nat×Value)=>tmps.setIfInBounds x.1 x.2) tmps).size=nt∧∀t,t<nt→af P μ φ (An ps args f t) (((ps.zip xs).foldl (fun tmps(x:Nat×Value)=>tmps.setIfInBounds x.1 x.2) tmps).getD t undef)
 |[],args,xs,f,tmps,hs,_,hf,_=>by cases args<;>exact⟨hs,hf⟩
 |p::ps,[],xs,f,tmps,hs,hl,hf,_=>by have:xs=[]:=List.eq_nil_of_length_eq_zero (by simpa using hl.symm);subst this;exact⟨hs,hf⟩
 |p::ps,v::args,[],f,tmps,hs,hl,hf,_=>by simp at hl
 |p::ps,v::args,x::xs,f,tmps,hs,hl,hf,hr=>by
  simp only[List.zip_cons_cons,List.foldl_cons,An];refine C4 ps args xs (fg f p v) (tmps.setIfInBounds p x) (by simpa using hs) (by simpa using hl) (fun t ht=>?_) (fun i u y hu hy=>hr (i+1) u y (by simpa using hu) (by simpa using hy));by_cases e:t=p
  ·subst e;rw[re];have:(tmps.setIfInBounds t x).getD t undef=x:=by rw[Array.getD_eq_getD_getElem?,Array.getElem?_setIfInBounds];simp[show t<tmps.size by omega]
   rw[this];exact hr 0 v x rfl rfl
  ·rw[nU e];have:(tmps.setIfInBounds p x).getD t undef=tmps.getD t undef:=by rw[Array.getD_eq_getD_getElem?,Array.getD_eq_getD_getElem?,Array.getElem?_setIfInBounds,if_neg (fun h=>e h.symm)]
   rw[this];exact hf t ht
theorem Bm{id:Nat}:∀(ps:List Nat)(args:List V)(f:Fr)(t:Nat),(An ps args f t).has id=true→cq id args=true∨(f t).has id=true
 |[],args,f,t,h=>by cases args<;>exact .inr h
 |p::ps,[],f,t,h=>.inr h
 |p::ps,v::args,f,t,h=>by
  simp only[An]at h;rcases Bm ps args _ t h with h|h
  ·exact .inl (by simp[cq,h])
  ·by_cases e:t=p
   ·subst e;rw[re]at h;exact .inl (by simp[cq,h])
   ·rw[nU e]at h;exact .inr h
theorem Qt(ps:Array Nat)(xs:Array Value)(tmps:Array Value):(ps.zip xs).foldl (fun tmps(t,a)=>tmps.setIfInBounds t a) tmps=(ps.toList.zip xs.toList).foldl (fun tmps(x:Nat×Value)=>tmps.setIfInBounds x.1 x.2) tmps:=by rw[←Array.foldl_toList,Array.toList_zip]
end
end Go.Ab
set_option linter.unusedVariables false
namespace Go.Ab
open Go.RowKit (Below)
variable{P:Program}{c:Code}{Q:Exit→Act→World→Prop}
theorem C5{F:Fence}{nn:Nat}(I:Nat→Act→World→Prop)(round:∀n a w,I n a w→∃n',n=n'+1∧c.wpIn F nn P (Exit.then (I n') Q) a w):∀n a w,I n a w→(Code.loop c).wpIn F nn P Q a w:=by
 intro n a w hI b k cs l0 hb hr;have key:∀n a w,I n a w→∃e a' w',Q e a' w'∧ArrivesIn (Machine.fenced P F) P (lone (b.atR a (.code c::.inLoop c::k)) cs w) b k cs e a' w':=by
  intro n;induction n with
  |zero=>intro a w h;obtain⟨n',h,_⟩:=round 0 a w h;omega
  |succ n ih=>
   intro a w h;obtain⟨n',hn,wj⟩:=round _ a w h;have hn:n=n':=by omega
   subst hn;obtain⟨e,a₁,w₁,hq,wC⟩:=wj b (.inLoop c::k) cs l0 hb hr;cases e with
   |normal=>obtain⟨e₂,a₂,w₂,Zy,Tl⟩:=ih a₁ w₁ hq;exact⟨e₂,a₂,w₂,Zy,.of_steps (StepsIn.trans wC (.one (fenced_calm hb hr rfl) stepR_inLoop)) Tl⟩
   |_=>exact⟨_,a₁,w₁,hq,.pass (x:=.inLoop c) rfl (fun _ _=>.inl (by simp)) wC⟩
 obtain⟨e,a',w',hq,wC⟩:=key n a w hI;exact⟨e,a',w',hq,.of_steps (.one (fenced_calm hb hr rfl) stepR_loop) wC⟩
theorem NI{rd:Option Nat}{n:Nat}{a:Act}{w:World}(h:c.wpIn (FR rd) n P (Exit.noGoto Q) a w):(Code.scope c).wpIn (FR rd) n P Q a w:=by
 intro b k cs l0 hb hr;obtain⟨e,a₁,w₁,hq,wC⟩:=h b (.inScope c::k) cs l0 hb hr;have s1:StepsIn (Machine.fenced P (FR rd)) P (lone (b.atR a (.code (.scope c)::k)) cs w) (lone (b.atR a (.code c::.inScope c::k)) cs w):=.one (fenced_calm hb hr rfl) (step_lone_go (by simp[stepG,stepG.exec,Frame.atR]));have s2:∀a w,StepsIn (Machine.fenced P (FR rd)) P (lone (b.atR a (.inScope c::k)) cs w) (lone (b.atR a k) cs w):=fun a w=>.one (fenced_calm hb hr rfl) (step_lone_go (by simp[stepG,stepG.exec,Frame.atR]));cases e with
 |normal=>exact⟨.normal,a₁,w₁,hq,s1.trans (StepsIn.trans wC (s2 _ _))⟩
 |exit id=>exact⟨.exit id,a₁,w₁,hq,fun k' hk=>s1.trans (wC.1 k' (by simp[exitTo,hk])),fun hr hk=>let⟨k₁,h1,h2⟩:=wC.2 hr (by simp[exitTo,hk]);⟨k₁,h1,s1.trans h2⟩⟩
 |goto l=>exact hq.elim
 |ret=>exact⟨_,a₁,w₁,hq,.of_steps s1 wC⟩
 |panic ch=>exact⟨_,a₁,w₁,hq,.of_steps s1 wC⟩
 |outgrown=>exact⟨_,a₁,w₁,hq,.of_steps s1 wC⟩
mutual
theorem LV:∀{v u:V},v.same u=true→v=u
 |.op i o,u,h=>by cases u<;>simp only[V.same,Bool.and_eq_true,Bool.false_eq_true]at h;rw[Nat.eq_of_beq_eq_true h.1,Nat.eq_of_beq_eq_true h.2]
 |.oe i a o,u,h=>by cases u<;>simp only[V.same,Bool.and_eq_true,Bool.false_eq_true]at h;rw[Nat.eq_of_beq_eq_true h.1.1,Nat.eq_of_beq_eq_true h.1.2,Nat.eq_of_beq_eq_true h.2]
 |.os i,u,h=>by cases u<;>simp only[V.same,Bool.false_eq_true]at h;rw[Nat.eq_of_beq_eq_true h]
 |.om i,u,h=>by cases u<;>simp only[V.same,Bool.false_eq_true]at h;rw[Nat.eq_of_beq_eq_true h]
 |.yl i,u,h=>by cases u<;>simp only[V.same,Bool.false_eq_true]at h;rw[Nat.eq_of_beq_eq_true h]
 |.it i,u,h=>by cases u<;>simp only[V.same,Bool.false_eq_true]at h;rw[Nat.eq_of_beq_eq_true h]
 |.ba,u,h=>by cases u<;>simp only[V.same,Bool.false_eq_true]at h;rfl
 |.fn f cs,u,h=>by cases u<;>simp only[V.same,Bool.and_eq_true,Bool.false_eq_true]at h;rw[Nat.eq_of_beq_eq_true h.1,Gd h.2]
 |.pv p,u,h=>by
  cases u<;>try (cases p<;>simp[V.same]at h;done)
  rename_i q;cases p<;>cases q<;>first|rfl|(simp[V.same]at h;done)|(simp only[V.same,Bool.and_eq_true,decide_eq_true_eq]at h;rw[h.1,h.2])
 |.ff _ _ _,u,h=>by cases u<;>simp[V.same]at h
 |.agg _,u,h=>by cases u<;>simp[V.same]at h
 |.bj _,u,h=>by cases u<;>simp[V.same]at h
 |.top,u,h=>by cases u<;>simp[V.same]at h
theorem Gd:∀{vs us:List V},Cw vs us=true→vs=us
 |[],us,h=>by
  cases us with
  |nil=>rfl
  |cons _ _=>simp[Cw]at h
 |v::vs,us,h=>by
  cases us with
  |nil=>simp[Cw]at h
  |cons u us=>simp only[Cw,Bool.and_eq_true]at h;rw[LV h.1,Gd h.2]
end
variable{R:Type}
theorem LW{T:Type}:∀{il:List Sh}{vs:List V}{t:T}{k:Lp il T→Option R}{r:R},im il vs t k=some r→∃x,k x=some r∧oW il x=(vs,t)∧vs.length=il.length∧∀M,(∀sh∈il,sh.within M=true)→iO M vs=true:=by
 intro il;induction il with
 |nil=>
  intro vs t k r h;cases vs with
  |nil=>exact⟨t,h,rfl,rfl,fun _ _=>rfl⟩
  |cons v vs=>simp[im]at h
 |cons sh il ih=>
  intro vs t k r h;cases vs with
  |nil=>cases sh<;>simp[im]at h
  |cons v vs=>
   have push:∀{M},v.within M=true→iO M vs=true→iO M (v::vs)=true:=fun h1 h2=>by simp[iO,h1,h2]
   cases sh with
   |own u=>
    simp only[im]at h;split at h
    ·rename_i hs;obtain⟨x,x1,x2,x3,x4⟩:=ih h;have:=LV hs;subst this;refine⟨x,x1,by simp only[oW];rw[x2],by simp[x3],fun M hM=>push ?_ (x4 M fun s hs=>hM s (by simp[hs]))⟩;exact hM (.own u) (by simp)
    ·cases h
   |int q=>
    cases v<;>try (simp[im]at h;done)
    rename_i p;cases p<;>try (simp[im]at h;done)
    simp only[im]at h;split at h
    ·rename_i hq;subst hq;obtain⟨x,x1,x2,x3,x4⟩:=ih h;exact⟨_,x1,by simp only[oW];rw[x2],by simp[x3],fun M hM=>push rfl (x4 M fun s hs=>hM s (by simp[hs]))⟩
    ·cases h
   |row id off=>
    cases v<;>try (simp[im]at h;done)
    rename_i nb i pI;simp only[im]at h;split at h
    ·rename_i hq;obtain⟨rfl,rfl⟩:=hq;obtain⟨x,x1,x2,x3,x4⟩:=ih h;exact⟨_,x1,by simp only[oW,Int.toNat_natCast];rw[x2],by simp[x3],fun M hM=>push (hM (.row nb pI) (by simp)) (x4 M fun s hs=>hM s (by simp[hs]))⟩
    ·cases h
   |raw=>
    cases v<;>try (simp[im]at h;done)
    simp only[im]at h;obtain⟨x,x1,x2,x3,x4⟩:=ih h;exact⟨_,x1,by simp only[oW];rw[x2],by simp[x3],fun M hM=>push rfl (x4 M fun s hs=>hM s (by simp[hs]))⟩
   |bool=>
    cases v<;>try (simp[im]at h;done)
    rename_i p;cases p<;>try (simp[im]at h;done)
    simp only[im]at h;obtain⟨x,x1,x2,x3,x4⟩:=ih h;exact⟨_,x1,by simp only[oW];rw[x2],by simp[x3],fun M hM=>push rfl (x4 M fun s hs=>hM s (by simp[hs]))⟩
   |str=>
    cases v<;>try (simp[im]at h;done)
    rename_i p;cases p<;>try (simp[im]at h;done)
    simp only[im]at h;obtain⟨x,x1,x2,x3,x4⟩:=ih h;exact⟨_,x1,by simp only[oW];rw[x2],by simp[x3],fun M hM=>push rfl (x4 M fun s hs=>hM s (by simp[hs]))⟩
   |rp n=>
    cases v<;>try (simp[im]at h;done)
    rename_i p;cases p<;>try (simp[im]at h;done)
    rename_i cs;simp only[im]at h;split at h
    ·rename_i hq;obtain⟨x,x1,x2,x3,x4⟩:=ih h;have he:aI n (.agg cs)=cs:=by
      apply List.ext_getElem?;intro j;by_cases hj:j<n
      ·have hl:j<(aI n (.agg cs)).length:=by rw[bf];exact hj
       rw[List.getElem?_eq_getElem hl];obtain⟨_,h6⟩:=lZ (List.getElem?_eq_getElem hl);rw[h6];simp[cell,PV.cells,List.getD,show j<cs.length by omega]
      ·rw[List.getElem?_eq_none (by rw[bf];omega),List.getElem?_eq_none (by omega)]
     exact⟨_,x1,by simp only[oW];rw[x2,he],by simp[x3],fun M hM=>push rfl (x4 M fun s hs=>hM s (by simp[hs]))⟩
    ·cases h
   |fs s=>
    cases v<;>try (simp[im]at h;done)
    rename_i p;simp only[im]at h;obtain⟨ls,Zz,h⟩:=Option.bind_eq_some_iff.1 h;obtain⟨x,x1,x2,x3,x4⟩:=ih h;exact⟨_,x1,by simp only[oW];rw[x2,LI Zz],by simp[x3],fun M hM=>push rfl (x4 M fun s hs=>hM s (by simp[hs]))⟩
   |rs sz=>
    cases v<;>try (simp[im]at h;done)
    rename_i p;cases p<;>try (simp[im]at h;done)
    simp only[im]at h;split at h
    ·rename_i hq;subst hq;obtain⟨x,x1,x2,x3,x4⟩:=ih h;exact⟨_,x1,by simp only[oW];rw[x2],by simp[x3],fun M hM=>push rfl (x4 M fun s hs=>hM s (by simp[hs]))⟩
    ·cases h
theorem vA:∀{l:List (Nat×Option bI)}{id:Nat}{b:bI},zY l id=some b→∃x∈l,x.1=id∧x.2=some b
 |[],_,_,h=>by simp[zY]at h
 |(d,b')::r,id,b,h=>by
  simp only[zY]at h;cases e:Nat.beq id d with
  |true=>rw[e]at h;exact⟨(d,b'),by simp,(Nat.eq_of_beq_eq_true e).symm,h⟩
  |false=>rw[e]at h;obtain⟨x,hx,h1,h2⟩:=vA h;exact⟨x,by simp[hx],h1,h2⟩
theorem wE:∀{l:List (Nat×Option bI)}{id:Nat},(∀x∈l,x.2.isSome=true)→(∃x∈l,x.1=id)→(zY l id).isSome=true
 |[],_,_,⟨x,hx,_⟩=>by cases hx
 |(d,b')::r,id,h,⟨x,hx,he⟩=>by
  simp only[zY];cases e:Nat.beq id d with
  |true=>exact h (d,b') (by simp)
  |false=>
   rcases List.mem_cons.1 hx with rfl|hx
   ·simp only at he;subst he;simp[Nat.beq_refl]at e
   ·exact wE (fun y hy=>h y (by simp[hy])) ⟨x,hx,he⟩
theorem Tm{m:Mem}:∀{bs:List (Nat×Pe)}{k:Ff bs→Option R}{r:R},qt m bs k=some r→∃x,k x=some r∧(fU bs x).map (·.1)=bs.map (·.1)∧(∀y∈fU bs x,∃b,y.2=some b∧m y.1=some b)∧∀M,(∀y∈bs,y.2.within M=true)→∀y∈fU bs x,∀b,y.2=some b→b.within M=true:=by
 intro bs;induction bs with
 |nil=>intro k r h;exact⟨(),h,rfl,by simp[fU],by simp[fU]⟩
 |cons y bs ih=>
  intro k r h;obtain⟨id,sh⟩:=y;cases sh with
  |box cs=>
   simp only[qt]at h;split at h
   ·rename_i vs hm;obtain⟨t,t1,t2,t3,t4⟩:=ih h;obtain⟨x,x1,x2,x3,x4⟩:=LW t1;refine⟨x,x1,by simp only[fU,x2];simp[t2],fun y hy=>?_,fun M hM y hy b hb=>?_⟩
    ·simp only[fU,x2]at hy;rcases List.mem_cons.1 hy with rfl|hy
     ·exact⟨_,rfl,hm⟩
     ·exact t3 y hy
    ·simp only[fU,x2]at hy;rcases List.mem_cons.1 hy with rfl|hy
     ·simp only[Option.some.injEq]at hb;subst hb;simp only[bI.within];refine x4 M fun s hs=>?_;have:=hM (id,.box cs) (by simp);simp only[Pe.within,List.all_eq_true]at this;exact this s hs
     ·exact t4 M (fun z hz=>hM z (by simp[hz])) y hy b hb
   ·cases h
  |arr sz et=>
   simp only[qt]at h;split at h
   ·rename_i B7 Ag es hm;split at h
    ·rename_i he;obtain⟨rfl,rfl⟩:=he;obtain⟨t,t1,t2,t3,t4⟩:=ih h;refine⟨(es,t),t1,by simp only[fU];simp[t2],fun y hy=>?_,fun M hM y hy b hb=>?_⟩
     ·simp only[fU]at hy;rcases List.mem_cons.1 hy with rfl|hy
      ·exact⟨_,rfl,hm⟩
      ·exact t3 y hy
     ·simp only[fU]at hy;rcases List.mem_cons.1 hy with rfl|hy
      ·simp only[Option.some.injEq]at hb;subst hb;rfl
      ·exact t4 M (fun z hz=>hM z (by simp[hz])) y hy b hb
    ·cases h
   ·cases h
  |nr sz et=>
   simp only[qt]at h;split at h
   ·rename_i B7 Ag es hm;split at h
    ·rename_i he;obtain⟨rfl,rfl⟩:=he;obtain⟨t,t1,t2,t3,t4⟩:=ih h;refine⟨(es,t),t1,by simp only[fU];simp[t2],fun y hy=>?_,fun M hM y hy b hb=>?_⟩
     ·simp only[fU]at hy;rcases List.mem_cons.1 hy with rfl|hy
      ·exact⟨_,rfl,hm⟩
      ·exact t3 y hy
     ·simp only[fU]at hy;rcases List.mem_cons.1 hy with rfl|hy
      ·simp only[Option.some.injEq]at hb;subst hb;rfl
      ·exact t4 M (fun z hz=>hM z (by simp[hz])) y hy b hb
    ·cases h
   ·cases h
  |nest sz et=>
   simp only[qt]at h;split at h
   ·rename_i B7 Ag es hm;split at h
    ·rename_i he;obtain⟨rfl,rfl⟩:=he;obtain⟨t,t1,t2,t3,t4⟩:=ih h;refine⟨(es,t),t1,by simp only[fU];simp[t2],fun y hy=>?_,fun M hM y hy b hb=>?_⟩
     ·simp only[fU]at hy;rcases List.mem_cons.1 hy with rfl|hy
      ·exact⟨_,rfl,hm⟩
      ·exact t3 y hy
     ·simp only[fU]at hy;rcases List.mem_cons.1 hy with rfl|hy
      ·simp only[Option.some.injEq]at hb;subst hb;rfl
      ·exact t4 M (fun z hz=>hM z (by simp[hz])) y hy b hb
    ·cases h
   ·cases h
  |eU kt et=>
   simp only[qt]at h;split at h
   ·rename_i sr Ag es hm;split at h
    ·rename_i he;obtain⟨rfl,rfl⟩:=he;obtain⟨t,t1,t2,t3,t4⟩:=ih h;refine⟨(es,t),t1,by simp only[fU];simp[t2],fun y hy=>?_,fun M hM y hy b hb=>?_⟩
     ·simp only[fU]at hy;rcases List.mem_cons.1 hy with rfl|hy
      ·exact⟨_,rfl,hm⟩
      ·exact t3 y hy
     ·simp only[fU]at hy;rcases List.mem_cons.1 hy with rfl|hy
      ·simp only[Option.some.injEq]at hb;subst hb;rfl
      ·exact t4 M (fun z hz=>hM z (by simp[hz])) y hy b hb
    ·cases h
   ·cases h
  |map kt=>
   simp only[qt]at h;split at h
   ·rename_i sr es hm;split at h
    ·rename_i he;subst he;obtain⟨t,t1,t2,t3,t4⟩:=ih h;refine⟨(es,t),t1,by simp only[fU];simp[t2],fun y hy=>?_,fun M hM y hy b hb=>?_⟩
     ·simp only[fU]at hy;rcases List.mem_cons.1 hy with rfl|hy
      ·exact⟨_,rfl,hm⟩
      ·exact t3 y hy
     ·simp only[fU]at hy;rcases List.mem_cons.1 hy with rfl|hy
      ·simp only[Option.some.injEq]at hb;subst hb;rfl
      ·exact t4 M (fun z hz=>hM z (by simp[hz])) y hy b hb
    ·cases h
   ·cases h
  |iter ty=>
   simp only[qt]at h;split at h
   ·rename_i t' es hm;split at h
    ·rename_i he;subst he;obtain⟨t,t1,t2,t3,t4⟩:=ih h;refine⟨(es,t),t1,by simp only[fU];simp[t2],fun y hy=>?_,fun M hM y hy b hb=>?_⟩
     ·simp only[fU]at hy;rcases List.mem_cons.1 hy with rfl|hy
      ·exact⟨_,rfl,hm⟩
      ·exact t3 y hy
     ·simp only[fU]at hy;rcases List.mem_cons.1 hy with rfl|hy
      ·simp only[Option.some.injEq]at hb;subst hb;rfl
      ·exact t4 M (fun z hz=>hM z (by simp[hz])) y hy b hb
    ·cases h
   ·cases h
  |loop=>
   simp only[qt]at h;split at h
   ·rename_i hm;obtain⟨t,t1,t2,t3,t4⟩:=ih h;refine⟨t,t1,by simp only[fU];simp[t2],fun y hy=>?_,fun M hM y hy b hb=>?_⟩
    ·simp only[fU]at hy;rcases List.mem_cons.1 hy with rfl|hy
     ·exact⟨_,rfl,hm⟩
     ·exact t3 y hy
    ·simp only[fU]at hy;rcases List.mem_cons.1 hy with rfl|hy
     ·simp only[Option.some.injEq]at hb;subst hb;rfl
     ·exact t4 M (fun z hz=>hM z (by simp[hz])) y hy b hb
   ·cases h
  |busy=>
   simp only[qt]at h;split at h
   ·rename_i hm;obtain⟨t,t1,t2,t3,t4⟩:=ih h;refine⟨t,t1,by simp only[fU];simp[t2],fun y hy=>?_,fun M hM y hy b hb=>?_⟩
    ·simp only[fU]at hy;rcases List.mem_cons.1 hy with rfl|hy
     ·exact⟨_,rfl,hm⟩
     ·exact t3 y hy
    ·simp only[fU]at hy;rcases List.mem_cons.1 hy with rfl|hy
     ·simp only[Option.some.injEq]at hb;subst hb;rfl
     ·exact t4 M (fun z hz=>hM z (by simp[hz])) y hy b hb
   ·cases h
mutual
theorem Bn{M:List Nat}{id:Nat}:∀(v:V),v.within M=true→v.has id=true→id∈M
 |.agg cs,h,hh=>mo cs (by simpa only[V.within]using h) (by simpa only[V.has]using hh)
 |.bj cs,h,hh=>mo cs (by simpa only[V.within]using h) (by simpa only[V.has]using hh)
 |.fn _ cs,h,hh=>mo cs (by simpa only[V.within]using h) (by simpa only[V.has]using hh)
 |.os j,h,hh=>by have:=Nat.eq_of_beq_eq_true hh;subst this;simpa[V.within]using h
 |.ff j _ _,h,hh=>by have:=Nat.eq_of_beq_eq_true hh;subst this;simpa[V.within]using h
 |.oe j _ _,h,hh=>by have:=Nat.eq_of_beq_eq_true hh;subst this;simpa[V.within]using h
 |.om j,h,hh=>by have:=Nat.eq_of_beq_eq_true hh;subst this;simpa[V.within]using h
 |.sD j _ _,h,hh=>by have:=Nat.eq_of_beq_eq_true hh;subst this;simpa[V.within]using h
 |.vU j _ _ _ _ _,h,hh=>by have:=Nat.eq_of_beq_eq_true hh;subst this;simpa[V.within]using h
 |.op j _,h,hh=>by have:=Nat.eq_of_beq_eq_true hh;subst this;simpa[V.within]using h
 |.it j,h,hh=>by have:=Nat.eq_of_beq_eq_true hh;subst this;simpa[V.within]using h
 |.yl j,h,hh=>by have:=Nat.eq_of_beq_eq_true hh;subst this;simpa[V.within]using h
 |.pv _,_,hh=>by cases hh
 |.ba,_,hh=>by cases hh
 |.top,_,hh=>by cases hh
theorem mo{M:List Nat}{id:Nat}:∀(cs:List V),iO M cs=true→cq id cs=true→id∈M
 |[],_,hh=>by cases hh
 |v::r,h,hh=>by
  simp only[iO,Bool.and_eq_true]at h;simp only[cq,Bool.or_eq_true]at hh;rcases hh with hh|hh
  ·exact Bn v h.1 hh
  ·exact mo r h.2 hh
end
theorem Qu{f:Fr}:∀(aB:List (Nat×Sh))(t:Nat),HY (nO aB (aB.map fun(x:Nat×Sh)=>f x.1)) t=f t∨HY (nO aB (aB.map fun(x:Nat×Sh)=>f x.1)) t=.top
 |[],t=>.inr rfl
 |(d,s)::r,t=>by
  simp only[List.map_cons,nO,HY,fg];cases e:Nat.beq t d with
  |true=>have:=Nat.eq_of_beq_eq_true e;subst this;exact .inl rfl
  |false=>exact Qu r t
theorem Bo{f:Fr}{M:List Nat}:∀(aB:List (Nat×Sh)),iO M (aB.map fun(x:Nat×Sh)=>f x.1)=true→∀t,(HY (nO aB (aB.map fun(x:Nat×Sh)=>f x.1)) t).within M=true
 |[],_,t=>rfl
 |(d,s)::r,h,t=>by
  simp only[List.map_cons,iO,Bool.and_eq_true]at h;simp only[List.map_cons,nO,HY,fg];cases e:Nat.beq t d with
  |true=>have:=Nat.eq_of_beq_eq_true e;subst this;exact h.1
  |false=>exact Bo r h.2 t
theorem Qv{T:fB}{f:Fr}{m:Mem}{k:T.ty→Option R}{r:R}(h:enc T f m k=some r):∃x,k x=some r∧su (H4 T x) f∧(∀id b,Am T x id=some b→m id=some b)∧(∀t id,(H4 T x t).has id=true→(Am T x id).isSome=true)∧∀j cs id,Am T x j=some (.box cs)→cq id cs=true→(Am T x id).isSome=true:=by
 unfold enc at h;split at h
 ·rename_i vS;obtain⟨t,t1,t2,t3,t4⟩:=Tm h;obtain⟨x,x1,x2,x3,x4⟩:=LW t1;simp only[fB.ok,Bool.and_eq_true,List.all_eq_true]at vS;have px:∀id,id∈T.cd.map (·.1)→(Am T x id).isSome=true:=fun id hid=>by
   unfold Am;rw[x2];refine wE (fun y hy=>?_) ?_
   ·obtain⟨b,hb,_⟩:=t3 y hy;rw[hb];rfl
   ·rw[←t2]at hid;obtain⟨y,hy,he⟩:=List.mem_map.1 hid;exact⟨y,hy,he⟩
  refine⟨x,x1,fun s=>?_,fun id b hb=>?_,fun s id hid=>px id ?_,fun j cs id hj hh=>px id ?_⟩
  ·unfold H4;rw[x2];exact Qu T.aB s
  ·unfold Am at hb;rw[x2]at hb;obtain⟨y,hy,h1,h2⟩:=vA hb;obtain⟨b',fL,hm⟩:=t3 y hy;rw[h2]at fL;cases fL;rw[←h1];exact hm
  ·have hw:=x4 (T.cd.map (·.1)) fun s hs=>by simp only[fB.il,List.mem_map]at hs;obtain⟨y,hy,rfl⟩:=hs;exact vS.1 y hy
   have:=Bo (M:=T.cd.map (·.1)) T.aB hw s;unfold H4 at hid;rw[x2]at hid;exact Bn _ this hid
  ·unfold Am at hj;rw[x2]at hj;obtain⟨y,hy,h1,h2⟩:=vA hj;have:=t4 (T.cd.map (·.1)) (fun z hz=>vS.2 z hz) y hy _ h2;exact mo _ (by simpa only[bI.within]using this) hh
 ·cases h
section
variable {E:Env} {w0:bt}
variable{nt:Nat}{μ:Ro}{φ:Nat→aC}{f:Fr}{m:Mem}{a:Act}{w:World}
theorem Rel.dec{f':Fr}{m':Mem}(h:Rel E.P E.aD nt w0 μ φ f m a w)(hf:su f' f)(hm:∀id b,m' id=some b→m id=some b)(hl:∀t id,(f' t).has id=true→(m' id).isSome=true)(hb:∀j cs id,m' j=some (.box cs)→cq id cs=true→(m' id).isSome=true):Rel E.P E.aD nt w0 μ φ f' m' a w:={below:=h.below,ro:=h.ro,aD:=h.aD,dG:=fun id b hb=>h.dG id b (hm id b hb),own:=fun id b g hb hg=>h.own id b g (hm id b hb) hg,inj:=fun OU id2 b1 b2 g h1 h2=>h.inj OU id2 b1 b2 g (hm _ _ h1) (hm _ _ h2),apart:=fun id b hb=>h.apart id b (hm id b hb),fh:=hb,base:=h.base,dC:=h.dC,yC:=fun id st hid=>h.yC id st (hm _ _ hid),size:=h.size,defers:=h.defers,kv:=h.kv,fr:=(h.weaken hf).fr,live:=hl}
theorem Rel.set(h:Rel E.P E.aD nt w0 μ φ f m a w){t:Nat}{p:PV}(hp:ah E.P μ p (aB nt w0 a t)):Rel E.P E.aD nt w0 μ φ (fg f t (.pv p)) m a w:=
 {toau:=h.toau,size:=h.size,defers:=h.defers,kv:=h.kv,fr:=fun s=>by
   by_cases e:s=t
   ·subst e;rw[re];exact .pv hp
   ·rw[nU e];exact h.fr s,
  live:=fun s id hid=>by
   by_cases e:s=t
   ·subst e;rw[re]at hid;cases hid
   ·rw[nU e]at hid;exact h.live s id hid}
theorem Rel.freeze{nt:Nat}{μ:Ro}{φ:Nat→aC}{f:Fr}{m:Mem}{a:Act}{w:World}(h:Rel E.P E.aD nt w0 μ φ f m a w){id sz:Nat}{et:TypeId}{es:List PV}(hm:m id=some (.arr sz et es)):Rel E.P E.aD nt w0 (mY μ w (φ id).g) φ f (al m id (.nr sz et es)) a w:=
 {toau:=h.toau.freeze hm,size:=h.size,defers:=h.defers.mono (jO h.toau _),kv:=h.kv,fr:=fun s=>(h.fr s).uM (jO h.toau _),live:=fun s i hid=>by
   by_cases e:i=id
   ·subst e;rw[aL];rfl
   ·rw[an e];exact h.live s i hid}
theorem qI{A:Type}{nt:Nat}{a:Act}{w:World}:∀{l:List (Nat×Nat)}{μ:Ro}{φ:Nat→aC}{f:Fr}{m:Mem}{k:Fr→Mem→A}{r:A},yy l f m k=r→Rel E.P E.aD nt w0 μ φ f m a w→∃f' m' μ',k f' m'=r∧Rel E.P E.aD nt w0 μ' φ f' m' a w
 |[],μ,φ,f,m,k,r,h,hR=>⟨f,m,μ,h,hR⟩
 |(t,sz)::l,μ,φ,f,m,k,r,h,hR=>by
  unfold yy at h;split at h
  ·rename_i id hf;have hx:af E.P μ φ (.os id) (aB nt w0 a t):=hf▸hR.fr t;split at h
   ·rename_i s et es hm;have hF:=hR.freeze hm;have hA:=hF.toau.arr (.inr (aL m id _));have hp:ah E.P (mY μ w (φ id).g) (.rs s es) (aB nt w0 a t):=hA.full hF.toau (hx.uM (jO hR.toau _)) (fun _ _ h=>h) (fun g hg=>by simp[mY,hg]);exact qI h (hF.set hp)
   ·rename_i s et es hm;have hB:fM E.P μ φ w id (.nr s et es):=hR.dG id _ hm;have hp:ah E.P μ (.rs s es) (aB nt w0 a t):=(hR.toau.arr (.inr hm)).full hR.toau hx (fun _ _ h=>h) (fun g hg=>by obtain⟨o,ho⟩:=Option.isSome_iff_exists.1 (hB.2 g hg);rw[ho,hR.ro _ _ ho]);exact qI h (hR.set hp)
   ·exact qI h hR
  ·rename_i hf;have hx:af E.P μ φ .ba (aB nt w0 a t):=hf▸hR.fr t;have hp:ah E.P μ (.rs sz []) (aB nt w0 a t):=by generalize aB nt w0 a t=y at hx;cases hx;exact .ja
   exact qI h (hR.set hp)
  ·exact qI h hR
variable{id:Nat}
theorem Ge{u:V}:∀(cs:List V)(j:Nat),cq id (cs.set j u)=true→cq id cs=true∨u.has id=true:=by
 intro cs j h;obtain⟨v,hv,hh⟩:=cS.1 h;rcases List.mem_or_eq_of_mem_set hv with h1|h1
 ·exact .inl (cS.2 ⟨v,h1,hh⟩)
 ·subst h1;exact .inr hh
theorem Rel.Qw(h:Rel E.P E.aD nt w0 μ φ f m a w){j:Nat}{cs:List V}{u:V}(hm:m id=some (.box cs))(hj:cs[j]?=some .ba)(hu:af E.P μ φ u (.slice none 0 0))(hl:∀i,u.has i=true→(m i).isSome=true):Rel E.P E.aD nt w0 μ φ f (al m id (.box (cs.set j u))) a w:=by
 have key:∀i b,al m id (.box (cs.set j u)) i=some b→(i=id∧b=.box (cs.set j u))∨m i=some b:=fun i b hb=>by
  by_cases e:i=id
  ·subst e;rw[aL]at hb;exact .inl ⟨rfl,(Option.some.inj hb).symm⟩
  ·rw[an e]at hb;exact .inr hb
 have sg:∀i,(m i).isSome=true→(al m id (.box (cs.set j u)) i).isSome=true:=fun i hi=>by
  by_cases e:i=id
  ·subst e;rw[aL];rfl
  ·rw[an e];exact hi
 have back:∀i b,al m id (.box (cs.set j u)) i=some b→∃b',m i=some b'∧(b.gX=true→b'.gX=true)∧b.rowAt=b'.rowAt:=fun i b hb=>by
  rcases key i b hb with⟨rfl,rfl⟩|hb
  ·exact⟨_,hm,fun _=>rfl,rfl⟩
  ·exact⟨b,hb,fun h=>h,rfl⟩
 exact
 {below:=h.below,ro:=h.ro,aD:=h.aD,dG:=fun i b hb=>by
   rcases key i b hb with⟨rfl,rfl⟩|hb
   ·obtain⟨g,c,T,c1,c2,c3,c4,c5,c6⟩:=h.dG _ _ hm;refine⟨g,c,T,c1,c2,by simpa using c3,fun i v x hv hx=>?_,c5,by simpa using c6⟩;rw[List.getElem?_set]at hv;split at hv
    ·rename_i e;subst e;split at hv
     ·simp only[Option.some.injEq]at hv;subst hv;have:=c4 j .ba x hj hx;cases this;exact hu
     ·cases hv
    ·exact c4 i v x hv hx
   ·exact h.dG i b hb,
  own:=fun i b g hb hg=>by obtain⟨b',fL,AB,l0⟩:=back i b hb;obtain⟨o1,o2⟩:=h.own i b' g fL (by unfold bI.ec at hg⊢;rw[←l0];exact hg);exact⟨o1,fun hb=>o2 (AB hb)⟩,
  inj:=fun OU id2 b1 b2 g h1 h2 g1 g2=>by obtain⟨YA,LH,_,r1⟩:=back OU b1 h1;obtain⟨YB,Nb,_,r2⟩:=back id2 b2 h2;exact h.inj OU id2 YA YB g LH Nb (by unfold bI.ec at g1⊢;rw[←r1];exact g1) (by unfold bI.ec at g2⊢;rw[←r2];exact g2),
  apart:=fun i b hb=>by obtain⟨b',fL,_,l0⟩:=back i b hb;have:=h.apart i b' fL;unfold bI.apart at this⊢;rw[l0];exact this,
  fh:=fun i CJ nb hi hid=>by
   rcases key i _ hi with⟨rfl,he⟩|hi
   ·simp only[bI.box.injEq]at he;subst he;rcases Ge _ _ hid with hid|hid
    ·exact sg _ (h.fh _ _ _ hm hid)
    ·exact sg _ (hl _ hid)
   ·exact sg _ (h.fh _ _ _ hi hid),
  base:=h.base,dC:=h.dC,
  yC:=fun i st hi=>by
   rcases key i _ hi with⟨_,he⟩|hi
   ·cases he
   ·exact h.yC i st hi,
  size:=h.size,defers:=h.defers,kv:=h.kv,fr:=h.fr,
  live:=fun t i hid=>sg _ (h.live t i hid)}
variable{et:TypeId}
theorem Rel.Wh(h:Rel E.P E.aD nt w0 μ φ f m a w){Pm:Nat}(hn:m Pm=none)(ei:0<aO E.P et):∃φ',(φ' Pm).g=none∧Rel E.P E.aD nt w0 μ φ' f (al m Pm (.arr (aO E.P et) et [])) a w:=by
 have hf:fresh false Pm (.arr (aO E.P et) et []) f m (fun f m _=>some (f,m))=some (f,al m Pm (.arr (aO E.P et) et [])):=by simp[fresh,hn]
 obtain⟨f1,m1,_,hk,_,_,sK⟩:=cH hf;simp only[Option.some.injEq,Prod.mk.injEq]at hk;obtain⟨rfl,rfl⟩:=hk;obtain⟨φ',a1,a2,a3⟩:=sK E.P E.aD w0 μ φ w w (aB nt w0 a) (B8 none 0 0 (aO E.P et)) h.toau ⟨h.fr,h.live⟩ ⟨jm.refl _ _,h.toau.ro,fun _ _ _ _ _=>rfl,by simp,fun φ' hp _=>by refine⟨by rw[hp];rfl,by rw[hp],rfl,ei,by simp,by rw[hp];simp[maxLen],?_⟩;rw[hp];exact⟨rfl,rfl⟩,by simp[bI.names],fun st h=>by cases h⟩;exact⟨φ',by rw[a1],{toau:=a2,size:=h.size,defers:=h.defers,kv:=h.kv,fr:=a3.fr,live:=a3.live}⟩
theorem qJ{A:Type}{nt:Nat}{a:Act}{w:World}:∀{l:List (Nat×Nat×Nat×TypeId)}{μ:Ro}{φ:Nat→aC}{f:Fr}{m:Mem}{k:Mem→A}{r:A},yz E.P l m k=r→Rel E.P E.aD nt w0 μ φ f m a w→∃m' φ',k m'=r∧Rel E.P E.aD nt w0 μ φ' f m' a w
 |[],μ,φ,f,m,k,r,h,hR=>⟨m,φ,h,hR⟩
 |(id,j,Pm,et)::l,μ,φ,f,m,k,r,h,hR=>by
  unfold yz at h;split at h
  ·rename_i cs hm;split at h
   ·rename_i hj;split at h
    ·rename_i hn;split at h
     ·rename_i ei;obtain⟨φ',g0,gW⟩:=hR.Wh hn ei;have cR:id≠Pm:=fun e=>by subst e;rw[hm]at hn;cases hn
      exact qJ h (gW.Qw (by rw[an cR];exact hm) hj (.oX g0) fun i hi=>by have:=Nat.eq_of_beq_eq_true hi;subst this;simp)
     ·exact qJ h hR
    ·exact qJ h hR
   ·exact qJ h hR
  ·exact qJ h hR
theorem wF{A:Type}{nt:Nat}{a:Act}{w:World}:∀{l:List (Nat×Nat×Nat)}{μ:Ro}{φ:Nat→aC}{f:Fr}{m:Mem}{k:Mem→A}{r:A},Cx l m k=r→Rel E.P E.aD nt w0 μ φ f m a w→∃m',k m'=r∧Rel E.P E.aD nt w0 μ φ f m' a w
 |[],μ,φ,f,m,k,r,h,hR=>⟨m,h,hR⟩
 |(id,j,sz)::l,μ,φ,f,m,k,r,h,hR=>by
  unfold Cx at h;split at h
  ·rename_i cs hm;split at h
   ·rename_i hj;exact wF h (hR.Qw hm hj (.pv .ja) (fun i hi=>by cases hi))
   ·exact wF h hR
  ·exact wF h hR
theorem gr{T:Type}{l:List T}{n i:Nat}{e:T}(h:(l.take n)[i]?=some e):l[i]?=some e∧i<n:=by
 rw[List.getElem?_take]at h;split at h
 ·exact⟨h,‹_›⟩
 ·cases h
theorem Rel.Tn(h:Rel E.P E.aD nt w0 μ φ f m a w){s:Nat}{es:List PV}(hm:m id=some (.arr s et es)):Rel E.P E.aD nt w0 μ φ f (al m id (.nest s et es)) a w:=by
 have hA:aJ E.P μ φ w id s et es:=h.dG id _ hm;have key:∀i b,al m id (.nest s et es) i=some b→(i=id∧b=.nest s et es)∨m i=some b:=fun i b hb=>by
  by_cases e:i=id
  ·subst e;rw[aL]at hb;exact .inl ⟨rfl,(Option.some.inj hb).symm⟩
  ·rw[an e]at hb;exact .inr hb
 have sg:∀i,(m i).isSome=true→(al m id (.nest s et es) i).isSome=true:=fun i hi=>by
  by_cases e:i=id
  ·subst e;rw[aL];rfl
  ·rw[an e];exact hi
 have hN:aS E.P μ φ w id s et es:=by
  obtain⟨h1,h2,h3,h4,h5,h6,h7⟩:=hA;refine⟨h1,h2,h3,h4,h5,h6,?_⟩;cases hg:(φ id).g with
  |none=>rw[hg]at h7;exact h7
  |some g=>rw[hg]at h7;obtain⟨c,c1,c2,c3,c4,c5⟩:=h7;exact⟨c,c1,c2,c3,fun i e j p x he hp hx=>.pure (c4 i e j p x he hp hx),c5⟩
 have xD:∀i off,(bI.nest s et es).rowAt i off=true→False:=fun i off hr=>by
  rcases iB hr with⟨_,_,_,e,s',rs,hb,he,hp⟩|⟨_,_,_,_,_,_,hb,_⟩
  ·cases hb;obtain⟨h1,h2,h3,h4,h5,h6,h7⟩:=hA;cases hg:(φ id).g with
   |none=>rw[hg]at h7;obtain⟨rfl,_⟩:=h7;simp at he
   |some g=>
    rw[hg]at h7;obtain⟨c,c1,c2,c3,c4,c5⟩:=h7;have hi:i<es.length:=(List.getElem?_eq_some_iff.1 he).1;have hj:off<s:=by have:=(List.getElem?_eq_some_iff.1 hp).1;rw[h5 _ _ he]at this;exact this
    have bp:i*s+off<c.size:=by have:(i+1)*s≤(φ id).cap*s:=Nat.mul_le_mul_right _ (by omega);rw[Nat.succ_mul]at this;omega
    exact Bool.noConfusion (ah.zK (c4 i e off _ _ he hp (Array.getElem?_eq_getElem bp)))
  ·cases hb
 have afI:∀i off,(bI.arr s et es).rowAt i off=true→False:=nu;have hM:au E.P E.aD w0 μ φ (al m id (.nest s et es)) w:=by
  refine h.toau.LK (fun _ k=>k) (fun j b' hb=>?_) (fun j b' g hb hg=>?_) (fun j b' hb=>?_) (fun j cs i hb hh=>?_) (fun j st hb=>?_)
  ·rcases key j b' hb with⟨rfl,rfl⟩|hb
   ·exact hN
   ·exact h.dG j b' hb
  ·rcases key j b' hb with⟨rfl,rfl⟩|hb
   ·exact⟨j,_,hm,.inl (l5 xD hg),fun _=>rfl,rfl⟩
   ·exact⟨j,b',hb,hg,fun h=>h,rfl⟩
  ·rcases key j b' hb with⟨rfl,rfl⟩|hb
   ·exact nV xD
   ·exact h.apart j b' hb
  ·rcases key j _ hb with⟨_,hb⟩|hb
   ·cases hb
   ·exact sg _ (h.fh j cs i hb hh)
  ·rcases key j _ hb with⟨_,hb⟩|hb
   ·cases hb
   ·exact⟨hb,rfl⟩
 exact{toau:=hM,size:=h.size,defers:=h.defers,kv:=h.kv,fr:=h.fr,live:=fun t i hid=>sg _ (h.live t i hid)}
theorem Bp{A:Type}{nt:Nat}{a:Act}{w:World}:∀{l:List Nat}{μ:Ro}{φ:Nat→aC}{f:Fr}{m:Mem}{k:Mem→A}{r:A},FC l m k=r→Rel E.P E.aD nt w0 μ φ f m a w→∃m',k m'=r∧Rel E.P E.aD nt w0 μ φ f m' a w
 |[],μ,φ,f,m,k,r,h,hR=>⟨m,h,hR⟩
 |id::l,μ,φ,f,m,k,r,h,hR=>by
  unfold FC at h;split at h
  ·rename_i s et es hm;exact Bp h (hR.Tn hm)
  ·exact Bp h hR
theorem Rel.cut(h:Rel E.P E.aD nt w0 μ φ f m a w){j d len s:Nat}{cs:List V}{es:List PV}(hm:m id=some (.box cs))(hj:cs[j]?=some (.ff d 0 len))(hd:m d=some (.arr s et es))(cR:d≠id):∃φ',Rel E.P E.aD nt w0 μ φ' (eO d f) (al (al (aX (bB d m) d) d (.arr s et (es.take len))) id (.box ((cs.map (pk d)).set j (.os d)))) a w:=by
 obtain⟨m',St⟩:∃m',m'=al (al (aX (bB d m) d) d (.arr s et (es.take len))) id (.box ((cs.map (pk d)).set j (.os d))):=⟨_,rfl⟩;rw[←St];obtain⟨g0,c,T,c1,c2,c3,c4,c5,c6⟩:=h.dG _ _ hm;have hA:aJ E.P μ φ w d s et es:=h.dG d _ hd;have xf:j<cs.length:=(List.getElem?_eq_some_iff.1 hj).1;have hx:=c4 j _ _ hj (Array.getElem?_eq_getElem (by omega));obtain⟨φ',f1,f2,f3,f4⟩:∃φ':Nat→aC,(∀i,i≠d→φ' i=φ i)∧(φ' d).g=(φ d).g∧aJ E.P μ φ' w d s et (es.take len)∧af E.P μ φ' (.os d) c[j]:=by
  obtain⟨h1,h2,h3,h4,h5,h6,h7⟩:=hA;generalize c[j]=x at hx;cases hx with
  |nQ hg=>refine⟨φ,fun _ _=>rfl,rfl,?_,.oX hg⟩;rw[hg]at h7;obtain⟨rfl,h7⟩:=h7;refine⟨h1,h2,h3,h4,by simp,h6,?_⟩;rw[hg];exact⟨rfl,h7⟩
  | @ff _ _ _ cap g ad hg hl ha hc OS=>
   rw[hg]at h7;obtain⟨q,q1,q2,q3,q4,q5⟩:=h7;have hlen:(es.take len).length=len:=by rw[List.length_take];omega
   have had:ad=⟨g,0,none⟩:=by
    rcases ha with ha|⟨_,ha⟩
    ·rw[ha];simp
    ·omega
   subst had;refine⟨fun i=>if i=d then{φ d with cap:=cap,len:=len}else φ i,fun i hi=>if_neg hi,by simp,⟨by simp[hlen],by simpa using h2,h3,h4,fun i e he=>h5 i e (gr he).1,by simp;omega,?_⟩,?_⟩
   ·simp only[if_true,hg];refine⟨q,q1,Nat.le_trans (Nat.mul_le_mul_right _ (by omega)) q2,by rw[hlen];exact hc,fun i e j p x he hp hx=>q4 i e j p x (gr he).1 hp hx,fun i x hi hx=>q5 i x (Nat.lt_of_lt_of_le hi (Nat.mul_le_mul_right _ (by rw[hlen];omega))) hx⟩
   ·have:=af.os (P:=E.P) (μ:=μ) (φ:=fun i=>if i=d then{φ d with cap:=cap,len:=len}else φ i) (id:=d) (g:=g) (by simp[hg]);simpa using this
 have key:∀i b,m' i=some b→(i=id∧b=.box ((cs.map (pk d)).set j (.os d)))∨(i=d∧b=.arr s et (es.take len))∨(i≠id∧i≠d∧∃b',m i=some b'∧b=fF d b'):=fun i b hb=>by
  rw[St]at hb;by_cases e:i=id
  ·subst e;rw[aL]at hb;exact .inl ⟨rfl,(Option.some.inj hb).symm⟩
  ·rw[an e]at hb;by_cases e':i=d
   ·subst e';rw[aL]at hb;exact .inr (.inl ⟨rfl,(Option.some.inj hb).symm⟩)
   ·rw[an e']at hb;exact .inr (.inr ⟨e,(eK hb).1,(eK hb).2⟩)
 have sg:∀i,(m i).isSome=true→(m' i).isSome=true:=fun i hi=>by
  rw[St];by_cases e:i=id
  ·subst e;rw[aL];rfl
  ·rw[an e];by_cases e':i=d
   ·subst e';rw[aL];rfl
   ·rw[an e'];exact pM e' hi
 have Wi:∀{i:Nat}{b':bI},(fF d b').names i=true→i≠d:=fun{i b'}hn=>by cases b'<;>simp only[fF,bI.names]at hn<;>first|cases hn|exact(ud hn).2
 have hM:au E.P E.aD w0 μ φ' m' w:=by
  refine h.toau.LK (fun _ k=>k) (fun i b' hb=>?_) (fun i b' g hb hg=>?_) (fun i b' hb=>?_) (fun i CJ i' hb hh=>?_) (fun i st hb=>?_)
  ·rcases key i b' hb with⟨rfl,rfl⟩|⟨rfl,rfl⟩|⟨e1,e2,b2,oY,rfl⟩
   ·refine⟨g0,c,T,by rw[f1 _ (Ne.symm cR)];exact c1,c2,by simpa using c3,fun n v x hv Ic=>?_,c5,by rw[f1 _ (Ne.symm cR)];simpa using c6⟩;rw[List.getElem?_set]at hv;split at hv
    ·rename_i e;subst e;split at hv
     ·simp only[Option.some.injEq]at hv;subst hv;rw[Array.getElem?_eq_getElem (by omega)]at Ic;simp only[Option.some.injEq]at Ic;subst Ic;exact f4
     ·cases hv
    ·simp only[List.getElem?_map,Option.map_eq_some_iff]at hv;obtain⟨v',Ib,rfl⟩:=hv;exact((c4 n v' x Ib Ic).kill d).mono (fun _ _ h=>h) fun i hi=>f1 i (sO hi).2
   ·exact f3
   ·exact(h.dG i b2 oY).kill.cG (fun k hk=>f1 k (Wi hk)) (f1 i e2) (fun _ _ h=>h) (fun _ _=>rfl)
  ·rcases key i b' hb with⟨rfl,rfl⟩|⟨rfl,rfl⟩|⟨e1,e2,b2,oY,rfl⟩
   ·refine⟨i,_,hm,.inl ?_,fun _=>rfl,rfl⟩;have:=l5 (by intro i off h;simp[bI.rowAt]at h) hg;rw[←this,f1 _ (Ne.symm cR)]
   ·refine⟨i,_,hd,.inl ?_,fun _=>rfl,rfl⟩;rw[←f2];exact l5 nu hg
   ·refine⟨i,b2,oY,?_,fun AB=>by rw[ue]at AB;exact AB,rfl⟩;rw[f1 i e2]at hg;exact fC.1 hg
  ·rcases key i b' hb with⟨rfl,rfl⟩|⟨rfl,rfl⟩|⟨e1,e2,b2,oY,rfl⟩
   ·exact nV (by intro i off h;simp[bI.rowAt]at h)
   ·exact nV nu
   ·rw[f1 i e2];exact ri.2 (h.apart i b2 oY)
  ·rcases key i _ hb with⟨rfl,hb⟩|⟨rfl,hb⟩|⟨e1,e2,b2,oY,e⟩
   ·simp only[bI.box.injEq]at hb;subst hb;rcases Ge _ _ hh with hh|hh
    ·exact sg _ (h.fh _ _ _ hm (ud hh).1)
    ·have:=Nat.eq_of_beq_eq_true hh;subst this;exact sg _ (by rw[hd];rfl)
   ·cases hb
   ·cases b2 with
    |box cs2=>simp only[fF,bI.box.injEq]at e;subst e;exact sg _ (h.fh _ _ _ oY (ud hh).1)
    |_=>simp[fF]at e
  ·rcases key i _ hb with⟨rfl,hb⟩|⟨rfl,hb⟩|⟨e1,e2,b2,oY,e⟩
   ·cases hb
   ·cases hb
   ·cases b2 with
    |loop st2=>simp only[fF,bI.loop.injEq]at e;subst e;exact⟨oY,by rw[f1 i e2]⟩
    |_=>simp[fF]at e
 exact⟨φ',{toau:=hM,size:=h.size,defers:=h.defers,kv:=h.kv,fr:=(fun t=>((h.fr t).kill d).mono (fun _ _ h=>h) fun i hi=>f1 i (sO hi).2),live:=fun t i hid=>sg _ (h.live t i (sO hid).1)}⟩
theorem qK{A:Type}{nt:Nat}{a:Act}{w:World}:∀{l:List (Nat×Nat)}{μ:Ro}{φ:Nat→aC}{f:Fr}{m:Mem}{k:Fr→Mem→A}{r:A},yA l f m k=r→Rel E.P E.aD nt w0 μ φ f m a w→∃f' m' φ',k f' m'=r∧Rel E.P E.aD nt w0 μ φ' f' m' a w
 |[],μ,φ,f,m,k,r,h,hR=>⟨f,m,φ,h,hR⟩
 |(id,j)::l,μ,φ,f,m,k,r,h,hR=>by
  unfold yA at h;split at h
  ·rename_i cs hm;split at h
   ·rename_i d len hj;split at h
    ·rename_i s et es hd;split at h
     ·exact qK h hR
     ·rename_i cR;have cR:d≠id:=fun e=>cR (by rw[e];exact Nat.beq_refl _);obtain⟨φ',gW⟩:=hR.cut hm hj hd cR;exact qK h gW
    ·exact qK h hR
   ·exact qK h hR
  ·exact qK h hR
theorem Gf{A:Type}{T:fB}{k:Fr→Mem→A}{r:A}(h:Cy E.P T f m k=r)(hR:Rel E.P E.aD nt w0 μ φ f m a w):∃f' m' μ' φ',k f' m'=r∧Rel E.P E.aD nt w0 μ' φ' f' m' a w:=by unfold Cy at h;obtain⟨_,_,_,h,hR⟩:=qK h hR;obtain⟨m1,φ1,h,hR⟩:=qJ h hR;obtain⟨m',h,hR⟩:=wF h hR;obtain⟨m',h,hR⟩:=Bp h hR;obtain⟨f',m',μ',h,hR⟩:=qI h hR;exact⟨f',m',μ',φ1,h,hR⟩
def Qx:Ex→Exit
 |.normal=>.normal
 |.exit id=>.exit id
 |.ret=>.ret
theorem Rel.Qy(h:Rel E.P E.aD nt w0 μ φ f m a w):Rel E.P E.aD nt w0 μ φ f m a {w with drawn:=w.drawn+1}:={toau:=h.toau.drew,size:=h.size,defers:=h.defers,kv:=h.kv,fr:=h.fr,live:=h.live}
theorem NJ{rd:Option Nat}(hE:iv E)(hY:qv E.P E.aD E.fn.ntmps E.yl w0){R:Type}{ops:Array Oper}{draw:Bool}{k:Ex→Fr→Mem→Option R}{r:R}(h:eY E (.region id ops draw) f m k=some r){Q:Exit→Act→World→Prop}(hR:Rel E.P E.aD E.fn.ntmps w0 μ φ f m a w)(hQ:∀f' m' μ' φ' a' w',k .normal f' m'=some r→Rel E.P E.aD E.fn.ntmps w0 μ' φ' f' m' a' w'→Q .normal a' w'):(Code.region id ops draw).wpIn (FR rd) 0 E.P Q a w:=by
 simp only[eY]at h;cases draw with
 |false=>
  simp only[Bool.false_eq_true,if_false]at h;refine wpIn_region ?_;have hmz:∀x∈(List.range ops.size).zip ops.toList,ops[x.1]?=some x.2:=fun x hx=>by have:=(pT (l:=ops.toList) (i:=x.1) (o:=x.2)).1 (by simpa using hx);rwa[Array.getElem?_toList]at this
  have:=gk (rd:=rd) hE hY _ (.inl rfl) h hmz (by intro x hx g hg;cases hg) (fun h=>by cases h) μ φ a w Q [] hR (by intro g hg;cases hg) fun f' m' μ' φ' a' w' hk gW _ _=>hQ f' m' μ' φ' a' w' hk gW;rw[List.append_nil,List.map_fst_zip (by simp)]at this;exact this
 |true=>
  simp only[if_true]at h;split at h
  ·split at h
   ·rename_i hc;simp only[Bool.and_eq_true]at hc;exact wpIn_region_any hE.mixed (II hE hY hc.1.1 hc.1.2 hc.2 h hR.Qy hQ)
   ·cases h
  split at h
  ·rename_i hi;refine wpIn_region_any hE.mixed ?_;split at h
   ·rename_i zu;exact Bl hE hY (.inl rfl) (fun _ o ho=>List.all_eq_true.1 zu o (Array.mem_toList_iff.2 ho)) hi h hR.Qy hQ
   ·exact Bl hE hY (.inr rfl) (fun h=>by cases h) hi h hR.Qy hQ
  ·cases h
end
theorem To{g:FuncId}{fn:Func}(hf:P.funcs[g]?=some fn)(P1:(fn.name== "runtime.NumGoroutine")=false)(hb:fn.body=some c){args:Array Value}{w:World}:(callFunc g args).run P w=.ok (.enter g args) w:=ui hf P1 hb
theorem NK{nt:Nat}{w0:bt}{a:Act}{t:Nat}:aB nt w0 a (t+nt)=w0.sv (t+nt):=by unfold aB;rw[if_neg (by omega)]
def xL(c:Code):Prop:=∀{E:Env}{w0:bt}{rd:Option Nat}(_:iv E)(_:qv E.P E.aD E.fn.ntmps E.yl w0)(_:E.Vt=false→rd=none){R:Type}{f:Fr}{m:Mem}{k:Ex→Fr→Mem→Option R}{r:R},eY E c f m k=some r→∀{μ:Ro}{φ:Nat→aC}{a:Act}{w:World}{Q:Exit→Act→World→Prop},Rel E.P E.aD E.fn.ntmps w0 μ φ f m a w→(∀e f' m' μ' φ' a' w',k e f' m'=some r→Rel E.P E.aD E.fn.ntmps w0 μ' φ' f' m' a' w'→Q (Qx e) a' w')→c.wpIn (FR rd) 0 E.P Q a w
theorem Qz{as b:Code}(ZA:xL as)(ZB:xL b){E:Env}(hE:iv E){w2:bt}{lid l ZC:Nat}{ps:Array Nat}{rc:Loop}{fid:Nat}(Tj:w2.rc lid=some (l,rc))(lN:rc.params=ps)(has:rc.assign=as)(hb:rc.body=b)(kD:rc.tmps.size=E.fn.ntmps)(hsv:∀t,t<E.fn.ntmps→w2.sv (t+ZC)=rc.tmps.getD t undef):qv E.P E.aD ZC (fun _ nt _ id args F m k=>bif Nat.beq id lid then roundOf (eY {E with fid:=fid,yl:=xj,Vt:=true} as) (eY {E with fid:=fid,yl:=xj,Vt:=true} b) lid E.fn.ntmps ps.toList nt args F m k else none) w2:=by
 intro R site id args F m k r hy μ φ ρ w xs hM hF hρ hl hr DO g hg;dsimp only at hy;cases hid:Nat.beq id lid with
 |false=>rw[hid]at hy;cases hy
 |true=>
  rw[hid]at hy;have hid:=Nat.eq_of_beq_eq_true hid;subst hid;simp only[cond_true]at hy;unfold roundOf at hy;split at hy
  ·rename_i O1;split at hy
   ·rename_i M6;obtain⟨g',rc',l1,l2,l3⟩:=hM.yC id _ O1;rw[Tj]at l2;simp only[Option.some.injEq,Prod.mk.injEq]at l2;obtain⟨rfl,rfl⟩:=l2;rw[l1]at hg;simp only[Option.some.injEq]at hg;subst hg;have FO:xs.size=(HM.ready.obj rc).params.size:=by
     have:ps.toList.length=ps.size:=by simp
     show xs.size=rc.params.size;rw[lN];omega
    refine⟨_,_,_,_,run_yield l3 FO,?_⟩;have XN:iv {E with fid:=fid,yl:=xj,Vt:=true}:=⟨hE.mixed,hE.lp,hE.ctx,hE.own,hE.inl,hE.Vs⟩;have UJ:=C4 (P:=E.P) (μ:=μ) (φ:=φ) ps.toList args xs.toList (sF ZC F) rc.tmps kD (by simpa using hl) (fun t ht=>by have:=hF.fr (t+ZC);rw[hρ _ (by omega),hsv t ht]at this;exact this) (fun i v x hv hx=>hr i v x hv (by simpa using hx));have Zx:Rel E.P E.aD E.fn.ntmps {w2 with sv:=fun t=>ρ (t-E.fn.ntmps),dC:=μ,kv:=fun _=>none} μ φ (Lq E.fn.ntmps (An ps.toList args (sF ZC F)) F) m {tmps:=((HM.ready.obj rc).params.zip xs).foldl (fun tmps(t,a)=>tmps.setIfInBounds t a) (HM.ready.obj rc).tmps,defers:=[]} w:=by
     have e:((HM.ready.obj rc).params.zip xs).foldl (fun tmps(t,a)=>tmps.setIfInBounds t a) (HM.ready.obj rc).tmps=(ps.toList.zip xs.toList).foldl (fun tmps(x:Nat×Value)=>tmps.setIfInBounds x.1 x.2) rc.tmps:=by rw[Qt];show(rc.params.toList.zip xs.toList).foldl _ rc.tmps=_;rw[lN]
     rw[e];refine{toau:=hM.sM rfl rfl (fun _ _ h=>h) (fun _ _ _=>rfl),size:=UJ.1,defers:=.nil _ _ _,kv:=fun _ _ h=>(by cases h),fr:=fun t=>?_,live:=fun t id hid=>?_}
     ·unfold Lq aB;by_cases ht:t<E.fn.ntmps
      ·rw[show Nat.blt t E.fn.ntmps=true by rw[Nat.blt_eq];exact ht,if_pos ht];exact UJ.2 t ht
      ·rw[show Nat.blt t E.fn.ntmps=false by rw[←Bool.not_eq_true,Nat.blt_eq];exact ht,if_neg ht];exact hF.fr _
     ·unfold Lq at hid;cases e:Nat.blt t E.fn.ntmps with
      |true=>
       rw[e]at hid;rcases Bm _ _ _ _ hid with h|h
       ·exact DO id h
       ·exact hF.live _ id h
      |false=>rw[e]at hid;exact hF.live _ id hid
    refine roundIn_of_wpIn trivial ?_;show(HM.ready.obj rc).assign.wpIn (FR (some l)) 0 E.P _ _ _;have Uh:(HM.ready.obj rc).assign=as:=has;rw[Uh];refine ZA (rd:=some l) XN (wa _ _ _ _) (fun h=>by cases h) hy Zx fun e f1 m1 μ1 φ1 a1 w1 Nk ID=>?_;split at Nk
    ·rename_i V7;obtain⟨g1,rc1,p1,p2,p3⟩:=ID.yC id _ V7;have p2:w2.rc id=some (g1,rc1):=p2;rw[Tj]at p2;simp only[Option.some.injEq,Prod.mk.injEq]at p2;obtain⟨rfl,rfl⟩:=p2;refine⟨_,run_beginRound p3 rfl,?_⟩;have fL:(HM.ready.obj rc).body=b:=hb;refine Eq.mpr (congrArg (fun c:Code=>c.wpIn (FR (some l)) 0 E.P _ a1 _) fL) ?_;have qA:=ID.toau.turn (st':=.busy) V7 p1 Tj;have adA:Rel E.P E.aD E.fn.ntmps {w2 with sv:=fun t=>ρ (t-E.fn.ntmps),dC:=μ,kv:=fun _=>none} μ1 φ1 f1 (al m1 id (.loop .busy)) a1 (w1.putObj l (.loop {HM.ready.obj rc with state:=.busy})):=
      {toau:=qA,size:=ID.size,defers:=ID.defers,kv:=ID.kv,fr:=ID.fr,live:=fun t j hj=>by
        by_cases e:j=id
        ·subst e;simp
        ·rw[an e];exact ID.live t j hj}
     refine ZB (rd:=some l) XN (wa _ _ _ _) (fun h=>by cases h) Nk adA fun e f2 m2 μ2 φ2 a2 w2' S3 CT=>?_;split at S3
     ·rename_i cN;obtain⟨g2,rc2,q1,q2,q3⟩:=CT.yC id _ cN;have q2:w2.rc id=some (g2,rc2):=q2;rw[Tj]at q2;simp only[Option.some.injEq,Prod.mk.injEq]at q2;obtain⟨rfl,rfl⟩:=q2;have hle:F2 μ μ2:=CT.dC;have hFp:cj E.P μ2 φ2 m2 (sF E.fn.ntmps f2) ρ:=by refine⟨fun t=>?_,fun t id hid=>CT.live _ id hid⟩;have:=CT.fr (t+E.fn.ntmps);rw[NK]at this;simpa[sF]using this
      have fin:∀(st:HM)(v:Bool),k (.pv (.bool v)) (sF E.fn.ntmps f2) (al m2 id (.loop st))=some r→∃v' f' m' y μ' φ',k v' f' m'=some r∧Ending.returned (.bool v)=.returned y∧F2 μ μ'∧au E.P E.aD w2 μ' φ' m' (w2'.putObj l (.loop (st.obj rc)))∧cj E.P μ' φ' m' f' ρ∧af E.P μ' φ' v' y∧∀id,v'.has id=true→(m' id).isSome=true:=by
       intro st v hk;have XL:=CT.toau.turn (st':=st) cN q1 Tj;refine⟨_,_,_,_,μ2,φ2,hk,rfl,hle,XL.sM rfl rfl (fun b o hb=>hle b o (hM.dC b o hb)) (fun _ _ _=>rfl),⟨hFp.fr,fun t j hj=>?_⟩,.pv .bool,fun id hid=>by cases hid⟩;by_cases e:j=id
       ·subst e;simp
       ·rw[an e];exact hFp.live t j hj
      cases e with
      |normal=>exact⟨_,_,run_endRound none q3,fin .ready true S3⟩
      |exit j=>exact⟨_,_,run_endRound (some (.exit j)) q3,fin (.done (.exit j)) false S3⟩
      |ret=>exact⟨_,_,run_endRound (some .ret) q3,fin (.done .ret) false S3⟩
     ·cases S3
    ·cases Nk
   ·cases hy
  ·cases hy
theorem Tp{μ:Ro}{φ:Nat→aC}{m:Mem}{v:V}{g:FuncId}{lI:List V}{y:Value}(h:Vu v=some (g,lI))(hv:af P μ φ v y)(hl:∀id,v.has id=true→(m id).isSome=true):∃xs,y=.func (.func g) #[] xs∧lI.length=xs.size∧(∀(i:Nat)v x,lI[i]?=some v→xs[i]?=some x→af P μ φ v x)∧∀id,cq id lI=true→(m id).isSome=true:=by
 unfold Vu at h;split at h
 ·simp only[Option.some.injEq,Prod.mk.injEq]at h;obtain⟨rfl,rfl⟩:=h;cases hv with
  | @fn _ _ xs h1 h2=>exact⟨xs,rfl,h1,h2,fun id hid=>hl id (by simpa only[V.has]using hid)⟩
 ·simp only[Option.some.injEq,Prod.mk.injEq]at h;obtain⟨rfl,rfl⟩:=h;cases hv with
  |pv hv=>cases hv with
   | @fn _ _ xs h1 h2=>
    refine⟨xs,rfl,by simpa using h1,fun i v x hv hx=>?_,fun id hid=>?_⟩
    ·simp only[List.getElem?_map,Option.map_eq_some_iff]at hv;obtain⟨q,hq,rfl⟩:=hv;exact .pv (h2 i q x hq hx)
    ·obtain⟨v,hv,hh⟩:=cS.1 hid;obtain⟨q,_,rfl⟩:=List.mem_map.1 hv;cases hh
 ·cases h
theorem D9{g:Operand}{ps:Array Tmp}{as b:Code}(ZA:xL as)(ZB:xL b):xL (.rangeFunc g ps as b):=by
 intro E w0 rd hE hY wj R f m k r h μ φ a w Q hR hQ;simp only[eY]at h;split at h
 ·cases h
 rename_i HS;have wj:=wj (by simpa using HS);subst wj;split at h;rotate_left
 ·cases h
 rename_i p0 pr B9;generalize afJ:cE E (some p0)=lid at h;obtain⟨f1,m1,_,h,O1,vl,adB⟩:=cH h;obtain⟨Za,rfl,rfl⟩:=vl rfl;refine wpIn_rangeFunc fun fn _=>?_;obtain⟨rec,Ea⟩:∃rec:Loop,rec={state:=.ready,pending:=none,fn,tmps:=a.tmps,params:=ps,assign:=as,body:=b,defers:=w.heap.size}:=⟨_,rfl⟩;obtain⟨wD,hwD⟩:∃wD,wD=w.alloc (.deferred (some [])):=⟨_,rfl⟩;obtain⟨W1,ZD⟩:∃W1,W1=wD.alloc (.loop rec):=⟨_,rfl⟩;obtain⟨l,hl⟩:∃l,l=wD.heap.size:=⟨_,rfl⟩;have FI:l=w.heap.size+1:=by rw[hl,hwD];simp
 obtain⟨μD,Wj⟩:∃μD,μD=yV μ w (.deferred (some [])):=⟨_,rfl⟩;have QA:F2 μ μD:=Wj▸Gc hR.toau _;have hMD:au E.P E.aD w0 μD φ m wD:=Wj▸hwD▸hR.toau.Tk _;have hD:μD w.heap.size=some (.deferred (some [])):=by rw[Wj];simp[yV]
 obtain⟨w1,LJ⟩:∃w1:bt,w1={w0 with dC:=μD,rc:=fun i=>if i=lid then some (l,rec)else w0.rc i}:=⟨_,rfl⟩;have ZE:au E.P E.aD w1 μD φ m wD:=LJ▸hMD.sM rfl rfl (fun _ _ h=>h) (fun id st hid=>if_neg fun e=>by subst e;rw[Za]at hid;cases hid);have Az:aB E.fn.ntmps w1 a=aB E.fn.ntmps w0 a:=by subst LJ;rfl
 have hFD:cj E.P μD φ m f1 (aB E.fn.ntmps w0 a):=⟨fun t=>(hR.fr t).uM QA,hR.live⟩;have Wk:w1.rc lid=some (l,rec):=by subst LJ;exact if_pos rfl
 have DU:W1.heap[l]?=some (.loop rec):=by rw[ZD,hl];exact heap_alloc_new wD _
 have zq:HM.ready.obj rec=rec:=by subst Ea;rfl
 have pR:jo E.P w1 μD φ m wD W1 lid (.loop .ready) (B8 (some l) 0 0 0):=by
  rw[ZD];refine jo.alloc ZE (by rw[hl]) (fun φ' hp _=>⟨l,rec,by rw[hp],?_⟩) (by simp[bI.names]) fun st sy=>?_
  ·rw[zq,←ZD];exact DU
  ·cases sy;exact⟨l,rec,rfl,Wk,by rw[zq,←ZD];exact DU⟩
 obtain⟨φ1,adC,qA,zt⟩:=adB E.P E.aD w1 μD φ wD W1 (aB E.fn.ntmps w0 a) (B8 (some l) 0 0 0) ZE hFD pR;have ID:Rel E.P E.aD E.fn.ntmps w1 μD φ1 f1 (al m lid (.loop .ready)) a W1:={toau:=qA,size:=hR.size,defers:=(by have:=hR.defers.mono QA;subst LJ;exact this),kv:=(by subst LJ;exact fun b o hb=>QA b o (hR.dC b o (hR.kv b o hb))),fr:=fun t=>by rw[Az];exact zt.fr t,live:=zt.live};have Ny:=ak ID g;split at h;rotate_left
 ·cases h
 rename_i gid lI mJ;obtain⟨xs,hgv,hlen,iP,adD⟩:=Tp mJ Ny.1 Ny.2
 ·clear Ny;obtain⟨fnI,cI,f1,f2,f3,hT⟩:=hE.Vs _ _ _ _ _ _ _ _ _ h;have OR:af E.P μD φ1 (.yl lid) (.func (.yield l) #[] #[]):=.yl (by rw[adC]);have hC:=hT w1 μD φ1 (aB E.fn.ntmps w0 a) W1 (#[.func (.yield l) #[] #[]]++xs) qA zt (by simp;omega) (fun i v x hv hx=>by
    cases i with
    |zero=>simp at hv;subst hv;rw[Array.getElem?_append]at hx;simp at hx;subst hx;exact OR
    |succ i=>simp at hv;rw[Array.getElem?_append_right (by simp)]at hx;exact iP i v x hv (by simpa using hx)) (fun id hid=>by
    simp only[cq,Bool.or_eq_true]at hid;rcases hid with hid|hid
    ·have:=Nat.eq_of_beq_eq_true hid;subst this;simp
    ·exact adD id hid) (by
   refine fun R site id args F m k r hy=>Qz (fid:=site*4096+E.fid%4096) ZA ZB hE (w2:={w1 with sv:=fun t=>aB E.fn.ntmps w0 a (t-fnI.ntmps)}) (rc:=rec) (l:=l) (lid:=lid) (ps:=ps) Wk (by subst Ea;rfl) (by subst Ea;rfl) (by subst Ea;rfl) (by subst Ea;exact hR.size) (fun t ht=>by subst Ea;show aB E.fn.ntmps w0 a (t+fnI.ntmps-fnI.ntmps)=_;rw[Nat.add_sub_cancel,nP ht]) R site id args F m k r hy)
  refine⟨l,[{target:=.collected w.heap.size,args:= #[]}],W1,{target:=.fn (.func gid) xs,args:= #[.func (.yield l) #[] #[]]},W1,gid,#[.func (.yield l) #[] #[]]++xs,W1,?_,?_,?_,?_,?_,?_⟩
  ·have:=run_enterLoop_outer (P:=E.P) (w:=w) fn a.tmps ps as b;rw[FI,ZD,hwD,Ea];exact this
  ·simp only[resolve,hgv];simp[go_sem]
  ·exact fun _ _=>trivial
  ·simp[invoke,go_sem,To f1 f3 f2]
  ·exact fun h=>by cases h
  ·refine FR.LO (hC.mono ?_);rintro e w' ⟨v,f',m',y,μ',φ',hk,rfl,PD,Yq,_,_⟩;have Wl:F2 μD μ':=by have:=PD.dC;subst LJ;exact this
   have hD':μ' w.heap.size=some (.deferred (some [])):=Wl _ _ hD;have main:∀st,m' lid=some (.loop st)→st≠.busy→∃w4,(Instr.endLoop l).run E.P w'=.ok (st.obj rec).pending w4∧Rel E.P E.aD E.fn.ntmps w0 μ' φ' (eO lid f') (aX (bB lid m') lid) {a with defers:=[{target:=.collected w.heap.size,args:= #[]}]++a.defers} w4:=by
    intro st sy YC;obtain⟨g',rc',p1,p2,p3⟩:=PD.yC lid st sy;rw[Wk]at p2;simp only[Option.some.injEq,Prod.mk.injEq]at p2;obtain⟨rfl,rfl⟩:=p2;have q6:=PD.own lid _ _ sy (.inl p1);have hMf:=PD.forget lid;have xD:∀id b,aX (bB lid m') lid id=some b→¬b.ec (φ' id) l:=fun id b' hid e=>by obtain⟨cR,b2,oY,rfl⟩:=eK hid;exact cR (PD.inj id lid b2 _ l oY sy (fC.1 e) (.inl p1))
    have hM4:=hMf.other (.loop {st.obj rec with state:=.exhausted}) q6.1 (q6.2 rfl) xD;have hM5:au E.P E.aD w0 μ' φ' (aX (bB lid m') lid) (w'.putObj l (.loop {st.obj rec with state:=.exhausted})):=hM4.sM (by subst LJ;rfl) (by subst LJ;rfl) (fun b o hb=>Wl b o (QA b o (hR.dC b o hb))) (fun id st hid=>by
      have cR:id≠lid:=fun e=>by subst e;simp at hid
      subst LJ;exact(if_neg cR).symm)
    refine⟨_,run_endLoop p3 (by cases st<;>simp_all[HM.obj]),{toau:=hM5,size:=hR.size,defers:=?_,kv:=hR.kv,fr:=?_,live:=?_}⟩
    ·obtain⟨Ds,e,Ss,hDs⟩:=hR.defers;have bp:∀b o,μ b=some o→b<w.heap.size:=fun b o hb=>(Array.getElem?_eq_some_iff.1 (hR.ro b o hb)).1;refine⟨w.heap.size::Ds,by simp[e],List.nodup_cons.2 ⟨fun hd=>?_,Ss⟩,fun D hd=>?_⟩
     ·have:=bp _ _ (hDs _ hd).2.2;omega
     ·rcases List.mem_cons.1 hd with rfl|hd
      ·refine⟨hR.below.size,?_,hD'⟩;cases ho:w0.kv w.heap.size with
       |none=>rfl
       |some o=>have:=bp _ _ (hR.dC _ _ (hR.kv _ _ ho));omega
      ·exact⟨(hDs D hd).1,(hDs D hd).2.1,Wl _ _ (QA _ _ (hDs D hd).2.2)⟩
    ·exact(Yq.forget lid).fr
    ·exact(Yq.forget lid).live
   dsimp only at hk;split at hk
   ·rename_i sy;obtain⟨w4,e1,e2⟩:=main .ready sy (by simp);exact⟨none,w4,e1,hQ .normal _ _ _ _ _ _ hk e2⟩
   ·rename_i j sy;obtain⟨w4,e1,e2⟩:=main (.done j) sy (by simp);refine⟨some j.code,w4,e1,?_⟩;cases j with
    |ret=>exact wpIn_ret (hQ .ret _ _ _ _ _ _ hk e2)
    |exit id=>exact wpIn_exit (hQ (.exit id) _ _ _ _ _ _ hk e2)
   ·cases hk
theorem QB:∀(c:Code),xL c:=by
 intro c;induction c with
 |skip=>intro E w0 rd hE hY wj R f m k r h μ φ a w Q hR hQ;simp only[eY]at h;exact wpIn_skip (hQ .normal _ _ _ _ _ _ h hR)
 |region id ops draw=>intro E w0 rd hE hY wj R f m k r h μ φ a w Q hR hQ;exact NJ hE hY h hR (hQ .normal)
 |seq x y ihx ihy=>
  intro E w0 rd hE hY wj R f m k r h μ φ a w Q hR hQ;simp only[eY]at h;refine wpIn_seq (ihx hE hY wj h hR fun e f' m' μ' φ' a' w' hk gW=>?_);cases e with
  |normal=>exact ihy hE hY wj hk gW hQ
  |exit id=>exact hQ (.exit id) _ _ _ _ _ _ hk gW
  |ret=>exact hQ .ret _ _ _ _ _ _ hk gW
 |cond c x y ihx ihy=>
  intro E w0 rd hE hY wj R f m k r h μ φ a w Q hR hQ;simp only[eY]at h;split at h
  ·rename_i t b hb;have hv:a.eval (.tmp t)=.bool b:=by have:=(ak hR (.tmp t)).1;rw[hb]at this;exact oc this
   have fL:f t=.pv (.bool b):=(A5 hb).2;have hle:su (fg f t (.pv (.bool b))) f:=fun s=>by
    simp only[fg];cases e:Nat.beq s t with
    |true=>have:=Nat.eq_of_beq_eq_true e;subst this;exact .inl fL.symm
    |false=>exact .inl rfl
   cases b with
   |true=>simp only[if_true]at h;exact wpIn_cond_true hv (ihx hE hY wj h (hR.weaken hle) hQ)
   |false=>simp only[Bool.false_eq_true,if_false]at h;exact wpIn_cond_false hv (ihy hE hY wj h (hR.weaken hle) hQ)
  ·cases h
 |block id b ih=>
  intro E w0 rd hE hY wj R f m k r h μ φ a w Q hR hQ;simp only[eY]at h;refine wpIn_block (ih hE hY wj h hR fun e f' m' μ' φ' a' w' hk gW=>?_);cases e with
  |normal=>exact hQ .normal _ _ _ _ _ _ hk gW
  |exit j=>
   simp only[Ex.Pn]at hk;simp only[Qx,Exit.inBlock];split at hk
   ·rename_i hj;rw[if_pos hj];exact hQ .normal _ _ _ _ _ _ hk gW
   ·rename_i hj;rw[if_neg hj];exact hQ (.exit j) _ _ _ _ _ _ hk gW
  |ret=>exact hQ .ret _ _ _ _ _ _ hk gW
 |loop b ih=>
  intro E w0 rd hE hY wj R f m k r h μ φ a w Q hR hQ;simp only[eY]at h;split at h
  ·rename_i T _;obtain⟨f,m,μ,φ,h,hR⟩:=Gf h hR;obtain⟨s,hs,s1,s2,s3,s4⟩:=Qv h;obtain⟨n0,hs⟩:=hE.lp _ _ _ _ _ hs;refine C5 (fun n a w=>∃s μ φ,Rel E.P E.aD E.fn.ntmps w0 μ φ (H4 T s) (Am T s) a w∧cD (fun s rec=>eY E b (H4 T s) (Am T s) (Ex.FD (fun f m=>Cy E.P T f m fun f m=>enc T f m rec) k)) n s=some r) ?_ n0 a w ⟨s,μ,φ,hR.dec s1 s2 s3 s4,hs⟩;rintro n a w ⟨s,μ,φ,hR,hs⟩;cases n with
   |zero=>simp[cD]at hs
   |succ n=>
    refine⟨n,rfl,?_⟩;simp only[cD]at hs;refine ih hE hY wj hs hR fun e f' m' μ' φ' a' w' hk gW=>?_;cases e with
    |normal=>obtain⟨f',m',μ',φ',hk,gW⟩:=Gf hk gW;obtain⟨s',Y5,t1,t2,t3,t4⟩:=Qv hk;exact⟨s',μ',φ',gW.dec t1 t2 t3 t4,Y5⟩
    |exit j=>exact hQ (.exit j) _ _ _ _ _ _ hk gW
    |ret=>exact hQ .ret _ _ _ _ _ _ hk gW
  ·refine C5 (fun n a w=>∃f m μ φ,Rel E.P E.aD E.fn.ntmps w0 μ φ f m a w∧FB (fun f m rec=>eY E b f m (Ex.FD rec k)) n f m=some r) ?_ E.u a w ⟨f,m,μ,φ,hR,h⟩;rintro n a w ⟨f,m,μ,φ,hR,hs⟩;cases n with
   |zero=>simp[FB]at hs
   |succ n=>
    refine⟨n,rfl,?_⟩;simp only[FB]at hs;refine ih hE hY wj hs hR fun e f' m' μ' φ' a' w' hk gW=>?_;cases e with
    |normal=>exact⟨f',m',μ',φ',gW,hk⟩
    |exit j=>exact hQ (.exit j) _ _ _ _ _ _ hk gW
    |ret=>exact hQ .ret _ _ _ _ _ _ hk gW
 |exit id=>intro E w0 rd hE hY wj R f m k r h μ φ a w Q hR hQ;simp only[eY]at h;exact wpIn_exit (hQ (.exit id) _ _ _ _ _ _ h hR)
 |label l=>intro E w0 rd hE hY wj R f m k r h μ φ a w Q hR hQ;simp only[eY]at h;exact wpIn_label (hQ .normal _ _ _ _ _ _ h hR)
 |ret=>intro E w0 rd hE hY wj R f m k r h μ φ a w Q hR hQ;simp only[eY]at h;exact wpIn_ret (hQ .ret _ _ _ _ _ _ h hR)
 |scope b ih=>intro E w0 rd hE hY wj R f m k r h μ φ a w Q hR hQ;simp only[eY]at h;exact NI (ih hE hY wj h hR fun e f' m' μ' φ' a' w' hk gW=>by cases e<;>exact hQ _ _ _ _ _ _ _ hk gW)
 |rangeFunc g ps as b ZA ZB=>exact D9 ZA ZB
 |_=>intro E w0 rd hE hY wj R f m k r h;simp[eY]at h
end Go.Ab
set_option linter.unusedVariables false
namespace Go.Ab
open Go.RowKit (Below)
def Obj.Wm:Obj→Bool
 |.cells .. =>true
 |.map .. =>true
 |_=>false
def LX(μ μ':Ro):Prop:=∀b o,μ b=some o→Obj.Wm o=true→μ' b=some o
theorem LX.trans{a b c:Ro}(h:LX a b)(k:LX b c):LX a c:=fun x o hx ho=>k x o (h x o hx ho) ho
section
variable {P:Program} {G:Nat→Option (List PV)} {w0:bt} {μ μ':Ro} {φ:Nat→aC} {m:Mem} {w w':World}
variable{x:Value}
theorem Bq(h:LX μ μ'){b o:Nat}(hx:cellAt μ b o=some x):cellAt μ' b o=some x:=by
 unfold cellAt at*;split at hx
 ·rename_i c t fz hb;rw[h _ _ hb rfl];exact hx
 ·cases hx
theorem ah.off(h:LX μ μ'){p:PV}(hp:ah P μ p x):ah P μ' p x:=by
 induction hp with
 |int h=>exact .int h
 |bool=>exact .bool
 |str h=>exact .str h
 |agg h1 _ h3 ih=>exact .agg h1 ih h3
 |bj h1 _ ih=>exact .bj h1 ih
 |na=>exact .na
 |rp X h1 _ h3 ih=>exact .rp X (fun i p hi=>Bq h (h1 i p hi)) ih h3
 |ja=>exact .ja
 |Fg h=>exact .Fg h
 |rs X h1 h2 h3 h4 _ h6 ih=>exact .rs X h1 h2 h3 (fun i e j p hi hj=>Bq h (h4 i e j p hi hj)) ih h6
 |sn=>exact .sn
 |rm h1 h2 h3 h4 h5 _ _ ih1 ih2=>exact .rm (h _ _ h1 rfl) h2 h3 h4 h5 ih1 ih2
 |xh=>exact .xh
 |fn h1 _ ih=>exact .fn h1 ih
 |Pu=>exact .Pu
 |SH=>exact .SH
 |bad=>exact .bad
theorem uK.off(h:LX μ μ'){g:Nat}{cs:List PV}(hv:uK P μ g cs):uK P μ' g cs:=⟨hv.rep.off h,let⟨c,T,z,h1,h2⟩:=hv.size;⟨c,T,z,h _ _ h1 rfl,h2⟩⟩
theorem af.off(h:LX μ μ'){v:V}{x:Value}(hv:af P μ φ v x):af P μ' φ v x:=by
 induction hv with
 |pv hp=>exact .pv (hp.off h)
 |ba=>exact .ba
 |op hg=>exact .op hg
 |oe hg=>exact .oe hg
 |oX hg=>exact .oX hg
 |os hg=>exact .os hg
 |nQ hg=>exact .nQ hg
 |ff hg hl ha hc OS=>exact .ff hg hl ha hc OS
 |DP hg=>exact .DP hg
 |sD hg=>exact .sD hg
 |vU hg hs=>exact .vU hg hs
 |om hg=>exact .om hg
 |yl hg=>exact .yl hg
 |it hg=>exact .it hg
 |fn h1 _ ih=>exact .fn h1 ih
 |agg h1 _ h3 ih=>exact .agg h1 ih h3
 |bj h1 _ ih=>exact .bj h1 ih
 |top=>exact .top
theorem aJ.off(h:LX μ μ'){id sz:Nat}{et:TypeId}{es:List PV}(ha:aJ P μ φ w id sz et es)(hw:∀g,(φ id).g=some g→w'.heap[g]?=w.heap[g]?):aJ P μ' φ w' id sz et es:=by
 obtain⟨a1,a2,a3,a4,a5,a6,a7⟩:=ha;refine⟨a1,a2,a3,a4,a5,a6,?_⟩;cases hg:(φ id).g with
 |none=>rw[hg]at a7;exact a7
 |some g=>rw[hg]at a7;obtain⟨c,c1,c2,c3,c4,c5⟩:=a7;exact⟨c,by rw[hw g hg];exact c1,c2,c3,fun i e j p x h1 h2 h3=>(c4 i e j p x h1 h2 h3).off h,c5⟩
theorem eH.off(hh:LX μ μ'){R:yD}{s:Nat}{rs:List PV}{x:Value}(h:eH P μ R w s rs x)(hw:∀g,R.g=some g→w'.heap[g]?=w.heap[g]?):eH P μ' R w' s rs x:=
 let⟨⟨et,hA⟩,hV⟩:=h
 ⟨⟨et,hA.off hh hw⟩,hV.off hh⟩
theorem ef.off(hh:LX μ μ'){R:yD}{p:PV}{x:Value}(h:ef P μ R w p x)(hw:p.isRow=true→∀g,R.g=some g→w'.heap[g]?=w.heap[g]?):ef P μ' R w' p x:=by
 unfold ef at*;split at h
 ·exact eH.off hh h (hw rfl)
 ·exact ah.off hh h
theorem aS.off(hh:LX μ μ'){id sz:Nat}{et:TypeId}{es:List PV}(h:aS P μ φ w id sz et es)(hw:∀g,(bI.nest sz et es).ec (φ id) g→w'.heap[g]?=w.heap[g]?):aS P μ' φ w' id sz et es:=by
 obtain⟨a1,a2,a3,a4,a5,a6,a7⟩:=h;refine⟨a1,a2,a3,a4,a5,a6,?_⟩;cases hg:(φ id).g with
 |none=>rw[hg]at a7;exact a7
 |some g=>rw[hg]at a7;obtain⟨c,c1,c2,c3,c4,c5⟩:=a7;exact⟨c,by rw[hw g (.inl hg)];exact c1,c2,c3,fun i e j p x h1 h2 h3=>(c4 i e j p x h1 h2 h3).off hh fun hr g' bU=>hw g' (.inr ⟨i,j,by rw[dy h1 h2];exact hr,bU⟩),c5⟩
theorem eH.LY{R:yD}{s g:Nat}{rs:List PV}(h:eH P μ R w s rs x)(hg:R.g=some g):∃c T z,w.heap[g]?=some (.cells c T z):=by obtain⟨⟨et,_,_,_,_,_,_,a7⟩,_⟩:=h;have bU:R.up.g=some g:=hg;simp only[bU]at a7;obtain⟨c,c1,_⟩:=a7;exact⟨_,_,_,c1⟩
theorem fM.QC{id g i off:Nat}{b:bI}(h:fM P μ φ w id b)(hr:b.rowAt i off=true)(hg:((φ id).row i off).g=some g):∃c T z,w.heap[g]?=some (.cells c T z):=by
 rcases iB hr with⟨sz,et,es,e,s,rs,rfl,he,hp⟩|⟨kt,e0,es,k,s,rs,rfl,rfl,he⟩
 ·have hN:aS P μ φ w id sz et es:=h;have hgg:∃g0,(φ id).g=some g0:=by
   cases hq:(φ id).g with
   |some g0=>exact⟨g0,rfl⟩
   |none=>have a7:=hN.2.2.2.2.2.2;rw[hq]at a7;rw[a7.1]at he;simp at he
  obtain⟨g0,HN⟩:=hgg;obtain⟨c,x,_,_,c3,_⟩:=hN.cell HN he hp;exact eH.LY (show eH P μ _ w s rs x from c3) hg
 ·obtain⟨g0,en,clock,kk,HN,hh,hs,hk,hc,sd,hv⟩:=h;have hi:i<en.size:=by rw[hs];exact(List.getElem?_eq_some_iff.1 he).1
  have h3:=(hv i k _ en[i] he (Array.getElem?_eq_getElem hi)).2;exact eH.LY (P:=P) (μ:=μ) (R:=(φ id).row i 0) (s:=s) (rs:=rs) (x:=en[i].val) ⟨⟨_,h3.1⟩,h3.2⟩ hg
theorem fM.off(h:LX μ μ')(l0:∀b o,μ b=some o→w.heap[b]?=some o){id:Nat}{b:bI}(hb:fM P μ φ w id b)(hw:∀g,b.ec (φ id) g→w'.heap[g]?=w.heap[g]?):fM P μ' φ w' id b:=by
 cases b with
 |nest sz et es=>exact aS.off h hb hw
 |eU kt e0 es=>
  obtain⟨g,en,clock,kk,hg,hh,hs,hk,hc,sd,hv⟩:=hb;refine⟨g,en,clock,kk,hg,by rw[hw g (.inl hg)];exact hh,hs,hk,hc,sd,fun i k v e h1 h2=>⟨(hv i k v e h1 h2).1.off h,?_⟩⟩;have h3:=(hv i k v e h1 h2).2;split at h3
  ·exact⟨h3.1.off h fun g' bU=>hw g' (.inr ⟨i,0,by rw[iA h1];rfl,bU⟩),h3.2.off h⟩
  ·exact h3.off h
 |box cs=>obtain⟨g,c,T,hg,hh,hs,hv,h1,xy⟩:=hb;exact⟨g,c,T,hg,by rw[hw g (.inl hg)];exact hh,hs,fun i v x hi hx=>(hv i v x hi hx).off h,h1,xy⟩
 |arr sz et es=>exact aJ.off h hb fun g hg=>hw g (.inl hg)
 |nr sz et es=>refine⟨aJ.off h hb.1 fun g hg=>hw g (.inl hg),fun g hg=>?_⟩;obtain⟨o,ho⟩:=Option.isSome_iff_exists.1 (hb.2 g hg);obtain⟨_,_,_,_,_,_,a7⟩:=hb.1;rw[hg]at a7;obtain⟨c,c1,_⟩:=a7;have:=l0 g o ho;rw[c1]at this;cases this;rw[h _ _ ho rfl];rfl
 |map kt es=>obtain⟨g,en,clock,kk,hg,hh,hs,hk,hc,sd,hv⟩:=hb;exact⟨g,en,clock,kk,hg,by rw[hw g (.inl hg)];exact hh,hs,hk,hc,sd,fun i k v e h1 h2=>⟨(hv i k v e h1 h2).1.off h,(hv i k v e h1 h2).2.off h⟩⟩
 |iter t es cur=>obtain⟨g,mg,en,clock,seen,hg,hh,AB,sd,xy,hv,Yy⟩:=hb;exact⟨g,mg,en,clock,seen,hg,by rw[hw g (.inl hg)];exact hh,h _ _ AB rfl,sd,xy,fun i k v e h1 h2=>⟨(hv i k v e h1 h2).1.off h,(hv i k v e h1 h2).2.off h⟩,fun k v hc=>let⟨i,e,h1,h2,h3,h4⟩:=Yy k v hc;⟨i,e,h1,h2,h3.off h,h4.off h⟩⟩
 |loop st=>obtain⟨g,rc,hg,hh⟩:=hb;exact⟨g,rc,hg,by rw[hw g (.inl hg)];exact hh⟩
def yW(μ:Ro)(D:Nat):Ro:=fun b=>if b=D then none else μ b
theorem LZ{D:Nat}(hD:μ D=some (.deferred (some []))):LX μ (yW μ D):=by intro b o hb ho;unfold yW;rw[if_neg fun e=>by subst e;rw[hD]at hb;cases hb;cases ho];exact hb
theorem au.shut(hM:au P G w0 μ φ m w){D:Nat}(hB:w0.heap.size≤D)(hk:w0.dC D=none)(hD:μ D=some (.deferred (some []))):au P G w0 (yW μ D) φ m (w.putObj D (.deferred none)):=by
 have hc:=LZ hD;have hh:=hM.ro _ _ hD;have zw:∀k,k≠D→(w.putObj D (.deferred none)).heap[k]?=w.heap[k]?:=fun k hk=>World.putObj_heap_other hk;have cR:∀id b g,m id=some b→b.ec (φ id) g→g≠D:=fun id b g hm hg e=>by
  subst e;have hR:=hM.dG id b hm;rcases hg with hg|⟨i,off,hr,hg⟩
  rotate_left
  ·obtain⟨c,T,z,h2⟩:=hR.QC hr hg;rw[hh]at h2;cases h2
  cases b with
  |nest sz et es=>obtain⟨_,_,_,_,_,_,a7⟩:=hR;rw[hg]at a7;obtain⟨c,c1,_⟩:=a7;rw[hh]at c1;cases c1
  |eU kt e0 es=>obtain⟨g',en,clock,kk,bU,h2,_⟩:=hR;rw[hg]at bU;cases bU;rw[hh]at h2;cases h2
  |box cs=>obtain⟨g',c,T,bU,h2,_⟩:=hR;rw[hg]at bU;cases bU;rw[hh]at h2;cases h2
  |arr sz et es=>obtain⟨_,_,_,_,_,_,a7⟩:=hR;rw[hg]at a7;obtain⟨c,c1,_⟩:=a7;rw[hh]at c1;cases c1
  |nr sz et es=>obtain⟨⟨_,_,_,_,_,_,a7⟩,_⟩:=hR;rw[hg]at a7;obtain⟨c,c1,_⟩:=a7;rw[hh]at c1;cases c1
  |map kt es=>obtain⟨g',en,clock,kk,bU,h2,_⟩:=hR;rw[hg]at bU;cases bU;rw[hh]at h2;cases h2
  |loop st=>obtain⟨g',rc,bU,h2⟩:=hR;rw[hg]at bU;cases bU;rw[hh]at h2;cases h2
  |iter t es cur=>obtain⟨g',mg,en,clock,seen,bU,h2,_⟩:=hR;rw[hg]at bU;cases bU;rw[hh]at h2;cases h2
 refine⟨hM.below.trans ((jm.putObj w D _).mono hB),fun b o hb=>?_,fun g cs hg=>(hM.aD g cs hg).off hc,fun id b hm=>(hM.dG id b hm).off hc hM.ro fun g hg=>zw g (cR id b g hm hg),fun id b g hm hg=>?_,hM.inj,hM.apart,hM.fh,fun b o hb bp=>?_,fun b o hb=>?_,fun id st hm=>?_⟩
 ·unfold yW at hb;split at hb
  ·cases hb
  ·rename_i e;rw[zw b e];exact hM.ro b o hb
 ·obtain⟨h1,h2⟩:=hM.own id b g hm hg;refine⟨h1,fun FJ=>?_⟩;unfold yW;rw[if_neg (cR id b g hm hg)];exact h2 FJ
 ·unfold yW at hb;split at hb
  ·cases hb
  ·exact hM.base b o hb bp
 ·unfold yW;rw[if_neg fun e=>by subst e;rw[hk]at hb;cases hb];exact hM.dC b o hb
 ·obtain⟨g,rc,h1,h2,h3⟩:=hM.yC id st hm;exact⟨g,rc,h1,h2,by rw[zw g (cR id _ g hm (.inl h1))];exact h3⟩
end
section
variable {E:Env} {w0:bt}
theorem wG{R:Ending→World→Prop}{f:Fr}{m:Mem}{φ:Nat→aC}{fn:Func}{tmps:Array Value}:∀(Ds:List Nat){μ:Ro}{w:World},Ds.Nodup→(∀D∈Ds,w0.heap.size≤D∧w0.dC D=none∧μ D=some (.deferred (some [])))→Rel E.P E.aD E.fn.ntmps w0 μ φ f m {tmps,defers:=[]} w→(∀μ' w',Rel E.P E.aD E.fn.ntmps w0 μ' φ f m {tmps,defers:=[]} w'→∃v,(results fn tmps).run E.P w'=.ok v w'∧R (.returned v) w')→LeavesInM (FR none) 0 E.P fn tmps R (Ds.map fun D=>{target:=.collected D,args:= #[]}) .returning w
 |[],μ,w,_,_,hR,Eb=>Eb μ w hR
 |D::Ds,μ,w,hn,hD,hR,Eb=>by obtain⟨h1,h2,h3⟩:=hD D (by simp);obtain⟨n1,n2⟩:=List.nodup_cons.1 hn;have hM:=hR.toau.shut h1 h2 h3;refine⟨by simp,.inl ⟨D,_,rfl,run_takeDeferred (hR.ro _ _ h3),?_⟩⟩;refine wG Ds n2 (fun D' LF=>?_) {toau:=hM,size:=hR.size,defers:=.nil _ _ _,kv:=hR.kv,fr:=fun t=>(hR.fr t).off (LZ h3),live:=hR.live} Eb;obtain⟨a1,a2,a3⟩:=hD D' (by simp[LF]);refine⟨a1,a2,?_⟩;unfold yW;rw[if_neg fun e=>by subst e;exact n1 LF];exact a3
theorem pJ(hE:iv E)(hY:qv E.P E.aD E.fn.ntmps E.yl w0)(hko:∀b o,w0.dC b=some o→w0.kv b=some o){g:FuncId}{c:Code}(hf:E.P.funcs[g]?=some E.fn)(hb:E.fn.body=some c){xs:Array Value}{R:Ending→World→Prop}{S:Type}{f:Fr}{m:Mem}{k:Ex→Fr→Mem→Option S}{r:S}(h:eY E c f m k=some r){μ:Ro}{φ:Nat→aC}{w:World}(hR:Rel E.P E.aD E.fn.ntmps w0 μ φ f m {tmps:=xs++Array.replicate (E.fn.ntmps-xs.size) undef,defers:=[]} w)(Eb:∀e f' m' μ' φ' tmps w',k e f' m'=some r→Rel E.P E.aD E.fn.ntmps w0 μ' φ' f' m' {tmps,defers:=[]} w'→(∀id,e≠.exit id)∧∃v,(results E.fn tmps).run E.P w'=.ok v w'∧R (.returned v) w'):Calls E.P g xs w R:=by
 refine(callsIn_wide (n:=0)).1 (callsIn_of_wp_marks (F:=FR none) hf hb trivial ?_);refine QB c hE hY (fun _=>rfl) h hR fun e f' m' μ' φ' a' w' hk gW=>?_;obtain⟨Ds,e1,e2,e3⟩:=gW.defers;have CT:Rel E.P E.aD E.fn.ntmps w0 μ' φ' f' m' {tmps:=a'.tmps,defers:=[]} w':={toau:=gW.toau,size:=gW.size,defers:=.nil _ _ _,kv:=gW.kv,fr:=gW.fr,live:=gW.live};have key:(∀id,e≠.exit id)→LeavesInM (FR none) 0 E.P E.fn a'.tmps R a'.defers .returning w':=fun _=>by
  rw[e1];refine wG Ds e2 (fun D hd=>?_) CT fun μ2 w2 Zx=>(Eb e f' m' μ2 φ' a'.tmps w2 hk Zx).2;obtain⟨a1,a2,a3⟩:=e3 D hd;refine⟨a1,?_,a3⟩;cases hq:w0.dC D with
  |none=>rfl
  |some o=>rw[hko D o hq]at a2;cases a2
 have cR:=(Eb e f' m' μ' φ' a'.tmps w' hk CT).1;cases e with
 |normal=>exact key cR
 |ret=>exact key cR
 |exit id=>exact absurd rfl (cR id)
end
end Go.Ab
