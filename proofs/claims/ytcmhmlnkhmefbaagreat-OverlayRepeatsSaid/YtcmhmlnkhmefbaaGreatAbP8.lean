import Derived.Test.YtcmhmlnkhmefbaaGreatAbP7
import Derived.RangeFuncIn
import Derived.Scope
set_option linter.unusedVariables false
namespace Go.Ab
open Go.RowKit (Below)
section
variable {P:Program} {G:Nat→Option (List PV)} {w0:bw} {μ:Ro} {φ:Nat→aG} {m:Mem} {w:World}
theorem jx.putObj(w:World)(g:Nat)(o:Obj):jx g w (w.putObj g o):=⟨⟨rfl,rfl,rfl,by simp,fun k hk=>World.putObj_heap_other (by omega)⟩,fun _=>Nat.le_refl _⟩
theorem ay.tp(h:ay P G w0 μ φ m w){w1:bw}(hw:w1.w=w0.w)(Bf:w1.mu=w0.mu)(hk:∀b o,w1.dF b=some o→μ b=some o)(Um:∀id st,m id=some (.loop st)→w1.rc id=w0.rc id):ay P G w1 μ φ m w:=by obtain⟨a0,b0,c0,d0,e0⟩:=w0;obtain⟨a1,b1,c1,d1,e1⟩:=w1;simp only at hw Bf;subst hw;subst Bf;refine⟨h.below,h.ro,h.aI,h.dJ,h.own,h.inj,h.apart,h.fj,h.base,hk,fun id st hid=>?_⟩;obtain⟨g,rc,h1,h2,h3⟩:=h.zd id st hid;exact⟨g,rc,h1,(Um id st hid).trans h2,h3⟩
def zx(μ:Ro)(w:World)(o:Obj):Ro:=fun b=>if b=w.heap.size then some o else μ b
theorem GM(hM:ay P G w0 μ φ m w)(o:Obj):GB μ (zx μ w o):=by intro b o' hb;have:=(Array.getElem?_eq_some_iff.1 (hM.ro b o' hb)).1;unfold zx;rw[if_neg (by omega)];exact hb
theorem ay.Un(hM:ay P G w0 μ φ m w)(o:Obj):ay P G w0 (zx μ w o) φ m (w.alloc o):=by
 have hle:=GM hM o;have hold:∀k,k<w.heap.size→(w.alloc o).heap[k]?=w.heap[k]?:=fun k hk=>jx.heap_alloc w o k hk;have kO:w0.heap.size≤w.heap.size:=hM.below.size;refine⟨hM.below.alloc hM.below.size o,fun b o' hb=>?_,fun g cs hg=>(hM.aI g cs hg).mono hle,fun id b hid=>?_,fun id b g hid hg=>?_,hM.inj,hM.apart,hM.fj,fun b o' hb br=>?_,fun b o' hb=>hle b o' (hM.dF b o' hb),fun id st hid=>?_⟩
 ·unfold zx at hb;split at hb
  ·rename_i e;subst e;cases hb;exact heap_alloc_new w o
  ·have:=hM.ro b o' hb;rw[hold b (Array.getElem?_eq_some_iff.1 this).1];exact this
 ·have hR:=hM.dJ id b hid;exact hR.cH (fun _ _=>rfl) rfl hle (fun g hg=>hold g (hR.Bg hg))
 ·obtain⟨h1,h2⟩:=hM.own id b g hid hg;refine⟨h1,fun Gi=>?_⟩;have:=(hM.dJ id b hid).Bg hg;unfold zx;rw[if_neg (by omega)];exact h2 Gi
 ·unfold zx at hb;rw[if_neg (by omega)]at hb;exact hM.base b o' hb br
 ·obtain⟨g,rc,h1,h2,h3⟩:=hM.zd id st hid;exact⟨g,rc,h1,h2,by rw[hold g (Array.getElem?_eq_some_iff.1 h3).1];exact h3⟩
theorem ay.other(hM:ay P G w0 μ φ m w){g:Nat}(o:Obj)(hg:w0.heap.size≤g)(hμ:μ g=none)(yr:∀id b,m id=some b→¬b.eg (φ id) g):ay P G w0 μ φ m (w.putObj g o):=by
 have Ah:∀k,k≠g→(w.putObj g o).heap[k]?=w.heap[k]?:=fun k hk=>World.putObj_heap_other hk;refine⟨hM.below.trans ((jx.putObj w g o).mono hg),fun b o' hb=>?_,hM.aI,fun id b hid=>?_,hM.own,hM.inj,hM.apart,hM.fj,hM.base,hM.dF,fun id st hid=>?_⟩
 ·rw[Ah b fun e=>by subst e;rw[hμ]at hb;cases hb];exact hM.ro b o' hb
 ·have hR:=hM.dJ id b hid;exact hR.cH (fun _ _=>rfl) rfl (fun _ _ h=>h) (fun g' bX=>Ah g' fun e=>by subst e;exact yr id b hid bX)
 ·obtain⟨g',rc,h1,h2,h3⟩:=hM.zd id st hid;exact⟨g',rc,h1,h2,by rw[Ah g' fun e=>by subst e;exact yr id _ hid (.inl h1)];exact h3⟩
theorem ay.turn(hM:ay P G w0 μ φ m w){id g:Nat}{st st':Ir}{rc:Loop}(hm:m id=some (.loop st))(hg:(φ id).g=some g)(Um:w0.rc id=some (g,rc)):ay P G w0 μ φ (ao m id (.loop st')) (w.putObj g (.loop (st'.obj rc))):=by have br:=(hM.dJ id _ hm).Bg (.inl hg);have Ev:(w.putObj g (.loop (st'.obj rc))).heap[g]?=some (.loop (st'.obj rc)):=World.putObj_heap_same br;exact hM.write hm rfl hg (jx.putObj w g _) (by simp) (fun k hk=>World.putObj_heap_other hk) ⟨g,rc,hg,Ev⟩ rfl (by simp[bK.names]) fun s hs=>by cases hs;exact⟨rc,Um,Ev⟩
end
section
variable {P:Program} {μ:Ro} {φ:Nat→aG}
theorem DG{nt:Nat}:∀(ps:List Nat)(args:List V)(xs:List Value)(f:Fr)(tmps:Array Value),tmps.size=nt→args.length=xs.length→(∀t,t<nt→ai P μ φ (f t) (tmps.getD t undef))→(∀(i:Nat)v x,args[i]?=some v→xs[i]?=some x→ai P μ φ v x)→((ps.zip xs).foldl (fun tmps(x:Nat×Value)=>tmps.setIfInBounds x.1 x.2) tmps).size=nt∧∀t,t<nt→ai P μ φ (A3 ps args f t) (((ps.zip xs).foldl (fun tmps(x:Nat×Value)=>tmps.setIfInBounds x.1 x.2) tmps).getD t undef)
 |[],args,xs,f,tmps,hs,_,hf,_=>by cases args<;>exact⟨hs,hf⟩
 |p::ps,[],xs,f,tmps,hs,hl,hf,_=>by have:xs=[]:=List.eq_nil_of_length_eq_zero (by simpa using hl.symm);subst this;exact⟨hs,hf⟩
 |p::ps,v::args,[],f,tmps,hs,hl,hf,_=>by simp at hl
 |p::ps,v::args,x::xs,f,tmps,hs,hl,hf,hr=>by
  simp only[List.zip_cons_cons,List.foldl_cons,A3];refine DG ps args xs (fi f p v) (tmps.setIfInBounds p x) (by simpa using hs) (by simpa using hl) (fun t ht=>?_) (fun i u y hu hy=>hr (i+1) u y (by simpa using hu) (by simpa using hy));by_cases e:t=p
  ·subst e;rw[rY];have:(tmps.setIfInBounds t x).getD t undef=x:=by rw[Array.getD_eq_getD_getElem?,Array.getElem?_setIfInBounds];simp[show t<tmps.size by omega]
   rw[this];exact hr 0 v x rfl rfl
  ·rw[ow e];have:(tmps.setIfInBounds p x).getD t undef=tmps.getD t undef:=by rw[Array.getD_eq_getD_getElem?,Array.getD_eq_getD_getElem?,Array.getElem?_setIfInBounds,if_neg (fun h=>e h.symm)]
   rw[this];exact hf t ht
theorem BZ{id:Nat}:∀(ps:List Nat)(args:List V)(f:Fr)(t:Nat),(A3 ps args f t).has id=true→cr id args=true∨(f t).has id=true
 |[],args,f,t,h=>by cases args<;>exact .inr h
 |p::ps,[],f,t,h=>.inr h
 |p::ps,v::args,f,t,h=>by
  simp only[A3]at h;rcases BZ ps args _ t h with h|h
  ·exact .inl (by simp[cr,h])
  ·by_cases e:t=p
   ·subst e;rw[rY]at h;exact .inl (by simp[cr,h])
   ·rw[ow e]at h;exact .inr h
theorem Rm(ps:Array Nat)(xs:Array Value)(tmps:Array Value):(ps.zip xs).foldl (fun tmps(t,a)=>tmps.setIfInBounds t a) tmps=(ps.toList.zip xs.toList).foldl (fun tmps(x:Nat×Value)=>tmps.setIfInBounds x.1 x.2) tmps:=by rw[←Array.foldl_toList,Array.toList_zip]
end
end Go.Ab
set_option linter.unusedVariables false
namespace Go.Ab
open Go.RowKit (Below)
variable{P:Program}{c:Code}{Q:Exit→Act→World→Prop}
theorem DH{F:Fence}{nn:Nat}(I:Nat→Act→World→Prop)(round:∀n a w,I n a w→∃n',n=n'+1∧c.wpIn F nn P (Exit.then (I n') Q) a w):∀n a w,I n a w→(Code.loop c).wpIn F nn P Q a w:=by
 intro n a w hI b k cs mi hb hr;have key:∀n a w,I n a w→∃e a' w',Q e a' w'∧ArrivesIn (Machine.fenced P F) P (lone (b.atR a (.code c::.inLoop c::k)) cs w) b k cs e a' w':=by
  intro n;induction n with
  |zero=>intro a w h;obtain⟨n',h,_⟩:=round 0 a w h;omega
  |succ n ih=>
   intro a w h;obtain⟨n',hn,wW⟩:=round _ a w h;have hn:n=n':=by omega
   subst hn;obtain⟨e,a₁,w₁,hq,xg⟩:=wW b (.inLoop c::k) cs mi hb hr;cases e with
   |normal=>obtain⟨e₂,a₂,w₂,aap,Uo⟩:=ih a₁ w₁ hq;exact⟨e₂,a₂,w₂,aap,.of_steps (StepsIn.trans xg (.one (fenced_calm hb hr rfl) stepR_inLoop)) Uo⟩
   |_=>exact⟨_,a₁,w₁,hq,.pass (x:=.inLoop c) rfl (fun _ _=>.inl (by simp)) xg⟩
 obtain⟨e,a',w',hq,xg⟩:=key n a w hI;exact⟨e,a',w',hq,.of_steps (.one (fenced_calm hb hr rfl) stepR_loop) xg⟩
theorem OA{rd:Option Nat}{n:Nat}{a:Act}{w:World}(h:c.wpIn (FR rd) n P (Exit.noGoto Q) a w):(Code.scope c).wpIn (FR rd) n P Q a w:=by
 intro b k cs mi hb hr;obtain⟨e,a₁,w₁,hq,xg⟩:=h b (.inScope c::k) cs mi hb hr;have s1:StepsIn (Machine.fenced P (FR rd)) P (lone (b.atR a (.code (.scope c)::k)) cs w) (lone (b.atR a (.code c::.inScope c::k)) cs w):=.one (fenced_calm hb hr rfl) (step_lone_go (by simp[stepG,stepG.exec,Frame.atR]));have s2:∀a w,StepsIn (Machine.fenced P (FR rd)) P (lone (b.atR a (.inScope c::k)) cs w) (lone (b.atR a k) cs w):=fun a w=>.one (fenced_calm hb hr rfl) (step_lone_go (by simp[stepG,stepG.exec,Frame.atR]));cases e with
 |normal=>exact⟨.normal,a₁,w₁,hq,s1.trans (StepsIn.trans xg (s2 _ _))⟩
 |exit id=>exact⟨.exit id,a₁,w₁,hq,fun k' hk=>s1.trans (xg.1 k' (by simp[exitTo,hk])),fun hr hk=>let⟨k₁,h1,h2⟩:=xg.2 hr (by simp[exitTo,hk]);⟨k₁,h1,s1.trans h2⟩⟩
 |goto l=>exact hq.elim
 |ret=>exact⟨_,a₁,w₁,hq,.of_steps s1 xg⟩
 |panic ch=>exact⟨_,a₁,w₁,hq,.of_steps s1 xg⟩
 |outgrown=>exact⟨_,a₁,w₁,hq,.of_steps s1 xg⟩
mutual
theorem MI:∀{v u:V},v.same u=true→v=u
 |.op i o,u,h=>by cases u<;>simp only[V.same,Bool.and_eq_true,Bool.false_eq_true]at h;rw[Nat.eq_of_beq_eq_true h.1,Nat.eq_of_beq_eq_true h.2]
 |.oe i a o,u,h=>by cases u<;>simp only[V.same,Bool.and_eq_true,Bool.false_eq_true]at h;rw[Nat.eq_of_beq_eq_true h.1.1,Nat.eq_of_beq_eq_true h.1.2,Nat.eq_of_beq_eq_true h.2]
 |.os i,u,h=>by cases u<;>simp only[V.same,Bool.false_eq_true]at h;rw[Nat.eq_of_beq_eq_true h]
 |.om i,u,h=>by cases u<;>simp only[V.same,Bool.false_eq_true]at h;rw[Nat.eq_of_beq_eq_true h]
 |.yl i,u,h=>by cases u<;>simp only[V.same,Bool.false_eq_true]at h;rw[Nat.eq_of_beq_eq_true h]
 |.it i,u,h=>by cases u<;>simp only[V.same,Bool.false_eq_true]at h;rw[Nat.eq_of_beq_eq_true h]
 |.bj,u,h=>by cases u<;>simp only[V.same,Bool.false_eq_true]at h;rfl
 |.fn f cs,u,h=>by cases u<;>simp only[V.same,Bool.and_eq_true,Bool.false_eq_true]at h;rw[Nat.eq_of_beq_eq_true h.1,GN h.2]
 |.pv p,u,h=>by
  cases u<;>try (cases p<;>simp[V.same]at h;done)
  rename_i q;cases p<;>cases q<;>first|rfl|(simp[V.same]at h;done)|(simp only[V.same,Bool.and_eq_true,decide_eq_true_eq]at h;rw[h.1,h.2])
 |.fh _ _ _,u,h=>by cases u<;>simp[V.same]at h
 |.agg _,u,h=>by cases u<;>simp[V.same]at h
 |.bl _,u,h=>by cases u<;>simp[V.same]at h
 |.top,u,h=>by cases u<;>simp[V.same]at h
theorem GN:∀{vs us:List V},C6 vs us=true→vs=us
 |[],us,h=>by
  cases us with
  |nil=>rfl
  |cons _ _=>simp[C6]at h
 |v::vs,us,h=>by
  cases us with
  |nil=>simp[C6]at h
  |cons u us=>simp only[C6,Bool.and_eq_true]at h;rw[MI h.1,GN h.2]
end
variable{R:Type}
theorem MJ{T:Type}:∀{iE:List Sh}{vs:List V}{t:T}{k:Me iE T→Option R}{r:R},iF iE vs t k=some r→∃x,k x=some r∧pz iE x=(vs,t)∧vs.length=iE.length∧∀M,(∀sh∈iE,sh.within M=true)→iZ M vs=true:=by
 intro iE;induction iE with
 |nil=>
  intro vs t k r h;cases vs with
  |nil=>exact⟨t,h,rfl,rfl,fun _ _=>rfl⟩
  |cons v vs=>simp[iF]at h
 |cons sh iE ih=>
  intro vs t k r h;cases vs with
  |nil=>cases sh<;>simp[iF]at h
  |cons v vs=>
   have push:∀{M},v.within M=true→iZ M vs=true→iZ M (v::vs)=true:=fun h1 h2=>by simp[iZ,h1,h2]
   cases sh with
   |own u=>
    simp only[iF]at h;split at h
    ·rename_i hs;obtain⟨x,x1,x2,x3,x4⟩:=ih h;have:=MI hs;subst this;refine⟨x,x1,by simp only[pz];rw[x2],by simp[x3],fun M hM=>push ?_ (x4 M fun s hs=>hM s (by simp[hs]))⟩;exact hM (.own u) (by simp)
    ·cases h
   |int q=>
    cases v<;>try (simp[iF]at h;done)
    rename_i p;cases p<;>try (simp[iF]at h;done)
    simp only[iF]at h;split at h
    ·rename_i hq;subst hq;obtain⟨x,x1,x2,x3,x4⟩:=ih h;exact⟨_,x1,by simp only[pz];rw[x2],by simp[x3],fun M hM=>push rfl (x4 M fun s hs=>hM s (by simp[hs]))⟩
    ·cases h
   |row id off=>
    cases v<;>try (simp[iF]at h;done)
    rename_i nA i qi;simp only[iF]at h;split at h
    ·rename_i hq;obtain⟨rfl,rfl⟩:=hq;obtain⟨x,x1,x2,x3,x4⟩:=ih h;exact⟨_,x1,by simp only[pz,Int.toNat_natCast];rw[x2],by simp[x3],fun M hM=>push (hM (.row nA qi) (by simp)) (x4 M fun s hs=>hM s (by simp[hs]))⟩
    ·cases h
   |raw=>
    cases v<;>try (simp[iF]at h;done)
    simp only[iF]at h;obtain⟨x,x1,x2,x3,x4⟩:=ih h;exact⟨_,x1,by simp only[pz];rw[x2],by simp[x3],fun M hM=>push rfl (x4 M fun s hs=>hM s (by simp[hs]))⟩
   |bool=>
    cases v<;>try (simp[iF]at h;done)
    rename_i p;cases p<;>try (simp[iF]at h;done)
    simp only[iF]at h;obtain⟨x,x1,x2,x3,x4⟩:=ih h;exact⟨_,x1,by simp only[pz];rw[x2],by simp[x3],fun M hM=>push rfl (x4 M fun s hs=>hM s (by simp[hs]))⟩
   |str=>
    cases v<;>try (simp[iF]at h;done)
    rename_i p;cases p<;>try (simp[iF]at h;done)
    simp only[iF]at h;obtain⟨x,x1,x2,x3,x4⟩:=ih h;exact⟨_,x1,by simp only[pz];rw[x2],by simp[x3],fun M hM=>push rfl (x4 M fun s hs=>hM s (by simp[hs]))⟩
   |rp n=>
    cases v<;>try (simp[iF]at h;done)
    rename_i p;cases p<;>try (simp[iF]at h;done)
    rename_i cs;simp only[iF]at h;split at h
    ·rename_i hq;obtain⟨x,x1,x2,x3,x4⟩:=ih h;have he:aL n (.agg cs)=cs:=by
      apply List.ext_getElem?;intro j;by_cases hj:j<n
      ·have hl:j<(aL n (.agg cs)).length:=by rw[bm];exact hj
       rw[List.getElem?_eq_getElem hl];obtain⟨_,h6⟩:=mh (List.getElem?_eq_getElem hl);rw[h6];simp[cell,PV.cells,List.getD,show j<cs.length by omega]
      ·rw[List.getElem?_eq_none (by rw[bm];omega),List.getElem?_eq_none (by omega)]
     exact⟨_,x1,by simp only[pz];rw[x2,he],by simp[x3],fun M hM=>push rfl (x4 M fun s hs=>hM s (by simp[hs]))⟩
    ·cases h
   |fs s=>
    cases v<;>try (simp[iF]at h;done)
    rename_i p;simp only[iF]at h;obtain⟨ls,hls,h⟩:=Option.bind_eq_some_iff.1 h;obtain⟨x,x1,x2,x3,x4⟩:=ih h;exact⟨_,x1,by simp only[pz];rw[x2,Mv hls],by simp[x3],fun M hM=>push rfl (x4 M fun s hs=>hM s (by simp[hs]))⟩
   |rs sz=>
    cases v<;>try (simp[iF]at h;done)
    rename_i p;cases p<;>try (simp[iF]at h;done)
    simp only[iF]at h;split at h
    ·rename_i hq;subst hq;obtain⟨x,x1,x2,x3,x4⟩:=ih h;exact⟨_,x1,by simp only[pz];rw[x2],by simp[x3],fun M hM=>push rfl (x4 M fun s hs=>hM s (by simp[hs]))⟩
    ·cases h
theorem wb:∀{l:List (Nat×Option bK)}{id:Nat}{b:bK},AO l id=some b→∃x∈l,x.1=id∧x.2=some b
 |[],_,_,h=>by simp[AO]at h
 |(d,b')::r,id,b,h=>by
  simp only[AO]at h;cases e:Nat.beq id d with
  |true=>rw[e]at h;exact⟨(d,b'),by simp,(Nat.eq_of_beq_eq_true e).symm,h⟩
  |false=>rw[e]at h;obtain⟨x,hx,h1,h2⟩:=wb h;exact⟨x,by simp[hx],h1,h2⟩
theorem xh:∀{l:List (Nat×Option bK)}{id:Nat},(∀x∈l,x.2.isSome=true)→(∃x∈l,x.1=id)→(AO l id).isSome=true
 |[],_,_,⟨x,hx,_⟩=>by cases hx
 |(d,b')::r,id,h,⟨x,hx,he⟩=>by
  simp only[AO];cases e:Nat.beq id d with
  |true=>exact h (d,b') (by simp)
  |false=>
   rcases List.mem_cons.1 hx with rfl|hx
   ·simp only at he;subst he;simp[Nat.beq_refl]at e
   ·exact xh (fun y hy=>h y (by simp[hy])) ⟨x,hx,he⟩
theorem Up{m:Mem}:∀{bs:List (Nat×P9)}{k:FP bs→Option R}{r:R},qQ m bs k=some r→∃x,k x=some r∧(fZ bs x).map (·.1)=bs.map (·.1)∧(∀y∈fZ bs x,∃b,y.2=some b∧m y.1=some b)∧∀M,(∀y∈bs,y.2.within M=true)→∀y∈fZ bs x,∀b,y.2=some b→b.within M=true:=by
 intro bs;induction bs with
 |nil=>intro k r h;exact⟨(),h,rfl,by simp[fZ],by simp[fZ]⟩
 |cons y bs ih=>
  intro k r h;obtain⟨id,sh⟩:=y;cases sh with
  |box cs=>
   simp only[qQ]at h;split at h
   ·rename_i vs hm;obtain⟨t,t1,t2,t3,t4⟩:=ih h;obtain⟨x,x1,x2,x3,x4⟩:=MJ t1;refine⟨x,x1,by simp only[fZ,x2];simp[t2],fun y hy=>?_,fun M hM y hy b hb=>?_⟩
    ·simp only[fZ,x2]at hy;rcases List.mem_cons.1 hy with rfl|hy
     ·exact⟨_,rfl,hm⟩
     ·exact t3 y hy
    ·simp only[fZ,x2]at hy;rcases List.mem_cons.1 hy with rfl|hy
     ·simp only[Option.some.injEq]at hb;subst hb;simp only[bK.within];refine x4 M fun s hs=>?_;have:=hM (id,.box cs) (by simp);simp only[P9.within,List.all_eq_true]at this;exact this s hs
     ·exact t4 M (fun z hz=>hM z (by simp[hz])) y hy b hb
   ·cases h
  |arr sz et=>
   simp only[qQ]at h;split at h
   ·rename_i CE AW es hm;split at h
    ·rename_i he;obtain⟨rfl,rfl⟩:=he;obtain⟨t,t1,t2,t3,t4⟩:=ih h;refine⟨(es,t),t1,by simp only[fZ];simp[t2],fun y hy=>?_,fun M hM y hy b hb=>?_⟩
     ·simp only[fZ]at hy;rcases List.mem_cons.1 hy with rfl|hy
      ·exact⟨_,rfl,hm⟩
      ·exact t3 y hy
     ·simp only[fZ]at hy;rcases List.mem_cons.1 hy with rfl|hy
      ·simp only[Option.some.injEq]at hb;subst hb;rfl
      ·exact t4 M (fun z hz=>hM z (by simp[hz])) y hy b hb
    ·cases h
   ·cases h
  |nO sz et=>
   simp only[qQ]at h;split at h
   ·rename_i CE AW es hm;split at h
    ·rename_i he;obtain⟨rfl,rfl⟩:=he;obtain⟨t,t1,t2,t3,t4⟩:=ih h;refine⟨(es,t),t1,by simp only[fZ];simp[t2],fun y hy=>?_,fun M hM y hy b hb=>?_⟩
     ·simp only[fZ]at hy;rcases List.mem_cons.1 hy with rfl|hy
      ·exact⟨_,rfl,hm⟩
      ·exact t3 y hy
     ·simp only[fZ]at hy;rcases List.mem_cons.1 hy with rfl|hy
      ·simp only[Option.some.injEq]at hb;subst hb;rfl
      ·exact t4 M (fun z hz=>hM z (by simp[hz])) y hy b hb
    ·cases h
   ·cases h
  |nest sz et=>
   simp only[qQ]at h;split at h
   ·rename_i CE AW es hm;split at h
    ·rename_i he;obtain⟨rfl,rfl⟩:=he;obtain⟨t,t1,t2,t3,t4⟩:=ih h;refine⟨(es,t),t1,by simp only[fZ];simp[t2],fun y hy=>?_,fun M hM y hy b hb=>?_⟩
     ·simp only[fZ]at hy;rcases List.mem_cons.1 hy with rfl|hy
      ·exact⟨_,rfl,hm⟩
      ·exact t3 y hy
     ·simp only[fZ]at hy;rcases List.mem_cons.1 hy with rfl|hy
      ·simp only[Option.some.injEq]at hb;subst hb;rfl
      ·exact t4 M (fun z hz=>hM z (by simp[hz])) y hy b hb
    ·cases h
   ·cases h
  |eU kt et=>
   simp only[qQ]at h;split at h
   ·rename_i sU AW es hm;split at h
    ·rename_i he;obtain⟨rfl,rfl⟩:=he;obtain⟨t,t1,t2,t3,t4⟩:=ih h;refine⟨(es,t),t1,by simp only[fZ];simp[t2],fun y hy=>?_,fun M hM y hy b hb=>?_⟩
     ·simp only[fZ]at hy;rcases List.mem_cons.1 hy with rfl|hy
      ·exact⟨_,rfl,hm⟩
      ·exact t3 y hy
     ·simp only[fZ]at hy;rcases List.mem_cons.1 hy with rfl|hy
      ·simp only[Option.some.injEq]at hb;subst hb;rfl
      ·exact t4 M (fun z hz=>hM z (by simp[hz])) y hy b hb
    ·cases h
   ·cases h
  |map kt=>
   simp only[qQ]at h;split at h
   ·rename_i sU es hm;split at h
    ·rename_i he;subst he;obtain⟨t,t1,t2,t3,t4⟩:=ih h;refine⟨(es,t),t1,by simp only[fZ];simp[t2],fun y hy=>?_,fun M hM y hy b hb=>?_⟩
     ·simp only[fZ]at hy;rcases List.mem_cons.1 hy with rfl|hy
      ·exact⟨_,rfl,hm⟩
      ·exact t3 y hy
     ·simp only[fZ]at hy;rcases List.mem_cons.1 hy with rfl|hy
      ·simp only[Option.some.injEq]at hb;subst hb;rfl
      ·exact t4 M (fun z hz=>hM z (by simp[hz])) y hy b hb
    ·cases h
   ·cases h
  |iter ty=>
   simp only[qQ]at h;split at h
   ·rename_i t' es hm;split at h
    ·rename_i he;subst he;obtain⟨t,t1,t2,t3,t4⟩:=ih h;refine⟨(es,t),t1,by simp only[fZ];simp[t2],fun y hy=>?_,fun M hM y hy b hb=>?_⟩
     ·simp only[fZ]at hy;rcases List.mem_cons.1 hy with rfl|hy
      ·exact⟨_,rfl,hm⟩
      ·exact t3 y hy
     ·simp only[fZ]at hy;rcases List.mem_cons.1 hy with rfl|hy
      ·simp only[Option.some.injEq]at hb;subst hb;rfl
      ·exact t4 M (fun z hz=>hM z (by simp[hz])) y hy b hb
    ·cases h
   ·cases h
  |loop=>
   simp only[qQ]at h;split at h
   ·rename_i hm;obtain⟨t,t1,t2,t3,t4⟩:=ih h;refine⟨t,t1,by simp only[fZ];simp[t2],fun y hy=>?_,fun M hM y hy b hb=>?_⟩
    ·simp only[fZ]at hy;rcases List.mem_cons.1 hy with rfl|hy
     ·exact⟨_,rfl,hm⟩
     ·exact t3 y hy
    ·simp only[fZ]at hy;rcases List.mem_cons.1 hy with rfl|hy
     ·simp only[Option.some.injEq]at hb;subst hb;rfl
     ·exact t4 M (fun z hz=>hM z (by simp[hz])) y hy b hb
   ·cases h
  |busy=>
   simp only[qQ]at h;split at h
   ·rename_i hm;obtain⟨t,t1,t2,t3,t4⟩:=ih h;refine⟨t,t1,by simp only[fZ];simp[t2],fun y hy=>?_,fun M hM y hy b hb=>?_⟩
    ·simp only[fZ]at hy;rcases List.mem_cons.1 hy with rfl|hy
     ·exact⟨_,rfl,hm⟩
     ·exact t3 y hy
    ·simp only[fZ]at hy;rcases List.mem_cons.1 hy with rfl|hy
     ·simp only[Option.some.injEq]at hb;subst hb;rfl
     ·exact t4 M (fun z hz=>hM z (by simp[hz])) y hy b hb
   ·cases h
mutual
theorem B0{M:List Nat}{id:Nat}:∀(v:V),v.within M=true→v.has id=true→id∈M
 |.agg cs,h,hh=>mH cs (by simpa only[V.within]using h) (by simpa only[V.has]using hh)
 |.bl cs,h,hh=>mH cs (by simpa only[V.within]using h) (by simpa only[V.has]using hh)
 |.fn _ cs,h,hh=>mH cs (by simpa only[V.within]using h) (by simpa only[V.has]using hh)
 |.os j,h,hh=>by have:=Nat.eq_of_beq_eq_true hh;subst this;simpa[V.within]using h
 |.fh j _ _,h,hh=>by have:=Nat.eq_of_beq_eq_true hh;subst this;simpa[V.within]using h
 |.oe j _ _,h,hh=>by have:=Nat.eq_of_beq_eq_true hh;subst this;simpa[V.within]using h
 |.om j,h,hh=>by have:=Nat.eq_of_beq_eq_true hh;subst this;simpa[V.within]using h
 |.tc j _ _,h,hh=>by have:=Nat.eq_of_beq_eq_true hh;subst this;simpa[V.within]using h
 |.wJ j _ _ _ _ _,h,hh=>by have:=Nat.eq_of_beq_eq_true hh;subst this;simpa[V.within]using h
 |.op j _,h,hh=>by have:=Nat.eq_of_beq_eq_true hh;subst this;simpa[V.within]using h
 |.it j,h,hh=>by have:=Nat.eq_of_beq_eq_true hh;subst this;simpa[V.within]using h
 |.yl j,h,hh=>by have:=Nat.eq_of_beq_eq_true hh;subst this;simpa[V.within]using h
 |.pv _,_,hh=>by cases hh
 |.bj,_,hh=>by cases hh
 |.top,_,hh=>by cases hh
theorem mH{M:List Nat}{id:Nat}:∀(cs:List V),iZ M cs=true→cr id cs=true→id∈M
 |[],_,hh=>by cases hh
 |v::r,h,hh=>by
  simp only[iZ,Bool.and_eq_true]at h;simp only[cr,Bool.or_eq_true]at hh;rcases hh with hh|hh
  ·exact B0 v h.1 hh
  ·exact mH r h.2 hh
end
theorem Rn{f:Fr}:∀(aA:List (Nat×Sh))(t:Nat),IC (oh aA (aA.map fun(x:Nat×Sh)=>f x.1)) t=f t∨IC (oh aA (aA.map fun(x:Nat×Sh)=>f x.1)) t=.top
 |[],t=>.inr rfl
 |(d,s)::r,t=>by
  simp only[List.map_cons,oh,IC,fi];cases e:Nat.beq t d with
  |true=>have:=Nat.eq_of_beq_eq_true e;subst this;exact .inl rfl
  |false=>exact Rn r t
theorem B1{f:Fr}{M:List Nat}:∀(aA:List (Nat×Sh)),iZ M (aA.map fun(x:Nat×Sh)=>f x.1)=true→∀t,(IC (oh aA (aA.map fun(x:Nat×Sh)=>f x.1)) t).within M=true
 |[],_,t=>rfl
 |(d,s)::r,h,t=>by
  simp only[List.map_cons,iZ,Bool.and_eq_true]at h;simp only[List.map_cons,oh,IC,fi];cases e:Nat.beq t d with
  |true=>have:=Nat.eq_of_beq_eq_true e;subst this;exact h.1
  |false=>exact B1 r h.2 t
theorem Rp{T:fg}{f:Fr}{m:Mem}{k:T.ty→Option R}{r:R}(h:enc T f m k=some r):∃x,k x=some r∧sV (IH T x) f∧(∀id b,A2 T x id=some b→m id=some b)∧(∀t id,(IH T x t).has id=true→(A2 T x id).isSome=true)∧∀j cs id,A2 T x j=some (.box cs)→cr id cs=true→(A2 T x id).isSome=true:=by
 unfold enc at h;split at h
 ·rename_i wH;obtain⟨t,t1,t2,t3,t4⟩:=Up h;obtain⟨x,x1,x2,x3,x4⟩:=MJ t1;simp only[fg.ok,Bool.and_eq_true,List.all_eq_true]at wH;have pS:∀id,id∈T.bQ.map (·.1)→(A2 T x id).isSome=true:=fun id hid=>by
   unfold A2;rw[x2];refine xh (fun y hy=>?_) ?_
   ·obtain⟨b,hb,_⟩:=t3 y hy;rw[hb];rfl
   ·rw[←t2]at hid;obtain⟨y,hy,he⟩:=List.mem_map.1 hid;exact⟨y,hy,he⟩
  refine⟨x,x1,fun s=>?_,fun id b hb=>?_,fun s id hid=>pS id ?_,fun j cs id hj hh=>pS id ?_⟩
  ·unfold IH;rw[x2];exact Rn T.aA s
  ·unfold A2 at hb;rw[x2]at hb;obtain⟨y,hy,h1,h2⟩:=wb hb;obtain⟨b',fP,hm⟩:=t3 y hy;rw[h2]at fP;cases fP;rw[←h1];exact hm
  ·have hw:=x4 (T.bQ.map (·.1)) fun s hs=>by simp only[fg.iE,List.mem_map]at hs;obtain⟨y,hy,rfl⟩:=hs;exact wH.1 y hy
   have:=B1 (M:=T.bQ.map (·.1)) T.aA hw s;unfold IH at hid;rw[x2]at hid;exact B0 _ this hid
  ·unfold A2 at hj;rw[x2]at hj;obtain⟨y,hy,h1,h2⟩:=wb hj;have:=t4 (T.bQ.map (·.1)) (fun z hz=>wH.2 z hz) y hy _ h2;exact mH _ (by simpa only[bK.within]using this) hh
 ·cases h
section
variable {E:Env} {w0:bw}
variable{nt:Nat}{μ:Ro}{φ:Nat→aG}{f:Fr}{m:Mem}{a:Act}{w:World}
theorem Rel.dec{f':Fr}{m':Mem}(h:Rel E.P E.aI nt w0 μ φ f m a w)(hf:sV f' f)(hm:∀id b,m' id=some b→m id=some b)(hl:∀t id,(f' t).has id=true→(m' id).isSome=true)(hb:∀j cs id,m' j=some (.box cs)→cr id cs=true→(m' id).isSome=true):Rel E.P E.aI nt w0 μ φ f' m' a w:={below:=h.below,ro:=h.ro,aI:=h.aI,dJ:=fun id b hb=>h.dJ id b (hm id b hb),own:=fun id b g hb hg=>h.own id b g (hm id b hb) hg,inj:=fun PQ id2 b1 b2 g h1 h2=>h.inj PQ id2 b1 b2 g (hm _ _ h1) (hm _ _ h2),apart:=fun id b hb=>h.apart id b (hm id b hb),fj:=hb,base:=h.base,dF:=h.dF,zd:=fun id st hid=>h.zd id st (hm _ _ hid),size:=h.size,defers:=h.defers,kH:=h.kH,fr:=(h.weaken hf).fr,live:=hl}
theorem Rel.set(h:Rel E.P E.aI nt w0 μ φ f m a w){t:Nat}{p:PV}(hp:ak E.P μ p (aA nt w0 a t)):Rel E.P E.aI nt w0 μ φ (fi f t (.pv p)) m a w:=
 {toay:=h.toay,size:=h.size,defers:=h.defers,kH:=h.kH,fr:=fun s=>by
   by_cases e:s=t
   ·subst e;rw[rY];exact .pv hp
   ·rw[ow e];exact h.fr s,
  live:=fun s id hid=>by
   by_cases e:s=t
   ·subst e;rw[rY]at hid;cases hid
   ·rw[ow e]at hid;exact h.live s id hid}
theorem Rel.freeze{nt:Nat}{μ:Ro}{φ:Nat→aG}{f:Fr}{m:Mem}{a:Act}{w:World}(h:Rel E.P E.aI nt w0 μ φ f m a w){id sz:Nat}{et:TypeId}{es:List PV}(hm:m id=some (.arr sz et es)):Rel E.P E.aI nt w0 (nq μ w (φ id).g) φ f (ao m id (.nO sz et es)) a w:=
 {toay:=h.toay.freeze hm,size:=h.size,defers:=h.defers.mono (jY h.toay _),kH:=h.kH,fr:=fun s=>(h.fr s).vt (jY h.toay _),live:=fun s i hid=>by
   by_cases e:i=id
   ·subst e;rw[aN];rfl
   ·rw[aq e];exact h.live s i hid}
theorem rf{A:Type}{nt:Nat}{a:Act}{w:World}:∀{l:List (Nat×Nat)}{μ:Ro}{φ:Nat→aG}{f:Fr}{m:Mem}{k:Fr→Mem→A}{r:A},y8 l f m k=r→Rel E.P E.aI nt w0 μ φ f m a w→∃f' m' μ',k f' m'=r∧Rel E.P E.aI nt w0 μ' φ f' m' a w
 |[],μ,φ,f,m,k,r,h,hR=>⟨f,m,μ,h,hR⟩
 |(t,sz)::l,μ,φ,f,m,k,r,h,hR=>by
  unfold y8 at h;split at h
  ·rename_i id hf;have hx:ai E.P μ φ (.os id) (aA nt w0 a t):=hf▸hR.fr t;split at h
   ·rename_i s et es hm;have hF:=hR.freeze hm;have hA:=hF.toay.arr (.inr (aN m id _));have hp:ak E.P (nq μ w (φ id).g) (.rs s es) (aA nt w0 a t):=hA.full hF.toay (hx.vt (jY hR.toay _)) (fun _ _ h=>h) (fun g hg=>by simp[nq,hg]);exact rf h (hF.set hp)
   ·rename_i s et es hm;have hB:fQ E.P μ φ w id (.nO s et es):=hR.dJ id _ hm;have hp:ak E.P μ (.rs s es) (aA nt w0 a t):=(hR.toay.arr (.inr hm)).full hR.toay hx (fun _ _ h=>h) (fun g hg=>by obtain⟨o,ho⟩:=Option.isSome_iff_exists.1 (hB.2 g hg);rw[ho,hR.ro _ _ ho]);exact rf h (hR.set hp)
   ·exact rf h hR
  ·rename_i hf;have hx:ai E.P μ φ .bj (aA nt w0 a t):=hf▸hR.fr t;have hp:ak E.P μ (.rs sz []) (aA nt w0 a t):=by generalize aA nt w0 a t=y at hx;cases hx;exact .jn
   exact rf h (hR.set hp)
  ·exact rf h hR
variable{id:Nat}
theorem GO{u:V}:∀(cs:List V)(j:Nat),cr id (cs.set j u)=true→cr id cs=true∨u.has id=true:=by
 intro cs j h;obtain⟨v,hv,hh⟩:=cU.1 h;rcases List.mem_or_eq_of_mem_set hv with h1|h1
 ·exact .inl (cU.2 ⟨v,h1,hh⟩)
 ·subst h1;exact .inr hh
theorem Rel.Rq(h:Rel E.P E.aI nt w0 μ φ f m a w){j:Nat}{cs:List V}{u:V}(hm:m id=some (.box cs))(hj:cs[j]?=some .bj)(hu:ai E.P μ φ u (.slice none 0 0))(hl:∀i,u.has i=true→(m i).isSome=true):Rel E.P E.aI nt w0 μ φ f (ao m id (.box (cs.set j u))) a w:=by
 have key:∀i b,ao m id (.box (cs.set j u)) i=some b→(i=id∧b=.box (cs.set j u))∨m i=some b:=fun i b hb=>by
  by_cases e:i=id
  ·subst e;rw[aN]at hb;exact .inl ⟨rfl,(Option.some.inj hb).symm⟩
  ·rw[aq e]at hb;exact .inr hb
 have sL:∀i,(m i).isSome=true→(ao m id (.box (cs.set j u)) i).isSome=true:=fun i hi=>by
  by_cases e:i=id
  ·subst e;rw[aN];rfl
  ·rw[aq e];exact hi
 have back:∀i b,ao m id (.box (cs.set j u)) i=some b→∃b',m i=some b'∧(b.iu=true→b'.iu=true)∧b.rowAt=b'.rowAt:=fun i b hb=>by
  rcases key i b hb with⟨rfl,rfl⟩|hb
  ·exact⟨_,hm,fun _=>rfl,rfl⟩
  ·exact⟨b,hb,fun h=>h,rfl⟩
 exact
 {below:=h.below,ro:=h.ro,aI:=h.aI,dJ:=fun i b hb=>by
   rcases key i b hb with⟨rfl,rfl⟩|hb
   ·obtain⟨g,c,T,c1,c2,c3,c4,c5,c6⟩:=h.dJ _ _ hm;refine⟨g,c,T,c1,c2,by simpa using c3,fun i v x hv hx=>?_,c5,by simpa using c6⟩;rw[List.getElem?_set]at hv;split at hv
    ·rename_i e;subst e;split at hv
     ·simp only[Option.some.injEq]at hv;subst hv;have:=c4 j .bj x hj hx;cases this;exact hu
     ·cases hv
    ·exact c4 i v x hv hx
   ·exact h.dJ i b hb,
  own:=fun i b g hb hg=>by obtain⟨b',fP,Bf,mi⟩:=back i b hb;obtain⟨o1,o2⟩:=h.own i b' g fP (by unfold bK.eg at hg⊢;rw[←mi];exact hg);exact⟨o1,fun hb=>o2 (Bf hb)⟩,
  inj:=fun PQ id2 b1 b2 g h1 h2 g1 g2=>by obtain⟨ZD,Mu,_,r1⟩:=back PQ b1 h1;obtain⟨ZE,N4,_,r2⟩:=back id2 b2 h2;exact h.inj PQ id2 ZD ZE g Mu N4 (by unfold bK.eg at g1⊢;rw[←r1];exact g1) (by unfold bK.eg at g2⊢;rw[←r2];exact g2),
  apart:=fun i b hb=>by obtain⟨b',fP,_,mi⟩:=back i b hb;have:=h.apart i b' fP;unfold bK.apart at this⊢;rw[mi];exact this,
  fj:=fun i Dj nA hi hid=>by
   rcases key i _ hi with⟨rfl,he⟩|hi
   ·simp only[bK.box.injEq]at he;subst he;rcases GO _ _ hid with hid|hid
    ·exact sL _ (h.fj _ _ _ hm hid)
    ·exact sL _ (hl _ hid)
   ·exact sL _ (h.fj _ _ _ hi hid),
  base:=h.base,dF:=h.dF,
  zd:=fun i st hi=>by
   rcases key i _ hi with⟨_,he⟩|hi
   ·cases he
   ·exact h.zd i st hi,
  size:=h.size,defers:=h.defers,kH:=h.kH,fr:=h.fr,
  live:=fun t i hid=>sL _ (h.live t i hid)}
variable{et:TypeId}
theorem Rel.Xq(h:Rel E.P E.aI nt w0 μ φ f m a w){Qg:Nat}(hn:m Qg=none)(ep:0<aT E.P et):∃φ',(φ' Qg).g=none∧Rel E.P E.aI nt w0 μ φ' f (ao m Qg (.arr (aT E.P et) et [])) a w:=by
 have hf:fresh false Qg (.arr (aT E.P et) et []) f m (fun f m _=>some (f,m))=some (f,ao m Qg (.arr (aT E.P et) et [])):=by simp[fresh,hn]
 obtain⟨f1,m1,_,hk,_,_,tl⟩:=cJ hf;simp only[Option.some.injEq,Prod.mk.injEq]at hk;obtain⟨rfl,rfl⟩:=hk;obtain⟨φ',a1,a2,a3⟩:=tl E.P E.aI w0 μ φ w w (aA nt w0 a) (CF none 0 0 (aT E.P et)) h.toay ⟨h.fr,h.live⟩ ⟨jx.refl _ _,h.toay.ro,fun _ _ _ _ _=>rfl,by simp,fun φ' hp _=>by refine⟨by rw[hp];rfl,by rw[hp],rfl,ep,by simp,by rw[hp];simp[maxLen],?_⟩;rw[hp];exact⟨rfl,rfl⟩,by simp[bK.names],fun st h=>by cases h⟩;exact⟨φ',by rw[a1],{toay:=a2,size:=h.size,defers:=h.defers,kH:=h.kH,fr:=a3.fr,live:=a3.live}⟩
theorem ri{A:Type}{nt:Nat}{a:Act}{w:World}:∀{l:List (Nat×Nat×Nat×TypeId)}{μ:Ro}{φ:Nat→aG}{f:Fr}{m:Mem}{k:Mem→A}{r:A},y9 E.P l m k=r→Rel E.P E.aI nt w0 μ φ f m a w→∃m' φ',k m'=r∧Rel E.P E.aI nt w0 μ φ' f m' a w
 |[],μ,φ,f,m,k,r,h,hR=>⟨m,φ,h,hR⟩
 |(id,j,Qg,et)::l,μ,φ,f,m,k,r,h,hR=>by
  unfold y9 at h;split at h
  ·rename_i cs hm;split at h
   ·rename_i hj;split at h
    ·rename_i hn;split at h
     ·rename_i ep;obtain⟨φ',g0,ir⟩:=hR.Xq hn ep;have cT:id≠Qg:=fun e=>by subst e;rw[hm]at hn;cases hn
      exact ri h (ir.Rq (by rw[aq cT];exact hm) hj (.pA g0) fun i hi=>by have:=Nat.eq_of_beq_eq_true hi;subst this;simp)
     ·exact ri h hR
    ·exact ri h hR
   ·exact ri h hR
  ·exact ri h hR
theorem xi{A:Type}{nt:Nat}{a:Act}{w:World}:∀{l:List (Nat×Nat×Nat)}{μ:Ro}{φ:Nat→aG}{f:Fr}{m:Mem}{k:Mem→A}{r:A},C7 l m k=r→Rel E.P E.aI nt w0 μ φ f m a w→∃m',k m'=r∧Rel E.P E.aI nt w0 μ φ f m' a w
 |[],μ,φ,f,m,k,r,h,hR=>⟨m,h,hR⟩
 |(id,j,sz)::l,μ,φ,f,m,k,r,h,hR=>by
  unfold C7 at h;split at h
  ·rename_i cs hm;split at h
   ·rename_i hj;exact xi h (hR.Rq hm hj (.pv .jn) (fun i hi=>by cases hi))
   ·exact xi h hR
  ·exact xi h hR
theorem gE{T:Type}{l:List T}{n i:Nat}{e:T}(h:(l.take n)[i]?=some e):l[i]?=some e∧i<n:=by
 rw[List.getElem?_take]at h;split at h
 ·exact⟨h,‹_›⟩
 ·cases h
theorem Rel.Uq(h:Rel E.P E.aI nt w0 μ φ f m a w){s:Nat}{es:List PV}(hm:m id=some (.arr s et es)):Rel E.P E.aI nt w0 μ φ f (ao m id (.nest s et es)) a w:=by
 have hA:aM E.P μ φ w id s et es:=h.dJ id _ hm;have key:∀i b,ao m id (.nest s et es) i=some b→(i=id∧b=.nest s et es)∨m i=some b:=fun i b hb=>by
  by_cases e:i=id
  ·subst e;rw[aN]at hb;exact .inl ⟨rfl,(Option.some.inj hb).symm⟩
  ·rw[aq e]at hb;exact .inr hb
 have sL:∀i,(m i).isSome=true→(ao m id (.nest s et es) i).isSome=true:=fun i hi=>by
  by_cases e:i=id
  ·subst e;rw[aN];rfl
  ·rw[aq e];exact hi
 have hN:aV E.P μ φ w id s et es:=by
  obtain⟨h1,h2,h3,h4,h5,h6,h7⟩:=hA;refine⟨h1,h2,h3,h4,h5,h6,?_⟩;cases hg:(φ id).g with
  |none=>rw[hg]at h7;exact h7
  |some g=>rw[hg]at h7;obtain⟨c,c1,c2,c3,c4,c5⟩:=h7;exact⟨c,c1,c2,c3,fun i e j p x he hp hx=>.pure (c4 i e j p x he hp hx),c5⟩
 have yr:∀i off,(bK.nest s et es).rowAt i off=true→False:=fun i off hr=>by
  rcases iO hr with⟨_,_,_,e,s',rs,hb,he,hp⟩|⟨_,_,_,_,_,_,hb,_⟩
  ·cases hb;obtain⟨h1,h2,h3,h4,h5,h6,h7⟩:=hA;cases hg:(φ id).g with
   |none=>rw[hg]at h7;obtain⟨rfl,_⟩:=h7;simp at he
   |some g=>
    rw[hg]at h7;obtain⟨c,c1,c2,c3,c4,c5⟩:=h7;have hi:i<es.length:=(List.getElem?_eq_some_iff.1 he).1;have hj:off<s:=by have:=(List.getElem?_eq_some_iff.1 hp).1;rw[h5 _ _ he]at this;exact this
    have br:i*s+off<c.size:=by have:(i+1)*s≤(φ id).cap*s:=Nat.mul_le_mul_right _ (by omega);rw[Nat.succ_mul]at this;omega
    exact Bool.noConfusion (ak.Ax (c4 i e off _ _ he hp (Array.getElem?_eq_getElem br)))
  ·cases hb
 have agt:∀i off,(bK.arr s et es).rowAt i off=true→False:=nP;have hM:ay E.P E.aI w0 μ φ (ao m id (.nest s et es)) w:=by
  refine h.toay.My (fun _ k=>k) (fun j b' hb=>?_) (fun j b' g hb hg=>?_) (fun j b' hb=>?_) (fun j cs i hb hh=>?_) (fun j st hb=>?_)
  ·rcases key j b' hb with⟨rfl,rfl⟩|hb
   ·exact hN
   ·exact h.dJ j b' hb
  ·rcases key j b' hb with⟨rfl,rfl⟩|hb
   ·exact⟨j,_,hm,.inl (mj yr hg),fun _=>rfl,rfl⟩
   ·exact⟨j,b',hb,hg,fun h=>h,rfl⟩
  ·rcases key j b' hb with⟨rfl,rfl⟩|hb
   ·exact oz yr
   ·exact h.apart j b' hb
  ·rcases key j _ hb with⟨_,hb⟩|hb
   ·cases hb
   ·exact sL _ (h.fj j cs i hb hh)
  ·rcases key j _ hb with⟨_,hb⟩|hb
   ·cases hb
   ·exact⟨hb,rfl⟩
 exact{toay:=hM,size:=h.size,defers:=h.defers,kH:=h.kH,fr:=h.fr,live:=fun t i hid=>sL _ (h.live t i hid)}
theorem B2{A:Type}{nt:Nat}{a:Act}{w:World}:∀{l:List Nat}{μ:Ro}{φ:Nat→aG}{f:Fr}{m:Mem}{k:Mem→A}{r:A},Gc l m k=r→Rel E.P E.aI nt w0 μ φ f m a w→∃m',k m'=r∧Rel E.P E.aI nt w0 μ φ f m' a w
 |[],μ,φ,f,m,k,r,h,hR=>⟨m,h,hR⟩
 |id::l,μ,φ,f,m,k,r,h,hR=>by
  unfold Gc at h;split at h
  ·rename_i s et es hm;exact B2 h (hR.Uq hm)
  ·exact B2 h hR
theorem Rel.cut(h:Rel E.P E.aI nt w0 μ φ f m a w){j d len s:Nat}{cs:List V}{es:List PV}(hm:m id=some (.box cs))(hj:cs[j]?=some (.fh d 0 len))(hd:m d=some (.arr s et es))(cT:d≠id):∃φ',Rel E.P E.aI nt w0 μ φ' (eP d f) (ao (ao (bg (bD d m) d) d (.arr s et (es.take len))) id (.box ((cs.map (pM d)).set j (.os d)))) a w:=by
 obtain⟨m',Tp⟩:∃m',m'=ao (ao (bg (bD d m) d) d (.arr s et (es.take len))) id (.box ((cs.map (pM d)).set j (.os d))):=⟨_,rfl⟩;rw[←Tp];obtain⟨g0,c,T,c1,c2,c3,c4,c5,c6⟩:=h.dJ _ _ hm;have hA:aM E.P μ φ w d s et es:=h.dJ d _ hd;have xP:j<cs.length:=(List.getElem?_eq_some_iff.1 hj).1;have hx:=c4 j _ _ hj (Array.getElem?_eq_getElem (by omega));obtain⟨φ',f1,f2,f3,f4⟩:∃φ':Nat→aG,(∀i,i≠d→φ' i=φ i)∧(φ' d).g=(φ d).g∧aM E.P μ φ' w d s et (es.take len)∧ai E.P μ φ' (.os d) c[j]:=by
  obtain⟨h1,h2,h3,h4,h5,h6,h7⟩:=hA;generalize c[j]=x at hx;cases hx with
  |oq hg=>refine⟨φ,fun _ _=>rfl,rfl,?_,.pA hg⟩;rw[hg]at h7;obtain⟨rfl,h7⟩:=h7;refine⟨h1,h2,h3,h4,by simp,h6,?_⟩;rw[hg];exact⟨rfl,h7⟩
  | @fh _ _ _ cap g ad hg hl ha hc PN=>
   rw[hg]at h7;obtain⟨q,q1,q2,q3,q4,q5⟩:=h7;have hlen:(es.take len).length=len:=by rw[List.length_take];omega
   have had:ad=⟨g,0,none⟩:=by
    rcases ha with ha|⟨_,ha⟩
    ·rw[ha];simp
    ·omega
   subst had;refine⟨fun i=>if i=d then{φ d with cap:=cap,len:=len}else φ i,fun i hi=>if_neg hi,by simp,⟨by simp[hlen],by simpa using h2,h3,h4,fun i e he=>h5 i e (gE he).1,by simp;omega,?_⟩,?_⟩
   ·simp only[if_true,hg];refine⟨q,q1,Nat.le_trans (Nat.mul_le_mul_right _ (by omega)) q2,by rw[hlen];exact hc,fun i e j p x he hp hx=>q4 i e j p x (gE he).1 hp hx,fun i x hi hx=>q5 i x (Nat.lt_of_lt_of_le hi (Nat.mul_le_mul_right _ (by rw[hlen];omega))) hx⟩
   ·have:=ai.os (P:=E.P) (μ:=μ) (φ:=fun i=>if i=d then{φ d with cap:=cap,len:=len}else φ i) (id:=d) (g:=g) (by simp[hg]);simpa using this
 have key:∀i b,m' i=some b→(i=id∧b=.box ((cs.map (pM d)).set j (.os d)))∨(i=d∧b=.arr s et (es.take len))∨(i≠id∧i≠d∧∃b',m i=some b'∧b=fH d b'):=fun i b hb=>by
  rw[Tp]at hb;by_cases e:i=id
  ·subst e;rw[aN]at hb;exact .inl ⟨rfl,(Option.some.inj hb).symm⟩
  ·rw[aq e]at hb;by_cases e':i=d
   ·subst e';rw[aN]at hb;exact .inr (.inl ⟨rfl,(Option.some.inj hb).symm⟩)
   ·rw[aq e']at hb;exact .inr (.inr ⟨e,(eM hb).1,(eM hb).2⟩)
 have sL:∀i,(m i).isSome=true→(m' i).isSome=true:=fun i hi=>by
  rw[Tp];by_cases e:i=id
  ·subst e;rw[aN];rfl
  ·rw[aq e];by_cases e':i=d
   ·subst e';rw[aN];rfl
   ·rw[aq e'];exact qn e' hi
 have Xr:∀{i:Nat}{b':bK},(fH d b').names i=true→i≠d:=fun{i b'}hn=>by cases b'<;>simp only[fH,bK.names]at hn<;>first|cases hn|exact(uO hn).2
 have hM:ay E.P E.aI w0 μ φ' m' w:=by
  refine h.toay.My (fun _ k=>k) (fun i b' hb=>?_) (fun i b' g hb hg=>?_) (fun i b' hb=>?_) (fun i Dj i' hb hh=>?_) (fun i st hb=>?_)
  ·rcases key i b' hb with⟨rfl,rfl⟩|⟨rfl,rfl⟩|⟨e1,e2,b2,pB,rfl⟩
   ·refine⟨g0,c,T,by rw[f1 _ (Ne.symm cT)];exact c1,c2,by simpa using c3,fun n v x hv IQ=>?_,c5,by rw[f1 _ (Ne.symm cT)];simpa using c6⟩;rw[List.getElem?_set]at hv;split at hv
    ·rename_i e;subst e;split at hv
     ·simp only[Option.some.injEq]at hv;subst hv;rw[Array.getElem?_eq_getElem (by omega)]at IQ;simp only[Option.some.injEq]at IQ;subst IQ;exact f4
     ·cases hv
    ·simp only[List.getElem?_map,Option.map_eq_some_iff]at hv;obtain⟨v',FU,rfl⟩:=hv;exact((c4 n v' x FU IQ).kill d).mono (fun _ _ h=>h) fun i hi=>f1 i (tr hi).2
   ·exact f3
   ·exact(h.dJ i b2 pB).kill.cH (fun k hk=>f1 k (Xr hk)) (f1 i e2) (fun _ _ h=>h) (fun _ _=>rfl)
  ·rcases key i b' hb with⟨rfl,rfl⟩|⟨rfl,rfl⟩|⟨e1,e2,b2,pB,rfl⟩
   ·refine⟨i,_,hm,.inl ?_,fun _=>rfl,rfl⟩;have:=mj (by intro i off h;simp[bK.rowAt]at h) hg;rw[←this,f1 _ (Ne.symm cT)]
   ·refine⟨i,_,hd,.inl ?_,fun _=>rfl,rfl⟩;rw[←f2];exact mj nP hg
   ·refine⟨i,b2,pB,?_,fun Bf=>by rw[uP]at Bf;exact Bf,rfl⟩;rw[f1 i e2]at hg;exact fD.1 hg
  ·rcases key i b' hb with⟨rfl,rfl⟩|⟨rfl,rfl⟩|⟨e1,e2,b2,pB,rfl⟩
   ·exact oz (by intro i off h;simp[bK.rowAt]at h)
   ·exact oz nP
   ·rw[f1 i e2];exact sc.2 (h.apart i b2 pB)
  ·rcases key i _ hb with⟨rfl,hb⟩|⟨rfl,hb⟩|⟨e1,e2,b2,pB,e⟩
   ·simp only[bK.box.injEq]at hb;subst hb;rcases GO _ _ hh with hh|hh
    ·exact sL _ (h.fj _ _ _ hm (uO hh).1)
    ·have:=Nat.eq_of_beq_eq_true hh;subst this;exact sL _ (by rw[hd];rfl)
   ·cases hb
   ·cases b2 with
    |box cs2=>simp only[fH,bK.box.injEq]at e;subst e;exact sL _ (h.fj _ _ _ pB (uO hh).1)
    |_=>simp[fH]at e
  ·rcases key i _ hb with⟨rfl,hb⟩|⟨rfl,hb⟩|⟨e1,e2,b2,pB,e⟩
   ·cases hb
   ·cases hb
   ·cases b2 with
    |loop st2=>simp only[fH,bK.loop.injEq]at e;subst e;exact⟨pB,by rw[f1 i e2]⟩
    |_=>simp[fH]at e
 exact⟨φ',{toay:=hM,size:=h.size,defers:=h.defers,kH:=h.kH,fr:=(fun t=>((h.fr t).kill d).mono (fun _ _ h=>h) fun i hi=>f1 i (tr hi).2),live:=fun t i hid=>sL _ (h.live t i (tr hid).1)}⟩
theorem rj{A:Type}{nt:Nat}{a:Act}{w:World}:∀{l:List (Nat×Nat)}{μ:Ro}{φ:Nat→aG}{f:Fr}{m:Mem}{k:Fr→Mem→A}{r:A},za l f m k=r→Rel E.P E.aI nt w0 μ φ f m a w→∃f' m' φ',k f' m'=r∧Rel E.P E.aI nt w0 μ φ' f' m' a w
 |[],μ,φ,f,m,k,r,h,hR=>⟨f,m,φ,h,hR⟩
 |(id,j)::l,μ,φ,f,m,k,r,h,hR=>by
  unfold za at h;split at h
  ·rename_i cs hm;split at h
   ·rename_i d len hj;split at h
    ·rename_i s et es hd;split at h
     ·exact rj h hR
     ·rename_i cT;have cT:d≠id:=fun e=>cT (by rw[e];exact Nat.beq_refl _);obtain⟨φ',ir⟩:=hR.cut hm hj hd cT;exact rj h ir
    ·exact rj h hR
   ·exact rj h hR
  ·exact rj h hR
theorem GP{A:Type}{T:fg}{k:Fr→Mem→A}{r:A}(h:C8 E.P T f m k=r)(hR:Rel E.P E.aI nt w0 μ φ f m a w):∃f' m' μ' φ',k f' m'=r∧Rel E.P E.aI nt w0 μ' φ' f' m' a w:=by unfold C8 at h;obtain⟨_,_,_,h,hR⟩:=rj h hR;obtain⟨m1,φ1,h,hR⟩:=ri h hR;obtain⟨m',h,hR⟩:=xi h hR;obtain⟨m',h,hR⟩:=B2 h hR;obtain⟨f',m',μ',h,hR⟩:=rf h hR;exact⟨f',m',μ',φ1,h,hR⟩
def Rr:Ex→Exit
 |.normal=>.normal
 |.exit id=>.exit id
 |.ret=>.ret
theorem Rel.Rs(h:Rel E.P E.aI nt w0 μ φ f m a w):Rel E.P E.aI nt w0 μ φ f m a {w with drawn:=w.drawn+1}:={toay:=h.toay.drew,size:=h.size,defers:=h.defers,kH:=h.kH,fr:=h.fr,live:=h.live}
theorem OB{rd:Option Nat}(hE:iK E)(hY:qS E.P E.aI E.fn.ntmps E.yl w0){R:Type}{ops:Array Oper}{draw:Bool}{k:Ex→Fr→Mem→Option R}{r:R}(h:eY E (.region id ops draw) f m k=some r){Q:Exit→Act→World→Prop}(hR:Rel E.P E.aI E.fn.ntmps w0 μ φ f m a w)(hQ:∀f' m' μ' φ' a' w',k .normal f' m'=some r→Rel E.P E.aI E.fn.ntmps w0 μ' φ' f' m' a' w'→Q .normal a' w'):(Code.region id ops draw).wpIn (FR rd) 0 E.P Q a w:=by
 simp only[eY]at h;cases draw with
 |false=>
  simp only[Bool.false_eq_true,if_false]at h;refine wpIn_region ?_;have hmz:∀x∈(List.range ops.size).zip ops.toList,ops[x.1]?=some x.2:=fun x hx=>by have:=(qw (l:=ops.toList) (i:=x.1) (o:=x.2)).1 (by simpa using hx);rwa[Array.getElem?_toList]at this
  have:=gy (rd:=rd) hE hY _ (.inl rfl) h hmz (by intro x hx g hg;cases hg) (fun h=>by cases h) μ φ a w Q [] hR (by intro g hg;cases hg) fun f' m' μ' φ' a' w' hk ir _ _=>hQ f' m' μ' φ' a' w' hk ir;rw[List.append_nil,List.map_fst_zip (by simp)]at this;exact this
 |true=>
  simp only[if_true]at h;split at h
  ·split at h
   ·rename_i hc;simp only[Bool.and_eq_true]at hc;exact wpIn_region_any hE.mixed (Jm hE hY hc.1.1 hc.1.2 hc.2 h hR.Rs hQ)
   ·cases h
  split at h
  ·rename_i hi;refine wpIn_region_any hE.mixed ?_;split at h
   ·rename_i Ag;exact BX hE hY (.inl rfl) (fun _ o ho=>List.all_eq_true.1 Ag o (Array.mem_toList_iff.2 ho)) hi h hR.Rs hQ
   ·exact BX hE hY (.inr rfl) (fun h=>by cases h) hi h hR.Rs hQ
  ·cases h
end
theorem Ur{g:FuncId}{fn:Func}(hf:P.funcs[g]?=some fn)(QT:(fn.name== "runtime.NumGoroutine")=false)(hb:fn.body=some c){args:Array Value}{w:World}:(callFunc g args).run P w=.ok (.enter g args) w:=uV hf QT hb
theorem OC{nt:Nat}{w0:bw}{a:Act}{t:Nat}:aA nt w0 a (t+nt)=w0.sv (t+nt):=by unfold aA;rw[if_neg (by omega)]
def yC(c:Code):Prop:=∀{E:Env}{w0:bw}{rd:Option Nat}(_:iK E)(_:qS E.P E.aI E.fn.ntmps E.yl w0)(_:E.Wz=false→rd=none){R:Type}{f:Fr}{m:Mem}{k:Ex→Fr→Mem→Option R}{r:R},eY E c f m k=some r→∀{μ:Ro}{φ:Nat→aG}{a:Act}{w:World}{Q:Exit→Act→World→Prop},Rel E.P E.aI E.fn.ntmps w0 μ φ f m a w→(∀e f' m' μ' φ' a' w',k e f' m'=some r→Rel E.P E.aI E.fn.ntmps w0 μ' φ' f' m' a' w'→Q (Rr e) a' w')→c.wpIn (FR rd) 0 E.P Q a w
theorem Rt{as b:Code}(ihA:yC as)(ihB:yC b){E:Env}(hE:iK E){w2:bw}{lid l ntI:Nat}{ps:Array Nat}{rc:Loop}{fid:Nat}(Um:w2.rc lid=some (l,rc))(l0:rc.params=ps)(has:rc.assign=as)(hb:rc.body=b)(kO:rc.tmps.size=E.fn.ntmps)(hsv:∀t,t<E.fn.ntmps→w2.sv (t+ntI)=rc.tmps.getD t undef):qS E.P E.aI ntI (fun _ nt _ id args F m k=>bif Nat.beq id lid then roundOf (eY {E with fid:=fid,yl:=xT,Wz:=true} as) (eY {E with fid:=fid,yl:=xT,Wz:=true} b) lid E.fn.ntmps ps.toList nt args F m k else none) w2:=by
 intro R site id args F m k r hy μ φ ρ w xs hM hF hρ hl hr Eo g hg;dsimp only at hy;cases hid:Nat.beq id lid with
 |false=>rw[hid]at hy;cases hy
 |true=>
  rw[hid]at hy;have hid:=Nat.eq_of_beq_eq_true hid;subst hid;simp only[cond_true]at hy;unfold roundOf at hy;split at hy
  ·rename_i Ru;split at hy
   ·rename_i NZ;obtain⟨g',rc',l1,l2,l3⟩:=hM.zd id _ Ru;rw[Um]at l2;simp only[Option.some.injEq,Prod.mk.injEq]at l2;obtain⟨rfl,rfl⟩:=l2;rw[l1]at hg;simp only[Option.some.injEq]at hg;subst hg;have Gn:xs.size=(Ir.ready.obj rc).params.size:=by
     have:ps.toList.length=ps.size:=by simp
     show xs.size=rc.params.size;rw[l0];omega
    refine⟨_,_,_,_,run_yield l3 Gn,?_⟩;have YW:iK {E with fid:=fid,yl:=xT,Wz:=true}:=⟨hE.mixed,hE.lp,hE.ctx,hE.own,hE.inl,hE.Wy⟩;have VR:=DG (P:=E.P) (μ:=μ) (φ:=φ) ps.toList args xs.toList (te ntI F) rc.tmps kO (by simpa using hl) (fun t ht=>by have:=hF.fr (t+ntI);rw[hρ _ (by omega),hsv t ht]at this;exact this) (fun i v x hv hx=>hr i v x hv (by simpa using hx));have hR3:Rel E.P E.aI E.fn.ntmps {w2 with sv:=fun t=>ρ (t-E.fn.ntmps),dF:=μ,kH:=fun _=>none} μ φ (Mf E.fn.ntmps (A3 ps.toList args (te ntI F)) F) m {tmps:=((Ir.ready.obj rc).params.zip xs).foldl (fun tmps(t,a)=>tmps.setIfInBounds t a) (Ir.ready.obj rc).tmps,defers:=[]} w:=by
     have e:((Ir.ready.obj rc).params.zip xs).foldl (fun tmps(t,a)=>tmps.setIfInBounds t a) (Ir.ready.obj rc).tmps=(ps.toList.zip xs.toList).foldl (fun tmps(x:Nat×Value)=>tmps.setIfInBounds x.1 x.2) rc.tmps:=by rw[Rm];show(rc.params.toList.zip xs.toList).foldl _ rc.tmps=_;rw[l0]
     rw[e];refine{toay:=hM.tp rfl rfl (fun _ _ h=>h) (fun _ _ _=>rfl),size:=VR.1,defers:=.nil _ _ _,kH:=fun _ _ h=>(by cases h),fr:=fun t=>?_,live:=fun t id hid=>?_}
     ·unfold Mf aA;by_cases ht:t<E.fn.ntmps
      ·rw[show Nat.blt t E.fn.ntmps=true by rw[Nat.blt_eq];exact ht,if_pos ht];exact VR.2 t ht
      ·rw[show Nat.blt t E.fn.ntmps=false by rw[←Bool.not_eq_true,Nat.blt_eq];exact ht,if_neg ht];exact hF.fr _
     ·unfold Mf at hid;cases e:Nat.blt t E.fn.ntmps with
      |true=>
       rw[e]at hid;rcases BZ _ _ _ _ hid with h|h
       ·exact Eo id h
       ·exact hF.live _ id h
      |false=>rw[e]at hid;exact hF.live _ id hid
    refine roundIn_of_wpIn trivial ?_;show(Ir.ready.obj rc).assign.wpIn (FR (some l)) 0 E.P _ _ _;have Vo:(Ir.ready.obj rc).assign=as:=has;rw[Vo];refine ihA (rd:=some l) YW (wR _ _ _ _) (fun h=>by cases h) hy hR3 fun e f1 m1 μ1 φ1 a1 w1 Ob Jh=>?_;split at Ob
    ·rename_i Xg;obtain⟨g1,rc1,p1,p2,p3⟩:=Jh.zd id _ Xg;have p2:w2.rc id=some (g1,rc1):=p2;rw[Um]at p2;simp only[Option.some.injEq,Prod.mk.injEq]at p2;obtain⟨rfl,rfl⟩:=p2;refine⟨_,run_beginRound p3 rfl,?_⟩;have fP:(Ir.ready.obj rc).body=b:=hb;refine Eq.mpr (congrArg (fun c:Code=>c.wpIn (FR (some l)) 0 E.P _ a1 _) fP) ?_;have qX:=Jh.toay.turn (st':=.busy) Xg p1 Um;have aek:Rel E.P E.aI E.fn.ntmps {w2 with sv:=fun t=>ρ (t-E.fn.ntmps),dF:=μ,kH:=fun _=>none} μ1 φ1 f1 (ao m1 id (.loop .busy)) a1 (w1.putObj l (.loop {Ir.ready.obj rc with state:=.busy})):=
      {toay:=qX,size:=Jh.size,defers:=Jh.defers,kH:=Jh.kH,fr:=Jh.fr,live:=fun t j hj=>by
        by_cases e:j=id
        ·subst e;simp
        ·rw[aq e];exact Jh.live t j hj}
     refine ihB (rd:=some l) YW (wR _ _ _ _) (fun h=>by cases h) Ob aek fun e f2 m2 μ2 φ2 a2 w2' T6 Dv=>?_;split at T6
     ·rename_i cO;obtain⟨g2,rc2,q1,q2,q3⟩:=Dv.zd id _ cO;have q2:w2.rc id=some (g2,rc2):=q2;rw[Um]at q2;simp only[Option.some.injEq,Prod.mk.injEq]at q2;obtain⟨rfl,rfl⟩:=q2;have hle:GB μ μ2:=Dv.dF;have hFp:cm E.P μ2 φ2 m2 (te E.fn.ntmps f2) ρ:=by refine⟨fun t=>?_,fun t id hid=>Dv.live _ id hid⟩;have:=Dv.fr (t+E.fn.ntmps);rw[OC]at this;simpa[te]using this
      have fin:∀(st:Ir)(v:Bool),k (.pv (.bool v)) (te E.fn.ntmps f2) (ao m2 id (.loop st))=some r→∃v' f' m' y μ' φ',k v' f' m'=some r∧Ending.returned (.bool v)=.returned y∧GB μ μ'∧ay E.P E.aI w2 μ' φ' m' (w2'.putObj l (.loop (st.obj rc)))∧cm E.P μ' φ' m' f' ρ∧ai E.P μ' φ' v' y∧∀id,v'.has id=true→(m' id).isSome=true:=by
       intro st v hk;have YU:=Dv.toay.turn (st':=st) cO q1 Um;refine⟨_,_,_,_,μ2,φ2,hk,rfl,hle,YU.tp rfl rfl (fun b o hb=>hle b o (hM.dF b o hb)) (fun _ _ _=>rfl),⟨hFp.fr,fun t j hj=>?_⟩,.pv .bool,fun id hid=>by cases hid⟩;by_cases e:j=id
       ·subst e;simp
       ·rw[aq e];exact hFp.live t j hj
      cases e with
      |normal=>exact⟨_,_,run_endRound none q3,fin .ready true T6⟩
      |exit j=>exact⟨_,_,run_endRound (some (.exit j)) q3,fin (.done (.exit j)) false T6⟩
      |ret=>exact⟨_,_,run_endRound (some .ret) q3,fin (.done .ret) false T6⟩
     ·cases T6
    ·cases Ob
   ·cases hy
  ·cases hy
theorem Us{μ:Ro}{φ:Nat→aG}{m:Mem}{v:V}{g:FuncId}{lV:List V}{y:Value}(h:WA v=some (g,lV))(hv:ai P μ φ v y)(hl:∀id,v.has id=true→(m id).isSome=true):∃xs,y=.func (.func g) #[] xs∧lV.length=xs.size∧(∀(i:Nat)v x,lV[i]?=some v→xs[i]?=some x→ai P μ φ v x)∧∀id,cr id lV=true→(m id).isSome=true:=by
 unfold WA at h;split at h
 ·simp only[Option.some.injEq,Prod.mk.injEq]at h;obtain⟨rfl,rfl⟩:=h;cases hv with
  | @fn _ _ xs h1 h2=>exact⟨xs,rfl,h1,h2,fun id hid=>hl id (by simpa only[V.has]using hid)⟩
 ·simp only[Option.some.injEq,Prod.mk.injEq]at h;obtain⟨rfl,rfl⟩:=h;cases hv with
  |pv hv=>cases hv with
   | @fn _ _ xs h1 h2=>
    refine⟨xs,rfl,by simpa using h1,fun i v x hv hx=>?_,fun id hid=>?_⟩
    ·simp only[List.getElem?_map,Option.map_eq_some_iff]at hv;obtain⟨q,hq,rfl⟩:=hv;exact .pv (h2 i q x hq hx)
    ·obtain⟨v,hv,hh⟩:=cU.1 hid;obtain⟨q,_,rfl⟩:=List.mem_map.1 hv;cases hh
 ·cases h
theorem EJ{g:Operand}{ps:Array Tmp}{as b:Code}(ihA:yC as)(ihB:yC b):yC (.rangeFunc g ps as b):=by
 intro E w0 rd hE hY wW R f m k r h μ φ a w Q hR hQ;simp only[eY]at h;split at h
 ·cases h
 rename_i Iy;have wW:=wW (by simpa using Iy);subst wW;split at h;rotate_left
 ·cases h
 rename_i p0 pr CG;generalize agu:cG E (some p0)=lid at h;obtain⟨f1,m1,_,h,Ru,vT,ael⟩:=cJ h;obtain⟨Oo,rfl,rfl⟩:=vT rfl;refine wpIn_rangeFunc fun fn _=>?_;obtain⟨rec,EK⟩:∃rec:Loop,rec={state:=.ready,pending:=none,fn,tmps:=a.tmps,params:=ps,assign:=as,body:=b,defers:=w.heap.size}:=⟨_,rfl⟩;obtain⟨wD,hwD⟩:∃wD,wD=w.alloc (.deferred (some [])):=⟨_,rfl⟩;obtain⟨W1,hW1⟩:∃W1,W1=wD.alloc (.loop rec):=⟨_,rfl⟩;obtain⟨l,hl⟩:∃l,l=wD.heap.size:=⟨_,rfl⟩;have Is:l=w.heap.size+1:=by rw[hl,hwD];simp
 obtain⟨μD,Xs⟩:∃μD,μD=zx μ w (.deferred (some [])):=⟨_,rfl⟩;have Rv:GB μ μD:=Xs▸GM hR.toay _;have hMD:ay E.P E.aI w0 μD φ m wD:=Xs▸hwD▸hR.toay.Un _;have hD:μD w.heap.size=some (.deferred (some [])):=by rw[Xs];simp[zx]
 obtain⟨w1,Mw⟩:∃w1:bw,w1={w0 with dF:=μD,rc:=fun i=>if i=lid then some (l,rec)else w0.rc i}:=⟨_,rfl⟩;have aaq:ay E.P E.aI w1 μD φ m wD:=Mw▸hMD.tp rfl rfl (fun _ _ h=>h) (fun id st hid=>if_neg fun e=>by subst e;rw[Oo]at hid;cases hid);have Ad:aA E.fn.ntmps w1 a=aA E.fn.ntmps w0 a:=by subst Mw;rfl
 have hFD:cm E.P μD φ m f1 (aA E.fn.ntmps w0 a):=⟨fun t=>(hR.fr t).vt Rv,hR.live⟩;have Xt:w1.rc lid=some (l,rec):=by subst Mw;exact if_pos rfl
 have Ev:W1.heap[l]?=some (.loop rec):=by rw[hW1,hl];exact heap_alloc_new wD _
 have Aa:Ir.ready.obj rec=rec:=by subst EK;rfl
 have qu:jz E.P w1 μD φ m wD W1 lid (.loop .ready) (CF (some l) 0 0 0):=by
  rw[hW1];refine jz.alloc aaq (by rw[hl]) (fun φ' hp _=>⟨l,rec,by rw[hp],?_⟩) (by simp[bK.names]) fun st sZ=>?_
  ·rw[Aa,←hW1];exact Ev
  ·cases sZ;exact⟨l,rec,rfl,Xt,by rw[Aa,←hW1];exact Ev⟩
 obtain⟨φ1,aem,qX,Af⟩:=ael E.P E.aI w1 μD φ wD W1 (aA E.fn.ntmps w0 a) (CF (some l) 0 0 0) aaq hFD qu;have Jh:Rel E.P E.aI E.fn.ntmps w1 μD φ1 f1 (ao m lid (.loop .ready)) a W1:={toay:=qX,size:=hR.size,defers:=(by have:=hR.defers.mono Rv;subst Mw;exact this),kH:=(by subst Mw;exact fun b o hb=>Rv b o (hR.dF b o (hR.kH b o hb))),fr:=fun t=>by rw[Ad];exact Af.fr t,live:=Af.live};have On:=al Jh g;split at h;rotate_left
 ·cases h
 rename_i gid lV mX;obtain⟨xs,hgv,hlen,ja,aen⟩:=Us mX On.1 On.2
 ·clear On;obtain⟨fnI,cI,f1,f2,f3,gz⟩:=hE.Wy _ _ _ _ _ _ _ _ _ h;have PM:ai E.P μD φ1 (.yl lid) (.func (.yield l) #[] #[]):=.yl (by rw[aem]);have hC:=gz w1 μD φ1 (aA E.fn.ntmps w0 a) W1 (#[.func (.yield l) #[] #[]]++xs) qX Af (by simp;omega) (fun i v x hv hx=>by
    cases i with
    |zero=>simp at hv;subst hv;rw[Array.getElem?_append]at hx;simp at hx;subst hx;exact PM
    |succ i=>simp at hv;rw[Array.getElem?_append_right (by simp)]at hx;exact ja i v x hv (by simpa using hx)) (fun id hid=>by
    simp only[cr,Bool.or_eq_true]at hid;rcases hid with hid|hid
    ·have:=Nat.eq_of_beq_eq_true hid;subst this;simp
    ·exact aen id hid) (by
   refine fun R site id args F m k r hy=>Rt (fid:=site*4096+E.fid%4096) ihA ihB hE (w2:={w1 with sv:=fun t=>aA E.fn.ntmps w0 a (t-fnI.ntmps)}) (rc:=rec) (l:=l) (lid:=lid) (ps:=ps) Xt (by subst EK;rfl) (by subst EK;rfl) (by subst EK;rfl) (by subst EK;exact hR.size) (fun t ht=>by subst EK;show aA E.fn.ntmps w0 a (t+fnI.ntmps-fnI.ntmps)=_;rw[Nat.add_sub_cancel,oi ht]) R site id args F m k r hy)
  refine⟨l,[{target:=.collected w.heap.size,args:= #[]}],W1,{target:=.fn (.func gid) xs,args:= #[.func (.yield l) #[] #[]]},W1,gid,#[.func (.yield l) #[] #[]]++xs,W1,?_,?_,?_,?_,?_,?_⟩
  ·have:=run_enterLoop_outer (P:=E.P) (w:=w) fn a.tmps ps as b;rw[Is,hW1,hwD,EK];exact this
  ·simp only[resolve,hgv];simp[go_sem]
  ·exact fun _ _=>trivial
  ·simp[invoke,go_sem,Ur f1 f3 f2]
  ·exact fun h=>by cases h
  ·refine FR.MC (hC.mono ?_);rintro e w' ⟨v,f',m',y,μ',φ',hk,rfl,Qx,Zu,_,_⟩;have Xu:GB μD μ':=by have:=Qx.dF;subst Mw;exact this
   have hD':μ' w.heap.size=some (.deferred (some [])):=Xu _ _ hD;have main:∀st,m' lid=some (.loop st)→st≠.busy→∃w4,(Instr.endLoop l).run E.P w'=.ok (st.obj rec).pending w4∧Rel E.P E.aI E.fn.ntmps w0 μ' φ' (eP lid f') (bg (bD lid m') lid) {a with defers:=[{target:=.collected w.heap.size,args:= #[]}]++a.defers} w4:=by
    intro st sZ ZF;obtain⟨g',rc',p1,p2,p3⟩:=Qx.zd lid st sZ;rw[Xt]at p2;simp only[Option.some.injEq,Prod.mk.injEq]at p2;obtain⟨rfl,rfl⟩:=p2;have rU:=Qx.own lid _ _ sZ (.inl p1);have hMf:=Qx.forget lid;have yr:∀id b,bg (bD lid m') lid id=some b→¬b.eg (φ' id) l:=fun id b' hid e=>by obtain⟨cT,b2,pB,rfl⟩:=eM hid;exact cT (Qx.inj id lid b2 _ l pB sZ (fD.1 e) (.inl p1))
    have hM4:=hMf.other (.loop {st.obj rec with state:=.exhausted}) rU.1 (rU.2 rfl) yr;have hM5:ay E.P E.aI w0 μ' φ' (bg (bD lid m') lid) (w'.putObj l (.loop {st.obj rec with state:=.exhausted})):=hM4.tp (by subst Mw;rfl) (by subst Mw;rfl) (fun b o hb=>Xu b o (Rv b o (hR.dF b o hb))) (fun id st hid=>by
      have cT:id≠lid:=fun e=>by subst e;simp at hid
      subst Mw;exact(if_neg cT).symm)
    refine⟨_,run_endLoop p3 (by cases st<;>simp_all[Ir.obj]),{toay:=hM5,size:=hR.size,defers:=?_,kH:=hR.kH,fr:=?_,live:=?_}⟩
    ·obtain⟨Ds,e,To,hDs⟩:=hR.defers;have br:∀b o,μ b=some o→b<w.heap.size:=fun b o hb=>(Array.getElem?_eq_some_iff.1 (hR.ro b o hb)).1;refine⟨w.heap.size::Ds,by simp[e],List.nodup_cons.2 ⟨fun hd=>?_,To⟩,fun D hd=>?_⟩
     ·have:=br _ _ (hDs _ hd).2.2;omega
     ·rcases List.mem_cons.1 hd with rfl|hd
      ·refine⟨hR.below.size,?_,hD'⟩;cases ho:w0.kH w.heap.size with
       |none=>rfl
       |some o=>have:=br _ _ (hR.dF _ _ (hR.kH _ _ ho));omega
      ·exact⟨(hDs D hd).1,(hDs D hd).2.1,Xu _ _ (Rv _ _ (hDs D hd).2.2)⟩
    ·exact(Zu.forget lid).fr
    ·exact(Zu.forget lid).live
   dsimp only at hk;split at hk
   ·rename_i sZ;obtain⟨w4,e1,e2⟩:=main .ready sZ (by simp);exact⟨none,w4,e1,hQ .normal _ _ _ _ _ _ hk e2⟩
   ·rename_i j sZ;obtain⟨w4,e1,e2⟩:=main (.done j) sZ (by simp);refine⟨some j.code,w4,e1,?_⟩;cases j with
    |ret=>exact wpIn_ret (hQ .ret _ _ _ _ _ _ hk e2)
    |exit id=>exact wpIn_exit (hQ (.exit id) _ _ _ _ _ _ hk e2)
   ·cases hk
theorem Rw:∀(c:Code),yC c:=by
 intro c;induction c with
 |skip=>intro E w0 rd hE hY wW R f m k r h μ φ a w Q hR hQ;simp only[eY]at h;exact wpIn_skip (hQ .normal _ _ _ _ _ _ h hR)
 |region id ops draw=>intro E w0 rd hE hY wW R f m k r h μ φ a w Q hR hQ;exact OB hE hY h hR (hQ .normal)
 |seq x y ihx ihy=>
  intro E w0 rd hE hY wW R f m k r h μ φ a w Q hR hQ;simp only[eY]at h;refine wpIn_seq (ihx hE hY wW h hR fun e f' m' μ' φ' a' w' hk ir=>?_);cases e with
  |normal=>exact ihy hE hY wW hk ir hQ
  |exit id=>exact hQ (.exit id) _ _ _ _ _ _ hk ir
  |ret=>exact hQ .ret _ _ _ _ _ _ hk ir
 |cond c x y ihx ihy=>
  intro E w0 rd hE hY wW R f m k r h μ φ a w Q hR hQ;simp only[eY]at h;split at h
  ·rename_i t b hb;have hv:a.eval (.tmp t)=.bool b:=by have:=(al hR (.tmp t)).1;rw[hb]at this;exact oG this
   have fP:f t=.pv (.bool b):=(BH hb).2;have hle:sV (fi f t (.pv (.bool b))) f:=fun s=>by
    simp only[fi];cases e:Nat.beq s t with
    |true=>have:=Nat.eq_of_beq_eq_true e;subst this;exact .inl fP.symm
    |false=>exact .inl rfl
   cases b with
   |true=>simp only[if_true]at h;exact wpIn_cond_true hv (ihx hE hY wW h (hR.weaken hle) hQ)
   |false=>simp only[Bool.false_eq_true,if_false]at h;exact wpIn_cond_false hv (ihy hE hY wW h (hR.weaken hle) hQ)
  ·cases h
 |block id b ih=>
  intro E w0 rd hE hY wW R f m k r h μ φ a w Q hR hQ;simp only[eY]at h;refine wpIn_block (ih hE hY wW h hR fun e f' m' μ' φ' a' w' hk ir=>?_);cases e with
  |normal=>exact hQ .normal _ _ _ _ _ _ hk ir
  |exit j=>
   simp only[Ex.Qh]at hk;simp only[Rr,Exit.inBlock];split at hk
   ·rename_i hj;rw[if_pos hj];exact hQ .normal _ _ _ _ _ _ hk ir
   ·rename_i hj;rw[if_neg hj];exact hQ (.exit j) _ _ _ _ _ _ hk ir
  |ret=>exact hQ .ret _ _ _ _ _ _ hk ir
 |loop b ih=>
  intro E w0 rd hE hY wW R f m k r h μ φ a w Q hR hQ;simp only[eY]at h;split at h
  ·rename_i T _;obtain⟨f,m,μ,φ,h,hR⟩:=GP h hR;obtain⟨s,hs,s1,s2,s3,s4⟩:=Rp h;obtain⟨n0,hs⟩:=hE.lp _ _ _ _ _ hs;refine DH (fun n a w=>∃s μ φ,Rel E.P E.aI E.fn.ntmps w0 μ φ (IH T s) (A2 T s) a w∧cF (fun s rec=>eY E b (IH T s) (A2 T s) (Ex.Gd (fun f m=>C8 E.P T f m fun f m=>enc T f m rec) k)) n s=some r) ?_ n0 a w ⟨s,μ,φ,hR.dec s1 s2 s3 s4,hs⟩;rintro n a w ⟨s,μ,φ,hR,hs⟩;cases n with
   |zero=>simp[cF]at hs
   |succ n=>
    refine⟨n,rfl,?_⟩;simp only[cF]at hs;refine ih hE hY wW hs hR fun e f' m' μ' φ' a' w' hk ir=>?_;cases e with
    |normal=>obtain⟨f',m',μ',φ',hk,ir⟩:=GP hk ir;obtain⟨s',Z7,t1,t2,t3,t4⟩:=Rp hk;exact⟨s',μ',φ',ir.dec t1 t2 t3 t4,Z7⟩
    |exit j=>exact hQ (.exit j) _ _ _ _ _ _ hk ir
    |ret=>exact hQ .ret _ _ _ _ _ _ hk ir
  ·refine DH (fun n a w=>∃f m μ φ,Rel E.P E.aI E.fn.ntmps w0 μ φ f m a w∧Gb (fun f m rec=>eY E b f m (Ex.Gd rec k)) n f m=some r) ?_ E.u a w ⟨f,m,μ,φ,hR,h⟩;rintro n a w ⟨f,m,μ,φ,hR,hs⟩;cases n with
   |zero=>simp[Gb]at hs
   |succ n=>
    refine⟨n,rfl,?_⟩;simp only[Gb]at hs;refine ih hE hY wW hs hR fun e f' m' μ' φ' a' w' hk ir=>?_;cases e with
    |normal=>exact⟨f',m',μ',φ',ir,hk⟩
    |exit j=>exact hQ (.exit j) _ _ _ _ _ _ hk ir
    |ret=>exact hQ .ret _ _ _ _ _ _ hk ir
 |exit id=>intro E w0 rd hE hY wW R f m k r h μ φ a w Q hR hQ;simp only[eY]at h;exact wpIn_exit (hQ (.exit id) _ _ _ _ _ _ h hR)
 |label l=>intro E w0 rd hE hY wW R f m k r h μ φ a w Q hR hQ;simp only[eY]at h;exact wpIn_label (hQ .normal _ _ _ _ _ _ h hR)
 |ret=>intro E w0 rd hE hY wW R f m k r h μ φ a w Q hR hQ;simp only[eY]at h;exact wpIn_ret (hQ .ret _ _ _ _ _ _ h hR)
 |scope b ih=>intro E w0 rd hE hY wW R f m k r h μ φ a w Q hR hQ;simp only[eY]at h;exact OA (ih hE hY wW h hR fun e f' m' μ' φ' a' w' hk ir=>by cases e<;>exact hQ _ _ _ _ _ _ _ hk ir)
 |rangeFunc g ps as b ihA ihB=>exact EJ ihA ihB
 |_=>intro E w0 rd hE hY wW R f m k r h;simp[eY]at h
end Go.Ab
set_option linter.unusedVariables false
namespace Go.Ab
open Go.RowKit (Below)
def Obj.Xv:Obj→Bool
 |.cells .. =>true
 |.map .. =>true
 |_=>false
def MK(μ μ':Ro):Prop:=∀b o,μ b=some o→Obj.Xv o=true→μ' b=some o
theorem MK.trans{a b c:Ro}(h:MK a b)(k:MK b c):MK a c:=fun x o hx ho=>k x o (h x o hx ho) ho
section
variable {P:Program} {G:Nat→Option (List PV)} {w0:bw} {μ μ':Ro} {φ:Nat→aG} {m:Mem} {w w':World}
variable{x:Value}
theorem B3(h:MK μ μ'){b o:Nat}(hx:cellAt μ b o=some x):cellAt μ' b o=some x:=by
 unfold cellAt at*;split at hx
 ·rename_i c t fz hb;rw[h _ _ hb rfl];exact hx
 ·cases hx
theorem ak.off(h:MK μ μ'){p:PV}(hp:ak P μ p x):ak P μ' p x:=by
 induction hp with
 |int h=>exact .int h
 |bool=>exact .bool
 |str h=>exact .str h
 |agg h1 _ h3 ih=>exact .agg h1 ih h3
 |bl h1 _ ih=>exact .bl h1 ih
 |ny=>exact .ny
 |rp X h1 _ h3 ih=>exact .rp X (fun i p hi=>B3 h (h1 i p hi)) ih h3
 |jn=>exact .jn
 |FQ h=>exact .FQ h
 |rs X h1 h2 h3 h4 _ h6 ih=>exact .rs X h1 h2 h3 (fun i e j p hi hj=>B3 h (h4 i e j p hi hj)) ih h6
 |sR=>exact .sR
 |rm h1 h2 h3 h4 h5 _ _ ih1 ih2=>exact .rm (h _ _ h1 rfl) h2 h3 h4 h5 ih1 ih2
 |xR=>exact .xR
 |fn h1 _ ih=>exact .fn h1 ih
 |Qo=>exact .Qo
 |TL=>exact .TL
 |bad=>exact .bad
theorem vq.off(h:MK μ μ'){g:Nat}{cs:List PV}(hv:vq P μ g cs):vq P μ' g cs:=⟨hv.rep.off h,let⟨c,T,z,h1,h2⟩:=hv.size;⟨c,T,z,h _ _ h1 rfl,h2⟩⟩
theorem ai.off(h:MK μ μ'){v:V}{x:Value}(hv:ai P μ φ v x):ai P μ' φ v x:=by
 induction hv with
 |pv hp=>exact .pv (hp.off h)
 |bj=>exact .bj
 |op hg=>exact .op hg
 |oe hg=>exact .oe hg
 |pA hg=>exact .pA hg
 |os hg=>exact .os hg
 |oq hg=>exact .oq hg
 |fh hg hl ha hc PN=>exact .fh hg hl ha hc PN
 |Ep hg=>exact .Ep hg
 |tc hg=>exact .tc hg
 |wJ hg hs=>exact .wJ hg hs
 |om hg=>exact .om hg
 |yl hg=>exact .yl hg
 |it hg=>exact .it hg
 |fn h1 _ ih=>exact .fn h1 ih
 |agg h1 _ h3 ih=>exact .agg h1 ih h3
 |bl h1 _ ih=>exact .bl h1 ih
 |top=>exact .top
theorem aM.off(h:MK μ μ'){id sz:Nat}{et:TypeId}{es:List PV}(ha:aM P μ φ w id sz et es)(hw:∀g,(φ id).g=some g→w'.heap[g]?=w.heap[g]?):aM P μ' φ w' id sz et es:=by
 obtain⟨a1,a2,a3,a4,a5,a6,a7⟩:=ha;refine⟨a1,a2,a3,a4,a5,a6,?_⟩;cases hg:(φ id).g with
 |none=>rw[hg]at a7;exact a7
 |some g=>rw[hg]at a7;obtain⟨c,c1,c2,c3,c4,c5⟩:=a7;exact⟨c,by rw[hw g hg];exact c1,c2,c3,fun i e j p x h1 h2 h3=>(c4 i e j p x h1 h2 h3).off h,c5⟩
theorem eK.off(hh:MK μ μ'){R:ze}{s:Nat}{rs:List PV}{x:Value}(h:eK P μ R w s rs x)(hw:∀g,R.g=some g→w'.heap[g]?=w.heap[g]?):eK P μ' R w' s rs x:=
 let⟨⟨et,hA⟩,hV⟩:=h
 ⟨⟨et,hA.off hh hw⟩,hV.off hh⟩
theorem ei.off(hh:MK μ μ'){R:ze}{p:PV}{x:Value}(h:ei P μ R w p x)(hw:p.isRow=true→∀g,R.g=some g→w'.heap[g]?=w.heap[g]?):ei P μ' R w' p x:=by
 unfold ei at*;split at h
 ·exact eK.off hh h (hw rfl)
 ·exact ak.off hh h
theorem aV.off(hh:MK μ μ'){id sz:Nat}{et:TypeId}{es:List PV}(h:aV P μ φ w id sz et es)(hw:∀g,(bK.nest sz et es).eg (φ id) g→w'.heap[g]?=w.heap[g]?):aV P μ' φ w' id sz et es:=by
 obtain⟨a1,a2,a3,a4,a5,a6,a7⟩:=h;refine⟨a1,a2,a3,a4,a5,a6,?_⟩;cases hg:(φ id).g with
 |none=>rw[hg]at a7;exact a7
 |some g=>rw[hg]at a7;obtain⟨c,c1,c2,c3,c4,c5⟩:=a7;exact⟨c,by rw[hw g (.inl hg)];exact c1,c2,c3,fun i e j p x h1 h2 h3=>(c4 i e j p x h1 h2 h3).off hh fun hr g' bX=>hw g' (.inr ⟨i,j,by rw[dA h1 h2];exact hr,bX⟩),c5⟩
theorem eK.ML{R:ze}{s g:Nat}{rs:List PV}(h:eK P μ R w s rs x)(hg:R.g=some g):∃c T z,w.heap[g]?=some (.cells c T z):=by obtain⟨⟨et,_,_,_,_,_,_,a7⟩,_⟩:=h;have bX:R.up.g=some g:=hg;simp only[bX]at a7;obtain⟨c,c1,_⟩:=a7;exact⟨_,_,_,c1⟩
theorem fQ.Rx{id g i off:Nat}{b:bK}(h:fQ P μ φ w id b)(hr:b.rowAt i off=true)(hg:((φ id).row i off).g=some g):∃c T z,w.heap[g]?=some (.cells c T z):=by
 rcases iO hr with⟨sz,et,es,e,s,rs,rfl,he,hp⟩|⟨kt,e0,es,k,s,rs,rfl,rfl,he⟩
 ·have hN:aV P μ φ w id sz et es:=h;have hgg:∃g0,(φ id).g=some g0:=by
   cases hq:(φ id).g with
   |some g0=>exact⟨g0,rfl⟩
   |none=>have a7:=hN.2.2.2.2.2.2;rw[hq]at a7;rw[a7.1]at he;simp at he
  obtain⟨g0,It⟩:=hgg;obtain⟨c,x,_,_,c3,_⟩:=hN.cell It he hp;exact eK.ML (show eK P μ _ w s rs x from c3) hg
 ·obtain⟨g0,en,clock,kk,It,hh,hs,hk,hc,sJ,hv⟩:=h;have hi:i<en.size:=by rw[hs];exact(List.getElem?_eq_some_iff.1 he).1
  have h3:=(hv i k _ en[i] he (Array.getElem?_eq_getElem hi)).2;exact eK.ML (P:=P) (μ:=μ) (R:=(φ id).row i 0) (s:=s) (rs:=rs) (x:=en[i].val) ⟨⟨_,h3.1⟩,h3.2⟩ hg
theorem fQ.off(h:MK μ μ')(mi:∀b o,μ b=some o→w.heap[b]?=some o){id:Nat}{b:bK}(hb:fQ P μ φ w id b)(hw:∀g,b.eg (φ id) g→w'.heap[g]?=w.heap[g]?):fQ P μ' φ w' id b:=by
 cases b with
 |nest sz et es=>exact aV.off h hb hw
 |eU kt e0 es=>
  obtain⟨g,en,clock,kk,hg,hh,hs,hk,hc,sJ,hv⟩:=hb;refine⟨g,en,clock,kk,hg,by rw[hw g (.inl hg)];exact hh,hs,hk,hc,sJ,fun i k v e h1 h2=>⟨(hv i k v e h1 h2).1.off h,?_⟩⟩;have h3:=(hv i k v e h1 h2).2;split at h3
  ·exact⟨h3.1.off h fun g' bX=>hw g' (.inr ⟨i,0,by rw[iN h1];rfl,bX⟩),h3.2.off h⟩
  ·exact h3.off h
 |box cs=>obtain⟨g,c,T,hg,hh,hs,hv,h1,yn⟩:=hb;exact⟨g,c,T,hg,by rw[hw g (.inl hg)];exact hh,hs,fun i v x hi hx=>(hv i v x hi hx).off h,h1,yn⟩
 |arr sz et es=>exact aM.off h hb fun g hg=>hw g (.inl hg)
 |nO sz et es=>refine⟨aM.off h hb.1 fun g hg=>hw g (.inl hg),fun g hg=>?_⟩;obtain⟨o,ho⟩:=Option.isSome_iff_exists.1 (hb.2 g hg);obtain⟨_,_,_,_,_,_,a7⟩:=hb.1;rw[hg]at a7;obtain⟨c,c1,_⟩:=a7;have:=mi g o ho;rw[c1]at this;cases this;rw[h _ _ ho rfl];rfl
 |map kt es=>obtain⟨g,en,clock,kk,hg,hh,hs,hk,hc,sJ,hv⟩:=hb;exact⟨g,en,clock,kk,hg,by rw[hw g (.inl hg)];exact hh,hs,hk,hc,sJ,fun i k v e h1 h2=>⟨(hv i k v e h1 h2).1.off h,(hv i k v e h1 h2).2.off h⟩⟩
 |iter t es cur=>obtain⟨g,mg,en,clock,seen,hg,hh,Bf,sJ,yn,hv,ZB⟩:=hb;exact⟨g,mg,en,clock,seen,hg,by rw[hw g (.inl hg)];exact hh,h _ _ Bf rfl,sJ,yn,fun i k v e h1 h2=>⟨(hv i k v e h1 h2).1.off h,(hv i k v e h1 h2).2.off h⟩,fun k v hc=>let⟨i,e,h1,h2,h3,h4⟩:=ZB k v hc;⟨i,e,h1,h2,h3.off h,h4.off h⟩⟩
 |loop st=>obtain⟨g,rc,hg,hh⟩:=hb;exact⟨g,rc,hg,by rw[hw g (.inl hg)];exact hh⟩
def zy(μ:Ro)(D:Nat):Ro:=fun b=>if b=D then none else μ b
theorem MM{D:Nat}(hD:μ D=some (.deferred (some []))):MK μ (zy μ D):=by intro b o hb ho;unfold zy;rw[if_neg fun e=>by subst e;rw[hD]at hb;cases hb;cases ho];exact hb
theorem ay.shut(hM:ay P G w0 μ φ m w){D:Nat}(hB:w0.heap.size≤D)(hk:w0.dF D=none)(hD:μ D=some (.deferred (some []))):ay P G w0 (zy μ D) φ m (w.putObj D (.deferred none)):=by
 have hc:=MM hD;have hh:=hM.ro _ _ hD;have Ah:∀k,k≠D→(w.putObj D (.deferred none)).heap[k]?=w.heap[k]?:=fun k hk=>World.putObj_heap_other hk;have cT:∀id b g,m id=some b→b.eg (φ id) g→g≠D:=fun id b g hm hg e=>by
  subst e;have hR:=hM.dJ id b hm;rcases hg with hg|⟨i,off,hr,hg⟩
  rotate_left
  ·obtain⟨c,T,z,h2⟩:=hR.Rx hr hg;rw[hh]at h2;cases h2
  cases b with
  |nest sz et es=>obtain⟨_,_,_,_,_,_,a7⟩:=hR;rw[hg]at a7;obtain⟨c,c1,_⟩:=a7;rw[hh]at c1;cases c1
  |eU kt e0 es=>obtain⟨g',en,clock,kk,bX,h2,_⟩:=hR;rw[hg]at bX;cases bX;rw[hh]at h2;cases h2
  |box cs=>obtain⟨g',c,T,bX,h2,_⟩:=hR;rw[hg]at bX;cases bX;rw[hh]at h2;cases h2
  |arr sz et es=>obtain⟨_,_,_,_,_,_,a7⟩:=hR;rw[hg]at a7;obtain⟨c,c1,_⟩:=a7;rw[hh]at c1;cases c1
  |nO sz et es=>obtain⟨⟨_,_,_,_,_,_,a7⟩,_⟩:=hR;rw[hg]at a7;obtain⟨c,c1,_⟩:=a7;rw[hh]at c1;cases c1
  |map kt es=>obtain⟨g',en,clock,kk,bX,h2,_⟩:=hR;rw[hg]at bX;cases bX;rw[hh]at h2;cases h2
  |loop st=>obtain⟨g',rc,bX,h2⟩:=hR;rw[hg]at bX;cases bX;rw[hh]at h2;cases h2
  |iter t es cur=>obtain⟨g',mg,en,clock,seen,bX,h2,_⟩:=hR;rw[hg]at bX;cases bX;rw[hh]at h2;cases h2
 refine⟨hM.below.trans ((jx.putObj w D _).mono hB),fun b o hb=>?_,fun g cs hg=>(hM.aI g cs hg).off hc,fun id b hm=>(hM.dJ id b hm).off hc hM.ro fun g hg=>Ah g (cT id b g hm hg),fun id b g hm hg=>?_,hM.inj,hM.apart,hM.fj,fun b o hb br=>?_,fun b o hb=>?_,fun id st hm=>?_⟩
 ·unfold zy at hb;split at hb
  ·cases hb
  ·rename_i e;rw[Ah b e];exact hM.ro b o hb
 ·obtain⟨h1,h2⟩:=hM.own id b g hm hg;refine⟨h1,fun Gi=>?_⟩;unfold zy;rw[if_neg (cT id b g hm hg)];exact h2 Gi
 ·unfold zy at hb;split at hb
  ·cases hb
  ·exact hM.base b o hb br
 ·unfold zy;rw[if_neg fun e=>by subst e;rw[hk]at hb;cases hb];exact hM.dF b o hb
 ·obtain⟨g,rc,h1,h2,h3⟩:=hM.zd id st hm;exact⟨g,rc,h1,h2,by rw[Ah g (cT id _ g hm (.inl h1))];exact h3⟩
end
section
variable {E:Env} {w0:bw}
theorem xj{R:Ending→World→Prop}{f:Fr}{m:Mem}{φ:Nat→aG}{fn:Func}{tmps:Array Value}:∀(Ds:List Nat){μ:Ro}{w:World},Ds.Nodup→(∀D∈Ds,w0.heap.size≤D∧w0.dF D=none∧μ D=some (.deferred (some [])))→Rel E.P E.aI E.fn.ntmps w0 μ φ f m {tmps,defers:=[]} w→(∀μ' w',Rel E.P E.aI E.fn.ntmps w0 μ' φ f m {tmps,defers:=[]} w'→∃v,(results fn tmps).run E.P w'=.ok v w'∧R (.returned v) w')→LeavesInM (FR none) 0 E.P fn tmps R (Ds.map fun D=>{target:=.collected D,args:= #[]}) .returning w
 |[],μ,w,_,_,hR,tJ=>tJ μ w hR
 |D::Ds,μ,w,hn,hD,hR,tJ=>by obtain⟨h1,h2,h3⟩:=hD D (by simp);obtain⟨n1,n2⟩:=List.nodup_cons.1 hn;have hM:=hR.toay.shut h1 h2 h3;refine⟨by simp,.inl ⟨D,_,rfl,run_takeDeferred (hR.ro _ _ h3),?_⟩⟩;refine xj Ds n2 (fun D' Ms=>?_) {toay:=hM,size:=hR.size,defers:=.nil _ _ _,kH:=hR.kH,fr:=fun t=>(hR.fr t).off (MM h3),live:=hR.live} tJ;obtain⟨a1,a2,a3⟩:=hD D' (by simp[Ms]);refine⟨a1,a2,?_⟩;unfold zy;rw[if_neg fun e=>by subst e;exact n1 Ms];exact a3
theorem qj(hE:iK E)(hY:qS E.P E.aI E.fn.ntmps E.yl w0)(hko:∀b o,w0.dF b=some o→w0.kH b=some o){g:FuncId}{c:Code}(hf:E.P.funcs[g]?=some E.fn)(hb:E.fn.body=some c){xs:Array Value}{R:Ending→World→Prop}{S:Type}{f:Fr}{m:Mem}{k:Ex→Fr→Mem→Option S}{r:S}(h:eY E c f m k=some r){μ:Ro}{φ:Nat→aG}{w:World}(hR:Rel E.P E.aI E.fn.ntmps w0 μ φ f m {tmps:=xs++Array.replicate (E.fn.ntmps-xs.size) undef,defers:=[]} w)(tJ:∀e f' m' μ' φ' tmps w',k e f' m'=some r→Rel E.P E.aI E.fn.ntmps w0 μ' φ' f' m' {tmps,defers:=[]} w'→(∀id,e≠.exit id)∧∃v,(results E.fn tmps).run E.P w'=.ok v w'∧R (.returned v) w'):Calls E.P g xs w R:=by
 refine(callsIn_wide (n:=0)).1 (callsIn_of_wp_marks (F:=FR none) hf hb trivial ?_);refine Rw c hE hY (fun _=>rfl) h hR fun e f' m' μ' φ' a' w' hk ir=>?_;obtain⟨Ds,e1,e2,e3⟩:=ir.defers;have Dv:Rel E.P E.aI E.fn.ntmps w0 μ' φ' f' m' {tmps:=a'.tmps,defers:=[]} w':={toay:=ir.toay,size:=ir.size,defers:=.nil _ _ _,kH:=ir.kH,fr:=ir.fr,live:=ir.live};have key:(∀id,e≠.exit id)→LeavesInM (FR none) 0 E.P E.fn a'.tmps R a'.defers .returning w':=fun _=>by
  rw[e1];refine xj Ds e2 (fun D hd=>?_) Dv fun μ2 w2 hR3=>(tJ e f' m' μ2 φ' a'.tmps w2 hk hR3).2;obtain⟨a1,a2,a3⟩:=e3 D hd;refine⟨a1,?_,a3⟩;cases hq:w0.dF D with
  |none=>rfl
  |some o=>rw[hko D o hq]at a2;cases a2
 have cT:=(tJ e f' m' μ' φ' a'.tmps w' hk Dv).1;cases e with
 |normal=>exact key cT
 |ret=>exact key cT
 |exit id=>exact absurd rfl (cT id)
end
end Go.Ab
