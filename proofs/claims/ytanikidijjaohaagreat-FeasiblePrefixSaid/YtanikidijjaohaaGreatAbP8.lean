import Derived.Test.YtanikidijjaohaaGreatAbP7
import Derived.RangeFuncIn
import Derived.Scope
set_option linter.unusedVariables false
namespace Go.Ab
open Go.RowKit (Below)
section
variable {P:Program} {G:Nat→Option (List PV)} {w0:br} {μ:Ro} {φ:Nat→aA} {m:Mem} {w:World}
theorem kG.putObj(w:World)(g:Nat)(o:Obj):kG g w (w.putObj g o):=⟨⟨rfl,rfl,rfl,by simp,fun k hk=>World.putObj_heap_other (by omega)⟩,fun _=>Nat.le_refl _⟩
theorem av.vA(h:av P G w0 μ φ m w){w1:br}(hw:w1.w=w0.w)(Dn:w1.mu=w0.mu)(hk:∀b o,w1.dA b=some o→μ b=some o)(XA:∀id st,m id=some (.loop st)→w1.rc id=w0.rc id):av P G w1 μ φ m w:=by obtain⟨a0,b0,c0,d0,e0⟩:=w0;obtain⟨a1,b1,c1,d1,e1⟩:=w1;simp only at hw Dn;subst hw;subst Dn;refine⟨h.below,h.ro,h.aD,h.dy,h.own,h.inj,h.apart,h.fJ,h.base,hk,fun id st hid=>?_⟩;obtain⟨g,rc,h1,h2,h3⟩:=h.BD id st hid;exact⟨g,rc,h1,(XA id st hid).trans h2,h3⟩
def BZ(μ:Ro)(w:World)(o:Obj):Ro:=fun b=>if b=w.heap.size then some o else μ b
theorem JP(hM:av P G w0 μ φ m w)(o:Obj):JE μ (BZ μ w o):=by intro b o' hb;have:=(Array.getElem?_eq_some_iff.1 (hM.ro b o' hb)).1;unfold BZ;rw[if_neg (by omega)];exact hb
theorem av.XB(hM:av P G w0 μ φ m w)(o:Obj):av P G w0 (BZ μ w o) φ m (w.alloc o):=by
 have hle:=JP hM o;have hold:∀k,k<w.heap.size→(w.alloc o).heap[k]?=w.heap[k]?:=fun k hk=>kG.heap_alloc w o k hk;have l0:w0.heap.size≤w.heap.size:=hM.below.size;refine⟨hM.below.alloc hM.below.size o,fun b o' hb=>?_,fun g cs hg=>(hM.aD g cs hg).mono hle,fun id b hid=>?_,fun id b g hid hg=>?_,hM.inj,hM.apart,hM.fJ,fun b o' hb bm=>?_,fun b o' hb=>hle b o' (hM.dA b o' hb),fun id st hid=>?_⟩
 ·unfold BZ at hb;split at hb
  ·rename_i e;subst e;cases hb;exact heap_alloc_new w o
  ·have:=hM.ro b o' hb;rw[hold b (Array.getElem?_eq_some_iff.1 this).1];exact this
 ·have hR:=hM.dy id b hid;exact hR.cD (fun _ _=>rfl) rfl hle (fun g hg=>hold g (hR.Dp hg))
 ·obtain⟨h1,h2⟩:=hM.own id b g hid hg;refine⟨h1,fun Jo=>?_⟩;have:=(hM.dy id b hid).Dp hg;unfold BZ;rw[if_neg (by omega)];exact h2 Jo
 ·unfold BZ at hb;rw[if_neg (by omega)]at hb;exact hM.base b o' hb bm
 ·obtain⟨g,rc,h1,h2,h3⟩:=hM.BD id st hid;exact⟨g,rc,h1,h2,by rw[hold g (Array.getElem?_eq_some_iff.1 h3).1];exact h3⟩
theorem av.other(hM:av P G w0 μ φ m w){g:Nat}(o:Obj)(hg:w0.heap.size≤g)(hμ:μ g=none)(AM:∀id b,m id=some b→¬b.owns (φ id) g):av P G w0 μ φ m (w.putObj g o):=by
 have Co:∀k,k≠g→(w.putObj g o).heap[k]?=w.heap[k]?:=fun k hk=>World.putObj_heap_other hk;refine⟨hM.below.trans ((kG.putObj w g o).mono hg),fun b o' hb=>?_,hM.aD,fun id b hid=>?_,hM.own,hM.inj,hM.apart,hM.fJ,hM.base,hM.dA,fun id st hid=>?_⟩
 ·rw[Co b fun e=>by subst e;rw[hμ]at hb;cases hb];exact hM.ro b o' hb
 ·have hR:=hM.dy id b hid;exact hR.cD (fun _ _=>rfl) rfl (fun _ _ h=>h) (fun g' bP=>Co g' fun e=>by subst e;exact AM id b hid bP)
 ·obtain⟨g',rc,h1,h2,h3⟩:=hM.BD id st hid;exact⟨g',rc,h1,h2,by rw[Co g' fun e=>by subst e;exact AM id _ hid (.inl h1)];exact h3⟩
theorem av.turn(hM:av P G w0 μ φ m w){id g:Nat}{st st':LG}{rc:Loop}(hm:m id=some (.loop st))(hg:(φ id).g=some g)(XA:w0.rc id=some (g,rc)):av P G w0 μ φ (ak m id (.loop st')) (w.putObj g (.loop (st'.obj rc))):=by have bm:=(hM.dy id _ hm).Dp (.inl hg);have Hw:(w.putObj g (.loop (st'.obj rc))).heap[g]?=some (.loop (st'.obj rc)):=World.putObj_heap_same bm;exact hM.write hm rfl hg (kG.putObj w g _) (by simp) (fun k hk=>World.putObj_heap_other hk) ⟨g,rc,hg,Hw⟩ rfl (by simp[bE.names]) fun s hs=>by cases hs;exact⟨rc,XA,Hw⟩
end
section
variable {P:Program} {μ:Ro} {φ:Nat→aA}
theorem Gt{nt:Nat}:∀(ps:List Nat)(args:List V)(xs:List Value)(f:Fr)(tmps:Array Value),tmps.size=nt→args.length=xs.length→(∀t,t<nt→ae P μ φ (f t) (tmps.getD t undef))→(∀(i:Nat)v x,args[i]?=some v→xs[i]?=some x→ae P μ φ v x)→((ps.zip xs).foldl (fun tmps(x:Nat×Value)=>tmps.setIfInBounds x.1 x.2) tmps).size=nt∧∀t,t<nt→ae P μ φ (Db ps args f t) (((ps.zip xs).foldl (fun tmps(x:Nat×Value)=>tmps.setIfInBounds x.1 x.2) tmps).getD t undef)
 |[],args,xs,f,tmps,hs,_,hf,_=>by cases args<;>exact⟨hs,hf⟩
 |p::ps,[],xs,f,tmps,hs,hl,hf,_=>by have:xs=[]:=List.eq_nil_of_length_eq_zero (by simpa using hl.symm);subst this;exact⟨hs,hf⟩
 |p::ps,v::args,[],f,tmps,hs,hl,hf,_=>by simp at hl
 |p::ps,v::args,x::xs,f,tmps,hs,hl,hf,hr=>by
  simp only[List.zip_cons_cons,List.foldl_cons,Db];refine Gt ps args xs (fI f p v) (tmps.setIfInBounds p x) (by simpa using hs) (by simpa using hl) (fun t ht=>?_) (fun i u y hu hy=>hr (i+1) u y (by simpa using hu) (by simpa using hy));by_cases e:t=p
  ·subst e;rw[ua];have:(tmps.setIfInBounds t x).getD t undef=x:=by rw[Array.getD_eq_getD_getElem?,Array.getElem?_setIfInBounds];simp[show t<tmps.size by omega]
   rw[this];exact hr 0 v x rfl rfl
  ·rw[qu e];have:(tmps.setIfInBounds p x).getD t undef=tmps.getD t undef:=by rw[Array.getD_eq_getD_getElem?,Array.getD_eq_getD_getElem?,Array.getElem?_setIfInBounds,if_neg (fun h=>e h.symm)]
   rw[this];exact hf t ht
theorem Eb{id:Nat}:∀(ps:List Nat)(args:List V)(f:Fr)(t:Nat),(Db ps args f t).has id=true→cm id args=true∨(f t).has id=true
 |[],args,f,t,h=>by cases args<;>exact .inr h
 |p::ps,[],f,t,h=>.inr h
 |p::ps,v::args,f,t,h=>by
  simp only[Db]at h;rcases Eb ps args _ t h with h|h
  ·exact .inl (by simp[cm,h])
  ·by_cases e:t=p
   ·subst e;rw[ua]at h;exact .inl (by simp[cm,h])
   ·rw[qu e]at h;exact .inr h
theorem UO(ps:Array Nat)(xs:Array Value)(tmps:Array Value):(ps.zip xs).foldl (fun tmps(t,a)=>tmps.setIfInBounds t a) tmps=(ps.toList.zip xs.toList).foldl (fun tmps(x:Nat×Value)=>tmps.setIfInBounds x.1 x.2) tmps:=by rw[←Array.foldl_toList,Array.toList_zip]
end
end Go.Ab
set_option linter.unusedVariables false
namespace Go.Ab
open Go.RowKit (Below)
variable{P:Program}{c:Code}{Q:Exit→Act→World→Prop}
theorem Gu{F:Fence}{nn:Nat}(I:Nat→Act→World→Prop)(round:∀n a w,I n a w→∃n',n=n'+1∧c.wpIn F nn P (Exit.then (I n') Q) a w):∀n a w,I n a w→(Code.loop c).wpIn F nn P Q a w:=by
 intro n a w hI b k cs sO hb hr;have key:∀n a w,I n a w→∃e a' w',Q e a' w'∧ArrivesIn (Machine.fenced P F) P (lone (b.atR a (.code c::.inLoop c::k)) cs w) b k cs e a' w':=by
  intro n;induction n with
  |zero=>intro a w h;obtain⟨n',h,_⟩:=round 0 a w h;omega
  |succ n ih=>
   intro a w h;obtain⟨n',hn,je⟩:=round _ a w h;have hn:n=n':=by omega
   subst hn;obtain⟨e,a₁,w₁,hq,Ec⟩:=je b (.inLoop c::k) cs sO hb hr;cases e with
   |normal=>obtain⟨e₂,a₂,w₂,ab6,XC⟩:=ih a₁ w₁ hq;exact⟨e₂,a₂,w₂,ab6,.of_steps (StepsIn.trans Ec (.one (fenced_calm hb hr rfl) stepR_inLoop)) XC⟩
   |_=>exact⟨_,a₁,w₁,hq,.pass (x:=.inLoop c) rfl (fun _ _=>.inl (by simp)) Ec⟩
 obtain⟨e,a',w',hq,Ec⟩:=key n a w hI;exact⟨e,a',w',hq,.of_steps (.one (fenced_calm hb hr rfl) stepR_loop) Ec⟩
theorem Sa{rd:Option Nat}{n:Nat}{a:Act}{w:World}(h:c.wpIn (FR rd) n P (Exit.noGoto Q) a w):(Code.scope c).wpIn (FR rd) n P Q a w:=by
 intro b k cs sO hb hr;obtain⟨e,a₁,w₁,hq,Ec⟩:=h b (.inScope c::k) cs sO hb hr;have s1:StepsIn (Machine.fenced P (FR rd)) P (lone (b.atR a (.code (.scope c)::k)) cs w) (lone (b.atR a (.code c::.inScope c::k)) cs w):=.one (fenced_calm hb hr rfl) (step_lone_go (by simp[stepG,stepG.exec,Frame.atR]));have s2:∀a w,StepsIn (Machine.fenced P (FR rd)) P (lone (b.atR a (.inScope c::k)) cs w) (lone (b.atR a k) cs w):=fun a w=>.one (fenced_calm hb hr rfl) (step_lone_go (by simp[stepG,stepG.exec,Frame.atR]));cases e with
 |normal=>exact⟨.normal,a₁,w₁,hq,s1.trans (StepsIn.trans Ec (s2 _ _))⟩
 |exit id=>exact⟨.exit id,a₁,w₁,hq,fun k' hk=>s1.trans (Ec.1 k' (by simp[exitTo,hk])),fun hr hk=>let⟨k₁,h1,h2⟩:=Ec.2 hr (by simp[exitTo,hk]);⟨k₁,h1,s1.trans h2⟩⟩
 |goto l=>exact hq.elim
 |ret=>exact⟨_,a₁,w₁,hq,.of_steps s1 Ec⟩
 |panic ch=>exact⟨_,a₁,w₁,hq,.of_steps s1 Ec⟩
 |outgrown=>exact⟨_,a₁,w₁,hq,.of_steps s1 Ec⟩
mutual
theorem Qo:∀{v u:V},v.same u=true→v=u
 |.op i o,u,h=>by cases u<;>simp only[V.same,Bool.and_eq_true,Bool.false_eq_true]at h;rw[Nat.eq_of_beq_eq_true h.1,Nat.eq_of_beq_eq_true h.2]
 |.oe i a o,u,h=>by cases u<;>simp only[V.same,Bool.and_eq_true,Bool.false_eq_true]at h;rw[Nat.eq_of_beq_eq_true h.1.1,Nat.eq_of_beq_eq_true h.1.2,Nat.eq_of_beq_eq_true h.2]
 |.os i,u,h=>by cases u<;>simp only[V.same,Bool.false_eq_true]at h;rw[Nat.eq_of_beq_eq_true h]
 |.om i,u,h=>by cases u<;>simp only[V.same,Bool.false_eq_true]at h;rw[Nat.eq_of_beq_eq_true h]
 |.yl i,u,h=>by cases u<;>simp only[V.same,Bool.false_eq_true]at h;rw[Nat.eq_of_beq_eq_true h]
 |.it i,u,h=>by cases u<;>simp only[V.same,Bool.false_eq_true]at h;rw[Nat.eq_of_beq_eq_true h]
 |.hZ,u,h=>by cases u<;>simp only[V.same,Bool.false_eq_true]at h;rfl
 |.fn f cs,u,h=>by cases u<;>simp only[V.same,Bool.and_eq_true,Bool.false_eq_true]at h;rw[Nat.eq_of_beq_eq_true h.1,JQ h.2]
 |.pv p,u,h=>by
  cases u<;>try (cases p<;>simp[V.same]at h;done)
  rename_i q;cases p<;>cases q<;>first|rfl|(simp[V.same]at h;done)|(simp only[V.same,Bool.and_eq_true,decide_eq_true_eq]at h;rw[h.1,h.2])
 |.fH _ _ _,u,h=>by cases u<;>simp[V.same]at h
 |.agg _,u,h=>by cases u<;>simp[V.same]at h
 |.bt _,u,h=>by cases u<;>simp[V.same]at h
 |.top,u,h=>by cases u<;>simp[V.same]at h
theorem JQ:∀{vs us:List V},FN vs us=true→vs=us
 |[],us,h=>by
  cases us with
  |nil=>rfl
  |cons _ _=>simp[FN]at h
 |v::vs,us,h=>by
  cases us with
  |nil=>simp[FN]at h
  |cons u us=>simp only[FN,Bool.and_eq_true]at h;rw[Qo h.1,JQ h.2]
end
variable{R:Type}
theorem Qp{T:Type}:∀{jN:List Sh}{vs:List V}{t:T}{k:PR jN T→Option R}{r:R},jO jN vs t k=some r→∃x,k x=some r∧rK jN x=(vs,t)∧vs.length=jN.length∧∀M,(∀sh∈jN,sh.within M=true)→kr M vs=true:=by
 intro jN;induction jN with
 |nil=>
  intro vs t k r h;cases vs with
  |nil=>exact⟨t,h,rfl,rfl,fun _ _=>rfl⟩
  |cons v vs=>simp[jO]at h
 |cons sh jN ih=>
  intro vs t k r h;cases vs with
  |nil=>cases sh<;>simp[jO]at h
  |cons v vs=>
   have push:∀{M},v.within M=true→kr M vs=true→kr M (v::vs)=true:=fun h1 h2=>by simp[kr,h1,h2]
   cases sh with
   |own u=>
    simp only[jO]at h;split at h
    ·rename_i hs;obtain⟨x,x1,x2,x3,x4⟩:=ih h;have:=Qo hs;subst this;refine⟨x,x1,by simp only[rK];rw[x2],by simp[x3],fun M hM=>push ?_ (x4 M fun s hs=>hM s (by simp[hs]))⟩;exact hM (.own u) (by simp)
    ·cases h
   |int q=>
    cases v<;>try (simp[jO]at h;done)
    rename_i p;cases p<;>try (simp[jO]at h;done)
    simp only[jO]at h;split at h
    ·rename_i hq;subst hq;obtain⟨x,x1,x2,x3,x4⟩:=ih h;exact⟨_,x1,by simp only[rK];rw[x2],by simp[x3],fun M hM=>push rfl (x4 M fun s hs=>hM s (by simp[hs]))⟩
    ·cases h
   |row id off=>
    cases v<;>try (simp[jO]at h;done)
    rename_i pI i si;simp only[jO]at h;split at h
    ·rename_i hq;obtain⟨rfl,rfl⟩:=hq;obtain⟨x,x1,x2,x3,x4⟩:=ih h;exact⟨_,x1,by simp only[rK,Int.toNat_natCast];rw[x2],by simp[x3],fun M hM=>push (hM (.row pI si) (by simp)) (x4 M fun s hs=>hM s (by simp[hs]))⟩
    ·cases h
   |raw=>
    cases v<;>try (simp[jO]at h;done)
    simp only[jO]at h;obtain⟨x,x1,x2,x3,x4⟩:=ih h;exact⟨_,x1,by simp only[rK];rw[x2],by simp[x3],fun M hM=>push rfl (x4 M fun s hs=>hM s (by simp[hs]))⟩
   |bool=>
    cases v<;>try (simp[jO]at h;done)
    rename_i p;cases p<;>try (simp[jO]at h;done)
    simp only[jO]at h;obtain⟨x,x1,x2,x3,x4⟩:=ih h;exact⟨_,x1,by simp only[rK];rw[x2],by simp[x3],fun M hM=>push rfl (x4 M fun s hs=>hM s (by simp[hs]))⟩
   |str=>
    cases v<;>try (simp[jO]at h;done)
    rename_i p;cases p<;>try (simp[jO]at h;done)
    simp only[jO]at h;obtain⟨x,x1,x2,x3,x4⟩:=ih h;exact⟨_,x1,by simp only[rK];rw[x2],by simp[x3],fun M hM=>push rfl (x4 M fun s hs=>hM s (by simp[hs]))⟩
   |rp n=>
    cases v<;>try (simp[jO]at h;done)
    rename_i p;cases p<;>try (simp[jO]at h;done)
    rename_i cs;simp only[jO]at h;split at h
    ·rename_i hq;obtain⟨x,x1,x2,x3,x4⟩:=ih h;have he:aC n (.agg cs)=cs:=by
      apply List.ext_getElem?;intro j;by_cases hj:j<n
      ·have hl:j<(aC n (.agg cs)).length:=by rw[aT];exact hj
       rw[List.getElem?_eq_getElem hl];obtain⟨_,h6⟩:=nW (List.getElem?_eq_getElem hl);rw[h6];simp[cell,PV.cells,List.getD,show j<cs.length by omega]
      ·rw[List.getElem?_eq_none (by rw[aT];omega),List.getElem?_eq_none (by omega)]
     exact⟨_,x1,by simp only[rK];rw[x2,he],by simp[x3],fun M hM=>push rfl (x4 M fun s hs=>hM s (by simp[hs]))⟩
    ·cases h
   |fs s=>
    cases v<;>try (simp[jO]at h;done)
    rename_i p;simp only[jO]at h;obtain⟨ls,hls,h⟩:=Option.bind_eq_some_iff.1 h;obtain⟨x,x1,x2,x3,x4⟩:=ih h;exact⟨_,x1,by simp only[rK];rw[x2,P9 hls],by simp[x3],fun M hM=>push rfl (x4 M fun s hs=>hM s (by simp[hs]))⟩
   |rs sz=>
    cases v<;>try (simp[jO]at h;done)
    rename_i p;cases p<;>try (simp[jO]at h;done)
    simp only[jO]at h;split at h
    ·rename_i hq;subst hq;obtain⟨x,x1,x2,x3,x4⟩:=ih h;exact⟨_,x1,by simp only[rK];rw[x2],by simp[x3],fun M hM=>push rfl (x4 M fun s hs=>hM s (by simp[hs]))⟩
    ·cases h
theorem yz:∀{l:List (Nat×Option bE)}{id:Nat}{b:bE},CX l id=some b→∃x∈l,x.1=id∧x.2=some b
 |[],_,_,h=>by simp[CX]at h
 |(d,b')::r,id,b,h=>by
  simp only[CX]at h;cases e:Nat.beq id d with
  |true=>rw[e]at h;exact⟨(d,b'),by simp,(Nat.eq_of_beq_eq_true e).symm,h⟩
  |false=>rw[e]at h;obtain⟨x,hx,h1,h2⟩:=yz h;exact⟨x,by simp[hx],h1,h2⟩
theorem zB:∀{l:List (Nat×Option bE)}{id:Nat},(∀x∈l,x.2.isSome=true)→(∃x∈l,x.1=id)→(CX l id).isSome=true
 |[],_,_,⟨x,hx,_⟩=>by cases hx
 |(d,b')::r,id,h,⟨x,hx,he⟩=>by
  simp only[CX];cases e:Nat.beq id d with
  |true=>exact h (d,b') (by simp)
  |false=>
   rcases List.mem_cons.1 hx with rfl|hx
   ·simp only at he;subst he;simp[Nat.beq_refl]at e
   ·exact zB (fun y hy=>h y (by simp[hy])) ⟨x,hx,he⟩
theorem XD{m:Mem}:∀{bs:List (Nat×Tv)}{k:I1 bs→Option R}{r:R},sT m bs k=some r→∃x,k x=some r∧(gJ bs x).map (·.1)=bs.map (·.1)∧(∀y∈gJ bs x,∃b,y.2=some b∧m y.1=some b)∧∀M,(∀y∈bs,y.2.within M=true)→∀y∈gJ bs x,∀b,y.2=some b→b.within M=true:=by
 intro bs;induction bs with
 |nil=>intro k r h;exact⟨(),h,rfl,by simp[gJ],by simp[gJ]⟩
 |cons y bs ih=>
  intro k r h;obtain⟨id,sh⟩:=y;cases sh with
  |box cs=>
   simp only[sT]at h;split at h
   ·rename_i vs hm;obtain⟨t,t1,t2,t3,t4⟩:=ih h;obtain⟨x,x1,x2,x3,x4⟩:=Qp t1;refine⟨x,x1,by simp only[gJ,x2];simp[t2],fun y hy=>?_,fun M hM y hy b hb=>?_⟩
    ·simp only[gJ,x2]at hy;rcases List.mem_cons.1 hy with rfl|hy
     ·exact⟨_,rfl,hm⟩
     ·exact t3 y hy
    ·simp only[gJ,x2]at hy;rcases List.mem_cons.1 hy with rfl|hy
     ·simp only[Option.some.injEq]at hb;subst hb;simp only[bE.within];refine x4 M fun s hs=>?_;have:=hM (id,.box cs) (by simp);simp only[Tv.within,List.all_eq_true]at this;exact this s hs
     ·exact t4 M (fun z hz=>hM z (by simp[hz])) y hy b hb
   ·cases h
  |arr sz et=>
   simp only[sT]at h;split at h
   ·rename_i Fb C4 es hm;split at h
    ·rename_i he;obtain⟨rfl,rfl⟩:=he;obtain⟨t,t1,t2,t3,t4⟩:=ih h;refine⟨(es,t),t1,by simp only[gJ];simp[t2],fun y hy=>?_,fun M hM y hy b hb=>?_⟩
     ·simp only[gJ]at hy;rcases List.mem_cons.1 hy with rfl|hy
      ·exact⟨_,rfl,hm⟩
      ·exact t3 y hy
     ·simp only[gJ]at hy;rcases List.mem_cons.1 hy with rfl|hy
      ·simp only[Option.some.injEq]at hb;subst hb;rfl
      ·exact t4 M (fun z hz=>hM z (by simp[hz])) y hy b hb
    ·cases h
   ·cases h
  |pR sz et=>
   simp only[sT]at h;split at h
   ·rename_i Fb C4 es hm;split at h
    ·rename_i he;obtain⟨rfl,rfl⟩:=he;obtain⟨t,t1,t2,t3,t4⟩:=ih h;refine⟨(es,t),t1,by simp only[gJ];simp[t2],fun y hy=>?_,fun M hM y hy b hb=>?_⟩
     ·simp only[gJ]at hy;rcases List.mem_cons.1 hy with rfl|hy
      ·exact⟨_,rfl,hm⟩
      ·exact t3 y hy
     ·simp only[gJ]at hy;rcases List.mem_cons.1 hy with rfl|hy
      ·simp only[Option.some.injEq]at hb;subst hb;rfl
      ·exact t4 M (fun z hz=>hM z (by simp[hz])) y hy b hb
    ·cases h
   ·cases h
  |nest sz et=>
   simp only[sT]at h;split at h
   ·rename_i Fb C4 es hm;split at h
    ·rename_i he;obtain⟨rfl,rfl⟩:=he;obtain⟨t,t1,t2,t3,t4⟩:=ih h;refine⟨(es,t),t1,by simp only[gJ];simp[t2],fun y hy=>?_,fun M hM y hy b hb=>?_⟩
     ·simp only[gJ]at hy;rcases List.mem_cons.1 hy with rfl|hy
      ·exact⟨_,rfl,hm⟩
      ·exact t3 y hy
     ·simp only[gJ]at hy;rcases List.mem_cons.1 hy with rfl|hy
      ·simp only[Option.some.injEq]at hb;subst hb;rfl
      ·exact t4 M (fun z hz=>hM z (by simp[hz])) y hy b hb
    ·cases h
   ·cases h
  |fe kt et=>
   simp only[sT]at h;split at h
   ·rename_i vh C4 es hm;split at h
    ·rename_i he;obtain⟨rfl,rfl⟩:=he;obtain⟨t,t1,t2,t3,t4⟩:=ih h;refine⟨(es,t),t1,by simp only[gJ];simp[t2],fun y hy=>?_,fun M hM y hy b hb=>?_⟩
     ·simp only[gJ]at hy;rcases List.mem_cons.1 hy with rfl|hy
      ·exact⟨_,rfl,hm⟩
      ·exact t3 y hy
     ·simp only[gJ]at hy;rcases List.mem_cons.1 hy with rfl|hy
      ·simp only[Option.some.injEq]at hb;subst hb;rfl
      ·exact t4 M (fun z hz=>hM z (by simp[hz])) y hy b hb
    ·cases h
   ·cases h
  |map kt=>
   simp only[sT]at h;split at h
   ·rename_i vh es hm;split at h
    ·rename_i he;subst he;obtain⟨t,t1,t2,t3,t4⟩:=ih h;refine⟨(es,t),t1,by simp only[gJ];simp[t2],fun y hy=>?_,fun M hM y hy b hb=>?_⟩
     ·simp only[gJ]at hy;rcases List.mem_cons.1 hy with rfl|hy
      ·exact⟨_,rfl,hm⟩
      ·exact t3 y hy
     ·simp only[gJ]at hy;rcases List.mem_cons.1 hy with rfl|hy
      ·simp only[Option.some.injEq]at hb;subst hb;rfl
      ·exact t4 M (fun z hz=>hM z (by simp[hz])) y hy b hb
    ·cases h
   ·cases h
  |iter ty=>
   simp only[sT]at h;split at h
   ·rename_i t' es hm;split at h
    ·rename_i he;subst he;obtain⟨t,t1,t2,t3,t4⟩:=ih h;refine⟨(es,t),t1,by simp only[gJ];simp[t2],fun y hy=>?_,fun M hM y hy b hb=>?_⟩
     ·simp only[gJ]at hy;rcases List.mem_cons.1 hy with rfl|hy
      ·exact⟨_,rfl,hm⟩
      ·exact t3 y hy
     ·simp only[gJ]at hy;rcases List.mem_cons.1 hy with rfl|hy
      ·simp only[Option.some.injEq]at hb;subst hb;rfl
      ·exact t4 M (fun z hz=>hM z (by simp[hz])) y hy b hb
    ·cases h
   ·cases h
  |loop=>
   simp only[sT]at h;split at h
   ·rename_i hm;obtain⟨t,t1,t2,t3,t4⟩:=ih h;refine⟨t,t1,by simp only[gJ];simp[t2],fun y hy=>?_,fun M hM y hy b hb=>?_⟩
    ·simp only[gJ]at hy;rcases List.mem_cons.1 hy with rfl|hy
     ·exact⟨_,rfl,hm⟩
     ·exact t3 y hy
    ·simp only[gJ]at hy;rcases List.mem_cons.1 hy with rfl|hy
     ·simp only[Option.some.injEq]at hb;subst hb;rfl
     ·exact t4 M (fun z hz=>hM z (by simp[hz])) y hy b hb
   ·cases h
  |busy=>
   simp only[sT]at h;split at h
   ·rename_i hm;obtain⟨t,t1,t2,t3,t4⟩:=ih h;refine⟨t,t1,by simp only[gJ];simp[t2],fun y hy=>?_,fun M hM y hy b hb=>?_⟩
    ·simp only[gJ]at hy;rcases List.mem_cons.1 hy with rfl|hy
     ·exact⟨_,rfl,hm⟩
     ·exact t3 y hy
    ·simp only[gJ]at hy;rcases List.mem_cons.1 hy with rfl|hy
     ·simp only[Option.some.injEq]at hb;subst hb;rfl
     ·exact t4 M (fun z hz=>hM z (by simp[hz])) y hy b hb
   ·cases h
mutual
theorem Ee{M:List Nat}{id:Nat}:∀(v:V),v.within M=true→v.has id=true→id∈M
 |.agg cs,h,hh=>oC cs (by simpa only[V.within]using h) (by simpa only[V.has]using hh)
 |.bt cs,h,hh=>oC cs (by simpa only[V.within]using h) (by simpa only[V.has]using hh)
 |.fn _ cs,h,hh=>oC cs (by simpa only[V.within]using h) (by simpa only[V.has]using hh)
 |.os j,h,hh=>by have:=Nat.eq_of_beq_eq_true hh;subst this;simpa[V.within]using h
 |.fH j _ _,h,hh=>by have:=Nat.eq_of_beq_eq_true hh;subst this;simpa[V.within]using h
 |.oe j _ _,h,hh=>by have:=Nat.eq_of_beq_eq_true hh;subst this;simpa[V.within]using h
 |.om j,h,hh=>by have:=Nat.eq_of_beq_eq_true hh;subst this;simpa[V.within]using h
 |.vp j _ _,h,hh=>by have:=Nat.eq_of_beq_eq_true hh;subst this;simpa[V.within]using h
 |.y7 j _ _ _ _ _,h,hh=>by have:=Nat.eq_of_beq_eq_true hh;subst this;simpa[V.within]using h
 |.op j _,h,hh=>by have:=Nat.eq_of_beq_eq_true hh;subst this;simpa[V.within]using h
 |.it j,h,hh=>by have:=Nat.eq_of_beq_eq_true hh;subst this;simpa[V.within]using h
 |.yl j,h,hh=>by have:=Nat.eq_of_beq_eq_true hh;subst this;simpa[V.within]using h
 |.pv _,_,hh=>by cases hh
 |.hZ,_,hh=>by cases hh
 |.top,_,hh=>by cases hh
theorem oC{M:List Nat}{id:Nat}:∀(cs:List V),kr M cs=true→cm id cs=true→id∈M
 |[],_,hh=>by cases hh
 |v::r,h,hh=>by
  simp only[kr,Bool.and_eq_true]at h;simp only[cm,Bool.or_eq_true]at hh;rcases hh with hh|hh
  ·exact Ee v h.1 hh
  ·exact oC r h.2 hh
end
theorem UP{f:Fr}:∀(az:List (Nat×Sh))(t:Nat),LV (qk az (az.map fun(x:Nat×Sh)=>f x.1)) t=f t∨LV (qk az (az.map fun(x:Nat×Sh)=>f x.1)) t=.top
 |[],t=>.inr rfl
 |(d,s)::r,t=>by
  simp only[List.map_cons,qk,LV,fI];cases e:Nat.beq t d with
  |true=>have:=Nat.eq_of_beq_eq_true e;subst this;exact .inl rfl
  |false=>exact UP r t
theorem Ef{f:Fr}{M:List Nat}:∀(az:List (Nat×Sh)),kr M (az.map fun(x:Nat×Sh)=>f x.1)=true→∀t,(LV (qk az (az.map fun(x:Nat×Sh)=>f x.1)) t).within M=true
 |[],_,t=>rfl
 |(d,s)::r,h,t=>by
  simp only[List.map_cons,kr,Bool.and_eq_true]at h;simp only[List.map_cons,qk,LV,fI];cases e:Nat.beq t d with
  |true=>have:=Nat.eq_of_beq_eq_true e;subst this;exact h.1
  |false=>exact Ef r h.2 t
theorem UQ{T:gi}{f:Fr}{m:Mem}{k:T.ty→Option R}{r:R}(h:enc T f m k=some r):∃x,k x=some r∧vj (L3 T x) f∧(∀id b,Da T x id=some b→m id=some b)∧(∀t id,(L3 T x t).has id=true→(Da T x id).isSome=true)∧∀j cs id,Da T x j=some (.box cs)→cm id cs=true→(Da T x id).isSome=true:=by
 unfold enc at h;split at h
 ·rename_i AP;obtain⟨t,t1,t2,t3,t4⟩:=XD h;obtain⟨x,x1,x2,x3,x4⟩:=Qp t1;simp only[gi.ok,Bool.and_eq_true,List.all_eq_true]at AP;have ow:∀id,id∈T.bX.map (·.1)→(Da T x id).isSome=true:=fun id hid=>by
   unfold Da;rw[x2];refine zB (fun y hy=>?_) ?_
   ·obtain⟨b,hb,_⟩:=t3 y hy;rw[hb];rfl
   ·rw[←t2]at hid;obtain⟨y,hy,he⟩:=List.mem_map.1 hid;exact⟨y,hy,he⟩
  refine⟨x,x1,fun s=>?_,fun id b hb=>?_,fun s id hid=>ow id ?_,fun j cs id hj hh=>ow id ?_⟩
  ·unfold L3;rw[x2];exact UP T.az s
  ·unfold Da at hb;rw[x2]at hb;obtain⟨y,hy,h1,h2⟩:=yz hb;obtain⟨b',gB,hm⟩:=t3 y hy;rw[h2]at gB;cases gB;rw[←h1];exact hm
  ·have hw:=x4 (T.bX.map (·.1)) fun s hs=>by simp only[gi.jN,List.mem_map]at hs;obtain⟨y,hy,rfl⟩:=hs;exact AP.1 y hy
   have:=Ef (M:=T.bX.map (·.1)) T.az hw s;unfold L3 at hid;rw[x2]at hid;exact Ee _ this hid
  ·unfold Da at hj;rw[x2]at hj;obtain⟨y,hy,h1,h2⟩:=yz hj;have:=t4 (T.bX.map (·.1)) (fun z hz=>AP.2 z hz) y hy _ h2;exact oC _ (by simpa only[bE.within]using this) hh
 ·cases h
section
variable {E:Env} {w0:br}
variable{nt:Nat}{μ:Ro}{φ:Nat→aA}{f:Fr}{m:Mem}{a:Act}{w:World}
theorem Rel.dec{f':Fr}{m':Mem}(h:Rel E.P E.aD nt w0 μ φ f m a w)(hf:vj f' f)(hm:∀id b,m' id=some b→m id=some b)(hl:∀t id,(f' t).has id=true→(m' id).isSome=true)(hb:∀j cs id,m' j=some (.box cs)→cm id cs=true→(m' id).isSome=true):Rel E.P E.aD nt w0 μ φ f' m' a w:={below:=h.below,ro:=h.ro,aD:=h.aD,dy:=fun id b hb=>h.dy id b (hm id b hb),own:=fun id b g hb hg=>h.own id b g (hm id b hb) hg,inj:=fun Tj id2 b1 b2 g h1 h2=>h.inj Tj id2 b1 b2 g (hm _ _ h1) (hm _ _ h2),apart:=fun id b hb=>h.apart id b (hm id b hb),fJ:=hb,base:=h.base,dA:=h.dA,BD:=fun id st hid=>h.BD id st (hm _ _ hid),size:=h.size,defers:=h.defers,l5:=h.l5,fr:=(h.weaken hf).fr,live:=hl}
theorem Rel.set(h:Rel E.P E.aD nt w0 μ φ f m a w){t:Nat}{p:PV}(hp:af E.P μ p (az nt w0 a t)):Rel E.P E.aD nt w0 μ φ (fI f t (.pv p)) m a w:=
 {toav:=h.toav,size:=h.size,defers:=h.defers,l5:=h.l5,fr:=fun s=>by
   by_cases e:s=t
   ·subst e;rw[ua];exact .pv hp
   ·rw[qu e];exact h.fr s,
  live:=fun s id hid=>by
   by_cases e:s=t
   ·subst e;rw[ua]at hid;cases hid
   ·rw[qu e]at hid;exact h.live s id hid}
theorem Rel.freeze{nt:Nat}{μ:Ro}{φ:Nat→aA}{f:Fr}{m:Mem}{a:Act}{w:World}(h:Rel E.P E.aD nt w0 μ φ f m a w){id sz:Nat}{et:TypeId}{es:List PV}(hm:m id=some (.arr sz et es)):Rel E.P E.aD nt w0 (pB μ w (φ id).g) φ f (ak m id (.pR sz et es)) a w:=
 {toav:=h.toav.freeze hm,size:=h.size,defers:=h.defers.mono (lF h.toav _),l5:=h.l5,fr:=fun s=>(h.fr s).xr (lF h.toav _),live:=fun s i hid=>by
   by_cases e:i=id
   ·subst e;rw[aK];rfl
   ·rw[al e];exact h.live s i hid}
theorem th{A:Type}{nt:Nat}{a:Act}{w:World}:∀{l:List (Nat×Nat)}{μ:Ro}{φ:Nat→aA}{f:Fr}{m:Mem}{k:Fr→Mem→A}{r:A},Bx l f m k=r→Rel E.P E.aD nt w0 μ φ f m a w→∃f' m' μ',k f' m'=r∧Rel E.P E.aD nt w0 μ' φ f' m' a w
 |[],μ,φ,f,m,k,r,h,hR=>⟨f,m,μ,h,hR⟩
 |(t,sz)::l,μ,φ,f,m,k,r,h,hR=>by
  unfold Bx at h;split at h
  ·rename_i id hf;have hx:ae E.P μ φ (.os id) (az nt w0 a t):=hf▸hR.fr t;split at h
   ·rename_i s et es hm;have hF:=hR.freeze hm;have hA:=hF.toav.arr (.inr (aK m id _));have hp:af E.P (pB μ w (φ id).g) (.rs s es) (az nt w0 a t):=hA.full hF.toav (hx.xr (lF hR.toav _)) (fun _ _ h=>h) (fun g hg=>by simp[pB,hg]);exact th h (hF.set hp)
   ·rename_i s et es hm;have hB:gC E.P μ φ w id (.pR s et es):=hR.dy id _ hm;have hp:af E.P μ (.rs s es) (az nt w0 a t):=(hR.toav.arr (.inr hm)).full hR.toav hx (fun _ _ h=>h) (fun g hg=>by obtain⟨o,ho⟩:=Option.isSome_iff_exists.1 (hB.2 g hg);rw[ho,hR.ro _ _ ho]);exact th h (hR.set hp)
   ·exact th h hR
  ·rename_i hf;have hx:ae E.P μ φ .hZ (az nt w0 a t):=hf▸hR.fr t;have hp:af E.P μ (.rs sz []) (az nt w0 a t):=by generalize az nt w0 a t=y at hx;cases hx;exact .kE
   exact th h (hR.set hp)
  ·exact th h hR
variable{id:Nat}
theorem JR{u:V}:∀(cs:List V)(j:Nat),cm id (cs.set j u)=true→cm id cs=true∨u.has id=true:=by
 intro cs j h;obtain⟨v,hv,hh⟩:=cL.1 h;rcases List.mem_or_eq_of_mem_set hv with h1|h1
 ·exact .inl (cL.2 ⟨v,h1,hh⟩)
 ·subst h1;exact .inr hh
theorem Rel.UR(h:Rel E.P E.aD nt w0 μ φ f m a w){j:Nat}{cs:List V}{u:V}(hm:m id=some (.box cs))(hj:cs[j]?=some .hZ)(hu:ae E.P μ φ u (.slice none 0 0))(hl:∀i,u.has i=true→(m i).isSome=true):Rel E.P E.aD nt w0 μ φ f (ak m id (.box (cs.set j u))) a w:=by
 have key:∀i b,ak m id (.box (cs.set j u)) i=some b→(i=id∧b=.box (cs.set j u))∨m i=some b:=fun i b hb=>by
  by_cases e:i=id
  ·subst e;rw[aK]at hb;exact .inl ⟨rfl,(Option.some.inj hb).symm⟩
  ·rw[al e]at hb;exact .inr hb
 have uY:∀i,(m i).isSome=true→(ak m id (.box (cs.set j u)) i).isSome=true:=fun i hi=>by
  by_cases e:i=id
  ·subst e;rw[aK];rfl
  ·rw[al e];exact hi
 have back:∀i b,ak m id (.box (cs.set j u)) i=some b→∃b',m i=some b'∧(b.jD=true→b'.jD=true)∧b.rowAt=b'.rowAt:=fun i b hb=>by
  rcases key i b hb with⟨rfl,rfl⟩|hb
  ·exact⟨_,hm,fun _=>rfl,rfl⟩
  ·exact⟨b,hb,fun h=>h,rfl⟩
 exact
 {below:=h.below,ro:=h.ro,aD:=h.aD,dy:=fun i b hb=>by
   rcases key i b hb with⟨rfl,rfl⟩|hb
   ·obtain⟨g,c,T,c1,c2,c3,c4,c5,c6⟩:=h.dy _ _ hm;refine⟨g,c,T,c1,c2,by simpa using c3,fun i v x hv hx=>?_,c5,by simpa using c6⟩;rw[List.getElem?_set]at hv;split at hv
    ·rename_i e;subst e;split at hv
     ·simp only[Option.some.injEq]at hv;subst hv;have:=c4 j .hZ x hj hx;cases this;exact hu
     ·cases hv
    ·exact c4 i v x hv hx
   ·exact h.dy i b hb,
  own:=fun i b g hb hg=>by obtain⟨b',gB,Dn,sO⟩:=back i b hb;obtain⟨o1,o2⟩:=h.own i b' g gB (by unfold bE.owns at hg⊢;rw[←sO];exact hg);exact⟨o1,fun hb=>o2 (Dn hb)⟩,
  inj:=fun Tj id2 b1 b2 g h1 h2 g1 g2=>by obtain⟨b1',P8,_,r1⟩:=back Tj b1 h1;obtain⟨b2',LM,_,r2⟩:=back id2 b2 h2;exact h.inj Tj id2 b1' b2' g P8 LM (by unfold bE.owns at g1⊢;rw[←r1];exact g1) (by unfold bE.owns at g2⊢;rw[←r2];exact g2),
  apart:=fun i b hb=>by obtain⟨b',gB,_,sO⟩:=back i b hb;have:=h.apart i b' gB;unfold bE.apart at this⊢;rw[sO];exact this,
  fJ:=fun i L8 pI hi hid=>by
   rcases key i _ hi with⟨rfl,he⟩|hi
   ·simp only[bE.box.injEq]at he;subst he;rcases JR _ _ hid with hid|hid
    ·exact uY _ (h.fJ _ _ _ hm hid)
    ·exact uY _ (hl _ hid)
   ·exact uY _ (h.fJ _ _ _ hi hid),
  base:=h.base,dA:=h.dA,
  BD:=fun i st hi=>by
   rcases key i _ hi with⟨_,he⟩|hi
   ·cases he
   ·exact h.BD i st hi,
  size:=h.size,defers:=h.defers,l5:=h.l5,fr:=h.fr,
  live:=fun t i hid=>uY _ (h.live t i hid)}
variable{et:TypeId}
theorem Rel.aax(h:Rel E.P E.aD nt w0 μ φ f m a w){TC:Nat}(hn:m TC=none)(ec:0<aP E.P et):∃φ',(φ' TC).g=none∧Rel E.P E.aD nt w0 μ φ' f (ak m TC (.arr (aP E.P et) et [])) a w:=by
 have hf:fresh false TC (.arr (aP E.P et) et []) f m (fun f m _=>some (f,m))=some (f,ak m TC (.arr (aP E.P et) et [])):=by simp[fresh,hn]
 obtain⟨f1,m1,_,hk,_,_,vi⟩:=ei hf;simp only[Option.some.injEq,Prod.mk.injEq]at hk;obtain⟨rfl,rfl⟩:=hk;obtain⟨φ',a1,a2,a3⟩:=vi E.P E.aD w0 μ φ w w (az nt w0 a) (Ci none 0 0 (aP E.P et)) h.toav ⟨h.fr,h.live⟩ ⟨kG.refl _ _,h.toav.ro,fun _ _ _ _ _=>rfl,by simp,fun φ' hp _=>by refine⟨by rw[hp];rfl,by rw[hp],rfl,ec,by simp,by rw[hp];simp[maxLen],?_⟩;rw[hp];exact⟨rfl,rfl⟩,by simp[bE.names],fun st h=>by cases h⟩;exact⟨φ',by rw[a1],{toav:=a2,size:=h.size,defers:=h.defers,l5:=h.l5,fr:=a3.fr,live:=a3.live}⟩
theorem ti{A:Type}{nt:Nat}{a:Act}{w:World}:∀{l:List (Nat×Nat×Nat×TypeId)}{μ:Ro}{φ:Nat→aA}{f:Fr}{m:Mem}{k:Mem→A}{r:A},Bz E.P l m k=r→Rel E.P E.aD nt w0 μ φ f m a w→∃m' φ',k m'=r∧Rel E.P E.aD nt w0 μ φ' f m' a w
 |[],μ,φ,f,m,k,r,h,hR=>⟨m,φ,h,hR⟩
 |(id,j,TC,et)::l,μ,φ,f,m,k,r,h,hR=>by
  unfold Bz at h;split at h
  ·rename_i cs hm;split at h
   ·rename_i hj;split at h
    ·rename_i hn;split at h
     ·rename_i ec;obtain⟨φ',g0,jC⟩:=hR.aax hn ec;have cB:id≠TC:=fun e=>by subst e;rw[hm]at hn;cases hn
      exact ti h (jC.UR (by rw[al cB];exact hm) hj (.rL g0) fun i hi=>by have:=Nat.eq_of_beq_eq_true hi;subst this;simp)
     ·exact ti h hR
    ·exact ti h hR
   ·exact ti h hR
  ·exact ti h hR
theorem zC{A:Type}{nt:Nat}{a:Act}{w:World}:∀{l:List (Nat×Nat×Nat)}{μ:Ro}{φ:Nat→aA}{f:Fr}{m:Mem}{k:Mem→A}{r:A},FO l m k=r→Rel E.P E.aD nt w0 μ φ f m a w→∃m',k m'=r∧Rel E.P E.aD nt w0 μ φ f m' a w
 |[],μ,φ,f,m,k,r,h,hR=>⟨m,h,hR⟩
 |(id,j,sz)::l,μ,φ,f,m,k,r,h,hR=>by
  unfold FO at h;split at h
  ·rename_i cs hm;split at h
   ·rename_i hj;exact zC h (hR.UR hm hj (.pv .kE) (fun i hi=>by cases hi))
   ·exact zC h hR
  ·exact zC h hR
theorem iK{T:Type}{l:List T}{n i:Nat}{e:T}(h:(l.take n)[i]?=some e):l[i]?=some e∧i<n:=by
 rw[List.getElem?_take]at h;split at h
 ·exact⟨h,‹_›⟩
 ·cases h
theorem Rel.XE(h:Rel E.P E.aD nt w0 μ φ f m a w){s:Nat}{es:List PV}(hm:m id=some (.arr s et es)):Rel E.P E.aD nt w0 μ φ f (ak m id (.nest s et es)) a w:=by
 have hA:aF E.P μ φ w id s et es:=h.dy id _ hm;have key:∀i b,ak m id (.nest s et es) i=some b→(i=id∧b=.nest s et es)∨m i=some b:=fun i b hb=>by
  by_cases e:i=id
  ·subst e;rw[aK]at hb;exact .inl ⟨rfl,(Option.some.inj hb).symm⟩
  ·rw[al e]at hb;exact .inr hb
 have uY:∀i,(m i).isSome=true→(ak m id (.nest s et es) i).isSome=true:=fun i hi=>by
  by_cases e:i=id
  ·subst e;rw[aK];rfl
  ·rw[al e];exact hi
 have hN:aV E.P μ φ w id s et es:=by
  obtain⟨h1,h2,h3,h4,h5,h6,h7⟩:=hA;refine⟨h1,h2,h3,h4,h5,h6,?_⟩;cases hg:(φ id).g with
  |none=>rw[hg]at h7;exact h7
  |some g=>rw[hg]at h7;obtain⟨c,T,c1,c2,c3,c4,c5⟩:=h7;exact⟨c,T,c1,c2,c3,fun i e j p x he hp hx=>.pure (c4 i e j p x he hp hx),c5⟩
 have AM:∀i off,(bE.nest s et es).rowAt i off=true→False:=fun i off hr=>by
  rcases jV hr with⟨_,_,_,e,s',rs,hb,he,hp⟩|⟨_,_,_,_,_,_,hb,_⟩
  ·cases hb;obtain⟨h1,h2,h3,h4,h5,h6,h7⟩:=hA;cases hg:(φ id).g with
   |none=>rw[hg]at h7;obtain⟨rfl,_⟩:=h7;simp at he
   |some g=>
    rw[hg]at h7;obtain⟨c,T,c1,c2,c3,c4,c5⟩:=h7;have hi:i<es.length:=(List.getElem?_eq_some_iff.1 he).1;have hj:off<s:=by have:=(List.getElem?_eq_some_iff.1 hp).1;rw[h5 _ _ he]at this;exact this
    have bm:i*s+off<c.size:=by have:(i+1)*s≤(φ id).cap*s:=Nat.mul_le_mul_right _ (by omega);rw[Nat.succ_mul]at this;omega
    exact Bool.noConfusion (af.CG (c4 i e off _ _ he hp (Array.getElem?_eq_getElem bm)))
  ·cases hb
 have agI:∀i off,(bE.arr s et es).rowAt i off=true→False:=pS;have hM:av E.P E.aD w0 μ φ (ak m id (.nest s et es)) w:=by
  refine h.toav.Qa (fun _ k=>k) (fun j b' hb=>?_) (fun j b' g hb hg=>?_) (fun j b' hb=>?_) (fun j cs i hb hh=>?_) (fun j st hb=>?_)
  ·rcases key j b' hb with⟨rfl,rfl⟩|hb
   ·exact hN
   ·exact h.dy j b' hb
  ·rcases key j b' hb with⟨rfl,rfl⟩|hb
   ·exact⟨j,_,hm,.inl (nY AM hg),fun _=>rfl,rfl⟩
   ·exact⟨j,b',hb,hg,fun h=>h,rfl⟩
  ·rcases key j b' hb with⟨rfl,rfl⟩|hb
   ·exact qv AM
   ·exact h.apart j b' hb
  ·rcases key j _ hb with⟨_,hb⟩|hb
   ·cases hb
   ·exact uY _ (h.fJ j cs i hb hh)
  ·rcases key j _ hb with⟨_,hb⟩|hb
   ·cases hb
   ·exact⟨hb,rfl⟩
 exact{toav:=hM,size:=h.size,defers:=h.defers,l5:=h.l5,fr:=h.fr,live:=fun t i hid=>uY _ (h.live t i hid)}
theorem Eg{A:Type}{nt:Nat}{a:Act}{w:World}:∀{l:List Nat}{μ:Ro}{φ:Nat→aA}{f:Fr}{m:Mem}{k:Mem→A}{r:A},Jh l m k=r→Rel E.P E.aD nt w0 μ φ f m a w→∃m',k m'=r∧Rel E.P E.aD nt w0 μ φ f m' a w
 |[],μ,φ,f,m,k,r,h,hR=>⟨m,h,hR⟩
 |id::l,μ,φ,f,m,k,r,h,hR=>by
  unfold Jh at h;split at h
  ·rename_i s et es hm;exact Eg h (hR.XE hm)
  ·exact Eg h hR
theorem Rel.cut(h:Rel E.P E.aD nt w0 μ φ f m a w){j d len s:Nat}{cs:List V}{es:List PV}(hm:m id=some (.box cs))(hj:cs[j]?=some (.fH d 0 len))(hd:m d=some (.arr s et es))(cB:d≠id):∃φ',Rel E.P E.aD nt w0 μ φ' (eU d f) (ak (ak (bh (bx d m) d) d (.arr s et (es.take len))) id (.box ((cs.map (rS d)).set j (.os d)))) a w:=by
 obtain⟨m',hm'⟩:∃m',m'=ak (ak (bh (bx d m) d) d (.arr s et (es.take len))) id (.box ((cs.map (rS d)).set j (.os d))):=⟨_,rfl⟩;rw[←hm'];obtain⟨g0,c,T,c1,c2,c3,c4,c5,c6⟩:=h.dy _ _ hm;have hA:aF E.P μ φ w d s et es:=h.dy d _ hd;have Al:j<cs.length:=(List.getElem?_eq_some_iff.1 hj).1;have hx:=c4 j _ _ hj (Array.getElem?_eq_getElem (by omega));obtain⟨φ',f1,f2,f3,f4⟩:∃φ':Nat→aA,(∀i,i≠d→φ' i=φ i)∧(φ' d).g=(φ d).g∧aF E.P μ φ' w d s et (es.take len)∧ae E.P μ φ' (.os d) c[j]:=by
  obtain⟨h1,h2,h3,h4,h5,h6,h7⟩:=hA;generalize c[j]=x at hx;cases hx with
  |qn hg=>refine⟨φ,fun _ _=>rfl,rfl,?_,.rL hg⟩;rw[hg]at h7;obtain⟨rfl,h7⟩:=h7;refine⟨h1,h2,h3,h4,by simp,h6,?_⟩;rw[hg];exact⟨rfl,h7⟩
  | @fH _ _ _ cap g ad hg hl ha hc WZ=>
   rw[hg]at h7;obtain⟨q,Tq,q1,q2,q3,q4,q5⟩:=h7;have hlen:(es.take len).length=len:=by rw[List.length_take];omega
   have had:ad=⟨g,0,none⟩:=by
    rcases ha with ha|⟨_,ha⟩
    ·rw[ha];simp
    ·omega
   subst had;refine⟨fun i=>if i=d then{φ d with cap:=cap,len:=len}else φ i,fun i hi=>if_neg hi,by simp,⟨by simp[hlen],by simpa using h2,h3,h4,fun i e he=>h5 i e (iK he).1,by simp;omega,?_⟩,?_⟩
   ·simp only[if_true,hg];refine⟨q,Tq,q1,Nat.le_trans (Nat.mul_le_mul_right _ (by omega)) q2,by rw[hlen];exact hc,fun i e j p x he hp hx=>q4 i e j p x (iK he).1 hp hx,fun i x hi hx=>q5 i x (Nat.lt_of_lt_of_le hi (Nat.mul_le_mul_right _ (by rw[hlen];omega))) hx⟩
   ·have:=ae.os (P:=E.P) (μ:=μ) (φ:=fun i=>if i=d then{φ d with cap:=cap,len:=len}else φ i) (id:=d) (g:=g) (by simp[hg]);simpa using this
 have key:∀i b,m' i=some b→(i=id∧b=.box ((cs.map (rS d)).set j (.os d)))∨(i=d∧b=.arr s et (es.take len))∨(i≠id∧i≠d∧∃b',m i=some b'∧b=gq d b'):=fun i b hb=>by
  rw[hm']at hb;by_cases e:i=id
  ·subst e;rw[aK]at hb;exact .inl ⟨rfl,(Option.some.inj hb).symm⟩
  ·rw[al e]at hb;by_cases e':i=d
   ·subst e';rw[aK]at hb;exact .inr (.inl ⟨rfl,(Option.some.inj hb).symm⟩)
   ·rw[al e']at hb;exact .inr (.inr ⟨e,(eP hb).1,(eP hb).2⟩)
 have uY:∀i,(m i).isSome=true→(m' i).isSome=true:=fun i hi=>by
  rw[hm'];by_cases e:i=id
  ·subst e;rw[aK];rfl
  ·rw[al e];by_cases e':i=d
   ·subst e';rw[aK];rfl
   ·rw[al e'];exact sm e' hi
 have aay:∀{i:Nat}{b':bE},(gq d b').names i=true→i≠d:=fun{i b'}hn=>by cases b'<;>simp only[gq,bE.names]at hn<;>first|cases hn|exact(wR hn).2
 have hM:av E.P E.aD w0 μ φ' m' w:=by
  refine h.toav.Qa (fun _ k=>k) (fun i b' hb=>?_) (fun i b' g hb hg=>?_) (fun i b' hb=>?_) (fun i L8 i' hb hh=>?_) (fun i st hb=>?_)
  ·rcases key i b' hb with⟨rfl,rfl⟩|⟨rfl,rfl⟩|⟨e1,e2,b2,rV,rfl⟩
   ·refine⟨g0,c,T,by rw[f1 _ (Ne.symm cB)];exact c1,c2,by simpa using c3,fun n v x hv Js=>?_,c5,by rw[f1 _ (Ne.symm cB)];simpa using c6⟩;rw[List.getElem?_set]at hv;split at hv
    ·rename_i e;subst e;split at hv
     ·simp only[Option.some.injEq]at hv;subst hv;rw[Array.getElem?_eq_getElem (by omega)]at Js;simp only[Option.some.injEq]at Js;subst Js;exact f4
     ·cases hv
    ·simp only[List.getElem?_map,Option.map_eq_some_iff]at hv;obtain⟨v',P6,rfl⟩:=hv;exact((c4 n v' x P6 Js).kill d).mono (fun _ _ h=>h) fun i hi=>f1 i (vB hi).2
   ·exact f3
   ·exact(h.dy i b2 rV).kill.cD (fun k hk=>f1 k (aay hk)) (f1 i e2) (fun _ _ h=>h) (fun _ _=>rfl)
  ·rcases key i b' hb with⟨rfl,rfl⟩|⟨rfl,rfl⟩|⟨e1,e2,b2,rV,rfl⟩
   ·refine⟨i,_,hm,.inl ?_,fun _=>rfl,rfl⟩;have:=nY (by intro i off h;simp[bE.rowAt]at h) hg;rw[←this,f1 _ (Ne.symm cB)]
   ·refine⟨i,_,hd,.inl ?_,fun _=>rfl,rfl⟩;rw[←f2];exact nY pS hg
   ·refine⟨i,b2,rV,?_,fun Dn=>by rw[wS]at Dn;exact Dn,rfl⟩;rw[f1 i e2]at hg;exact gj.1 hg
  ·rcases key i b' hb with⟨rfl,rfl⟩|⟨rfl,rfl⟩|⟨e1,e2,b2,rV,rfl⟩
   ·exact qv (by intro i off h;simp[bE.rowAt]at h)
   ·exact qv pS
   ·rw[f1 i e2];exact uc.2 (h.apart i b2 rV)
  ·rcases key i _ hb with⟨rfl,hb⟩|⟨rfl,hb⟩|⟨e1,e2,b2,rV,e⟩
   ·simp only[bE.box.injEq]at hb;subst hb;rcases JR _ _ hh with hh|hh
    ·exact uY _ (h.fJ _ _ _ hm (wR hh).1)
    ·have:=Nat.eq_of_beq_eq_true hh;subst this;exact uY _ (by rw[hd];rfl)
   ·cases hb
   ·cases b2 with
    |box cs2=>simp only[gq,bE.box.injEq]at e;subst e;exact uY _ (h.fJ _ _ _ rV (wR hh).1)
    |_=>simp[gq]at e
  ·rcases key i _ hb with⟨rfl,hb⟩|⟨rfl,hb⟩|⟨e1,e2,b2,rV,e⟩
   ·cases hb
   ·cases hb
   ·cases b2 with
    |loop st2=>simp only[gq,bE.loop.injEq]at e;subst e;exact⟨rV,by rw[f1 i e2]⟩
    |_=>simp[gq]at e
 exact⟨φ',{toav:=hM,size:=h.size,defers:=h.defers,l5:=h.l5,fr:=(fun t=>((h.fr t).kill d).mono (fun _ _ h=>h) fun i hi=>f1 i (vB hi).2),live:=fun t i hid=>uY _ (h.live t i (vB hid).1)}⟩
theorem tl{A:Type}{nt:Nat}{a:Act}{w:World}:∀{l:List (Nat×Nat)}{μ:Ro}{φ:Nat→aA}{f:Fr}{m:Mem}{k:Fr→Mem→A}{r:A},BA l f m k=r→Rel E.P E.aD nt w0 μ φ f m a w→∃f' m' φ',k f' m'=r∧Rel E.P E.aD nt w0 μ φ' f' m' a w
 |[],μ,φ,f,m,k,r,h,hR=>⟨f,m,φ,h,hR⟩
 |(id,j)::l,μ,φ,f,m,k,r,h,hR=>by
  unfold BA at h;split at h
  ·rename_i cs hm;split at h
   ·rename_i d len hj;split at h
    ·rename_i s et es hd;split at h
     ·exact tl h hR
     ·rename_i cB;have cB:d≠id:=fun e=>cB (by rw[e];exact Nat.beq_refl _);obtain⟨φ',jC⟩:=hR.cut hm hj hd cB;exact tl h jC
    ·exact tl h hR
   ·exact tl h hR
  ·exact tl h hR
theorem JS{A:Type}{T:gi}{k:Fr→Mem→A}{r:A}(h:FP E.P T f m k=r)(hR:Rel E.P E.aD nt w0 μ φ f m a w):∃f' m' μ' φ',k f' m'=r∧Rel E.P E.aD nt w0 μ' φ' f' m' a w:=by unfold FP at h;obtain⟨_,_,_,h,hR⟩:=tl h hR;obtain⟨m1,φ1,h,hR⟩:=ti h hR;obtain⟨m',h,hR⟩:=zC h hR;obtain⟨m',h,hR⟩:=Eg h hR;obtain⟨f',m',μ',h,hR⟩:=th h hR;exact⟨f',m',μ',φ1,h,hR⟩
def US:Ex→Exit
 |.normal=>.normal
 |.exit id=>.exit id
 |.ret=>.ret
theorem Rel.UT(h:Rel E.P E.aD nt w0 μ φ f m a w):Rel E.P E.aD nt w0 μ φ f m a {w with drawn:=w.drawn+1}:={toav:=h.toav.drew,size:=h.size,defers:=h.defers,l5:=h.l5,fr:=h.fr,live:=h.live}
theorem Sb{rd:Option Nat}(hE:jS E)(hY:sV E.P E.aD E.fn.ntmps E.yl w0){R:Type}{ops:Array Oper}{draw:Bool}{k:Ex→Fr→Mem→Option R}{r:R}(h:fu E (.region id ops draw) f m k=some r){Q:Exit→Act→World→Prop}(hR:Rel E.P E.aD E.fn.ntmps w0 μ φ f m a w)(hQ:∀f' m' μ' φ' a' w',k .normal f' m'=some r→Rel E.P E.aD E.fn.ntmps w0 μ' φ' f' m' a' w'→Q .normal a' w'):(Code.region id ops draw).wpIn (FR rd) 0 E.P Q a w:=by
 simp only[fu]at h;cases draw with
 |false=>
  simp only[Bool.false_eq_true,if_false]at h;refine wpIn_region ?_;have hmz:∀x∈(List.range ops.size).zip ops.toList,ops[x.1]?=some x.2:=fun x hx=>by have:=(sw (l:=ops.toList) (i:=x.1) (o:=x.2)).1 (by simpa using hx);rwa[Array.getElem?_toList]at this
  have:=iG (rd:=rd) hE hY _ (.inl rfl) h hmz (by intro x hx g hg;cases hg) (fun h=>by cases h) μ φ a w Q [] hR (by intro g hg;cases hg) fun f' m' μ' φ' a' w' hk jC _ _=>hQ f' m' μ' φ' a' w' hk jC;rw[List.append_nil,List.map_fst_zip (by simp)]at this;exact this
 |true=>
  simp only[if_true]at h;split at h
  ·split at h
   ·rename_i hc;simp only[Bool.and_eq_true]at hc;exact wpIn_region_any hE.mixed (MG hE hY hc.1.1 hc.1.2 hc.2 h hR.UT hQ)
   ·cases h
  split at h
  ·rename_i hi;refine wpIn_region_any hE.mixed ?_;split at h
   ·rename_i Cn;exact Ea hE hY (.inl rfl) (fun _ o ho=>List.all_eq_true.1 Cn o (Array.mem_toList_iff.2 ho)) hi h hR.UT hQ
   ·exact Ea hE hY (.inr rfl) (fun h=>by cases h) hi h hR.UT hQ
  ·cases h
end
theorem XF{g:FuncId}{fn:Func}(hf:P.funcs[g]?=some fn)(Ul:(fn.name== "runtime.NumGoroutine")=false)(hb:fn.body=some c){args:Array Value}{w:World}:(callFunc g args).run P w=.ok (.enter g args) w:=wV hf Ul hb
theorem Sc{nt:Nat}{w0:br}{a:Act}{t:Nat}:az nt w0 a (t+nt)=w0.sv (t+nt):=by unfold az;rw[if_neg (by omega)]
def AW(c:Code):Prop:=∀{E:Env}{w0:br}{rd:Option Nat}(_:jS E)(_:sV E.P E.aD E.fn.ntmps E.yl w0)(_:E.Z0=false→rd=none){R:Type}{f:Fr}{m:Mem}{k:Ex→Fr→Mem→Option R}{r:R},fu E c f m k=some r→∀{μ:Ro}{φ:Nat→aA}{a:Act}{w:World}{Q:Exit→Act→World→Prop},Rel E.P E.aD E.fn.ntmps w0 μ φ f m a w→(∀e f' m' μ' φ' a' w',k e f' m'=some r→Rel E.P E.aD E.fn.ntmps w0 μ' φ' f' m' a' w'→Q (US e) a' w')→c.wpIn (FR rd) 0 E.P Q a w
theorem UU{as b:Code}(ihA:AW as)(ihB:AW b){E:Env}(hE:jS E){w2:br}{lid l ntI:Nat}{ps:Array Nat}{rc:Loop}{fid:Nat}(XA:w2.rc lid=some (l,rc))(nd:rc.params=ps)(has:rc.assign=as)(hb:rc.body=b)(l0:rc.tmps.size=E.fn.ntmps)(hsv:∀t,t<E.fn.ntmps→w2.sv (t+ntI)=rc.tmps.getD t undef):sV E.P E.aD ntI (fun _ nt _ id args F m k=>bif Nat.beq id lid then roundOf (fu {E with fid:=fid,yl:=Aq,Z0:=true} as) (fu {E with fid:=fid,yl:=Aq,Z0:=true} b) lid E.fn.ntmps ps.toList nt args F m k else none) w2:=by
 intro R site id args F m k r hy μ φ ρ w xs hM hF hρ hl hr Ho g hg;dsimp only at hy;cases hid:Nat.beq id lid with
 |false=>rw[hid]at hy;cases hy
 |true=>
  rw[hid]at hy;have hid:=Nat.eq_of_beq_eq_true hid;subst hid;simp only[cond_true]at hy;unfold roundOf at hy;split at hy
  ·rename_i hml;split at hy
   ·rename_i Hx;obtain⟨g',rc',l1,l2,l3⟩:=hM.BD id _ hml;rw[XA]at l2;simp only[Option.some.injEq,Prod.mk.injEq]at l2;obtain⟨rfl,rfl⟩:=l2;rw[l1]at hg;simp only[Option.some.injEq]at hg;subst hg;have Hv:xs.size=(LG.ready.obj rc).params.size:=by
     have:ps.toList.length=ps.size:=by simp
     show xs.size=rc.params.size;rw[nd];omega
    refine⟨_,_,_,_,run_yield l3 Hv,?_⟩;have hE':jS {E with fid:=fid,yl:=Aq,Z0:=true}:=⟨hE.mixed,hE.lp,hE.ctx,hE.own,hE.inl,hE.ZZ⟩;have Zn:=Gt (P:=E.P) (μ:=μ) (φ:=φ) ps.toList args xs.toList (vt ntI F) rc.tmps l0 (by simpa using hl) (fun t ht=>by have:=hF.fr (t+ntI);rw[hρ _ (by omega),hsv t ht]at this;exact this) (fun i v x hv hx=>hr i v x hv (by simpa using hx));have hR3:Rel E.P E.aD E.fn.ntmps {w2 with sv:=fun t=>ρ (t-E.fn.ntmps),dA:=μ,l5:=fun _=>none} μ φ (PS E.fn.ntmps (Db ps.toList args (vt ntI F)) F) m {tmps:=((LG.ready.obj rc).params.zip xs).foldl (fun tmps(t,a)=>tmps.setIfInBounds t a) (LG.ready.obj rc).tmps,defers:=[]} w:=by
     have e:((LG.ready.obj rc).params.zip xs).foldl (fun tmps(t,a)=>tmps.setIfInBounds t a) (LG.ready.obj rc).tmps=(ps.toList.zip xs.toList).foldl (fun tmps(x:Nat×Value)=>tmps.setIfInBounds x.1 x.2) rc.tmps:=by rw[UO];show(rc.params.toList.zip xs.toList).foldl _ rc.tmps=_;rw[nd]
     rw[e];refine{toav:=hM.vA rfl rfl (fun _ _ h=>h) (fun _ _ _=>rfl),size:=Zn.1,defers:=.nil _ _ _,l5:=fun _ _ h=>(by cases h),fr:=fun t=>?_,live:=fun t id hid=>?_}
     ·unfold PS az;by_cases ht:t<E.fn.ntmps
      ·rw[show Nat.blt t E.fn.ntmps=true by rw[Nat.blt_eq];exact ht,if_pos ht];exact Zn.2 t ht
      ·rw[show Nat.blt t E.fn.ntmps=false by rw[←Bool.not_eq_true,Nat.blt_eq];exact ht,if_neg ht];exact hF.fr _
     ·unfold PS at hid;cases e:Nat.blt t E.fn.ntmps with
      |true=>
       rw[e]at hid;rcases Eb _ _ _ _ hid with h|h
       ·exact Ho id h
       ·exact hF.live _ id h
      |false=>rw[e]at hid;exact hF.live _ id hid
    refine roundIn_of_wpIn trivial ?_;show(LG.ready.obj rc).assign.wpIn (FR (some l)) 0 E.P _ _ _;have YU:(LG.ready.obj rc).assign=as:=has;rw[YU];refine ihA (rd:=some l) hE' (zg _ _ _ _) (fun h=>by cases h) hy hR3 fun e f1 m1 μ1 φ1 a1 w1 RQ MB=>?_;split at RQ
    ·rename_i hm1;obtain⟨g1,rc1,p1,p2,p3⟩:=MB.BD id _ hm1;have p2:w2.rc id=some (g1,rc1):=p2;rw[XA]at p2;simp only[Option.some.injEq,Prod.mk.injEq]at p2;obtain⟨rfl,rfl⟩:=p2;refine⟨_,run_beginRound p3 rfl,?_⟩;have gB:(LG.ready.obj rc).body=b:=hb;refine Eq.mpr (congrArg (fun c:Code=>c.wpIn (FR (some l)) 0 E.P _ a1 _) gB) ?_;have ta:=MB.toav.turn (st':=.busy) hm1 p1 XA;have afB:Rel E.P E.aD E.fn.ntmps {w2 with sv:=fun t=>ρ (t-E.fn.ntmps),dA:=μ,l5:=fun _=>none} μ1 φ1 f1 (ak m1 id (.loop .busy)) a1 (w1.putObj l (.loop {LG.ready.obj rc with state:=.busy})):=
      {toav:=ta,size:=MB.size,defers:=MB.defers,l5:=MB.l5,fr:=MB.fr,live:=fun t j hj=>by
        by_cases e:j=id
        ·subst e;simp
        ·rw[al e];exact MB.live t j hj}
     refine ihB (rd:=some l) hE' (zg _ _ _ _) (fun h=>by cases h) RQ afB fun e f2 m2 μ2 φ2 a2 w2' Xk Gg=>?_;split at Xk
     ·rename_i cq;obtain⟨g2,rc2,q1,q2,q3⟩:=Gg.BD id _ cq;have q2:w2.rc id=some (g2,rc2):=q2;rw[XA]at q2;simp only[Option.some.injEq,Prod.mk.injEq]at q2;obtain⟨rfl,rfl⟩:=q2;have hle:JE μ μ2:=Gg.dA;have hFp:bZ E.P μ2 φ2 m2 (vt E.fn.ntmps f2) ρ:=by refine⟨fun t=>?_,fun t id hid=>Gg.live _ id hid⟩;have:=Gg.fr (t+E.fn.ntmps);rw[Sc]at this;simpa[vt]using this
      have fin:∀(st:LG)(v:Bool),k (.pv (.bool v)) (vt E.fn.ntmps f2) (ak m2 id (.loop st))=some r→∃v' f' m' y μ' φ',k v' f' m'=some r∧Ending.returned (.bool v)=.returned y∧JE μ μ'∧av E.P E.aD w2 μ' φ' m' (w2'.putObj l (.loop (st.obj rc)))∧bZ E.P μ' φ' m' f' ρ∧ae E.P μ' φ' v' y∧∀id,v'.has id=true→(m' id).isSome=true:=by
       intro st v hk;have hM2:=Gg.toav.turn (st':=st) cq q1 XA;refine⟨_,_,_,_,μ2,φ2,hk,rfl,hle,hM2.vA rfl rfl (fun b o hb=>hle b o (hM.dA b o hb)) (fun _ _ _=>rfl),⟨hFp.fr,fun t j hj=>?_⟩,.pv .bool,fun id hid=>by cases hid⟩;by_cases e:j=id
       ·subst e;simp
       ·rw[al e];exact hFp.live t j hj
      cases e with
      |normal=>exact⟨_,_,run_endRound none q3,fin .ready true Xk⟩
      |exit j=>exact⟨_,_,run_endRound (some (.exit j)) q3,fin (.done (.exit j)) false Xk⟩
      |ret=>exact⟨_,_,run_endRound (some .ret) q3,fin (.done .ret) false Xk⟩
     ·cases Xk
    ·cases RQ
   ·cases hy
  ·cases hy
theorem XG{μ:Ro}{φ:Nat→aA}{m:Mem}{v:V}{g:FuncId}{caps:List V}{y:Value}(h:Z1 v=some (g,caps))(hv:ae P μ φ v y)(hl:∀id,v.has id=true→(m id).isSome=true):∃xs,y=.func (.func g) #[] xs∧caps.length=xs.size∧(∀(i:Nat)v x,caps[i]?=some v→xs[i]?=some x→ae P μ φ v x)∧∀id,cm id caps=true→(m id).isSome=true:=by
 unfold Z1 at h;split at h
 ·rename_i g0 c0;cases e:Nat.blt g0 Cg with
  |false=>rw[e]at h;cases h
  |true=>
  rw[e]at h;simp only[cond_true,Option.some.injEq,Prod.mk.injEq]at h;obtain⟨rfl,rfl⟩:=h;cases hv with
  | @fn _ _ xs h1 h2=>exact⟨xs,qo e,h1,h2,fun id hid=>hl id (by simpa only[V.has]using hid)⟩
 ·rename_i g0 c0;cases e:Nat.blt g0 Cg with
  |false=>rw[e]at h;cases h
  |true=>
  rw[e]at h;simp only[cond_true,Option.some.injEq,Prod.mk.injEq]at h;obtain⟨rfl,rfl⟩:=h;cases hv with
  |pv hv=>cases hv with
   | @fn _ _ xs h1 h2=>
    refine⟨xs,qo e,by simpa using h1,fun i v x hv hx=>?_,fun id hid=>?_⟩
    ·simp only[List.getElem?_map,Option.map_eq_some_iff]at hv;obtain⟨q,hq,rfl⟩:=hv;exact .pv (h2 i q x hq hx)
    ·obtain⟨v,hv,hh⟩:=cL.1 hid;obtain⟨q,_,rfl⟩:=List.mem_map.1 hv;cases hh
 ·cases h
theorem HL{g:Operand}{ps:Array Tmp}{as b:Code}(ihA:AW as)(ihB:AW b):AW (.rangeFunc g ps as b):=by
 intro E w0 rd hE hY je R f m k r h μ φ a w Q hR hQ;simp only[fu]at h;split at h
 ·cases h
 rename_i LO;have je:=je (by simpa using LO);subst je;split at h;rotate_left
 ·cases h
 rename_i p0 pr F1;generalize agJ:cC E (some p0)=lid at h;obtain⟨f1,m1,_,h,hml,xf,afC⟩:=ei h;obtain⟨hm0,rfl,rfl⟩:=xf rfl;refine wpIn_rangeFunc fun fn _=>?_;obtain⟨rec,fM⟩:∃rec:Loop,rec={state:=.ready,pending:=none,fn,tmps:=a.tmps,params:=ps,assign:=as,body:=b,defers:=w.heap.size}:=⟨_,rfl⟩;obtain⟨wD,hwD⟩:∃wD,wD=w.alloc (.deferred (some [])):=⟨_,rfl⟩;obtain⟨W1,hW1⟩:∃W1,W1=wD.alloc (.loop rec):=⟨_,rfl⟩;obtain⟨l,hl⟩:∃l,l=wD.heap.size:=⟨_,rfl⟩;have LH:l=w.heap.size+1:=by rw[hl,hwD];simp
 obtain⟨μD,aaz⟩:∃μD,μD=BZ μ w (.deferred (some [])):=⟨_,rfl⟩;have UW:JE μ μD:=aaz▸JP hR.toav _;have hMD:av E.P E.aD w0 μD φ m wD:=aaz▸hwD▸hR.toav.XB _;have hD:μD w.heap.size=some (.deferred (some [])):=by rw[aaz];simp[BZ]
 obtain⟨w1,DF⟩:∃w1:br,w1={w0 with dA:=μD,rc:=fun i=>if i=lid then some (l,rec)else w0.rc i}:=⟨_,rfl⟩;have ab7:av E.P E.aD w1 μD φ m wD:=DF▸hMD.vA rfl rfl (fun _ _ h=>h) (fun id st hid=>if_neg fun e=>by subst e;rw[hm0]at hid;cases hid);have BK:az E.fn.ntmps w1 a=az E.fn.ntmps w0 a:=by subst DF;rfl
 have hFD:bZ E.P μD φ m f1 (az E.fn.ntmps w0 a):=⟨fun t=>(hR.fr t).xr UW,hR.live⟩;have aaA:w1.rc lid=some (l,rec):=by subst DF;exact if_pos rfl
 have Hw:W1.heap[l]?=some (.loop rec):=by rw[hW1,hl];exact heap_alloc_new wD _
 have Cj:LG.ready.obj rec=rec:=by subst fM;rfl
 have su:kF E.P w1 μD φ m wD W1 lid (.loop .ready) (Ci (some l) 0 0 0):=by
  rw[hW1];refine kF.alloc ab7 (by rw[hl]) (fun φ' hp _=>⟨l,rec,by rw[hp],?_⟩) (by simp[bE.names]) fun st oQ=>?_
  ·rw[Cj,←hW1];exact Hw
  ·cases oQ;exact⟨l,rec,rfl,aaA,by rw[Cj,←hW1];exact Hw⟩
 obtain⟨φ1,afD,ta,Cm⟩:=afC E.P E.aD w1 μD φ wD W1 (az E.fn.ntmps w0 a) (Ci (some l) 0 0 0) ab7 hFD su;have MB:Rel E.P E.aD E.fn.ntmps w1 μD φ1 f1 (ak m lid (.loop .ready)) a W1:={toav:=ta,size:=hR.size,defers:=(by have:=hR.defers.mono UW;subst DF;exact this),l5:=(by subst DF;exact fun b o hb=>UW b o (hR.dA b o (hR.l5 b o hb))),fr:=fun t=>by rw[BK];exact Cm.fr t,live:=Cm.live};have R0:=aj MB g;split at h;rotate_left
 ·cases h
 rename_i gid caps oR;obtain⟨xs,hgv,hlen,jd,afE⟩:=XG oR R0.1 R0.2
 ·clear R0;obtain⟨fnI,cI,f1,f2,f3,zD⟩:=hE.ZZ _ _ _ _ _ _ _ _ _ h;have Th:ae E.P μD φ1 (.yl lid) (.func (.yield l) #[] #[]):=.yl (by rw[afD]);have hC:=zD w1 μD φ1 (az E.fn.ntmps w0 a) W1 (#[.func (.yield l) #[] #[]]++xs) ta Cm (by simp;omega) (fun i v x hv hx=>by
    cases i with
    |zero=>simp at hv;subst hv;rw[Array.getElem?_append]at hx;simp at hx;subst hx;exact Th
    |succ i=>simp at hv;rw[Array.getElem?_append_right (by simp)]at hx;exact jd i v x hv (by simpa using hx)) (fun id hid=>by
    simp only[cm,Bool.or_eq_true]at hid;rcases hid with hid|hid
    ·have:=Nat.eq_of_beq_eq_true hid;subst this;simp
    ·exact afE id hid) (by
   refine fun R site id args F m k r hy=>UU (fid:=site*4096+E.fid%4096) ihA ihB hE (w2:={w1 with sv:=fun t=>az E.fn.ntmps w0 a (t-fnI.ntmps)}) (rc:=rec) (l:=l) (lid:=lid) (ps:=ps) aaA (by subst fM;rfl) (by subst fM;rfl) (by subst fM;rfl) (by subst fM;exact hR.size) (fun t ht=>by subst fM;show az E.fn.ntmps w0 a (t+fnI.ntmps-fnI.ntmps)=_;rw[Nat.add_sub_cancel,qm ht]) R site id args F m k r hy)
  refine⟨l,[{target:=.collected w.heap.size,args:= #[]}],W1,{target:=.fn (.func gid) xs,args:= #[.func (.yield l) #[] #[]]},W1,gid,#[.func (.yield l) #[] #[]]++xs,W1,?_,?_,?_,?_,?_,?_⟩
  ·have:=run_enterLoop_outer (P:=E.P) (w:=w) fn a.tmps ps as b;rw[LH,hW1,hwD,fM];exact this
  ·simp only[resolve,hgv];simp[go_sem]
  ·exact fun _ _=>trivial
  ·simp[invoke,go_sem,XF f1 f3 f2]
  ·exact fun h=>by cases h
  ·refine FR.Qg (hC.mono ?_);rintro e w' ⟨v,f',m',y,μ',φ',hk,rfl,TT,hF',_,_⟩;have aaB:JE μD μ':=by have:=TT.dA;subst DF;exact this
   have hD':μ' w.heap.size=some (.deferred (some [])):=aaB _ _ hD;have main:∀st,m' lid=some (.loop st)→st≠.busy→∃w4,(Instr.endLoop l).run E.P w'=.ok (st.obj rec).pending w4∧Rel E.P E.aD E.fn.ntmps w0 μ' φ' (eU lid f') (bh (bx lid m') lid) {a with defers:=[{target:=.collected w.heap.size,args:= #[]}]++a.defers} w4:=by
    intro st oQ hnb;obtain⟨g',rc',p1,p2,p3⟩:=TT.BD lid st oQ;rw[aaA]at p2;simp only[Option.some.injEq,Prod.mk.injEq]at p2;obtain⟨rfl,rfl⟩:=p2;have tW:=TT.own lid _ _ oQ (.inl p1);have hMf:=TT.forget lid;have AM:∀id b,bh (bx lid m') lid id=some b→¬b.owns (φ' id) l:=fun id b' hid e=>by obtain⟨cB,b2,rV,rfl⟩:=eP hid;exact cB (TT.inj id lid b2 _ l rV oQ (gj.1 e) (.inl p1))
    have hM4:=hMf.other (.loop {st.obj rec with state:=.exhausted}) tW.1 (tW.2 rfl) AM;have hM5:av E.P E.aD w0 μ' φ' (bh (bx lid m') lid) (w'.putObj l (.loop {st.obj rec with state:=.exhausted})):=hM4.vA (by subst DF;rfl) (by subst DF;rfl) (fun b o hb=>aaB b o (UW b o (hR.dA b o hb))) (fun id st hid=>by
      have cB:id≠lid:=fun e=>by subst e;simp at hid
      subst DF;exact(if_neg cB).symm)
    refine⟨_,run_endLoop p3 (by cases st<;>simp_all[LG.obj]),{toav:=hM5,size:=hR.size,defers:=?_,l5:=hR.l5,fr:=?_,live:=?_}⟩
    ·obtain⟨Ds,e,WI,hDs⟩:=hR.defers;have bm:∀b o,μ b=some o→b<w.heap.size:=fun b o hb=>(Array.getElem?_eq_some_iff.1 (hR.ro b o hb)).1;refine⟨w.heap.size::Ds,by simp[e],List.nodup_cons.2 ⟨fun hd=>?_,WI⟩,fun D hd=>?_⟩
     ·have:=bm _ _ (hDs _ hd).2.2;omega
     ·rcases List.mem_cons.1 hd with rfl|hd
      ·refine⟨hR.below.size,?_,hD'⟩;cases ho:w0.l5 w.heap.size with
       |none=>rfl
       |some o=>have:=bm _ _ (hR.dA _ _ (hR.l5 _ _ ho));omega
      ·exact⟨(hDs D hd).1,(hDs D hd).2.1,aaB _ _ (UW _ _ (hDs D hd).2.2)⟩
    ·exact(hF'.forget lid).fr
    ·exact(hF'.forget lid).live
   dsimp only at hk;split at hk
   ·rename_i oQ;obtain⟨w4,e1,e2⟩:=main .ready oQ (by simp);exact⟨none,w4,e1,hQ .normal _ _ _ _ _ _ hk e2⟩
   ·rename_i j oQ;obtain⟨w4,e1,e2⟩:=main (.done j) oQ (by simp);refine⟨some j.code,w4,e1,?_⟩;cases j with
    |ret=>exact wpIn_ret (hQ .ret _ _ _ _ _ _ hk e2)
    |exit id=>exact wpIn_exit (hQ (.exit id) _ _ _ _ _ _ hk e2)
   ·cases hk
theorem UX:∀(c:Code),AW c:=by
 intro c;induction c with
 |skip=>intro E w0 rd hE hY je R f m k r h μ φ a w Q hR hQ;simp only[fu]at h;exact wpIn_skip (hQ .normal _ _ _ _ _ _ h hR)
 |region id ops draw=>intro E w0 rd hE hY je R f m k r h μ φ a w Q hR hQ;exact Sb hE hY h hR (hQ .normal)
 |seq x y ihx ihy=>
  intro E w0 rd hE hY je R f m k r h μ φ a w Q hR hQ;simp only[fu]at h;refine wpIn_seq (ihx hE hY je h hR fun e f' m' μ' φ' a' w' hk jC=>?_);cases e with
  |normal=>exact ihy hE hY je hk jC hQ
  |exit id=>exact hQ (.exit id) _ _ _ _ _ _ hk jC
  |ret=>exact hQ .ret _ _ _ _ _ _ hk jC
 |cond c x y ihx ihy=>
  intro E w0 rd hE hY je R f m k r h μ φ a w Q hR hQ;simp only[fu]at h;split at h
  ·rename_i t b hb;have hv:a.eval (.tmp t)=.bool b:=by have:=(aj hR (.tmp t)).1;rw[hb]at this;exact qC this
   have gB:f t=.pv (.bool b):=(DS hb).2;have hle:vj (fI f t (.pv (.bool b))) f:=fun s=>by
    simp only[fI];cases e:Nat.beq s t with
    |true=>have:=Nat.eq_of_beq_eq_true e;subst this;exact .inl gB.symm
    |false=>exact .inl rfl
   cases b with
   |true=>simp only[if_true]at h;exact wpIn_cond_true hv (ihx hE hY je h (hR.weaken hle) hQ)
   |false=>simp only[Bool.false_eq_true,if_false]at h;exact wpIn_cond_false hv (ihy hE hY je h (hR.weaken hle) hQ)
  ·cases h
 |block id b ih=>
  intro E w0 rd hE hY je R f m k r h μ φ a w Q hR hQ;simp only[fu]at h;refine wpIn_block (ih hE hY je h hR fun e f' m' μ' φ' a' w' hk jC=>?_);cases e with
  |normal=>exact hQ .normal _ _ _ _ _ _ hk jC
  |exit j=>
   simp only[Ex.TD]at hk;simp only[US,Exit.inBlock];split at hk
   ·rename_i hj;rw[if_pos hj];exact hQ .normal _ _ _ _ _ _ hk jC
   ·rename_i hj;rw[if_neg hj];exact hQ (.exit j) _ _ _ _ _ _ hk jC
  |ret=>exact hQ .ret _ _ _ _ _ _ hk jC
 |loop b ih=>
  intro E w0 rd hE hY je R f m k r h μ φ a w Q hR hQ;simp only[fu]at h;split at h
  ·rename_i T _;obtain⟨f,m,μ,φ,h,hR⟩:=JS h hR;obtain⟨s,hs,s1,s2,s3,s4⟩:=UQ h;obtain⟨n0,hs⟩:=hE.lp _ _ _ _ _ hs;refine Gu (fun n a w=>∃s μ φ,Rel E.P E.aD E.fn.ntmps w0 μ φ (L3 T s) (Da T s) a w∧c7 (fun s rec=>fu E b (L3 T s) (Da T s) (Ex.Ji (fun f m=>FP E.P T f m fun f m=>enc T f m rec) k)) n s=some r) ?_ n0 a w ⟨s,μ,φ,hR.dec s1 s2 s3 s4,hs⟩;rintro n a w ⟨s,μ,φ,hR,hs⟩;cases n with
   |zero=>simp[c7]at hs
   |succ n=>
    refine⟨n,rfl,?_⟩;simp only[c7]at hs;refine ih hE hY je hs hR fun e f' m' μ' φ' a' w' hk jC=>?_;cases e with
    |normal=>obtain⟨f',m',μ',φ',hk,jC⟩:=JS hk jC;obtain⟨s',hs',t1,t2,t3,t4⟩:=UQ hk;exact⟨s',μ',φ',jC.dec t1 t2 t3 t4,hs'⟩
    |exit j=>exact hQ (.exit j) _ _ _ _ _ _ hk jC
    |ret=>exact hQ .ret _ _ _ _ _ _ hk jC
  ·refine Gu (fun n a w=>∃f m μ φ,Rel E.P E.aD E.fn.ntmps w0 μ φ f m a w∧Jg (fun f m rec=>fu E b f m (Ex.Ji rec k)) n f m=some r) ?_ E.u a w ⟨f,m,μ,φ,hR,h⟩;rintro n a w ⟨f,m,μ,φ,hR,hs⟩;cases n with
   |zero=>simp[Jg]at hs
   |succ n=>
    refine⟨n,rfl,?_⟩;simp only[Jg]at hs;refine ih hE hY je hs hR fun e f' m' μ' φ' a' w' hk jC=>?_;cases e with
    |normal=>exact⟨f',m',μ',φ',jC,hk⟩
    |exit j=>exact hQ (.exit j) _ _ _ _ _ _ hk jC
    |ret=>exact hQ .ret _ _ _ _ _ _ hk jC
 |exit id=>intro E w0 rd hE hY je R f m k r h μ φ a w Q hR hQ;simp only[fu]at h;exact wpIn_exit (hQ (.exit id) _ _ _ _ _ _ h hR)
 |label l=>intro E w0 rd hE hY je R f m k r h μ φ a w Q hR hQ;simp only[fu]at h;exact wpIn_label (hQ .normal _ _ _ _ _ _ h hR)
 |ret=>intro E w0 rd hE hY je R f m k r h μ φ a w Q hR hQ;simp only[fu]at h;exact wpIn_ret (hQ .ret _ _ _ _ _ _ h hR)
 |scope b ih=>intro E w0 rd hE hY je R f m k r h μ φ a w Q hR hQ;simp only[fu]at h;exact Sa (ih hE hY je h hR fun e f' m' μ' φ' a' w' hk jC=>by cases e<;>exact hQ _ _ _ _ _ _ _ hk jC)
 |rangeFunc g ps as b ihA ihB=>exact HL ihA ihB
 |_=>intro E w0 rd hE hY je R f m k r h;simp[fu]at h
end Go.Ab
set_option linter.unusedVariables false
namespace Go.Ab
open Go.RowKit (Below)
def Obj.aaC:Obj→Bool
 |.cells .. =>true
 |.map .. =>true
 |_=>false
def Qq(μ μ':Ro):Prop:=∀b o,μ b=some o→Obj.aaC o=true→μ' b=some o
theorem Qq.trans{a b c:Ro}(h:Qq a b)(k:Qq b c):Qq a c:=fun x o hx ho=>k x o (h x o hx ho) ho
section
variable {P:Program} {G:Nat→Option (List PV)} {w0:br} {μ μ':Ro} {φ:Nat→aA} {m:Mem} {w w':World}
variable{x:Value}
theorem Eh(h:Qq μ μ'){b o:Nat}(hx:cellAt μ b o=some x):cellAt μ' b o=some x:=by
 unfold cellAt at*;split at hx
 ·rename_i c t fz hb;rw[h _ _ hb rfl];exact hx
 ·cases hx
theorem af.off(h:Qq μ μ'){p:PV}(hp:af P μ p x):af P μ' p x:=by
 induction hp with
 |int h=>exact .int h
 |bool=>exact .bool
 |str h=>exact .str h
 |agg h1 _ h3 ih=>exact .agg h1 ih h3
 |bt h1 _ ih=>exact .bt h1 ih
 |pF=>exact .pF
 |rp X h1 _ h3 ih=>exact .rp X (fun i p hi=>Eh h (h1 i p hi)) ih h3
 |kE=>exact .kE
 |Fk h=>exact .Fk h
 |rs X h1 h2 h3 h4 _ h6 ih=>exact .rs X h1 h2 h3 (fun i e j p hi hj=>Eh h (h4 i e j p hi hj)) ih h6
 |ve=>exact .ve
 |rm h1 h2 h3 h4 h5 _ _ ih1 ih2=>exact .rm (h _ _ h1 rfl) h2 h3 h4 h5 ih1 ih2
 |Ao=>exact .Ao
 |fn h1 _ ih=>exact .fn h1 ih
 |TK=>exact .TK
 |W2=>exact .W2
 |bad=>exact .bad
theorem xq.off(h:Qq μ μ'){g:Nat}{cs:List PV}(hv:xq P μ g cs):xq P μ' g cs:=⟨hv.rep.off h,let⟨c,T,z,h1,h2⟩:=hv.size;⟨c,T,z,h _ _ h1 rfl,h2⟩⟩
theorem ae.off(h:Qq μ μ'){v:V}{x:Value}(hv:ae P μ φ v x):ae P μ' φ v x:=by
 induction hv with
 |pv hp=>exact .pv (hp.off h)
 |hZ=>exact .hZ
 |op hg=>exact .op hg
 |oe hg=>exact .oe hg
 |rL hg=>exact .rL hg
 |os hg=>exact .os hg
 |qn hg=>exact .qn hg
 |fH hg hl ha hc WZ=>exact .fH hg hl ha hc WZ
 |Hq hg=>exact .Hq hg
 |vp hg=>exact .vp hg
 |y7 hg hs=>exact .y7 hg hs
 |om hg=>exact .om hg
 |yl hg=>exact .yl hg
 |it hg=>exact .it hg
 |fn h1 _ ih=>exact .fn h1 ih
 |agg h1 _ h3 ih=>exact .agg h1 ih h3
 |bt h1 _ ih=>exact .bt h1 ih
 |top=>exact .top
theorem aF.off(h:Qq μ μ'){id sz:Nat}{et:TypeId}{es:List PV}(ha:aF P μ φ w id sz et es)(hw:∀g,(φ id).g=some g→w'.heap[g]?=w.heap[g]?):aF P μ' φ w' id sz et es:=by
 obtain⟨a1,a2,a3,a4,a5,a6,a7⟩:=ha;refine⟨a1,a2,a3,a4,a5,a6,?_⟩;cases hg:(φ id).g with
 |none=>rw[hg]at a7;exact a7
 |some g=>rw[hg]at a7;obtain⟨c,T,c1,c2,c3,c4,c5⟩:=a7;exact⟨c,T,by rw[hw g hg];exact c1,c2,c3,fun i e j p x h1 h2 h3=>(c4 i e j p x h1 h2 h3).off h,c5⟩
theorem eN.off(hh:Qq μ μ'){R:BE}{s:Nat}{rs:List PV}{x:Value}(h:eN P μ R w s rs x)(hw:∀g,R.g=some g→w'.heap[g]?=w.heap[g]?):eN P μ' R w' s rs x:=
 let⟨⟨et,hA⟩,hV⟩:=h
 ⟨⟨et,hA.off hh hw⟩,hV.off hh⟩
theorem eh.off(hh:Qq μ μ'){R:BE}{p:PV}{x:Value}(h:eh P μ R w p x)(hw:p.isRow=true→∀g,R.g=some g→w'.heap[g]?=w.heap[g]?):eh P μ' R w' p x:=by
 unfold eh at*;split at h
 ·exact eN.off hh h (hw rfl)
 ·exact af.off hh h
theorem aV.off(hh:Qq μ μ'){id sz:Nat}{et:TypeId}{es:List PV}(h:aV P μ φ w id sz et es)(hw:∀g,(bE.nest sz et es).owns (φ id) g→w'.heap[g]?=w.heap[g]?):aV P μ' φ w' id sz et es:=by
 obtain⟨a1,a2,a3,a4,a5,a6,a7⟩:=h;refine⟨a1,a2,a3,a4,a5,a6,?_⟩;cases hg:(φ id).g with
 |none=>rw[hg]at a7;exact a7
 |some g=>rw[hg]at a7;obtain⟨c,T,c1,c2,c3,c4,c5⟩:=a7;exact⟨c,T,by rw[hw g (.inl hg)];exact c1,c2,c3,fun i e j p x h1 h2 h3=>(c4 i e j p x h1 h2 h3).off hh fun hr g' bP=>hw g' (.inr ⟨i,j,by rw[dv h1 h2];exact hr,bP⟩),c5⟩
theorem eN.Qr{R:BE}{s g:Nat}{rs:List PV}(h:eN P μ R w s rs x)(hg:R.g=some g):∃c T z,w.heap[g]?=some (.cells c T z):=by obtain⟨⟨et,_,_,_,_,_,_,a7⟩,_⟩:=h;have bP:R.up.g=some g:=hg;simp only[bP]at a7;obtain⟨c,_,c1,_⟩:=a7;exact⟨_,_,_,c1⟩
theorem gC.UY{id g i off:Nat}{b:bE}(h:gC P μ φ w id b)(hr:b.rowAt i off=true)(hg:((φ id).row i off).g=some g):∃c T z,w.heap[g]?=some (.cells c T z):=by
 rcases jV hr with⟨sz,et,es,e,s,rs,rfl,he,hp⟩|⟨kt,e0,es,k,s,rs,rfl,rfl,he⟩
 ·have hN:aV P μ φ w id sz et es:=h;have hgg:∃g0,(φ id).g=some g0:=by
   cases hq:(φ id).g with
   |some g0=>exact⟨g0,rfl⟩
   |none=>have a7:=hN.2.2.2.2.2.2;rw[hq]at a7;rw[a7.1]at he;simp at he
  obtain⟨g0,LJ⟩:=hgg;obtain⟨c,_,x,_,_,c3,_⟩:=hN.cell LJ he hp;exact eN.Qr (show eN P μ _ w s rs x from c3) hg
 ·obtain⟨g0,en,clock,kk,LJ,hh,hs,hk,hc,uW,hv⟩:=h;have hi:i<en.size:=by rw[hs];exact(List.getElem?_eq_some_iff.1 he).1
  have h3:=(hv i k _ en[i] he (Array.getElem?_eq_getElem hi)).2;exact eN.Qr (P:=P) (μ:=μ) (R:=(φ id).row i 0) (s:=s) (rs:=rs) (x:=en[i].val) ⟨⟨_,h3.1⟩,h3.2⟩ hg
theorem gC.off(h:Qq μ μ')(sO:∀b o,μ b=some o→w.heap[b]?=some o){id:Nat}{b:bE}(hb:gC P μ φ w id b)(hw:∀g,b.owns (φ id) g→w'.heap[g]?=w.heap[g]?):gC P μ' φ w' id b:=by
 cases b with
 |nest sz et es=>exact aV.off h hb hw
 |fe kt e0 es=>
  obtain⟨g,en,clock,kk,hg,hh,hs,hk,hc,uW,hv⟩:=hb;refine⟨g,en,clock,kk,hg,by rw[hw g (.inl hg)];exact hh,hs,hk,hc,uW,fun i k v e h1 h2=>⟨(hv i k v e h1 h2).1.off h,?_⟩⟩;have h3:=(hv i k v e h1 h2).2;split at h3
  ·exact⟨h3.1.off h fun g' bP=>hw g' (.inr ⟨i,0,by rw[jU h1];rfl,bP⟩),h3.2.off h⟩
  ·exact h3.off h
 |box cs=>obtain⟨g,c,T,hg,hh,hs,hv,h1,xZ⟩:=hb;exact⟨g,c,T,hg,by rw[hw g (.inl hg)];exact hh,hs,fun i v x hi hx=>(hv i v x hi hx).off h,h1,xZ⟩
 |arr sz et es=>exact aF.off h hb fun g hg=>hw g (.inl hg)
 |pR sz et es=>refine⟨aF.off h hb.1 fun g hg=>hw g (.inl hg),fun g hg=>?_⟩;obtain⟨o,ho⟩:=Option.isSome_iff_exists.1 (hb.2 g hg);obtain⟨_,_,_,_,_,_,a7⟩:=hb.1;rw[hg]at a7;obtain⟨c,_,c1,_⟩:=a7;have:=sO g o ho;rw[c1]at this;cases this;rw[h _ _ ho rfl];rfl
 |map kt es=>obtain⟨g,en,clock,kk,hg,hh,hs,hk,hc,uW,hv⟩:=hb;exact⟨g,en,clock,kk,hg,by rw[hw g (.inl hg)];exact hh,hs,hk,hc,uW,fun i k v e h1 h2=>⟨(hv i k v e h1 h2).1.off h,(hv i k v e h1 h2).2.off h⟩⟩
 |iter t es cur=>obtain⟨g,mg,en,clock,seen,hg,hh,Dn,uW,xZ,hv,hcu⟩:=hb;exact⟨g,mg,en,clock,seen,hg,by rw[hw g (.inl hg)];exact hh,h _ _ Dn rfl,uW,xZ,fun i k v e h1 h2=>⟨(hv i k v e h1 h2).1.off h,(hv i k v e h1 h2).2.off h⟩,fun k v hc=>let⟨i,e,h1,h2,h3,h4⟩:=hcu k v hc;⟨i,e,h1,h2,h3.off h,h4.off h⟩⟩
 |loop st=>obtain⟨g,rc,hg,hh⟩:=hb;exact⟨g,rc,hg,by rw[hw g (.inl hg)];exact hh⟩
def B0(μ:Ro)(D:Nat):Ro:=fun b=>if b=D then none else μ b
theorem Qs{D:Nat}(hD:μ D=some (.deferred (some []))):Qq μ (B0 μ D):=by intro b o hb ho;unfold B0;rw[if_neg fun e=>by subst e;rw[hD]at hb;cases hb;cases ho];exact hb
theorem av.shut(hM:av P G w0 μ φ m w){D:Nat}(hB:w0.heap.size≤D)(hk:w0.dA D=none)(hD:μ D=some (.deferred (some []))):av P G w0 (B0 μ D) φ m (w.putObj D (.deferred none)):=by
 have hc:=Qs hD;have hh:=hM.ro _ _ hD;have Co:∀k,k≠D→(w.putObj D (.deferred none)).heap[k]?=w.heap[k]?:=fun k hk=>World.putObj_heap_other hk;have cB:∀id b g,m id=some b→b.owns (φ id) g→g≠D:=fun id b g hm hg e=>by
  subst e;have hR:=hM.dy id b hm;rcases hg with hg|⟨i,off,hr,hg⟩
  rotate_left
  ·obtain⟨c,T,z,h2⟩:=hR.UY hr hg;rw[hh]at h2;cases h2
  cases b with
  |nest sz et es=>obtain⟨_,_,_,_,_,_,a7⟩:=hR;rw[hg]at a7;obtain⟨c,_,c1,_⟩:=a7;rw[hh]at c1;cases c1
  |fe kt e0 es=>obtain⟨g',en,clock,kk,bP,h2,_⟩:=hR;rw[hg]at bP;cases bP;rw[hh]at h2;cases h2
  |box cs=>obtain⟨g',c,T,bP,h2,_⟩:=hR;rw[hg]at bP;cases bP;rw[hh]at h2;cases h2
  |arr sz et es=>obtain⟨_,_,_,_,_,_,a7⟩:=hR;rw[hg]at a7;obtain⟨c,_,c1,_⟩:=a7;rw[hh]at c1;cases c1
  |pR sz et es=>obtain⟨⟨_,_,_,_,_,_,a7⟩,_⟩:=hR;rw[hg]at a7;obtain⟨c,_,c1,_⟩:=a7;rw[hh]at c1;cases c1
  |map kt es=>obtain⟨g',en,clock,kk,bP,h2,_⟩:=hR;rw[hg]at bP;cases bP;rw[hh]at h2;cases h2
  |loop st=>obtain⟨g',rc,bP,h2⟩:=hR;rw[hg]at bP;cases bP;rw[hh]at h2;cases h2
  |iter t es cur=>obtain⟨g',mg,en,clock,seen,bP,h2,_⟩:=hR;rw[hg]at bP;cases bP;rw[hh]at h2;cases h2
 refine⟨hM.below.trans ((kG.putObj w D _).mono hB),fun b o hb=>?_,fun g cs hg=>(hM.aD g cs hg).off hc,fun id b hm=>(hM.dy id b hm).off hc hM.ro fun g hg=>Co g (cB id b g hm hg),fun id b g hm hg=>?_,hM.inj,hM.apart,hM.fJ,fun b o hb bm=>?_,fun b o hb=>?_,fun id st hm=>?_⟩
 ·unfold B0 at hb;split at hb
  ·cases hb
  ·rename_i e;rw[Co b e];exact hM.ro b o hb
 ·obtain⟨h1,h2⟩:=hM.own id b g hm hg;refine⟨h1,fun Jo=>?_⟩;unfold B0;rw[if_neg (cB id b g hm hg)];exact h2 Jo
 ·unfold B0 at hb;split at hb
  ·cases hb
  ·exact hM.base b o hb bm
 ·unfold B0;rw[if_neg fun e=>by subst e;rw[hk]at hb;cases hb];exact hM.dA b o hb
 ·obtain⟨g,rc,h1,h2,h3⟩:=hM.BD id st hm;exact⟨g,rc,h1,h2,by rw[Co g (cB id _ g hm (.inl h1))];exact h3⟩
end
section
variable {E:Env} {w0:br}
theorem zF{R:Ending→World→Prop}{f:Fr}{m:Mem}{φ:Nat→aA}{fn:Func}{tmps:Array Value}:∀(Ds:List Nat){μ:Ro}{w:World},Ds.Nodup→(∀D∈Ds,w0.heap.size≤D∧w0.dA D=none∧μ D=some (.deferred (some [])))→Rel E.P E.aD E.fn.ntmps w0 μ φ f m {tmps,defers:=[]} w→(∀μ' w',Rel E.P E.aD E.fn.ntmps w0 μ' φ f m {tmps,defers:=[]} w'→∃v,(results fn tmps).run E.P w'=.ok v w'∧R (.returned v) w')→LeavesInM (FR none) 0 E.P fn tmps R (Ds.map fun D=>{target:=.collected D,args:= #[]}) .returning w
 |[],μ,w,_,_,hR,Sd=>Sd μ w hR
 |D::Ds,μ,w,hn,hD,hR,Sd=>by obtain⟨h1,h2,h3⟩:=hD D (by simp);obtain⟨n1,n2⟩:=List.nodup_cons.1 hn;have hM:=hR.toav.shut h1 h2 h3;refine⟨by simp,.inl ⟨D,_,rfl,run_takeDeferred (hR.ro _ _ h3),?_⟩⟩;refine zF Ds n2 (fun D' TU=>?_) {toav:=hM,size:=hR.size,defers:=.nil _ _ _,l5:=hR.l5,fr:=fun t=>(hR.fr t).off (Qs h3),live:=hR.live} Sd;obtain⟨a1,a2,a3⟩:=hD D' (by simp[TU]);refine⟨a1,a2,?_⟩;unfold B0;rw[if_neg fun e=>by subst e;exact n1 TU];exact a3
theorem sj(hE:jS E)(hY:sV E.P E.aD E.fn.ntmps E.yl w0)(hko:∀b o,w0.dA b=some o→w0.l5 b=some o){g:FuncId}{c:Code}(hf:E.P.funcs[g]?=some E.fn)(hb:E.fn.body=some c){xs:Array Value}{R:Ending→World→Prop}{S:Type}{f:Fr}{m:Mem}{k:Ex→Fr→Mem→Option S}{r:S}(h:fu E c f m k=some r){μ:Ro}{φ:Nat→aA}{w:World}(hR:Rel E.P E.aD E.fn.ntmps w0 μ φ f m {tmps:=xs++Array.replicate (E.fn.ntmps-xs.size) undef,defers:=[]} w)(Sd:∀e f' m' μ' φ' tmps w',k e f' m'=some r→Rel E.P E.aD E.fn.ntmps w0 μ' φ' f' m' {tmps,defers:=[]} w'→(∀id,e≠.exit id)∧∃v,(results E.fn tmps).run E.P w'=.ok v w'∧R (.returned v) w'):Calls E.P g xs w R:=by
 refine(callsIn_wide (n:=0)).1 (callsIn_of_wp_marks (F:=FR none) hf hb trivial ?_);refine UX c hE hY (fun _=>rfl) h hR fun e f' m' μ' φ' a' w' hk jC=>?_;obtain⟨Ds,e1,e2,e3⟩:=jC.defers;have Gg:Rel E.P E.aD E.fn.ntmps w0 μ' φ' f' m' {tmps:=a'.tmps,defers:=[]} w':={toav:=jC.toav,size:=jC.size,defers:=.nil _ _ _,l5:=jC.l5,fr:=jC.fr,live:=jC.live};have key:(∀id,e≠.exit id)→LeavesInM (FR none) 0 E.P E.fn a'.tmps R a'.defers .returning w':=fun _=>by
  rw[e1];refine zF Ds e2 (fun D hd=>?_) Gg fun μ2 w2 hR3=>(Sd e f' m' μ2 φ' a'.tmps w2 hk hR3).2;obtain⟨a1,a2,a3⟩:=e3 D hd;refine⟨a1,?_,a3⟩;cases hq:w0.dA D with
  |none=>rfl
  |some o=>rw[hko D o hq]at a2;cases a2
 have cB:=(Sd e f' m' μ' φ' a'.tmps w' hk Gg).1;cases e with
 |normal=>exact key cB
 |ret=>exact key cB
 |exit id=>exact absurd rfl (cB id)
end
end Go.Ab
