import Derived.Test.YtcmhmlnkhmefbaaGreatAbP7
import Derived.RangeFuncIn
import Derived.Scope
set_option linter.unusedVariables false
namespace Go.Ab
open Go.RowKit (Below)
section
variable {P:Program} {G:Nat→Option (List PV)} {w0:bx} {μ:Ro} {φ:Nat→aG} {m:Mem} {w:World}
theorem jG.putObj(w:World)(g:Nat)(o:Obj):jG g w (w.putObj g o):=⟨⟨rfl,rfl,rfl,by simp,fun k hk=>World.putObj_heap_other (by omega)⟩,fun _=>Nat.le_refl _⟩
theorem az.tH(h:az P G w0 μ φ m w){w1:bx}(hw:w1.w=w0.w)(BI:w1.mu=w0.mu)(hk:∀b o,w1.dB b=some o→μ b=some o)(VB:∀id st,m id=some (.loop st)→w1.rc id=w0.rc id):az P G w1 μ φ m w:=by obtain⟨a0,b0,c0,d0,e0⟩:=w0;obtain⟨a1,b1,c1,d1,e1⟩:=w1;simp only at hw BI;subst hw;subst BI;refine⟨h.below,h.ro,h.aH,h.dG,h.own,h.inj,h.apart,h.fp,h.base,hk,fun id st hid=>?_⟩;obtain⟨g,rc,h1,h2,h3⟩:=h.zO id st hid;exact⟨g,rc,h1,(VB id st hid).trans h2,h3⟩
def Ai(μ:Ro)(w:World)(o:Obj):Ro:=fun b=>if b=w.heap.size then some o else μ b
theorem Hs(hM:az P G w0 μ φ m w)(o:Obj):Hh μ (Ai μ w o):=by intro b o' hb;have:=(Array.getElem?_eq_some_iff.1 (hM.ro b o' hb)).1;unfold Ai;rw[if_neg (by omega)];exact hb
theorem az.VC(hM:az P G w0 μ φ m w)(o:Obj):az P G w0 (Ai μ w o) φ m (w.alloc o):=by
 have hle:=Hs hM o;have hold:∀k,k<w.heap.size→(w.alloc o).heap[k]?=w.heap[k]?:=fun k hk=>jG.heap_alloc w o k hk;have k9:w0.heap.size≤w.heap.size:=hM.below.size;refine⟨hM.below.alloc hM.below.size o,fun b o' hb=>?_,fun g cs hg=>(hM.aH g cs hg).mono hle,fun id b hid=>?_,fun id b g hid hg=>?_,hM.inj,hM.apart,hM.fp,fun b o' hb bu=>?_,fun b o' hb=>hle b o' (hM.dB b o' hb),fun id st hid=>?_⟩
 ·unfold Ai at hb;split at hb
  ·rename_i e;subst e;cases hb;exact heap_alloc_new w o
  ·have:=hM.ro b o' hb;rw[hold b (Array.getElem?_eq_some_iff.1 this).1];exact this
 ·have hR:=hM.dG id b hid;exact hR.cE (fun _ _=>rfl) rfl hle (fun g hg=>hold g (hR.BJ hg))
 ·obtain⟨h1,h2⟩:=hM.own id b g hid hg;refine⟨h1,fun G0=>?_⟩;have:=(hM.dG id b hid).BJ hg;unfold Ai;rw[if_neg (by omega)];exact h2 G0
 ·unfold Ai at hb;rw[if_neg (by omega)]at hb;exact hM.base b o' hb bu
 ·obtain⟨g,rc,h1,h2,h3⟩:=hM.zO id st hid;exact⟨g,rc,h1,h2,by rw[hold g (Array.getElem?_eq_some_iff.1 h3).1];exact h3⟩
theorem az.other(hM:az P G w0 μ φ m w){g:Nat}(o:Obj)(hg:w0.heap.size≤g)(hμ:μ g=none)(yU:∀id b,m id=some b→¬b.owns (φ id) g):az P G w0 μ φ m (w.putObj g o):=by
 have AR:∀k,k≠g→(w.putObj g o).heap[k]?=w.heap[k]?:=fun k hk=>World.putObj_heap_other hk;refine⟨hM.below.trans ((jG.putObj w g o).mono hg),fun b o' hb=>?_,hM.aH,fun id b hid=>?_,hM.own,hM.inj,hM.apart,hM.fp,hM.base,hM.dB,fun id st hid=>?_⟩
 ·rw[AR b fun e=>by subst e;rw[hμ]at hb;cases hb];exact hM.ro b o' hb
 ·have hR:=hM.dG id b hid;exact hR.cE (fun _ _=>rfl) rfl (fun _ _ h=>h) (fun g' bV=>AR g' fun e=>by subst e;exact yU id b hid bV)
 ·obtain⟨g',rc,h1,h2,h3⟩:=hM.zO id st hid;exact⟨g',rc,h1,h2,by rw[AR g' fun e=>by subst e;exact yU id _ hid (.inl h1)];exact h3⟩
theorem az.turn(hM:az P G w0 μ φ m w){id g:Nat}{st st':Jj}{rc:Loop}(hm:m id=some (.loop st))(hg:(φ id).g=some g)(VB:w0.rc id=some (g,rc)):az P G w0 μ φ (au m id (.loop st')) (w.putObj g (.loop (st'.obj rc))):=by have bu:=(hM.dG id _ hm).BJ (.inl hg);have Fg:(w.putObj g (.loop (st'.obj rc))).heap[g]?=some (.loop (st'.obj rc)):=World.putObj_heap_same bu;exact hM.write hm rfl hg (jG.putObj w g _) (by simp) (fun k hk=>World.putObj_heap_other hk) ⟨g,rc,hg,Fg⟩ rfl (by simp[bL.names]) fun s hs=>by cases hs;exact⟨rc,VB,Fg⟩
end
section
variable {P:Program} {μ:Ro} {φ:Nat→aG}
theorem En{nt:Nat}:∀(ps:List Nat)(args:List V)(xs:List Value)(f:Fr)(tmps:Array Value),tmps.size=nt→args.length=xs.length→(∀t,t<nt→ai P μ φ (f t) (tmps.getD t undef))→(∀(i:Nat)v x,args[i]?=some v→xs[i]?=some x→ai P μ φ v x)→((ps.zip xs).foldl (fun tmps(x:Nat×Value)=>tmps.setIfInBounds x.1 x.2) tmps).size=nt∧∀t,t<nt→ai P μ φ (Bu ps args f t) (((ps.zip xs).foldl (fun tmps(x:Nat×Value)=>tmps.setIfInBounds x.1 x.2) tmps).getD t undef)
 |[],args,xs,f,tmps,hs,_,hf,_=>by cases args<;>exact⟨hs,hf⟩
 |p::ps,[],xs,f,tmps,hs,hl,hf,_=>by have:xs=[]:=List.eq_nil_of_length_eq_zero (by simpa using hl.symm);subst this;exact⟨hs,hf⟩
 |p::ps,v::args,[],f,tmps,hs,hl,hf,_=>by simp at hl
 |p::ps,v::args,x::xs,f,tmps,hs,hl,hf,hr=>by
  simp only[List.zip_cons_cons,List.foldl_cons,Bu];refine En ps args xs (fo f p v) (tmps.setIfInBounds p x) (by simpa using hs) (by simpa using hl) (fun t ht=>?_) (fun i u y hu hy=>hr (i+1) u y (by simpa using hu) (by simpa using hy));by_cases e:t=p
  ·subst e;rw[sA];have:(tmps.setIfInBounds t x).getD t undef=x:=by rw[Array.getD_eq_getD_getElem?,Array.getElem?_setIfInBounds];simp[show t<tmps.size by omega]
   rw[this];exact hr 0 v x rfl rfl
  ·rw[oJ e];have:(tmps.setIfInBounds p x).getD t undef=tmps.getD t undef:=by rw[Array.getD_eq_getD_getElem?,Array.getD_eq_getD_getElem?,Array.getElem?_setIfInBounds,if_neg (fun h=>e h.symm)]
   rw[this];exact hf t ht
theorem Cr{id:Nat}:∀(ps:List Nat)(args:List V)(f:Fr)(t:Nat),(Bu ps args f t).has id=true→cr id args=true∨(f t).has id=true
 |[],args,f,t,h=>by cases args<;>exact .inr h
 |p::ps,[],f,t,h=>.inr h
 |p::ps,v::args,f,t,h=>by
  simp only[Bu]at h;rcases Cr ps args _ t h with h|h
  ·exact .inl (by simp[cr,h])
  ·by_cases e:t=p
   ·subst e;rw[sA]at h;exact .inl (by simp[cr,h])
   ·rw[oJ e]at h;exact .inr h
theorem Sx(ps:Array Nat)(xs:Array Value)(tmps:Array Value):(ps.zip xs).foldl (fun tmps(t,a)=>tmps.setIfInBounds t a) tmps=(ps.toList.zip xs.toList).foldl (fun tmps(x:Nat×Value)=>tmps.setIfInBounds x.1 x.2) tmps:=by rw[←Array.foldl_toList,Array.toList_zip]
end
end Go.Ab
set_option linter.unusedVariables false
namespace Go.Ab
open Go.RowKit (Below)
variable{P:Program}{c:Code}{Q:Exit→Act→World→Prop}
theorem Eo{F:Fence}{nn:Nat}(I:Nat→Act→World→Prop)(round:∀n a w,I n a w→∃n',n=n'+1∧c.wpIn F nn P (Exit.then (I n') Q) a w):∀n a w,I n a w→(Code.loop c).wpIn F nn P Q a w:=by
 intro n a w hI b k cs la hb hr;have key:∀n a w,I n a w→∃e a' w',Q e a' w'∧ArrivesIn (Machine.fenced P F) P (lone (b.atR a (.code c::.inLoop c::k)) cs w) b k cs e a' w':=by
  intro n;induction n with
  |zero=>intro a w h;obtain⟨n',h,_⟩:=round 0 a w h;omega
  |succ n ih=>
   intro a w h;obtain⟨n',hn,xw⟩:=round _ a w h;have hn:n=n':=by omega
   subst hn;obtain⟨e,a₁,w₁,hq,xI⟩:=xw b (.inLoop c::k) cs la hb hr;cases e with
   |normal=>obtain⟨e₂,a₂,w₂,aaU,VD⟩:=ih a₁ w₁ hq;exact⟨e₂,a₂,w₂,aaU,.of_steps (StepsIn.trans xI (.one (fenced_calm hb hr rfl) stepR_inLoop)) VD⟩
   |_=>exact⟨_,a₁,w₁,hq,.pass (x:=.inLoop c) rfl (fun _ _=>.inl (by simp)) xI⟩
 obtain⟨e,a',w',hq,xI⟩:=key n a w hI;exact⟨e,a',w',hq,.of_steps (.one (fenced_calm hb hr rfl) stepR_loop) xI⟩
theorem PK{rd:Option Nat}{n:Nat}{a:Act}{w:World}(h:c.wpIn (FR rd) n P (Exit.noGoto Q) a w):(Code.scope c).wpIn (FR rd) n P Q a w:=by
 intro b k cs la hb hr;obtain⟨e,a₁,w₁,hq,xI⟩:=h b (.inScope c::k) cs la hb hr;have s1:StepsIn (Machine.fenced P (FR rd)) P (lone (b.atR a (.code (.scope c)::k)) cs w) (lone (b.atR a (.code c::.inScope c::k)) cs w):=.one (fenced_calm hb hr rfl) (step_lone_go (by simp[stepG,stepG.exec,Frame.atR]));have s2:∀a w,StepsIn (Machine.fenced P (FR rd)) P (lone (b.atR a (.inScope c::k)) cs w) (lone (b.atR a k) cs w):=fun a w=>.one (fenced_calm hb hr rfl) (step_lone_go (by simp[stepG,stepG.exec,Frame.atR]));cases e with
 |normal=>exact⟨.normal,a₁,w₁,hq,s1.trans (StepsIn.trans xI (s2 _ _))⟩
 |exit id=>exact⟨.exit id,a₁,w₁,hq,fun k' hk=>s1.trans (xI.1 k' (by simp[exitTo,hk])),fun hr hk=>let⟨k₁,h1,h2⟩:=xI.2 hr (by simp[exitTo,hk]);⟨k₁,h1,s1.trans h2⟩⟩
 |goto l=>exact hq.elim
 |ret=>exact⟨_,a₁,w₁,hq,.of_steps s1 xI⟩
 |panic ch=>exact⟨_,a₁,w₁,hq,.of_steps s1 xI⟩
 |outgrown=>exact⟨_,a₁,w₁,hq,.of_steps s1 xI⟩
mutual
theorem N2:∀{v u:V},v.same u=true→v=u
 |.op i o,u,h=>by cases u<;>simp only[V.same,Bool.and_eq_true,Bool.false_eq_true]at h;rw[Nat.eq_of_beq_eq_true h.1,Nat.eq_of_beq_eq_true h.2]
 |.oe i a o,u,h=>by cases u<;>simp only[V.same,Bool.and_eq_true,Bool.false_eq_true]at h;rw[Nat.eq_of_beq_eq_true h.1.1,Nat.eq_of_beq_eq_true h.1.2,Nat.eq_of_beq_eq_true h.2]
 |.os i,u,h=>by cases u<;>simp only[V.same,Bool.false_eq_true]at h;rw[Nat.eq_of_beq_eq_true h]
 |.om i,u,h=>by cases u<;>simp only[V.same,Bool.false_eq_true]at h;rw[Nat.eq_of_beq_eq_true h]
 |.yl i,u,h=>by cases u<;>simp only[V.same,Bool.false_eq_true]at h;rw[Nat.eq_of_beq_eq_true h]
 |.it i,u,h=>by cases u<;>simp only[V.same,Bool.false_eq_true]at h;rw[Nat.eq_of_beq_eq_true h]
 |.bl,u,h=>by cases u<;>simp only[V.same,Bool.false_eq_true]at h;rfl
 |.fn f cs,u,h=>by cases u<;>simp only[V.same,Bool.and_eq_true,Bool.false_eq_true]at h;rw[Nat.eq_of_beq_eq_true h.1,Ht h.2]
 |.pv p,u,h=>by
  cases u<;>try (cases p<;>simp[V.same]at h;done)
  rename_i q;cases p<;>cases q<;>first|rfl|(simp[V.same]at h;done)|(simp only[V.same,Bool.and_eq_true,decide_eq_true_eq]at h;rw[h.1,h.2])
 |.fm _ _ _,u,h=>by cases u<;>simp[V.same]at h
 |.agg _,u,h=>by cases u<;>simp[V.same]at h
 |.aZ _,u,h=>by cases u<;>simp[V.same]at h
 |.top,u,h=>by cases u<;>simp[V.same]at h
theorem Ht:∀{vs us:List V},DM vs us=true→vs=us
 |[],us,h=>by
  cases us with
  |nil=>rfl
  |cons _ _=>simp[DM]at h
 |v::vs,us,h=>by
  cases us with
  |nil=>simp[DM]at h
  |cons u us=>simp only[DM,Bool.and_eq_true]at h;rw[N2 h.1,Ht h.2]
end
variable{R:Type}
theorem N3{T:Type}:∀{iK:List Sh}{vs:List V}{t:T}{k:Nx iK T→Option R}{r:R},iL iK vs t k=some r→∃x,k x=some r∧pY iK x=(vs,t)∧vs.length=iK.length∧∀M,(∀sh∈iK,sh.within M=true)→je M vs=true:=by
 intro iK;induction iK with
 |nil=>
  intro vs t k r h;cases vs with
  |nil=>exact⟨t,h,rfl,rfl,fun _ _=>rfl⟩
  |cons v vs=>simp[iL]at h
 |cons sh iK ih=>
  intro vs t k r h;cases vs with
  |nil=>cases sh<;>simp[iL]at h
  |cons v vs=>
   have push:∀{M},v.within M=true→je M vs=true→je M (v::vs)=true:=fun h1 h2=>by simp[je,h1,h2]
   cases sh with
   |own u=>
    simp only[iL]at h;split at h
    ·rename_i hs;obtain⟨x,x1,x2,x3,x4⟩:=ih h;have:=N2 hs;subst this;refine⟨x,x1,by simp only[pY];rw[x2],by simp[x3],fun M hM=>push ?_ (x4 M fun s hs=>hM s (by simp[hs]))⟩;exact hM (.own u) (by simp)
    ·cases h
   |int q=>
    cases v<;>try (simp[iL]at h;done)
    rename_i p;cases p<;>try (simp[iL]at h;done)
    simp only[iL]at h;split at h
    ·rename_i hq;subst hq;obtain⟨x,x1,x2,x3,x4⟩:=ih h;exact⟨_,x1,by simp only[pY];rw[x2],by simp[x3],fun M hM=>push rfl (x4 M fun s hs=>hM s (by simp[hs]))⟩
    ·cases h
   |row id off=>
    cases v<;>try (simp[iL]at h;done)
    rename_i nN i qE;simp only[iL]at h;split at h
    ·rename_i hq;obtain⟨rfl,rfl⟩:=hq;obtain⟨x,x1,x2,x3,x4⟩:=ih h;exact⟨_,x1,by simp only[pY,Int.toNat_natCast];rw[x2],by simp[x3],fun M hM=>push (hM (.row nN qE) (by simp)) (x4 M fun s hs=>hM s (by simp[hs]))⟩
    ·cases h
   |raw=>
    cases v<;>try (simp[iL]at h;done)
    simp only[iL]at h;obtain⟨x,x1,x2,x3,x4⟩:=ih h;exact⟨_,x1,by simp only[pY];rw[x2],by simp[x3],fun M hM=>push rfl (x4 M fun s hs=>hM s (by simp[hs]))⟩
   |bool=>
    cases v<;>try (simp[iL]at h;done)
    rename_i p;cases p<;>try (simp[iL]at h;done)
    simp only[iL]at h;obtain⟨x,x1,x2,x3,x4⟩:=ih h;exact⟨_,x1,by simp only[pY];rw[x2],by simp[x3],fun M hM=>push rfl (x4 M fun s hs=>hM s (by simp[hs]))⟩
   |str=>
    cases v<;>try (simp[iL]at h;done)
    rename_i p;cases p<;>try (simp[iL]at h;done)
    simp only[iL]at h;obtain⟨x,x1,x2,x3,x4⟩:=ih h;exact⟨_,x1,by simp only[pY];rw[x2],by simp[x3],fun M hM=>push rfl (x4 M fun s hs=>hM s (by simp[hs]))⟩
   |rp n=>
    cases v<;>try (simp[iL]at h;done)
    rename_i p;cases p<;>try (simp[iL]at h;done)
    rename_i cs;simp only[iL]at h;split at h
    ·rename_i hq;obtain⟨x,x1,x2,x3,x4⟩:=ih h;have he:aK n (.agg cs)=cs:=by
      apply List.ext_getElem?;intro j;by_cases hj:j<n
      ·have hl:j<(aK n (.agg cs)).length:=by rw[bn];exact hj
       rw[List.getElem?_eq_getElem hl];obtain⟨_,h6⟩:=mI (List.getElem?_eq_getElem hl);rw[h6];simp[cell,PV.cells,List.getD,show j<cs.length by omega]
      ·rw[List.getElem?_eq_none (by rw[bn];omega),List.getElem?_eq_none (by omega)]
     exact⟨_,x1,by simp only[pY];rw[x2,he],by simp[x3],fun M hM=>push rfl (x4 M fun s hs=>hM s (by simp[hs]))⟩
    ·cases h
   |fs s=>
    cases v<;>try (simp[iL]at h;done)
    rename_i p;simp only[iL]at h;obtain⟨ls,hls,h⟩:=Option.bind_eq_some_iff.1 h;obtain⟨x,x1,x2,x3,x4⟩:=ih h;exact⟨_,x1,by simp only[pY];rw[x2,NP hls],by simp[x3],fun M hM=>push rfl (x4 M fun s hs=>hM s (by simp[hs]))⟩
   |rs sz=>
    cases v<;>try (simp[iL]at h;done)
    rename_i p;cases p<;>try (simp[iL]at h;done)
    simp only[iL]at h;split at h
    ·rename_i hq;subst hq;obtain⟨x,x1,x2,x3,x4⟩:=ih h;exact⟨_,x1,by simp only[pY];rw[x2],by simp[x3],fun M hM=>push rfl (x4 M fun s hs=>hM s (by simp[hs]))⟩
    ·cases h
theorem wK:∀{l:List (Nat×Option bL)}{id:Nat}{b:bL},Bg l id=some b→∃x∈l,x.1=id∧x.2=some b
 |[],_,_,h=>by simp[Bg]at h
 |(d,b')::r,id,b,h=>by
  simp only[Bg]at h;cases e:Nat.beq id d with
  |true=>rw[e]at h;exact⟨(d,b'),by simp,(Nat.eq_of_beq_eq_true e).symm,h⟩
  |false=>rw[e]at h;obtain⟨x,hx,h1,h2⟩:=wK h;exact⟨x,by simp[hx],h1,h2⟩
theorem xJ:∀{l:List (Nat×Option bL)}{id:Nat},(∀x∈l,x.2.isSome=true)→(∃x∈l,x.1=id)→(Bg l id).isSome=true
 |[],_,_,⟨x,hx,_⟩=>by cases hx
 |(d,b')::r,id,h,⟨x,hx,he⟩=>by
  simp only[Bg];cases e:Nat.beq id d with
  |true=>exact h (d,b') (by simp)
  |false=>
   rcases List.mem_cons.1 hx with rfl|hx
   ·simp only at he;subst he;simp[Nat.beq_refl]at e
   ·exact xJ (fun y hy=>h y (by simp[hy])) ⟨x,hx,he⟩
theorem VE{m:Mem}:∀{bs:List (Nat×Rg)}{k:Gw bs→Option R}{r:R},rB m bs k=some r→∃x,k x=some r∧(gd bs x).map (·.1)=bs.map (·.1)∧(∀y∈gd bs x,∃b,y.2=some b∧m y.1=some b)∧∀M,(∀y∈bs,y.2.within M=true)→∀y∈gd bs x,∀b,y.2=some b→b.within M=true:=by
 intro bs;induction bs with
 |nil=>intro k r h;exact⟨(),h,rfl,by simp[gd],by simp[gd]⟩
 |cons y bs ih=>
  intro k r h;obtain⟨id,sh⟩:=y;cases sh with
  |box cs=>
   simp only[rB]at h;split at h
   ·rename_i vs hm;obtain⟨t,t1,t2,t3,t4⟩:=ih h;obtain⟨x,x1,x2,x3,x4⟩:=N3 t1;refine⟨x,x1,by simp only[gd,x2];simp[t2],fun y hy=>?_,fun M hM y hy b hb=>?_⟩
    ·simp only[gd,x2]at hy;rcases List.mem_cons.1 hy with rfl|hy
     ·exact⟨_,rfl,hm⟩
     ·exact t3 y hy
    ·simp only[gd,x2]at hy;rcases List.mem_cons.1 hy with rfl|hy
     ·simp only[Option.some.injEq]at hb;subst hb;simp only[bL.within];refine x4 M fun s hs=>?_;have:=hM (id,.box cs) (by simp);simp only[Rg.within,List.all_eq_true]at this;exact this s hs
     ·exact t4 M (fun z hz=>hM z (by simp[hz])) y hy b hb
   ·cases h
  |arr sz et=>
   simp only[rB]at h;split at h
   ·rename_i Df Bn es hm;split at h
    ·rename_i he;obtain⟨rfl,rfl⟩:=he;obtain⟨t,t1,t2,t3,t4⟩:=ih h;refine⟨(es,t),t1,by simp only[gd];simp[t2],fun y hy=>?_,fun M hM y hy b hb=>?_⟩
     ·simp only[gd]at hy;rcases List.mem_cons.1 hy with rfl|hy
      ·exact⟨_,rfl,hm⟩
      ·exact t3 y hy
     ·simp only[gd]at hy;rcases List.mem_cons.1 hy with rfl|hy
      ·simp only[Option.some.injEq]at hb;subst hb;rfl
      ·exact t4 M (fun z hz=>hM z (by simp[hz])) y hy b hb
    ·cases h
   ·cases h
  |nZ sz et=>
   simp only[rB]at h;split at h
   ·rename_i Df Bn es hm;split at h
    ·rename_i he;obtain⟨rfl,rfl⟩:=he;obtain⟨t,t1,t2,t3,t4⟩:=ih h;refine⟨(es,t),t1,by simp only[gd];simp[t2],fun y hy=>?_,fun M hM y hy b hb=>?_⟩
     ·simp only[gd]at hy;rcases List.mem_cons.1 hy with rfl|hy
      ·exact⟨_,rfl,hm⟩
      ·exact t3 y hy
     ·simp only[gd]at hy;rcases List.mem_cons.1 hy with rfl|hy
      ·simp only[Option.some.injEq]at hb;subst hb;rfl
      ·exact t4 M (fun z hz=>hM z (by simp[hz])) y hy b hb
    ·cases h
   ·cases h
  |nest sz et=>
   simp only[rB]at h;split at h
   ·rename_i Df Bn es hm;split at h
    ·rename_i he;obtain⟨rfl,rfl⟩:=he;obtain⟨t,t1,t2,t3,t4⟩:=ih h;refine⟨(es,t),t1,by simp only[gd];simp[t2],fun y hy=>?_,fun M hM y hy b hb=>?_⟩
     ·simp only[gd]at hy;rcases List.mem_cons.1 hy with rfl|hy
      ·exact⟨_,rfl,hm⟩
      ·exact t3 y hy
     ·simp only[gd]at hy;rcases List.mem_cons.1 hy with rfl|hy
      ·simp only[Option.some.injEq]at hb;subst hb;rfl
      ·exact t4 M (fun z hz=>hM z (by simp[hz])) y hy b hb
    ·cases h
   ·cases h
  |e8 kt et=>
   simp only[rB]at h;split at h
   ·rename_i tn Bn es hm;split at h
    ·rename_i he;obtain⟨rfl,rfl⟩:=he;obtain⟨t,t1,t2,t3,t4⟩:=ih h;refine⟨(es,t),t1,by simp only[gd];simp[t2],fun y hy=>?_,fun M hM y hy b hb=>?_⟩
     ·simp only[gd]at hy;rcases List.mem_cons.1 hy with rfl|hy
      ·exact⟨_,rfl,hm⟩
      ·exact t3 y hy
     ·simp only[gd]at hy;rcases List.mem_cons.1 hy with rfl|hy
      ·simp only[Option.some.injEq]at hb;subst hb;rfl
      ·exact t4 M (fun z hz=>hM z (by simp[hz])) y hy b hb
    ·cases h
   ·cases h
  |map kt=>
   simp only[rB]at h;split at h
   ·rename_i tn es hm;split at h
    ·rename_i he;subst he;obtain⟨t,t1,t2,t3,t4⟩:=ih h;refine⟨(es,t),t1,by simp only[gd];simp[t2],fun y hy=>?_,fun M hM y hy b hb=>?_⟩
     ·simp only[gd]at hy;rcases List.mem_cons.1 hy with rfl|hy
      ·exact⟨_,rfl,hm⟩
      ·exact t3 y hy
     ·simp only[gd]at hy;rcases List.mem_cons.1 hy with rfl|hy
      ·simp only[Option.some.injEq]at hb;subst hb;rfl
      ·exact t4 M (fun z hz=>hM z (by simp[hz])) y hy b hb
    ·cases h
   ·cases h
  |iter ty=>
   simp only[rB]at h;split at h
   ·rename_i t' es hm;split at h
    ·rename_i he;subst he;obtain⟨t,t1,t2,t3,t4⟩:=ih h;refine⟨(es,t),t1,by simp only[gd];simp[t2],fun y hy=>?_,fun M hM y hy b hb=>?_⟩
     ·simp only[gd]at hy;rcases List.mem_cons.1 hy with rfl|hy
      ·exact⟨_,rfl,hm⟩
      ·exact t3 y hy
     ·simp only[gd]at hy;rcases List.mem_cons.1 hy with rfl|hy
      ·simp only[Option.some.injEq]at hb;subst hb;rfl
      ·exact t4 M (fun z hz=>hM z (by simp[hz])) y hy b hb
    ·cases h
   ·cases h
  |loop=>
   simp only[rB]at h;split at h
   ·rename_i hm;obtain⟨t,t1,t2,t3,t4⟩:=ih h;refine⟨t,t1,by simp only[gd];simp[t2],fun y hy=>?_,fun M hM y hy b hb=>?_⟩
    ·simp only[gd]at hy;rcases List.mem_cons.1 hy with rfl|hy
     ·exact⟨_,rfl,hm⟩
     ·exact t3 y hy
    ·simp only[gd]at hy;rcases List.mem_cons.1 hy with rfl|hy
     ·simp only[Option.some.injEq]at hb;subst hb;rfl
     ·exact t4 M (fun z hz=>hM z (by simp[hz])) y hy b hb
   ·cases h
  |busy=>
   simp only[rB]at h;split at h
   ·rename_i hm;obtain⟨t,t1,t2,t3,t4⟩:=ih h;refine⟨t,t1,by simp only[gd];simp[t2],fun y hy=>?_,fun M hM y hy b hb=>?_⟩
    ·simp only[gd]at hy;rcases List.mem_cons.1 hy with rfl|hy
     ·exact⟨_,rfl,hm⟩
     ·exact t3 y hy
    ·simp only[gd]at hy;rcases List.mem_cons.1 hy with rfl|hy
     ·simp only[Option.some.injEq]at hb;subst hb;rfl
     ·exact t4 M (fun z hz=>hM z (by simp[hz])) y hy b hb
   ·cases h
mutual
theorem Cs{M:List Nat}{id:Nat}:∀(v:V),v.within M=true→v.has id=true→id∈M
 |.agg cs,h,hh=>mZ cs (by simpa only[V.within]using h) (by simpa only[V.has]using hh)
 |.aZ cs,h,hh=>mZ cs (by simpa only[V.within]using h) (by simpa only[V.has]using hh)
 |.fn _ cs,h,hh=>mZ cs (by simpa only[V.within]using h) (by simpa only[V.has]using hh)
 |.os j,h,hh=>by have:=Nat.eq_of_beq_eq_true hh;subst this;simpa[V.within]using h
 |.fm j _ _,h,hh=>by have:=Nat.eq_of_beq_eq_true hh;subst this;simpa[V.within]using h
 |.oe j _ _,h,hh=>by have:=Nat.eq_of_beq_eq_true hh;subst this;simpa[V.within]using h
 |.om j,h,hh=>by have:=Nat.eq_of_beq_eq_true hh;subst this;simpa[V.within]using h
 |.tx j _ _,h,hh=>by have:=Nat.eq_of_beq_eq_true hh;subst this;simpa[V.within]using h
 |.xg j _ _ _ _ _,h,hh=>by have:=Nat.eq_of_beq_eq_true hh;subst this;simpa[V.within]using h
 |.op j _,h,hh=>by have:=Nat.eq_of_beq_eq_true hh;subst this;simpa[V.within]using h
 |.it j,h,hh=>by have:=Nat.eq_of_beq_eq_true hh;subst this;simpa[V.within]using h
 |.yl j,h,hh=>by have:=Nat.eq_of_beq_eq_true hh;subst this;simpa[V.within]using h
 |.pv _,_,hh=>by cases hh
 |.bl,_,hh=>by cases hh
 |.top,_,hh=>by cases hh
theorem mZ{M:List Nat}{id:Nat}:∀(cs:List V),je M cs=true→cr id cs=true→id∈M
 |[],_,hh=>by cases hh
 |v::r,h,hh=>by
  simp only[je,Bool.and_eq_true]at h;simp only[cr,Bool.or_eq_true]at hh;rcases hh with hh|hh
  ·exact Cs v h.1 hh
  ·exact mZ r h.2 hh
end
theorem Sy{f:Fr}:∀(ay:List (Nat×Sh))(t:Nat),Ju (oD ay (ay.map fun(x:Nat×Sh)=>f x.1)) t=f t∨Ju (oD ay (ay.map fun(x:Nat×Sh)=>f x.1)) t=.top
 |[],t=>.inr rfl
 |(d,s)::r,t=>by
  simp only[List.map_cons,oD,Ju,fo];cases e:Nat.beq t d with
  |true=>have:=Nat.eq_of_beq_eq_true e;subst this;exact .inl rfl
  |false=>exact Sy r t
theorem Ct{f:Fr}{M:List Nat}:∀(ay:List (Nat×Sh)),je M (ay.map fun(x:Nat×Sh)=>f x.1)=true→∀t,(Ju (oD ay (ay.map fun(x:Nat×Sh)=>f x.1)) t).within M=true
 |[],_,t=>rfl
 |(d,s)::r,h,t=>by
  simp only[List.map_cons,je,Bool.and_eq_true]at h;simp only[List.map_cons,oD,Ju,fo];cases e:Nat.beq t d with
  |true=>have:=Nat.eq_of_beq_eq_true e;subst this;exact h.1
  |false=>exact Ct r h.2 t
theorem Sz{T:eY}{f:Fr}{m:Mem}{k:T.ty→Option R}{r:R}(h:enc T f m k=some r):∃x,k x=some r∧tq (JA T x) f∧(∀id b,Bt T x id=some b→m id=some b)∧(∀t id,(JA T x t).has id=true→(Bt T x id).isSome=true)∧∀j cs id,Bt T x j=some (.box cs)→cr id cs=true→(Bt T x id).isSome=true:=by
 unfold enc at h;split at h
 ·rename_i xf;obtain⟨t,t1,t2,t3,t4⟩:=VE h;obtain⟨x,x1,x2,x3,x4⟩:=N3 t1;simp only[eY.ok,Bool.and_eq_true,List.all_eq_true]at xf;have oV:∀id,id∈T.bE.map (·.1)→(Bt T x id).isSome=true:=fun id hid=>by
   unfold Bt;rw[x2];refine xJ (fun y hy=>?_) ?_
   ·obtain⟨b,hb,_⟩:=t3 y hy;rw[hb];rfl
   ·rw[←t2]at hid;obtain⟨y,hy,he⟩:=List.mem_map.1 hid;exact⟨y,hy,he⟩
  refine⟨x,x1,fun s=>?_,fun id b hb=>?_,fun s id hid=>oV id ?_,fun j cs id hj hh=>oV id ?_⟩
  ·unfold JA;rw[x2];exact Sy T.ay s
  ·unfold Bt at hb;rw[x2]at hb;obtain⟨y,hy,h1,h2⟩:=wK hb;obtain⟨b',fV,hm⟩:=t3 y hy;rw[h2]at fV;cases fV;rw[←h1];exact hm
  ·have hw:=x4 (T.bE.map (·.1)) fun s hs=>by simp only[eY.iK,List.mem_map]at hs;obtain⟨y,hy,rfl⟩:=hs;exact xf.1 y hy
   have:=Ct (M:=T.bE.map (·.1)) T.ay hw s;unfold JA at hid;rw[x2]at hid;exact Cs _ this hid
  ·unfold Bt at hj;rw[x2]at hj;obtain⟨y,hy,h1,h2⟩:=wK hj;have:=t4 (T.bE.map (·.1)) (fun z hz=>xf.2 z hz) y hy _ h2;exact mZ _ (by simpa only[bL.within]using this) hh
 ·cases h
section
variable {E:Env} {w0:bx}
variable{nt:Nat}{μ:Ro}{φ:Nat→aG}{f:Fr}{m:Mem}{a:Act}{w:World}
theorem Rel.dec{f':Fr}{m':Mem}(h:Rel E.P E.aH nt w0 μ φ f m a w)(hf:tq f' f)(hm:∀id b,m' id=some b→m id=some b)(hl:∀t id,(f' t).has id=true→(m' id).isSome=true)(hb:∀j cs id,m' j=some (.box cs)→cr id cs=true→(m' id).isSome=true):Rel E.P E.aH nt w0 μ φ f' m' a w:={below:=h.below,ro:=h.ro,aH:=h.aH,dG:=fun id b hb=>h.dG id b (hm id b hb),own:=fun id b g hb hg=>h.own id b g (hm id b hb) hg,inj:=fun QT id2 b1 b2 g h1 h2=>h.inj QT id2 b1 b2 g (hm _ _ h1) (hm _ _ h2),apart:=fun id b hb=>h.apart id b (hm id b hb),fp:=hb,base:=h.base,dB:=h.dB,zO:=fun id st hid=>h.zO id st (hm _ _ hid),size:=h.size,defers:=h.defers,kW:=h.kW,fr:=(h.weaken hf).fr,live:=hl}
theorem Rel.set(h:Rel E.P E.aH nt w0 μ φ f m a w){t:Nat}{p:PV}(hp:ak E.P μ p (ay nt w0 a t)):Rel E.P E.aH nt w0 μ φ (fo f t (.pv p)) m a w:=
 {toaz:=h.toaz,size:=h.size,defers:=h.defers,kW:=h.kW,fr:=fun s=>by
   by_cases e:s=t
   ·subst e;rw[sA];exact .pv hp
   ·rw[oJ e];exact h.fr s,
  live:=fun s id hid=>by
   by_cases e:s=t
   ·subst e;rw[sA]at hid;cases hid
   ·rw[oJ e]at hid;exact h.live s id hid}
theorem Rel.freeze{nt:Nat}{μ:Ro}{φ:Nat→aG}{f:Fr}{m:Mem}{a:Act}{w:World}(h:Rel E.P E.aH nt w0 μ φ f m a w){id sz:Nat}{et:TypeId}{es:List PV}(hm:m id=some (.arr sz et es)):Rel E.P E.aH nt w0 (nK μ w (φ id).g) φ f (au m id (.nZ sz et es)) a w:=
 {toaz:=h.toaz.freeze hm,size:=h.size,defers:=h.defers.mono (kj h.toaz _),kW:=h.kW,fr:=fun s=>(h.fr s).vS (kj h.toaz _),live:=fun s i hid=>by
   by_cases e:i=id
   ·subst e;rw[aN];rfl
   ·rw[av e];exact h.live s i hid}
theorem rQ{A:Type}{nt:Nat}{a:Act}{w:World}:∀{l:List (Nat×Nat)}{μ:Ro}{φ:Nat→aG}{f:Fr}{m:Mem}{k:Fr→Mem→A}{r:A},zK l f m k=r→Rel E.P E.aH nt w0 μ φ f m a w→∃f' m' μ',k f' m'=r∧Rel E.P E.aH nt w0 μ' φ f' m' a w
 |[],μ,φ,f,m,k,r,h,hR=>⟨f,m,μ,h,hR⟩
 |(t,sz)::l,μ,φ,f,m,k,r,h,hR=>by
  unfold zK at h;split at h
  ·rename_i id hf;have hx:ai E.P μ φ (.os id) (ay nt w0 a t):=hf▸hR.fr t;split at h
   ·rename_i s et es hm;have hF:=hR.freeze hm;have hA:=hF.toaz.arr (.inr (aN m id _));have hp:ak E.P (nK μ w (φ id).g) (.rs s es) (ay nt w0 a t):=hA.full hF.toaz (hx.vS (kj hR.toaz _)) (fun _ _ h=>h) (fun g hg=>by simp[nK,hg]);exact rQ h (hF.set hp)
   ·rename_i s et es hm;have hB:fW E.P μ φ w id (.nZ s et es):=hR.dG id _ hm;have hp:ak E.P μ (.rs s es) (ay nt w0 a t):=(hR.toaz.arr (.inr hm)).full hR.toaz hx (fun _ _ h=>h) (fun g hg=>by obtain⟨o,ho⟩:=Option.isSome_iff_exists.1 (hB.2 g hg);rw[ho,hR.ro _ _ ho]);exact rQ h (hR.set hp)
   ·exact rQ h hR
  ·rename_i hf;have hx:ai E.P μ φ .bl (ay nt w0 a t):=hf▸hR.fr t;have hp:ak E.P μ (.rs sz []) (ay nt w0 a t):=by generalize ay nt w0 a t=y at hx;cases hx;exact .ju
   exact rQ h (hR.set hp)
  ·exact rQ h hR
variable{id:Nat}
theorem Hu{u:V}:∀(cs:List V)(j:Nat),cr id (cs.set j u)=true→cr id cs=true∨u.has id=true:=by
 intro cs j h;obtain⟨v,hv,hh⟩:=cR.1 h;rcases List.mem_or_eq_of_mem_set hv with h1|h1
 ·exact .inl (cR.2 ⟨v,h1,hh⟩)
 ·subst h1;exact .inr hh
theorem Rel.SA(h:Rel E.P E.aH nt w0 μ φ f m a w){j:Nat}{cs:List V}{u:V}(hm:m id=some (.box cs))(hj:cs[j]?=some .bl)(hu:ai E.P μ φ u (.slice none 0 0))(hl:∀i,u.has i=true→(m i).isSome=true):Rel E.P E.aH nt w0 μ φ f (au m id (.box (cs.set j u))) a w:=by
 have key:∀i b,au m id (.box (cs.set j u)) i=some b→(i=id∧b=.box (cs.set j u))∨m i=some b:=fun i b hb=>by
  by_cases e:i=id
  ·subst e;rw[aN]at hb;exact .inl ⟨rfl,(Option.some.inj hb).symm⟩
  ·rw[av e]at hb;exact .inr hb
 have tc:∀i,(m i).isSome=true→(au m id (.box (cs.set j u)) i).isSome=true:=fun i hi=>by
  by_cases e:i=id
  ·subst e;rw[aN];rfl
  ·rw[av e];exact hi
 have back:∀i b,au m id (.box (cs.set j u)) i=some b→∃b',m i=some b'∧(b.iE=true→b'.iE=true)∧b.rowAt=b'.rowAt:=fun i b hb=>by
  rcases key i b hb with⟨rfl,rfl⟩|hb
  ·exact⟨_,hm,fun _=>rfl,rfl⟩
  ·exact⟨b,hb,fun h=>h,rfl⟩
 exact
 {below:=h.below,ro:=h.ro,aH:=h.aH,dG:=fun i b hb=>by
   rcases key i b hb with⟨rfl,rfl⟩|hb
   ·obtain⟨g,c,T,c1,c2,c3,c4,c5,c6⟩:=h.dG _ _ hm;refine⟨g,c,T,c1,c2,by simpa using c3,fun i v x hv hx=>?_,c5,by simpa using c6⟩;rw[List.getElem?_set]at hv;split at hv
    ·rename_i e;subst e;split at hv
     ·simp only[Option.some.injEq]at hv;subst hv;have:=c4 j .bl x hj hx;cases this;exact hu
     ·cases hv
    ·exact c4 i v x hv hx
   ·exact h.dG i b hb,
  own:=fun i b g hb hg=>by obtain⟨b',fV,BI,la⟩:=back i b hb;obtain⟨o1,o2⟩:=h.own i b' g fV (by unfold bL.owns at hg⊢;rw[←la];exact hg);exact⟨o1,fun hb=>o2 (BI hb)⟩,
  inj:=fun QT id2 b1 b2 g h1 h2 g1 g2=>by obtain⟨b1',NO,_,r1⟩:=back QT b1 h1;obtain⟨b2',Pj,_,r2⟩:=back id2 b2 h2;exact h.inj QT id2 b1' b2' g NO Pj (by unfold bL.owns at g1⊢;rw[←r1];exact g1) (by unfold bL.owns at g2⊢;rw[←r2];exact g2),
  apart:=fun i b hb=>by obtain⟨b',fV,_,la⟩:=back i b hb;have:=h.apart i b' fV;unfold bL.apart at this⊢;rw[la];exact this,
  fp:=fun i DZ nN hi hid=>by
   rcases key i _ hi with⟨rfl,he⟩|hi
   ·simp only[bL.box.injEq]at he;subst he;rcases Hu _ _ hid with hid|hid
    ·exact tc _ (h.fp _ _ _ hm hid)
    ·exact tc _ (hl _ hid)
   ·exact tc _ (h.fp _ _ _ hi hid),
  base:=h.base,dB:=h.dB,
  zO:=fun i st hi=>by
   rcases key i _ hi with⟨_,he⟩|hi
   ·cases he
   ·exact h.zO i st hi,
  size:=h.size,defers:=h.defers,kW:=h.kW,fr:=h.fr,
  live:=fun t i hid=>tc _ (h.live t i hid)}
variable{et:TypeId}
theorem Rel.Y2(h:Rel E.P E.aH nt w0 μ φ f m a w){Rn:Nat}(hn:m Rn=none)(dK:0<aU E.P et):∃φ',(φ' Rn).g=none∧Rel E.P E.aH nt w0 μ φ' f (au m Rn (.arr (aU E.P et) et [])) a w:=by
 have hf:fresh false Rn (.arr (aU E.P et) et []) f m (fun f m _=>some (f,m))=some (f,au m Rn (.arr (aU E.P et) et [])):=by simp[fresh,hn]
 obtain⟨f1,m1,_,hk,_,_,tF⟩:=cF hf;simp only[Option.some.injEq,Prod.mk.injEq]at hk;obtain⟨rfl,rfl⟩:=hk;obtain⟨φ',a1,a2,a3⟩:=tF E.P E.aH w0 μ φ w w (ay nt w0 a) (Dg none 0 0 (aU E.P et)) h.toaz ⟨h.fr,h.live⟩ ⟨jG.refl _ _,h.toaz.ro,fun _ _ _ _ _=>rfl,by simp,fun φ' hp _=>by refine⟨by rw[hp];rfl,by rw[hp],rfl,dK,by simp,by rw[hp];simp[maxLen],?_⟩;rw[hp];exact⟨rfl,rfl⟩,by simp[bL.names],fun st h=>by cases h⟩;exact⟨φ',by rw[a1],{toaz:=a2,size:=h.size,defers:=h.defers,kW:=h.kW,fr:=a3.fr,live:=a3.live}⟩
theorem rR{A:Type}{nt:Nat}{a:Act}{w:World}:∀{l:List (Nat×Nat×Nat×TypeId)}{μ:Ro}{φ:Nat→aG}{f:Fr}{m:Mem}{k:Mem→A}{r:A},zL E.P l m k=r→Rel E.P E.aH nt w0 μ φ f m a w→∃m' φ',k m'=r∧Rel E.P E.aH nt w0 μ φ' f m' a w
 |[],μ,φ,f,m,k,r,h,hR=>⟨m,φ,h,hR⟩
 |(id,j,Rn,et)::l,μ,φ,f,m,k,r,h,hR=>by
  unfold zL at h;split at h
  ·rename_i cs hm;split at h
   ·rename_i hj;split at h
    ·rename_i hn;split at h
     ·rename_i dK;obtain⟨φ',g0,iD⟩:=hR.Y2 hn dK;have cQ:id≠Rn:=fun e=>by subst e;rw[hm]at hn;cases hn
      exact rR h (iD.SA (by rw[av cQ];exact hm) hj (.pZ g0) fun i hi=>by have:=Nat.eq_of_beq_eq_true hi;subst this;simp)
     ·exact rR h hR
    ·exact rR h hR
   ·exact rR h hR
  ·exact rR h hR
theorem xK{A:Type}{nt:Nat}{a:Act}{w:World}:∀{l:List (Nat×Nat×Nat)}{μ:Ro}{φ:Nat→aG}{f:Fr}{m:Mem}{k:Mem→A}{r:A},DN l m k=r→Rel E.P E.aH nt w0 μ φ f m a w→∃m',k m'=r∧Rel E.P E.aH nt w0 μ φ f m' a w
 |[],μ,φ,f,m,k,r,h,hR=>⟨m,h,hR⟩
 |(id,j,sz)::l,μ,φ,f,m,k,r,h,hR=>by
  unfold DN at h;split at h
  ·rename_i cs hm;split at h
   ·rename_i hj;exact xK h (hR.SA hm hj (.pv .ju) (fun i hi=>by cases hi))
   ·exact xK h hR
  ·exact xK h hR
theorem gH{T:Type}{l:List T}{n i:Nat}{e:T}(h:(l.take n)[i]?=some e):l[i]?=some e∧i<n:=by
 rw[List.getElem?_take]at h;split at h
 ·exact⟨h,‹_›⟩
 ·cases h
theorem Rel.VF(h:Rel E.P E.aH nt w0 μ φ f m a w){s:Nat}{es:List PV}(hm:m id=some (.arr s et es)):Rel E.P E.aH nt w0 μ φ f (au m id (.nest s et es)) a w:=by
 have hA:aL E.P μ φ w id s et es:=h.dG id _ hm;have key:∀i b,au m id (.nest s et es) i=some b→(i=id∧b=.nest s et es)∨m i=some b:=fun i b hb=>by
  by_cases e:i=id
  ·subst e;rw[aN]at hb;exact .inl ⟨rfl,(Option.some.inj hb).symm⟩
  ·rw[av e]at hb;exact .inr hb
 have tc:∀i,(m i).isSome=true→(au m id (.nest s et es) i).isSome=true:=fun i hi=>by
  by_cases e:i=id
  ·subst e;rw[aN];rfl
  ·rw[av e];exact hi
 have hN:aX E.P μ φ w id s et es:=by
  obtain⟨h1,h2,h3,h4,h5,h6,h7⟩:=hA;refine⟨h1,h2,h3,h4,h5,h6,?_⟩;cases hg:(φ id).g with
  |none=>rw[hg]at h7;exact h7
  |some g=>rw[hg]at h7;obtain⟨c,c1,c2,c3,c4,c5⟩:=h7;exact⟨c,c1,c2,c3,fun i e j p x he hp hx=>.pure (c4 i e j p x he hp hx),c5⟩
 have yU:∀i off,(bL.nest s et es).rowAt i off=true→False:=fun i off hr=>by
  rcases iT hr with⟨_,_,_,e,s',rs,hb,he,hp⟩|⟨_,_,_,_,_,_,hb,_⟩
  ·cases hb;obtain⟨h1,h2,h3,h4,h5,h6,h7⟩:=hA;cases hg:(φ id).g with
   |none=>rw[hg]at h7;obtain⟨rfl,_⟩:=h7;simp at he
   |some g=>
    rw[hg]at h7;obtain⟨c,c1,c2,c3,c4,c5⟩:=h7;have hi:i<es.length:=(List.getElem?_eq_some_iff.1 he).1;have hj:off<s:=by have:=(List.getElem?_eq_some_iff.1 hp).1;rw[h5 _ _ he]at this;exact this
    have bu:i*s+off<c.size:=by have:(i+1)*s≤(φ id).cap*s:=Nat.mul_le_mul_right _ (by omega);rw[Nat.succ_mul]at this;omega
    exact Bool.noConfusion (ak.A3 (c4 i e off _ _ he hp (Array.getElem?_eq_getElem bu)))
  ·cases hb
 have ahx:∀i off,(bL.arr s et es).rowAt i off=true→False:=oa;have hM:az E.P E.aH w0 μ φ (au m id (.nest s et es)) w:=by
  refine h.toaz.NR (fun _ k=>k) (fun j b' hb=>?_) (fun j b' g hb hg=>?_) (fun j b' hb=>?_) (fun j cs i hb hh=>?_) (fun j st hb=>?_)
  ·rcases key j b' hb with⟨rfl,rfl⟩|hb
   ·exact hN
   ·exact h.dG j b' hb
  ·rcases key j b' hb with⟨rfl,rfl⟩|hb
   ·exact⟨j,_,hm,.inl (mJ yU hg),fun _=>rfl,rfl⟩
   ·exact⟨j,b',hb,hg,fun h=>h,rfl⟩
  ·rcases key j b' hb with⟨rfl,rfl⟩|hb
   ·exact oK yU
   ·exact h.apart j b' hb
  ·rcases key j _ hb with⟨_,hb⟩|hb
   ·cases hb
   ·exact tc _ (h.fp j cs i hb hh)
  ·rcases key j _ hb with⟨_,hb⟩|hb
   ·cases hb
   ·exact⟨hb,rfl⟩
 exact{toaz:=hM,size:=h.size,defers:=h.defers,kW:=h.kW,fr:=h.fr,live:=fun t i hid=>tc _ (h.live t i hid)}
theorem Cu{A:Type}{nt:Nat}{a:Act}{w:World}:∀{l:List Nat}{μ:Ro}{φ:Nat→aG}{f:Fr}{m:Mem}{k:Mem→A}{r:A},GS l m k=r→Rel E.P E.aH nt w0 μ φ f m a w→∃m',k m'=r∧Rel E.P E.aH nt w0 μ φ f m' a w
 |[],μ,φ,f,m,k,r,h,hR=>⟨m,h,hR⟩
 |id::l,μ,φ,f,m,k,r,h,hR=>by
  unfold GS at h;split at h
  ·rename_i s et es hm;exact Cu h (hR.VF hm)
  ·exact Cu h hR
theorem Rel.cut(h:Rel E.P E.aH nt w0 μ φ f m a w){j d len s:Nat}{cs:List V}{es:List PV}(hm:m id=some (.box cs))(hj:cs[j]?=some (.fm d 0 len))(hd:m d=some (.arr s et es))(cQ:d≠id):∃φ',Rel E.P E.aH nt w0 μ φ' (eP d f) (au (au (bh (bB d m) d) d (.arr s et (es.take len))) id (.box ((cs.map (qn d)).set j (.os d)))) a w:=by
 obtain⟨m',UH⟩:∃m',m'=au (au (bh (bB d m) d) d (.arr s et (es.take len))) id (.box ((cs.map (qn d)).set j (.os d))):=⟨_,rfl⟩;rw[←UH];obtain⟨g0,c,T,c1,c2,c3,c4,c5,c6⟩:=h.dG _ _ hm;have hA:aL E.P μ φ w d s et es:=h.dG d _ hd;have yz:j<cs.length:=(List.getElem?_eq_some_iff.1 hj).1;have hx:=c4 j _ _ hj (Array.getElem?_eq_getElem (by omega));obtain⟨φ',f1,f2,f3,f4⟩:∃φ':Nat→aG,(∀i,i≠d→φ' i=φ i)∧(φ' d).g=(φ d).g∧aL E.P μ φ' w d s et (es.take len)∧ai E.P μ φ' (.os d) c[j]:=by
  obtain⟨h1,h2,h3,h4,h5,h6,h7⟩:=hA;generalize c[j]=x at hx;cases hx with
  |oF hg=>refine⟨φ,fun _ _=>rfl,rfl,?_,.pZ hg⟩;rw[hg]at h7;obtain⟨rfl,h7⟩:=h7;refine⟨h1,h2,h3,h4,by simp,h6,?_⟩;rw[hg];exact⟨rfl,h7⟩
  | @fm _ _ _ cap g ad hg hl ha hc QR=>
   rw[hg]at h7;obtain⟨q,q1,q2,q3,q4,q5⟩:=h7;have hlen:(es.take len).length=len:=by rw[List.length_take];omega
   have had:ad=⟨g,0,none⟩:=by
    rcases ha with ha|⟨_,ha⟩
    ·rw[ha];simp
    ·omega
   subst had;refine⟨fun i=>if i=d then{φ d with cap:=cap,len:=len}else φ i,fun i hi=>if_neg hi,by simp,⟨by simp[hlen],by simpa using h2,h3,h4,fun i e he=>h5 i e (gH he).1,by simp;omega,?_⟩,?_⟩
   ·simp only[if_true,hg];refine⟨q,q1,Nat.le_trans (Nat.mul_le_mul_right _ (by omega)) q2,by rw[hlen];exact hc,fun i e j p x he hp hx=>q4 i e j p x (gH he).1 hp hx,fun i x hi hx=>q5 i x (Nat.lt_of_lt_of_le hi (Nat.mul_le_mul_right _ (by rw[hlen];omega))) hx⟩
   ·have:=ai.os (P:=E.P) (μ:=μ) (φ:=fun i=>if i=d then{φ d with cap:=cap,len:=len}else φ i) (id:=d) (g:=g) (by simp[hg]);simpa using this
 have key:∀i b,m' i=some b→(i=id∧b=.box ((cs.map (qn d)).set j (.os d)))∨(i=d∧b=.arr s et (es.take len))∨(i≠id∧i≠d∧∃b',m i=some b'∧b=fM d b'):=fun i b hb=>by
  rw[UH]at hb;by_cases e:i=id
  ·subst e;rw[aN]at hb;exact .inl ⟨rfl,(Option.some.inj hb).symm⟩
  ·rw[av e]at hb;by_cases e':i=d
   ·subst e';rw[aN]at hb;exact .inr (.inl ⟨rfl,(Option.some.inj hb).symm⟩)
   ·rw[av e']at hb;exact .inr (.inr ⟨e,(eL hb).1,(eL hb).2⟩)
 have tc:∀i,(m i).isSome=true→(m' i).isSome=true:=fun i hi=>by
  rw[UH];by_cases e:i=id
  ·subst e;rw[aN];rfl
  ·rw[av e];by_cases e':i=d
   ·subst e';rw[aN];rfl
   ·rw[av e'];exact qI e' hi
 have Y3:∀{i:Nat}{b':bL},(fM d b').names i=true→i≠d:=fun{i b'}hn=>by cases b'<;>simp only[fM,bL.names]at hn<;>first|cases hn|exact(vn hn).2
 have hM:az E.P E.aH w0 μ φ' m' w:=by
  refine h.toaz.NR (fun _ k=>k) (fun i b' hb=>?_) (fun i b' g hb hg=>?_) (fun i b' hb=>?_) (fun i DZ i' hb hh=>?_) (fun i st hb=>?_)
  ·rcases key i b' hb with⟨rfl,rfl⟩|⟨rfl,rfl⟩|⟨e1,e2,b2,oL,rfl⟩
   ·refine⟨g0,c,T,by rw[f1 _ (Ne.symm cQ)];exact c1,c2,by simpa using c3,fun n v x hv JI=>?_,c5,by rw[f1 _ (Ne.symm cQ)];simpa using c6⟩;rw[List.getElem?_set]at hv;split at hv
    ·rename_i e;subst e;split at hv
     ·simp only[Option.some.injEq]at hv;subst hv;rw[Array.getElem?_eq_getElem (by omega)]at JI;simp only[Option.some.injEq]at JI;subst JI;exact f4
     ·cases hv
    ·simp only[List.getElem?_map,Option.map_eq_some_iff]at hv;obtain⟨v',JH,rfl⟩:=hv;exact((c4 n v' x JH JI).kill d).mono (fun _ _ h=>h) fun i hi=>f1 i (tJ hi).2
   ·exact f3
   ·exact(h.dG i b2 oL).kill.cE (fun k hk=>f1 k (Y3 hk)) (f1 i e2) (fun _ _ h=>h) (fun _ _=>rfl)
  ·rcases key i b' hb with⟨rfl,rfl⟩|⟨rfl,rfl⟩|⟨e1,e2,b2,oL,rfl⟩
   ·refine⟨i,_,hm,.inl ?_,fun _=>rfl,rfl⟩;have:=mJ (by intro i off h;simp[bL.rowAt]at h) hg;rw[←this,f1 _ (Ne.symm cQ)]
   ·refine⟨i,_,hd,.inl ?_,fun _=>rfl,rfl⟩;rw[←f2];exact mJ oa hg
   ·refine⟨i,b2,oL,?_,fun BI=>by rw[vo]at BI;exact BI,rfl⟩;rw[f1 i e2]at hg;exact fI.1 hg
  ·rcases key i b' hb with⟨rfl,rfl⟩|⟨rfl,rfl⟩|⟨e1,e2,b2,oL,rfl⟩
   ·exact oK (by intro i off h;simp[bL.rowAt]at h)
   ·exact oK oa
   ·rw[f1 i e2];exact sC.2 (h.apart i b2 oL)
  ·rcases key i _ hb with⟨rfl,hb⟩|⟨rfl,hb⟩|⟨e1,e2,b2,oL,e⟩
   ·simp only[bL.box.injEq]at hb;subst hb;rcases Hu _ _ hh with hh|hh
    ·exact tc _ (h.fp _ _ _ hm (vn hh).1)
    ·have:=Nat.eq_of_beq_eq_true hh;subst this;exact tc _ (by rw[hd];rfl)
   ·cases hb
   ·cases b2 with
    |box cs2=>simp only[fM,bL.box.injEq]at e;subst e;exact tc _ (h.fp _ _ _ oL (vn hh).1)
    |_=>simp[fM]at e
  ·rcases key i _ hb with⟨rfl,hb⟩|⟨rfl,hb⟩|⟨e1,e2,b2,oL,e⟩
   ·cases hb
   ·cases hb
   ·cases b2 with
    |loop st2=>simp only[fM,bL.loop.injEq]at e;subst e;exact⟨oL,by rw[f1 i e2]⟩
    |_=>simp[fM]at e
 exact⟨φ',{toaz:=hM,size:=h.size,defers:=h.defers,kW:=h.kW,fr:=(fun t=>((h.fr t).kill d).mono (fun _ _ h=>h) fun i hi=>f1 i (tJ hi).2),live:=fun t i hid=>tc _ (h.live t i (tJ hid).1)}⟩
theorem rS{A:Type}{nt:Nat}{a:Act}{w:World}:∀{l:List (Nat×Nat)}{μ:Ro}{φ:Nat→aG}{f:Fr}{m:Mem}{k:Fr→Mem→A}{r:A},zM l f m k=r→Rel E.P E.aH nt w0 μ φ f m a w→∃f' m' φ',k f' m'=r∧Rel E.P E.aH nt w0 μ φ' f' m' a w
 |[],μ,φ,f,m,k,r,h,hR=>⟨f,m,φ,h,hR⟩
 |(id,j)::l,μ,φ,f,m,k,r,h,hR=>by
  unfold zM at h;split at h
  ·rename_i cs hm;split at h
   ·rename_i d len hj;split at h
    ·rename_i s et es hd;split at h
     ·exact rS h hR
     ·rename_i cQ;have cQ:d≠id:=fun e=>cQ (by rw[e];exact Nat.beq_refl _);obtain⟨φ',iD⟩:=hR.cut hm hj hd cQ;exact rS h iD
    ·exact rS h hR
   ·exact rS h hR
  ·exact rS h hR
theorem Hv{A:Type}{T:eY}{k:Fr→Mem→A}{r:A}(h:DO E.P T f m k=r)(hR:Rel E.P E.aH nt w0 μ φ f m a w):∃f' m' μ' φ',k f' m'=r∧Rel E.P E.aH nt w0 μ' φ' f' m' a w:=by unfold DO at h;obtain⟨_,_,_,h,hR⟩:=rS h hR;obtain⟨m1,φ1,h,hR⟩:=rR h hR;obtain⟨m',h,hR⟩:=xK h hR;obtain⟨m',h,hR⟩:=Cu h hR;obtain⟨f',m',μ',h,hR⟩:=rQ h hR;exact⟨f',m',μ',φ1,h,hR⟩
def SB:Ex→Exit
 |.normal=>.normal
 |.exit id=>.exit id
 |.ret=>.ret
theorem Rel.SC(h:Rel E.P E.aH nt w0 μ φ f m a w):Rel E.P E.aH nt w0 μ φ f m a {w with drawn:=w.drawn+1}:={toaz:=h.toaz.drew,size:=h.size,defers:=h.defers,kW:=h.kW,fr:=h.fr,live:=h.live}
theorem PL{rd:Option Nat}(hE:iP E)(hY:rD E.P E.aH E.fn.ntmps E.yl w0){R:Type}{ops:Array Oper}{draw:Bool}{k:Ex→Fr→Mem→Option R}{r:R}(h:fg E (.region id ops draw) f m k=some r){Q:Exit→Act→World→Prop}(hR:Rel E.P E.aH E.fn.ntmps w0 μ φ f m a w)(hQ:∀f' m' μ' φ' a' w',k .normal f' m'=some r→Rel E.P E.aH E.fn.ntmps w0 μ' φ' f' m' a' w'→Q .normal a' w'):(Code.region id ops draw).wpIn (FR rd) 0 E.P Q a w:=by
 simp only[fg]at h;cases draw with
 |false=>
  simp only[Bool.false_eq_true,if_false]at h;refine wpIn_region ?_;have hmz:∀x∈(List.range ops.size).zip ops.toList,ops[x.1]?=some x.2:=fun x hx=>by have:=(qP (l:=ops.toList) (i:=x.1) (o:=x.2)).1 (by simpa using hx);rwa[Array.getElem?_toList]at this
  have:=gB (rd:=rd) hE hY _ (.inl rfl) h hmz (by intro x hx g hg;cases hg) (fun h=>by cases h) μ φ a w Q [] hR (by intro g hg;cases hg) fun f' m' μ' φ' a' w' hk iD _ _=>hQ f' m' μ' φ' a' w' hk iD;rw[List.append_nil,List.map_fst_zip (by simp)]at this;exact this
 |true=>
  simp only[if_true]at h;split at h
  ·split at h
   ·rename_i hc;simp only[Bool.and_eq_true]at hc;exact wpIn_region_any hE.mixed (Kb hE hY hc.1.1 hc.1.2 hc.2 h hR.SC hQ)
   ·cases h
  split at h
  ·rename_i hi;refine wpIn_region_any hE.mixed ?_;split at h
   ·rename_i AQ;exact Cq hE hY (.inl rfl) (fun _ o ho=>List.all_eq_true.1 AQ o (Array.mem_toList_iff.2 ho)) hi h hR.SC hQ
   ·exact Cq hE hY (.inr rfl) (fun h=>by cases h) hi h hR.SC hQ
  ·cases h
end
theorem VG{g:FuncId}{fn:Func}(hf:P.funcs[g]?=some fn)(R1:(fn.name== "runtime.NumGoroutine")=false)(hb:fn.body=some c){args:Array Value}{w:World}:(callFunc g args).run P w=.ok (.enter g args) w:=vu hf R1 hb
theorem PM{nt:Nat}{w0:bx}{a:Act}{t:Nat}:ay nt w0 a (t+nt)=w0.sv (t+nt):=by unfold ay;rw[if_neg (by omega)]
def y5(c:Code):Prop:=∀{E:Env}{w0:bx}{rd:Option Nat}(_:iP E)(_:rD E.P E.aH E.fn.ntmps E.yl w0)(_:E.Yc=false→rd=none){R:Type}{f:Fr}{m:Mem}{k:Ex→Fr→Mem→Option R}{r:R},fg E c f m k=some r→∀{μ:Ro}{φ:Nat→aG}{a:Act}{w:World}{Q:Exit→Act→World→Prop},Rel E.P E.aH E.fn.ntmps w0 μ φ f m a w→(∀e f' m' μ' φ' a' w',k e f' m'=some r→Rel E.P E.aH E.fn.ntmps w0 μ' φ' f' m' a' w'→Q (SB e) a' w')→c.wpIn (FR rd) 0 E.P Q a w
theorem SD{as b:Code}(ihA:y5 as)(ihB:y5 b){E:Env}(hE:iP E){w2:bx}{lid l ntI:Nat}{ps:Array Nat}{rc:Loop}{fid:Nat}(VB:w2.rc lid=some (l,rc))(mq:rc.params=ps)(has:rc.assign=as)(hb:rc.body=b)(k9:rc.tmps.size=E.fn.ntmps)(hsv:∀t,t<E.fn.ntmps→w2.sv (t+ntI)=rc.tmps.getD t undef):rD E.P E.aH ntI (fun _ nt _ id args F m k=>bif Nat.beq id lid then roundOf (fg {E with fid:=fid,yl:=yD,Yc:=true} as) (fg {E with fid:=fid,yl:=yD,Yc:=true} b) lid E.fn.ntmps ps.toList nt args F m k else none) w2:=by
 intro R site id args F m k r hy μ φ ρ w xs hM hF hρ hl hr E9 g hg;dsimp only at hy;cases hid:Nat.beq id lid with
 |false=>rw[hid]at hy;cases hy
 |true=>
  rw[hid]at hy;have hid:=Nat.eq_of_beq_eq_true hid;subst hid;simp only[cond_true]at hy;unfold roundOf at hy;split at hy
  ·rename_i SE;split at hy
   ·rename_i Pd;obtain⟨g',rc',l1,l2,l3⟩:=hM.zO id _ SE;rw[VB]at l2;simp only[Option.some.injEq,Prod.mk.injEq]at l2;obtain⟨rfl,rfl⟩:=l2;rw[l1]at hg;simp only[Option.some.injEq]at hg;subst hg;have G5:xs.size=(Jj.ready.obj rc).params.size:=by
     have:ps.toList.length=ps.size:=by simp
     show xs.size=rc.params.size;rw[mq];omega
    refine⟨_,_,_,_,run_yield l3 G5,?_⟩;have hE':iP {E with fid:=fid,yl:=yD,Yc:=true}:=⟨hE.mixed,hE.lp,hE.ctx,hE.own,hE.inl,hE.Yb⟩;have Xh:=En (P:=E.P) (μ:=μ) (φ:=φ) ps.toList args xs.toList (tA ntI F) rc.tmps k9 (by simpa using hl) (fun t ht=>by have:=hF.fr (t+ntI);rw[hρ _ (by omega),hsv t ht]at this;exact this) (fun i v x hv hx=>hr i v x hv (by simpa using hx));have hR3:Rel E.P E.aH E.fn.ntmps {w2 with sv:=fun t=>ρ (t-E.fn.ntmps),dB:=μ,kW:=fun _=>none} μ φ (Ny E.fn.ntmps (Bu ps.toList args (tA ntI F)) F) m {tmps:=((Jj.ready.obj rc).params.zip xs).foldl (fun tmps(t,a)=>tmps.setIfInBounds t a) (Jj.ready.obj rc).tmps,defers:=[]} w:=by
     have e:((Jj.ready.obj rc).params.zip xs).foldl (fun tmps(t,a)=>tmps.setIfInBounds t a) (Jj.ready.obj rc).tmps=(ps.toList.zip xs.toList).foldl (fun tmps(x:Nat×Value)=>tmps.setIfInBounds x.1 x.2) rc.tmps:=by rw[Sx];show(rc.params.toList.zip xs.toList).foldl _ rc.tmps=_;rw[mq]
     rw[e];refine{toaz:=hM.tH rfl rfl (fun _ _ h=>h) (fun _ _ _=>rfl),size:=Xh.1,defers:=.nil _ _ _,kW:=fun _ _ h=>(by cases h),fr:=fun t=>?_,live:=fun t id hid=>?_}
     ·unfold Ny ay;by_cases ht:t<E.fn.ntmps
      ·rw[show Nat.blt t E.fn.ntmps=true by rw[Nat.blt_eq];exact ht,if_pos ht];exact Xh.2 t ht
      ·rw[show Nat.blt t E.fn.ntmps=false by rw[←Bool.not_eq_true,Nat.blt_eq];exact ht,if_neg ht];exact hF.fr _
     ·unfold Ny at hid;cases e:Nat.blt t E.fn.ntmps with
      |true=>
       rw[e]at hid;rcases Cr _ _ _ _ hid with h|h
       ·exact E9 id h
       ·exact hF.live _ id h
      |false=>rw[e]at hid;exact hF.live _ id hid
    refine roundIn_of_wpIn trivial ?_;show(Jj.ready.obj rc).assign.wpIn (FR (some l)) 0 E.P _ _ _;have WN:(Jj.ready.obj rc).assign=as:=has;rw[WN];refine ihA (rd:=some l) hE' (xp _ _ _ _) (fun h=>by cases h) hy hR3 fun e f1 m1 μ1 φ1 a1 w1 Pq J6=>?_;split at Pq
    ·rename_i YR;obtain⟨g1,rc1,p1,p2,p3⟩:=J6.zO id _ YR;have p2:w2.rc id=some (g1,rc1):=p2;rw[VB]at p2;simp only[Option.some.injEq,Prod.mk.injEq]at p2;obtain⟨rfl,rfl⟩:=p2;refine⟨_,run_beginRound p3 rfl,?_⟩;have fV:(Jj.ready.obj rc).body=b:=hb;refine Eq.mpr (congrArg (fun c:Code=>c.wpIn (FR (some l)) 0 E.P _ a1 _) fV) ?_;have rI:=J6.toaz.turn (st':=.busy) YR p1 VB;have ae7:Rel E.P E.aH E.fn.ntmps {w2 with sv:=fun t=>ρ (t-E.fn.ntmps),dB:=μ,kW:=fun _=>none} μ1 φ1 f1 (au m1 id (.loop .busy)) a1 (w1.putObj l (.loop {Jj.ready.obj rc with state:=.busy})):=
      {toaz:=rI,size:=J6.size,defers:=J6.defers,kW:=J6.kW,fr:=J6.fr,live:=fun t j hj=>by
        by_cases e:j=id
        ·subst e;simp
        ·rw[av e];exact J6.live t j hj}
     refine ihB (rd:=some l) hE' (xp _ _ _ _) (fun h=>by cases h) Pq ae7 fun e f2 m2 μ2 φ2 a2 w2' Vl Eb=>?_;split at Vl
     ·rename_i cM;obtain⟨g2,rc2,q1,q2,q3⟩:=Eb.zO id _ cM;have q2:w2.rc id=some (g2,rc2):=q2;rw[VB]at q2;simp only[Option.some.injEq,Prod.mk.injEq]at q2;obtain⟨rfl,rfl⟩:=q2;have hle:Hh μ μ2:=Eb.dB;have hFp:cm E.P μ2 φ2 m2 (tA E.fn.ntmps f2) ρ:=by refine⟨fun t=>?_,fun t id hid=>Eb.live _ id hid⟩;have:=Eb.fr (t+E.fn.ntmps);rw[PM]at this;simpa[tA]using this
      have fin:∀(st:Jj)(v:Bool),k (.pv (.bool v)) (tA E.fn.ntmps f2) (au m2 id (.loop st))=some r→∃v' f' m' y μ' φ',k v' f' m'=some r∧Ending.returned (.bool v)=.returned y∧Hh μ μ'∧az E.P E.aH w2 μ' φ' m' (w2'.putObj l (.loop (st.obj rc)))∧cm E.P μ' φ' m' f' ρ∧ai E.P μ' φ' v' y∧∀id,v'.has id=true→(m' id).isSome=true:=by
       intro st v hk;have hM2:=Eb.toaz.turn (st':=st) cM q1 VB;refine⟨_,_,_,_,μ2,φ2,hk,rfl,hle,hM2.tH rfl rfl (fun b o hb=>hle b o (hM.dB b o hb)) (fun _ _ _=>rfl),⟨hFp.fr,fun t j hj=>?_⟩,.pv .bool,fun id hid=>by cases hid⟩;by_cases e:j=id
       ·subst e;simp
       ·rw[av e];exact hFp.live t j hj
      cases e with
      |normal=>exact⟨_,_,run_endRound none q3,fin .ready true Vl⟩
      |exit j=>exact⟨_,_,run_endRound (some (.exit j)) q3,fin (.done (.exit j)) false Vl⟩
      |ret=>exact⟨_,_,run_endRound (some .ret) q3,fin (.done .ret) false Vl⟩
     ·cases Vl
    ·cases Pq
   ·cases hy
  ·cases hy
theorem VH{μ:Ro}{φ:Nat→aG}{m:Mem}{v:V}{g:FuncId}{mi:List V}{y:Value}(h:Yd v=some (g,mi))(hv:ai P μ φ v y)(hl:∀id,v.has id=true→(m id).isSome=true):∃xs,y=.func (.func g) #[] xs∧mi.length=xs.size∧(∀(i:Nat)v x,mi[i]?=some v→xs[i]?=some x→ai P μ φ v x)∧∀id,cr id mi=true→(m id).isSome=true:=by
 unfold Yd at h;split at h
 ·simp only[Option.some.injEq,Prod.mk.injEq]at h;obtain⟨rfl,rfl⟩:=h;cases hv with
  | @fn _ _ xs h1 h2=>exact⟨xs,rfl,h1,h2,fun id hid=>hl id (by simpa only[V.has]using hid)⟩
 ·simp only[Option.some.injEq,Prod.mk.injEq]at h;obtain⟨rfl,rfl⟩:=h;cases hv with
  |pv hv=>cases hv with
   | @fn _ _ xs h1 h2=>
    refine⟨xs,rfl,by simpa using h1,fun i v x hv hx=>?_,fun id hid=>?_⟩
    ·simp only[List.getElem?_map,Option.map_eq_some_iff]at hv;obtain⟨q,hq,rfl⟩:=hv;exact .pv (h2 i q x hq hx)
    ·obtain⟨v,hv,hh⟩:=cR.1 hid;obtain⟨q,_,rfl⟩:=List.mem_map.1 hv;cases hh
 ·cases h
theorem Fx{g:Operand}{ps:Array Tmp}{as b:Code}(ihA:y5 as)(ihB:y5 b):y5 (.rangeFunc g ps as b):=by
 intro E w0 rd hE hY xw R f m k r h μ φ a w Q hR hQ;simp only[fg]at h;split at h
 ·cases h
 rename_i Jp;have xw:=xw (by simpa using Jp);subst xw;split at h;rotate_left
 ·cases h
 rename_i p0 pr Dh;generalize ahy:cD E (some p0)=lid at h;obtain⟨f1,m1,_,h,SE,wz,ae8⟩:=cF h;obtain⟨hm0,rfl,rfl⟩:=wz rfl;refine wpIn_rangeFunc fun fn _=>?_;obtain⟨rec,Fy⟩:∃rec:Loop,rec={state:=.ready,pending:=none,fn,tmps:=a.tmps,params:=ps,assign:=as,body:=b,defers:=w.heap.size}:=⟨_,rfl⟩;obtain⟨wD,hwD⟩:∃wD,wD=w.alloc (.deferred (some [])):=⟨_,rfl⟩;obtain⟨W1,hW1⟩:∃W1,W1=wD.alloc (.loop rec):=⟨_,rfl⟩;obtain⟨l,hl⟩:∃l,l=wD.heap.size:=⟨_,rfl⟩;have GZ:l=w.heap.size+1:=by rw[hl,hwD];simp
 obtain⟨μD,Y4⟩:∃μD,μD=Ai μ w (.deferred (some [])):=⟨_,rfl⟩;have SF:Hh μ μD:=Y4▸Hs hR.toaz _;have hMD:az E.P E.aH w0 μD φ m wD:=Y4▸hwD▸hR.toaz.VC _;have hD:μD w.heap.size=some (.deferred (some [])):=by rw[Y4];simp[Ai]
 obtain⟨w1,NQ⟩:∃w1:bx,w1={w0 with dB:=μD,rc:=fun i=>if i=lid then some (l,rec)else w0.rc i}:=⟨_,rfl⟩;have aaV:az E.P E.aH w1 μD φ m wD:=NQ▸hMD.tH rfl rfl (fun _ _ h=>h) (fun id st hid=>if_neg fun e=>by subst e;rw[hm0]at hid;cases hid);have BH:ay E.fn.ntmps w1 a=ay E.fn.ntmps w0 a:=by subst NQ;rfl
 have hFD:cm E.P μD φ m f1 (ay E.fn.ntmps w0 a):=⟨fun t=>(hR.fr t).vS SF,hR.live⟩;have Y5:w1.rc lid=some (l,rec):=by subst NQ;exact if_pos rfl
 have Fg:W1.heap[l]?=some (.loop rec):=by rw[hW1,hl];exact heap_alloc_new wD _
 have AL:Jj.ready.obj rec=rec:=by subst Fy;rfl
 have qN:jI E.P w1 μD φ m wD W1 lid (.loop .ready) (Dg (some l) 0 0 0):=by
  rw[hW1];refine jI.alloc aaV (by rw[hl]) (fun φ' hp _=>⟨l,rec,by rw[hp],?_⟩) (by simp[bL.names]) fun st tv=>?_
  ·rw[AL,←hW1];exact Fg
  ·cases tv;exact⟨l,rec,rfl,Y5,by rw[AL,←hW1];exact Fg⟩
 obtain⟨φ1,ae9,rI,AP⟩:=ae8 E.P E.aH w1 μD φ wD W1 (ay E.fn.ntmps w0 a) (Dg (some l) 0 0 0) aaV hFD qN;have J6:Rel E.P E.aH E.fn.ntmps w1 μD φ1 f1 (au m lid (.loop .ready)) a W1:={toaz:=rI,size:=hR.size,defers:=(by have:=hR.defers.mono SF;subst NQ;exact this),kW:=(by subst NQ;exact fun b o hb=>SF b o (hR.dB b o (hR.kW b o hb))),fr:=fun t=>by rw[BH];exact AP.fr t,live:=AP.live};have PB:=ar J6 g;split at h;rotate_left
 ·cases h
 rename_i gid mi nr;obtain⟨xs,hgv,hlen,jf,afa⟩:=VH nr PB.1 PB.2
 ·clear PB;obtain⟨fnI,cI,f1,f2,f3,eR⟩:=hE.Yb _ _ _ _ _ _ _ _ _ h;have QQ:ai E.P μD φ1 (.yl lid) (.func (.yield l) #[] #[]):=.yl (by rw[ae9]);have hC:=eR w1 μD φ1 (ay E.fn.ntmps w0 a) W1 (#[.func (.yield l) #[] #[]]++xs) rI AP (by simp;omega) (fun i v x hv hx=>by
    cases i with
    |zero=>simp at hv;subst hv;rw[Array.getElem?_append]at hx;simp at hx;subst hx;exact QQ
    |succ i=>simp at hv;rw[Array.getElem?_append_right (by simp)]at hx;exact jf i v x hv (by simpa using hx)) (fun id hid=>by
    simp only[cr,Bool.or_eq_true]at hid;rcases hid with hid|hid
    ·have:=Nat.eq_of_beq_eq_true hid;subst this;simp
    ·exact afa id hid) (by
   refine fun R site id args F m k r hy=>SD (fid:=site*4096+E.fid%4096) ihA ihB hE (w2:={w1 with sv:=fun t=>ay E.fn.ntmps w0 a (t-fnI.ntmps)}) (rc:=rec) (l:=l) (lid:=lid) (ps:=ps) Y5 (by subst Fy;rfl) (by subst Fy;rfl) (by subst Fy;rfl) (by subst Fy;exact hR.size) (fun t ht=>by subst Fy;show ay E.fn.ntmps w0 a (t+fnI.ntmps-fnI.ntmps)=_;rw[Nat.add_sub_cancel,oE ht]) R site id args F m k r hy)
  refine⟨l,[{target:=.collected w.heap.size,args:= #[]}],W1,{target:=.fn (.func gid) xs,args:= #[.func (.yield l) #[] #[]]},W1,gid,#[.func (.yield l) #[] #[]]++xs,W1,?_,?_,?_,?_,?_,?_⟩
  ·have:=run_enterLoop_outer (P:=E.P) (w:=w) fn a.tmps ps as b;rw[GZ,hW1,hwD,Fy];exact this
  ·simp only[resolve,hgv];simp[go_sem]
  ·exact fun _ _=>trivial
  ·simp[invoke,go_sem,VG f1 f3 f2]
  ·exact fun h=>by cases h
  ·refine FR.NW (hC.mono ?_);rintro e w' ⟨v,f',m',y,μ',φ',hk,rfl,RF,hF',_,_⟩;have Y6:Hh μD μ':=by have:=RF.dB;subst NQ;exact this
   have hD':μ' w.heap.size=some (.deferred (some [])):=Y6 _ _ hD;have main:∀st,m' lid=some (.loop st)→st≠.busy→∃w4,(Instr.endLoop l).run E.P w'=.ok (st.obj rec).pending w4∧Rel E.P E.aH E.fn.ntmps w0 μ' φ' (eP lid f') (bh (bB lid m') lid) {a with defers:=[{target:=.collected w.heap.size,args:= #[]}]++a.defers} w4:=by
    intro st tv hnb;obtain⟨g',rc',p1,p2,p3⟩:=RF.zO lid st tv;rw[Y5]at p2;simp only[Option.some.injEq,Prod.mk.injEq]at p2;obtain⟨rfl,rfl⟩:=p2;have su:=RF.own lid _ _ tv (.inl p1);have hMf:=RF.forget lid;have yU:∀id b,bh (bB lid m') lid id=some b→¬b.owns (φ' id) l:=fun id b' hid e=>by obtain⟨cQ,b2,oL,rfl⟩:=eL hid;exact cQ (RF.inj id lid b2 _ l oL tv (fI.1 e) (.inl p1))
    have hM4:=hMf.other (.loop {st.obj rec with state:=.exhausted}) su.1 (su.2 rfl) yU;have hM5:az E.P E.aH w0 μ' φ' (bh (bB lid m') lid) (w'.putObj l (.loop {st.obj rec with state:=.exhausted})):=hM4.tH (by subst NQ;rfl) (by subst NQ;rfl) (fun b o hb=>Y6 b o (SF b o (hR.dB b o hb))) (fun id st hid=>by
      have cQ:id≠lid:=fun e=>by subst e;simp at hid
      subst NQ;exact(if_neg cQ).symm)
    refine⟨_,run_endLoop p3 (by cases st<;>simp_all[Jj.obj]),{toaz:=hM5,size:=hR.size,defers:=?_,kW:=hR.kW,fr:=?_,live:=?_}⟩
    ·obtain⟨Ds,e,QY,hDs⟩:=hR.defers;have bu:∀b o,μ b=some o→b<w.heap.size:=fun b o hb=>(Array.getElem?_eq_some_iff.1 (hR.ro b o hb)).1;refine⟨w.heap.size::Ds,by simp[e],List.nodup_cons.2 ⟨fun hd=>?_,QY⟩,fun D hd=>?_⟩
     ·have:=bu _ _ (hDs _ hd).2.2;omega
     ·rcases List.mem_cons.1 hd with rfl|hd
      ·refine⟨hR.below.size,?_,hD'⟩;cases ho:w0.kW w.heap.size with
       |none=>rfl
       |some o=>have:=bu _ _ (hR.dB _ _ (hR.kW _ _ ho));omega
      ·exact⟨(hDs D hd).1,(hDs D hd).2.1,Y6 _ _ (SF _ _ (hDs D hd).2.2)⟩
    ·exact(hF'.forget lid).fr
    ·exact(hF'.forget lid).live
   dsimp only at hk;split at hk
   ·rename_i tv;obtain⟨w4,e1,e2⟩:=main .ready tv (by simp);exact⟨none,w4,e1,hQ .normal _ _ _ _ _ _ hk e2⟩
   ·rename_i j tv;obtain⟨w4,e1,e2⟩:=main (.done j) tv (by simp);refine⟨some j.code,w4,e1,?_⟩;cases j with
    |ret=>exact wpIn_ret (hQ .ret _ _ _ _ _ _ hk e2)
    |exit id=>exact wpIn_exit (hQ (.exit id) _ _ _ _ _ _ hk e2)
   ·cases hk
theorem SG:∀(c:Code),y5 c:=by
 intro c;induction c with
 |skip=>intro E w0 rd hE hY xw R f m k r h μ φ a w Q hR hQ;simp only[fg]at h;exact wpIn_skip (hQ .normal _ _ _ _ _ _ h hR)
 |region id ops draw=>intro E w0 rd hE hY xw R f m k r h μ φ a w Q hR hQ;exact PL hE hY h hR (hQ .normal)
 |seq x y ihx ihy=>
  intro E w0 rd hE hY xw R f m k r h μ φ a w Q hR hQ;simp only[fg]at h;refine wpIn_seq (ihx hE hY xw h hR fun e f' m' μ' φ' a' w' hk iD=>?_);cases e with
  |normal=>exact ihy hE hY xw hk iD hQ
  |exit id=>exact hQ (.exit id) _ _ _ _ _ _ hk iD
  |ret=>exact hQ .ret _ _ _ _ _ _ hk iD
 |cond c x y ihx ihy=>
  intro E w0 rd hE hY xw R f m k r h μ φ a w Q hR hQ;simp only[fg]at h;split at h
  ·rename_i t b hb;have hv:a.eval (.tmp t)=.bool b:=by have:=(ar hR (.tmp t)).1;rw[hb]at this;exact oS this
   have fV:f t=.pv (.bool b):=(Ca hb).2;have hle:tq (fo f t (.pv (.bool b))) f:=fun s=>by
    simp only[fo];cases e:Nat.beq s t with
    |true=>have:=Nat.eq_of_beq_eq_true e;subst this;exact .inl fV.symm
    |false=>exact .inl rfl
   cases b with
   |true=>simp only[if_true]at h;exact wpIn_cond_true hv (ihx hE hY xw h (hR.weaken hle) hQ)
   |false=>simp only[Bool.false_eq_true,if_false]at h;exact wpIn_cond_false hv (ihy hE hY xw h (hR.weaken hle) hQ)
  ·cases h
 |block id b ih=>
  intro E w0 rd hE hY xw R f m k r h μ φ a w Q hR hQ;simp only[fg]at h;refine wpIn_block (ih hE hY xw h hR fun e f' m' μ' φ' a' w' hk iD=>?_);cases e with
  |normal=>exact hQ .normal _ _ _ _ _ _ hk iD
  |exit j=>
   simp only[Ex.Rp]at hk;simp only[SB,Exit.inBlock];split at hk
   ·rename_i hj;rw[if_pos hj];exact hQ .normal _ _ _ _ _ _ hk iD
   ·rename_i hj;rw[if_neg hj];exact hQ (.exit j) _ _ _ _ _ _ hk iD
  |ret=>exact hQ .ret _ _ _ _ _ _ hk iD
 |loop b ih=>
  intro E w0 rd hE hY xw R f m k r h μ φ a w Q hR hQ;simp only[fg]at h;split at h
  ·rename_i T _;obtain⟨f,m,μ,φ,h,hR⟩:=Hv h hR;obtain⟨s,hs,s1,s2,s3,s4⟩:=Sz h;obtain⟨n0,hs⟩:=hE.lp _ _ _ _ _ hs;refine Eo (fun n a w=>∃s μ φ,Rel E.P E.aH E.fn.ntmps w0 μ φ (JA T s) (Bt T s) a w∧cj (fun s rec=>fg E b (JA T s) (Bt T s) (Ex.GU (fun f m=>DO E.P T f m fun f m=>enc T f m rec) k)) n s=some r) ?_ n0 a w ⟨s,μ,φ,hR.dec s1 s2 s3 s4,hs⟩;rintro n a w ⟨s,μ,φ,hR,hs⟩;cases n with
   |zero=>simp[cj]at hs
   |succ n=>
    refine⟨n,rfl,?_⟩;simp only[cj]at hs;refine ih hE hY xw hs hR fun e f' m' μ' φ' a' w' hk iD=>?_;cases e with
    |normal=>obtain⟨f',m',μ',φ',hk,iD⟩:=Hv hk iD;obtain⟨s',hs',t1,t2,t3,t4⟩:=Sz hk;exact⟨s',μ',φ',iD.dec t1 t2 t3 t4,hs'⟩
    |exit j=>exact hQ (.exit j) _ _ _ _ _ _ hk iD
    |ret=>exact hQ .ret _ _ _ _ _ _ hk iD
  ·refine Eo (fun n a w=>∃f m μ φ,Rel E.P E.aH E.fn.ntmps w0 μ φ f m a w∧GR (fun f m rec=>fg E b f m (Ex.GU rec k)) n f m=some r) ?_ E.u a w ⟨f,m,μ,φ,hR,h⟩;rintro n a w ⟨f,m,μ,φ,hR,hs⟩;cases n with
   |zero=>simp[GR]at hs
   |succ n=>
    refine⟨n,rfl,?_⟩;simp only[GR]at hs;refine ih hE hY xw hs hR fun e f' m' μ' φ' a' w' hk iD=>?_;cases e with
    |normal=>exact⟨f',m',μ',φ',iD,hk⟩
    |exit j=>exact hQ (.exit j) _ _ _ _ _ _ hk iD
    |ret=>exact hQ .ret _ _ _ _ _ _ hk iD
 |exit id=>intro E w0 rd hE hY xw R f m k r h μ φ a w Q hR hQ;simp only[fg]at h;exact wpIn_exit (hQ (.exit id) _ _ _ _ _ _ h hR)
 |label l=>intro E w0 rd hE hY xw R f m k r h μ φ a w Q hR hQ;simp only[fg]at h;exact wpIn_label (hQ .normal _ _ _ _ _ _ h hR)
 |ret=>intro E w0 rd hE hY xw R f m k r h μ φ a w Q hR hQ;simp only[fg]at h;exact wpIn_ret (hQ .ret _ _ _ _ _ _ h hR)
 |scope b ih=>intro E w0 rd hE hY xw R f m k r h μ φ a w Q hR hQ;simp only[fg]at h;exact PK (ih hE hY xw h hR fun e f' m' μ' φ' a' w' hk iD=>by cases e<;>exact hQ _ _ _ _ _ _ _ hk iD)
 |rangeFunc g ps as b ihA ihB=>exact Fx ihA ihB
 |_=>intro E w0 rd hE hY xw R f m k r h;simp[fg]at h
end Go.Ab
set_option linter.unusedVariables false
namespace Go.Ab
open Go.RowKit (Below)
def Obj.Y7:Obj→Bool
 |.cells .. =>true
 |.map .. =>true
 |_=>false
def N4(μ μ':Ro):Prop:=∀b o,μ b=some o→Obj.Y7 o=true→μ' b=some o
theorem N4.trans{a b c:Ro}(h:N4 a b)(k:N4 b c):N4 a c:=fun x o hx ho=>k x o (h x o hx ho) ho
section
variable {P:Program} {G:Nat→Option (List PV)} {w0:bx} {μ μ':Ro} {φ:Nat→aG} {m:Mem} {w w':World}
variable{x:Value}
theorem Cv(h:N4 μ μ'){b o:Nat}(hx:cellAt μ b o=some x):cellAt μ' b o=some x:=by
 unfold cellAt at*;split at hx
 ·rename_i c t fz hb;rw[h _ _ hb rfl];exact hx
 ·cases hx
theorem ak.off(h:N4 μ μ'){p:PV}(hp:ak P μ p x):ak P μ' p x:=by
 induction hp with
 |int h=>exact .int h
 |bool=>exact .bool
 |str h=>exact .str h
 |agg h1 _ h3 ih=>exact .agg h1 ih h3
 |aZ h1 _ ih=>exact .aZ h1 ih
 |nM=>exact .nM
 |rp X h1 _ h3 ih=>exact .rp X (fun i p hi=>Cv h (h1 i p hi)) ih h3
 |ju=>exact .ju
 |Gx h=>exact .Gx h
 |rs X h1 h2 h3 h4 _ h6 ih=>exact .rs X h1 h2 h3 (fun i e j p hi hj=>Cv h (h4 i e j p hi hj)) ih h6
 |th=>exact .th
 |rm h1 h2 h3 h4 h5 _ _ ih1 ih2=>exact .rm (h _ _ h1 rfl) h2 h3 h4 h5 ih1 ih2
 |yB=>exact .yB
 |fn h1 _ ih=>exact .fn h1 ih
 |Rw=>exact .Rw
 |U2=>exact .U2
 |bad=>exact .bad
theorem vR.off(h:N4 μ μ'){g:Nat}{cs:List PV}(hv:vR P μ g cs):vR P μ' g cs:=⟨hv.rep.off h,let⟨c,T,z,h1,h2⟩:=hv.size;⟨c,T,z,h _ _ h1 rfl,h2⟩⟩
theorem ai.off(h:N4 μ μ'){v:V}{x:Value}(hv:ai P μ φ v x):ai P μ' φ v x:=by
 induction hv with
 |pv hp=>exact .pv (hp.off h)
 |bl=>exact .bl
 |op hg=>exact .op hg
 |oe hg=>exact .oe hg
 |pZ hg=>exact .pZ hg
 |os hg=>exact .os hg
 |oF hg=>exact .oF hg
 |fm hg hl ha hc QR=>exact .fm hg hl ha hc QR
 |Fa hg=>exact .Fa hg
 |tx hg=>exact .tx hg
 |xg hg hs=>exact .xg hg hs
 |om hg=>exact .om hg
 |yl hg=>exact .yl hg
 |it hg=>exact .it hg
 |fn h1 _ ih=>exact .fn h1 ih
 |agg h1 _ h3 ih=>exact .agg h1 ih h3
 |aZ h1 _ ih=>exact .aZ h1 ih
 |top=>exact .top
theorem aL.off(h:N4 μ μ'){id sz:Nat}{et:TypeId}{es:List PV}(ha:aL P μ φ w id sz et es)(hw:∀g,(φ id).g=some g→w'.heap[g]?=w.heap[g]?):aL P μ' φ w' id sz et es:=by
 obtain⟨a1,a2,a3,a4,a5,a6,a7⟩:=ha;refine⟨a1,a2,a3,a4,a5,a6,?_⟩;cases hg:(φ id).g with
 |none=>rw[hg]at a7;exact a7
 |some g=>rw[hg]at a7;obtain⟨c,c1,c2,c3,c4,c5⟩:=a7;exact⟨c,by rw[hw g hg];exact c1,c2,c3,fun i e j p x h1 h2 h3=>(c4 i e j p x h1 h2 h3).off h,c5⟩
theorem eI.off(hh:N4 μ μ'){R:zP}{s:Nat}{rs:List PV}{x:Value}(h:eI P μ R w s rs x)(hw:∀g,R.g=some g→w'.heap[g]?=w.heap[g]?):eI P μ' R w' s rs x:=
 let⟨⟨et,hA⟩,hV⟩:=h
 ⟨⟨et,hA.off hh hw⟩,hV.off hh⟩
theorem ei.off(hh:N4 μ μ'){R:zP}{p:PV}{x:Value}(h:ei P μ R w p x)(hw:p.isRow=true→∀g,R.g=some g→w'.heap[g]?=w.heap[g]?):ei P μ' R w' p x:=by
 unfold ei at*;split at h
 ·exact eI.off hh h (hw rfl)
 ·exact ak.off hh h
theorem aX.off(hh:N4 μ μ'){id sz:Nat}{et:TypeId}{es:List PV}(h:aX P μ φ w id sz et es)(hw:∀g,(bL.nest sz et es).owns (φ id) g→w'.heap[g]?=w.heap[g]?):aX P μ' φ w' id sz et es:=by
 obtain⟨a1,a2,a3,a4,a5,a6,a7⟩:=h;refine⟨a1,a2,a3,a4,a5,a6,?_⟩;cases hg:(φ id).g with
 |none=>rw[hg]at a7;exact a7
 |some g=>rw[hg]at a7;obtain⟨c,c1,c2,c3,c4,c5⟩:=a7;exact⟨c,by rw[hw g (.inl hg)];exact c1,c2,c3,fun i e j p x h1 h2 h3=>(c4 i e j p x h1 h2 h3).off hh fun hr g' bV=>hw g' (.inr ⟨i,j,by rw[dx h1 h2];exact hr,bV⟩),c5⟩
theorem eI.N5{R:zP}{s g:Nat}{rs:List PV}(h:eI P μ R w s rs x)(hg:R.g=some g):∃c T z,w.heap[g]?=some (.cells c T z):=by obtain⟨⟨et,_,_,_,_,_,_,a7⟩,_⟩:=h;have bV:R.up.g=some g:=hg;simp only[bV]at a7;obtain⟨c,c1,_⟩:=a7;exact⟨_,_,_,c1⟩
theorem fW.SH{id g i off:Nat}{b:bL}(h:fW P μ φ w id b)(hr:b.rowAt i off=true)(hg:((φ id).row i off).g=some g):∃c T z,w.heap[g]?=some (.cells c T z):=by
 rcases iT hr with⟨sz,et,es,e,s,rs,rfl,he,hp⟩|⟨kt,e0,es,k,s,rs,rfl,rfl,he⟩
 ·have hN:aX P μ φ w id sz et es:=h;have hgg:∃g0,(φ id).g=some g0:=by
   cases hq:(φ id).g with
   |some g0=>exact⟨g0,rfl⟩
   |none=>have a7:=hN.2.2.2.2.2.2;rw[hq]at a7;rw[a7.1]at he;simp at he
  obtain⟨g0,Jk⟩:=hgg;obtain⟨c,x,_,_,c3,_⟩:=hN.cell Jk he hp;exact eI.N5 (show eI P μ _ w s rs x from c3) hg
 ·obtain⟨g0,en,clock,kk,Jk,hh,hs,hk,hc,s9,hv⟩:=h;have hi:i<en.size:=by rw[hs];exact(List.getElem?_eq_some_iff.1 he).1
  have h3:=(hv i k _ en[i] he (Array.getElem?_eq_getElem hi)).2;exact eI.N5 (P:=P) (μ:=μ) (R:=(φ id).row i 0) (s:=s) (rs:=rs) (x:=en[i].val) ⟨⟨_,h3.1⟩,h3.2⟩ hg
theorem fW.off(h:N4 μ μ')(la:∀b o,μ b=some o→w.heap[b]?=some o){id:Nat}{b:bL}(hb:fW P μ φ w id b)(hw:∀g,b.owns (φ id) g→w'.heap[g]?=w.heap[g]?):fW P μ' φ w' id b:=by
 cases b with
 |nest sz et es=>exact aX.off h hb hw
 |e8 kt e0 es=>
  obtain⟨g,en,clock,kk,hg,hh,hs,hk,hc,s9,hv⟩:=hb;refine⟨g,en,clock,kk,hg,by rw[hw g (.inl hg)];exact hh,hs,hk,hc,s9,fun i k v e h1 h2=>⟨(hv i k v e h1 h2).1.off h,?_⟩⟩;have h3:=(hv i k v e h1 h2).2;split at h3
  ·exact⟨h3.1.off h fun g' bV=>hw g' (.inr ⟨i,0,by rw[iS h1];rfl,bV⟩),h3.2.off h⟩
  ·exact h3.off h
 |box cs=>obtain⟨g,c,T,hg,hh,hs,hv,h1,yP⟩:=hb;exact⟨g,c,T,hg,by rw[hw g (.inl hg)];exact hh,hs,fun i v x hi hx=>(hv i v x hi hx).off h,h1,yP⟩
 |arr sz et es=>exact aL.off h hb fun g hg=>hw g (.inl hg)
 |nZ sz et es=>refine⟨aL.off h hb.1 fun g hg=>hw g (.inl hg),fun g hg=>?_⟩;obtain⟨o,ho⟩:=Option.isSome_iff_exists.1 (hb.2 g hg);obtain⟨_,_,_,_,_,_,a7⟩:=hb.1;rw[hg]at a7;obtain⟨c,c1,_⟩:=a7;have:=la g o ho;rw[c1]at this;cases this;rw[h _ _ ho rfl];rfl
 |map kt es=>obtain⟨g,en,clock,kk,hg,hh,hs,hk,hc,s9,hv⟩:=hb;exact⟨g,en,clock,kk,hg,by rw[hw g (.inl hg)];exact hh,hs,hk,hc,s9,fun i k v e h1 h2=>⟨(hv i k v e h1 h2).1.off h,(hv i k v e h1 h2).2.off h⟩⟩
 |iter t es cur=>obtain⟨g,mg,en,clock,seen,hg,hh,BI,s9,yP,hv,hcu⟩:=hb;exact⟨g,mg,en,clock,seen,hg,by rw[hw g (.inl hg)];exact hh,h _ _ BI rfl,s9,yP,fun i k v e h1 h2=>⟨(hv i k v e h1 h2).1.off h,(hv i k v e h1 h2).2.off h⟩,fun k v hc=>let⟨i,e,h1,h2,h3,h4⟩:=hcu k v hc;⟨i,e,h1,h2,h3.off h,h4.off h⟩⟩
 |loop st=>obtain⟨g,rc,hg,hh⟩:=hb;exact⟨g,rc,hg,by rw[hw g (.inl hg)];exact hh⟩
def Aj(μ:Ro)(D:Nat):Ro:=fun b=>if b=D then none else μ b
theorem N6{D:Nat}(hD:μ D=some (.deferred (some []))):N4 μ (Aj μ D):=by intro b o hb ho;unfold Aj;rw[if_neg fun e=>by subst e;rw[hD]at hb;cases hb;cases ho];exact hb
theorem az.shut(hM:az P G w0 μ φ m w){D:Nat}(hB:w0.heap.size≤D)(hk:w0.dB D=none)(hD:μ D=some (.deferred (some []))):az P G w0 (Aj μ D) φ m (w.putObj D (.deferred none)):=by
 have hc:=N6 hD;have hh:=hM.ro _ _ hD;have AR:∀k,k≠D→(w.putObj D (.deferred none)).heap[k]?=w.heap[k]?:=fun k hk=>World.putObj_heap_other hk;have cQ:∀id b g,m id=some b→b.owns (φ id) g→g≠D:=fun id b g hm hg e=>by
  subst e;have hR:=hM.dG id b hm;rcases hg with hg|⟨i,off,hr,hg⟩
  rotate_left
  ·obtain⟨c,T,z,h2⟩:=hR.SH hr hg;rw[hh]at h2;cases h2
  cases b with
  |nest sz et es=>obtain⟨_,_,_,_,_,_,a7⟩:=hR;rw[hg]at a7;obtain⟨c,c1,_⟩:=a7;rw[hh]at c1;cases c1
  |e8 kt e0 es=>obtain⟨g',en,clock,kk,bV,h2,_⟩:=hR;rw[hg]at bV;cases bV;rw[hh]at h2;cases h2
  |box cs=>obtain⟨g',c,T,bV,h2,_⟩:=hR;rw[hg]at bV;cases bV;rw[hh]at h2;cases h2
  |arr sz et es=>obtain⟨_,_,_,_,_,_,a7⟩:=hR;rw[hg]at a7;obtain⟨c,c1,_⟩:=a7;rw[hh]at c1;cases c1
  |nZ sz et es=>obtain⟨⟨_,_,_,_,_,_,a7⟩,_⟩:=hR;rw[hg]at a7;obtain⟨c,c1,_⟩:=a7;rw[hh]at c1;cases c1
  |map kt es=>obtain⟨g',en,clock,kk,bV,h2,_⟩:=hR;rw[hg]at bV;cases bV;rw[hh]at h2;cases h2
  |loop st=>obtain⟨g',rc,bV,h2⟩:=hR;rw[hg]at bV;cases bV;rw[hh]at h2;cases h2
  |iter t es cur=>obtain⟨g',mg,en,clock,seen,bV,h2,_⟩:=hR;rw[hg]at bV;cases bV;rw[hh]at h2;cases h2
 refine⟨hM.below.trans ((jG.putObj w D _).mono hB),fun b o hb=>?_,fun g cs hg=>(hM.aH g cs hg).off hc,fun id b hm=>(hM.dG id b hm).off hc hM.ro fun g hg=>AR g (cQ id b g hm hg),fun id b g hm hg=>?_,hM.inj,hM.apart,hM.fp,fun b o hb bu=>?_,fun b o hb=>?_,fun id st hm=>?_⟩
 ·unfold Aj at hb;split at hb
  ·cases hb
  ·rename_i e;rw[AR b e];exact hM.ro b o hb
 ·obtain⟨h1,h2⟩:=hM.own id b g hm hg;refine⟨h1,fun G0=>?_⟩;unfold Aj;rw[if_neg (cQ id b g hm hg)];exact h2 G0
 ·unfold Aj at hb;split at hb
  ·cases hb
  ·exact hM.base b o hb bu
 ·unfold Aj;rw[if_neg fun e=>by subst e;rw[hk]at hb;cases hb];exact hM.dB b o hb
 ·obtain⟨g,rc,h1,h2,h3⟩:=hM.zO id st hm;exact⟨g,rc,h1,h2,by rw[AR g (cQ id _ g hm (.inl h1))];exact h3⟩
end
section
variable {E:Env} {w0:bx}
theorem xL{R:Ending→World→Prop}{f:Fr}{m:Mem}{φ:Nat→aG}{fn:Func}{tmps:Array Value}:∀(Ds:List Nat){μ:Ro}{w:World},Ds.Nodup→(∀D∈Ds,w0.heap.size≤D∧w0.dB D=none∧μ D=some (.deferred (some [])))→Rel E.P E.aH E.fn.ntmps w0 μ φ f m {tmps,defers:=[]} w→(∀μ' w',Rel E.P E.aH E.fn.ntmps w0 μ' φ f m {tmps,defers:=[]} w'→∃v,(results fn tmps).run E.P w'=.ok v w'∧R (.returned v) w')→LeavesInM (FR none) 0 E.P fn tmps R (Ds.map fun D=>{target:=.collected D,args:= #[]}) .returning w
 |[],μ,w,_,_,hR,tZ=>tZ μ w hR
 |D::Ds,μ,w,hn,hD,hR,tZ=>by obtain⟨h1,h2,h3⟩:=hD D (by simp);obtain⟨n1,n2⟩:=List.nodup_cons.1 hn;have hM:=hR.toaz.shut h1 h2 h3;refine⟨by simp,.inl ⟨D,_,rfl,run_takeDeferred (hR.ro _ _ h3),?_⟩⟩;refine xL Ds n2 (fun D' NM=>?_) {toaz:=hM,size:=hR.size,defers:=.nil _ _ _,kW:=hR.kW,fr:=fun t=>(hR.fr t).off (N6 h3),live:=hR.live} tZ;obtain⟨a1,a2,a3⟩:=hD D' (by simp[NM]);refine⟨a1,a2,?_⟩;unfold Aj;rw[if_neg fun e=>by subst e;exact n1 NM];exact a3
theorem qF(hE:iP E)(hY:rD E.P E.aH E.fn.ntmps E.yl w0)(hko:∀b o,w0.dB b=some o→w0.kW b=some o){g:FuncId}{c:Code}(hf:E.P.funcs[g]?=some E.fn)(hb:E.fn.body=some c){xs:Array Value}{R:Ending→World→Prop}{S:Type}{f:Fr}{m:Mem}{k:Ex→Fr→Mem→Option S}{r:S}(h:fg E c f m k=some r){μ:Ro}{φ:Nat→aG}{w:World}(hR:Rel E.P E.aH E.fn.ntmps w0 μ φ f m {tmps:=xs++Array.replicate (E.fn.ntmps-xs.size) undef,defers:=[]} w)(tZ:∀e f' m' μ' φ' tmps w',k e f' m'=some r→Rel E.P E.aH E.fn.ntmps w0 μ' φ' f' m' {tmps,defers:=[]} w'→(∀id,e≠.exit id)∧∃v,(results E.fn tmps).run E.P w'=.ok v w'∧R (.returned v) w'):Calls E.P g xs w R:=by
 refine(callsIn_wide (n:=0)).1 (callsIn_of_wp_marks (F:=FR none) hf hb trivial ?_);refine SG c hE hY (fun _=>rfl) h hR fun e f' m' μ' φ' a' w' hk iD=>?_;obtain⟨Ds,e1,e2,e3⟩:=iD.defers;have Eb:Rel E.P E.aH E.fn.ntmps w0 μ' φ' f' m' {tmps:=a'.tmps,defers:=[]} w':={toaz:=iD.toaz,size:=iD.size,defers:=.nil _ _ _,kW:=iD.kW,fr:=iD.fr,live:=iD.live};have key:(∀id,e≠.exit id)→LeavesInM (FR none) 0 E.P E.fn a'.tmps R a'.defers .returning w':=fun _=>by
  rw[e1];refine xL Ds e2 (fun D hd=>?_) Eb fun μ2 w2 hR3=>(tZ e f' m' μ2 φ' a'.tmps w2 hk hR3).2;obtain⟨a1,a2,a3⟩:=e3 D hd;refine⟨a1,?_,a3⟩;cases hq:w0.dB D with
  |none=>rfl
  |some o=>rw[hko D o hq]at a2;cases a2
 have cQ:=(tZ e f' m' μ' φ' a'.tmps w' hk Eb).1;cases e with
 |normal=>exact key cQ
 |ret=>exact key cQ
 |exit id=>exact absurd rfl (cQ id)
end
end Go.Ab
