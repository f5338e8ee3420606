import Derived.Test.YtmbihgjlollbeaaGreatAbP7
import Derived.RangeFuncIn
import Derived.Scope
set_option linter.all false
namespace Go.Ab
open Go.RowKit (Below)
section
variable {P:Program} {G:Nat→Option (List PV)} {w0:bO} {μ:Ro} {φ:Nat→aP} {m:Mem} {w:World}
theorem nD.putObj(w:World)(g:Nat)(o:Obj):nD g w (w.putObj g o):=⟨⟨rfl,rfl,rfl,by simp,fun k hk=>World.putObj_heap_other (by omega)⟩,fun _=>ast _⟩
theorem aL.CK(h:aL P G w0 μ φ m w){w1:bO}(hw:w1.w=w0.w)(QG:w1.mu=w0.mu)(hk:∀b o,w1.dY b=some o→μ b=some o)(hrc:∀id st,m id=some (.loop st)→w1.rc id=w0.rc id):aL P G w1 μ φ m w:=by obtain⟨a0,b0,c0,d0,e0⟩:=w0;obtain⟨a1,b1,c1,d1,e1⟩:=w1;simp only at hw QG;subst hw;subst QG;refine⟨h.below,h.ro,h.aW,h.dX,h.own,h.inj,h.apart,h.gz,h.base,hk,fun id st hid=>?_⟩;obtain⟨g,rc,h1,h2,h3⟩:=h.Jj id st hid;simp_all
def JB(μ:Ro)(w:World)(o:Obj):Ro:=fun b=>if b=w.heap.size then some o else μ b
theorem RJ(hM:aL P G w0 μ φ m w)(o:Obj):Ry μ (JB μ w o):=by intro b o' hb;have:=(apj.1 (hM.ro b o' hb)).1;unfold JB;grind
theorem aL.ag5(hM:aL P G w0 μ φ m w)(o:Obj):aL P G w0 (JB μ w o) φ m (w.alloc o):=by
 have hle:=RJ hM o;have hold:∀k,k<w.heap.size→(w.alloc o).heap[k]?=w.heap[k]?:=fun k hk=>nD.heap_alloc w o k hk;have rW:w0.heap.size≤w.heap.size:=hM.below.size;refine⟨hM.below.alloc hM.below.size o,fun b o' hb=>?_,fun g cs hg=>(hM.aW g cs hg).mono hle,fun id b hid=>?_,fun id b g hid hg=>?_,hM.inj,hM.apart,hM.gz,fun b o' hb cd=>?_,fun b o' hb=>hle b o' (hM.dY b o' hb),fun id st hid=>?_⟩
 ·unfold JB at hb;split at hb
  ·grind [heap_alloc_new]
  ·have:=hM.ro b o' hb;grind
 ·have hR:=hM.dX id b hid;exact hR.cF (fun _ _=>rfl) rfl hle (fun g hg=>hold g (hR.KZ hg))
 ·obtain⟨h1,h2⟩:=hM.own id b g hid hg;refine⟨h1,fun ab9=>?_⟩;have:=(hM.dX id b hid).KZ hg;unfold JB;grind
 ·unfold JB at hb;rw[IS (by omega)]at hb;exact hM.base b o' hb cd
 ·obtain⟨g,rc,h1,h2,h3⟩:=hM.Jj id st hid;grind
theorem aL.other(hM:aL P G w0 μ φ m w){g:Nat}(o:Obj)(hg:w0.heap.size≤g)(hμ:μ g=none)(Ii:∀id b,m id=some b→¬b.owns (φ id) g):aL P G w0 μ φ m (w.putObj g o):=by
 have Nt:∀k,k≠g→(w.putObj g o).heap[k]?=w.heap[k]?:=fun k hk=>World.putObj_heap_other hk;refine⟨hM.below.trans ((nD.putObj w g o).mono hg),fun b o' hb=>?_,hM.aW,fun id b hid=>?_,hM.own,hM.inj,hM.apart,hM.gz,hM.base,hM.dY,fun id st hid=>?_⟩
 ·rw[Nt b fun e=>by simp_all];exact hM.ro b o' hb
 ·have hR:=hM.dX id b hid;exact hR.cF (fun _ _=>rfl) rfl (fun _ _ h=>h) (fun g' du=>Nt g' fun e=>by simp_all)
 ·obtain⟨g',rc,h1,h2,h3⟩:=hM.Jj id st hid;exact⟨g',rc,h1,h2,by rw[Nt g' fun e=>by subst e;exact Ii id _ hid (.inl h1)];omega⟩
theorem aL.turn(hM:aL P G w0 μ φ m w){id g:Nat}{st st':TH}{rc:Loop}(hm:m id=some (.loop st))(hg:(φ id).g=some g)(hrc:w0.rc id=some (g,rc)):aL P G w0 μ φ (aD m id (.loop st')) (w.putObj g (.loop (st'.obj rc))):=by have cd:=(hM.dX id _ hm).KZ (.inl hg);have acd:(w.putObj g (.loop (st'.obj rc))).heap[g]?=some (.loop (st'.obj rc)):=World.putObj_heap_same cd;exact hM.write hm rfl hg (nD.putObj w g _) (by simp) (fun k hk=>World.putObj_heap_other hk) ⟨g,rc,hg,acd⟩ rfl (by simp[bX.names]) fun s hs=>by simp_all
end
section
variable {P:Program} {μ:Ro} {φ:Nat→aP}
theorem Ov{nt:Nat}:∀(ps:List Nat)(args:List V)(xs:List Value)(f:Fr)(tmps:Array Value),tmps.size=nt→args.length=xs.length→(∀t,t<nt→au P μ φ (f t) (tmps.getD t undef))→(∀(i:Nat)v x,args[i]?=some v→xs[i]?=some x→au P μ φ v x)→((ps.zip xs).foldl (fun tmps(x:Nat×Value)=>tmps.setIfInBounds x.1 x.2) tmps).size=nt∧∀t,t<nt→au P μ φ (KN ps args f t) (((ps.zip xs).foldl (fun tmps(x:Nat×Value)=>tmps.setIfInBounds x.1 x.2) tmps).getD t undef)
 |[],args,xs,f,tmps,hs,_,hf,_=>by cases args<;>exact⟨hs,hf⟩
 |p::ps,[],xs,f,tmps,hs,hl,hf,_=>by have:xs=[]:=aso (by simpa using hl.symm);subst this;exact⟨hs,hf⟩
 |p::ps,v::args,[],f,tmps,hs,hl,hf,_=>by simp at hl
 |p::ps,v::args,x::xs,f,tmps,hs,hl,hf,hr=>by
  simp only[auO,auD,KN];refine Ov ps args xs (ij f p v) (tmps.setIfInBounds p x) (by simpa using hs) (by simpa using hl) (fun t ht=>?_) (fun i u y hu hy=>hr (i+1) u y (by simpa using hu) (by simpa using hy));by_cases e:t=p
  ·subst e;rw[FH];have:(tmps.setIfInBounds t x).getD t undef=x:=by simp_all
   rw[this];exact hr 0 v x rfl rfl
  ·rw[wj e];have:(tmps.setIfInBounds p x).getD t undef=tmps.getD t undef:=by rw[asu,asu,atz,IS (fun h=>e h.symm)]
   rw[this];exact hf t ht
theorem LJ{id:Nat}:∀(ps:List Nat)(args:List V)(f:Fr)(t:Nat),(KN ps args f t).has id=true→cA id args=true∨(f t).has id=true
 |[],args,f,t,h=>by cases args<;>exact .inr h
 |p::ps,[],f,t,h=>.inr h
 |p::ps,v::args,f,t,h=>by
  simp only[KN]at h;rcases LJ ps args _ t h with h|h
  ·exact .inl (by simp[cA,h])
  ·by_cases e:t=p
   ·subst e;rw[FH]at h;exact .inl (by simp[cA,h])
   ·rw[wj e]at h;exact .inr h
theorem acS(ps:Array Nat)(xs:Array Value)(tmps:Array Value):(ps.zip xs).foldl (fun tmps(t,a)=>tmps.setIfInBounds t a) tmps=(ps.toList.zip xs.toList).foldl (fun tmps(x:Nat×Value)=>tmps.setIfInBounds x.1 x.2) tmps:=by rw[←Array.foldl_toList,Array.toList_zip]
end
variable{P:Program}{c:Code}{Q:Exit→Act→World→Prop}
theorem Ow{F:Fence}{nn:Nat}(I:Nat→Act→World→Prop)(round:∀n a w,I n a w→∃n',n=n'+1∧c.wpIn F nn P (Exit.then (I n') Q) a w):∀n a w,I n a w→(Code.loop c).wpIn F nn P Q a w:=by
 intro n a w hI b k cs B4 hb hr;have key:∀n a w,I n a w→∃e a' w',Q e a' w'∧ArrivesIn (Machine.fenced P F) P (lone (b.atR a (.code c::.inLoop c::k)) cs w) b k cs e a' w':=by
  intro n;induction n with
  |zero=>grind
  |succ n ih=>
   intro a w h;obtain⟨n',hn,k8⟩:=round _ a w h;have hn:n=n':=by omega
   subst hn;obtain⟨e,a₁,w₁,hq,LK⟩:=k8 b (.inLoop c::k) cs B4 hb hr;cases e with
   |normal=>obtain⟨e₂,a₂,w₂,am7,ag6⟩:=ih a₁ w₁ hq;exact⟨e₂,a₂,w₂,am7,.of_steps (StepsIn.trans LK (.one (fenced_calm hb hr rfl) stepR_inLoop)) ag6⟩
   |_=>exact⟨_,a₁,w₁,hq,.pass (x:=.inLoop c) rfl (fun _ _=>.inl (by simp)) LK⟩
 obtain⟨e,a',w',hq,LK⟩:=key n a w hI;exact⟨e,a',w',hq,.of_steps (.one (fenced_calm hb hr rfl) stepR_loop) LK⟩
theorem aam{rd:Option Nat}{n:Nat}{a:Act}{w:World}(h:c.wpIn (FR rd) n P (Exit.noGoto Q) a w):(Code.scope c).wpIn (FR rd) n P Q a w:=by
 intro b k cs B4 hb hr;obtain⟨e,a₁,w₁,hq,LK⟩:=h b (.inScope c::k) cs B4 hb hr;have s1:StepsIn (Machine.fenced P (FR rd)) P (lone (b.atR a (.code (.scope c)::k)) cs w) (lone (b.atR a (.code c::.inScope c::k)) cs w):=.one (fenced_calm hb hr rfl) (step_lone_go (by rfl));have s2:∀a w,StepsIn (Machine.fenced P (FR rd)) P (lone (b.atR a (.inScope c::k)) cs w) (lone (b.atR a k) cs w):=fun a w=>.one (fenced_calm hb hr rfl) (step_lone_go (by rfl));cases e with
 |normal=>exact⟨.normal,a₁,w₁,hq,s1.trans (StepsIn.trans LK (s2 _ _))⟩
 |exit id=>exact⟨.exit id,a₁,w₁,hq,fun k' hk=>s1.trans (LK.1 k' (by simp[exitTo,hk])),fun hr hk=>let⟨k₁,h1,h2⟩:=LK.2 hr (by simp[exitTo,hk]);⟨k₁,h1,s1.trans h2⟩⟩
 |goto l=>exact hq.elim
 |ret=>exact⟨_,a₁,w₁,hq,.of_steps s1 LK⟩
 |panic ch=>exact⟨_,a₁,w₁,hq,.of_steps s1 LK⟩
 |outgrown=>exact⟨_,a₁,w₁,hq,.of_steps s1 LK⟩
mutual
theorem WG:∀{v u:V},v.same u=true→v=u
 |.op i o,u,h=>by cases u<;>simp only[V.same,amm,cQ]at h;rw[Ka h.1,Ka h.2]
 |.oe i a o,u,h=>by cases u<;>simp only[V.same,amm,cQ]at h;rw[Ka h.1.1,Ka h.1.2,Ka h.2]
 |.os i,u,h=>by cases u<;>simp only[V.same,cQ]at h;rw[Ka h]
 |.om i,u,h=>by cases u<;>simp only[V.same,cQ]at h;rw[Ka h]
 |.yl i,u,h=>by cases u<;>simp only[V.same,cQ]at h;rw[Ka h]
 |.it i,u,h=>by cases u<;>simp only[V.same,cQ]at h;rw[Ka h]
 |.jC,u,h=>by cases u<;>simp only[V.same,cQ]at h;rfl
 |.fn f cs,u,h=>by cases u<;>simp only[V.same,amm,cQ]at h;rw[Ka h.1,RL h.2]
 |.pv p,u,h=>by
  cases u<;>try (cases p<;>simp[V.same]at h;done)
  rename_i q;cases p<;>cases q<;>first|rfl|(simp[V.same]at h;done)|(simp only[V.same,amm,cT]at h;rw[h.1,h.2])
 |.gx _ _ _,u,h=>by cases u<;>simp[V.same]at h
 |.agg _,u,h=>by cases u<;>simp[V.same]at h
 |.aG _,u,h=>by cases u<;>simp[V.same]at h
 |.top,u,h=>by cases u<;>simp[V.same]at h
theorem RL:∀{vs us:List V},NP vs us=true→vs=us
 |[],us,h=>by
  cases us with
  |nil=>rfl
  |cons _ _=>simp[NP]at h
 |v::vs,us,h=>by
  cases us with
  |nil=>simp[NP]at h
  |cons u us=>simp only[NP,amm]at h;rw[WG h.1,RL h.2]
end
variable{R:Type}
theorem WH{T:Type}:∀{l5:List Sh}{vs:List V}{t:T}{k:Wf l5 T→Option R}{r:R},l6 l5 vs t k=some r→∃x,k x=some r∧yo l5 x=(vs,t)∧vs.length=l5.length∧∀M,(∀sh∈l5,sh.within M=true)→mN M vs=true:=by
 intro l5;induction l5 with
 |nil=>
  intro vs t k r h;cases vs with
  |nil=>exact⟨t,h,rfl,rfl,fun _ _=>rfl⟩
  |cons v vs=>simp[l6]at h
 |cons sh l5 ih=>
  intro vs t k r h;cases vs with
  |nil=>cases sh<;>simp[l6]at h
  |cons v vs=>
   have push:∀{M},v.within M=true→mN M vs=true→mN M (v::vs)=true:=fun h1 h2=>by simp[mN,h1,h2]
   cases sh with
   |own u=>
    simp only[l6]at h;split at h
    ·rename_i hs;obtain⟨x,x1,x2,x3,x4⟩:=ih h;have:=WG hs;subst this;refine⟨x,x1,by simp only[yo];rw[x2],by simp[x3],fun M hM=>push ?_ (x4 M fun s hs=>hM s (by simp[hs]))⟩;exact hM (.own u) (by simp)
    ·cases h
   |int q=>
    cases v<;>try (simp[l6]at h;done)
    rename_i p;cases p<;>try (simp[l6]at h;done)
    simp only[l6]at h;split at h
    ·rename_i hq;subst hq;obtain⟨x,x1,x2,x3,x4⟩:=ih h;exact⟨_,x1,by simp only[yo];rw[x2],by simp[x3],fun M hM=>push rfl (x4 M fun s hs=>hM s (by simp[hs]))⟩
    ·cases h
   |row id off=>
    cases v<;>try (simp[l6]at h;done)
    rename_i yn i Ba;simp only[l6]at h;split at h
    ·rename_i hq;obtain⟨rfl,rfl⟩:=hq;obtain⟨x,x1,x2,x3,x4⟩:=ih h;exact⟨_,x1,by simp_all[yo,are],by simp[x3],fun M hM=>push (hM (.row yn Ba) (by simp)) (x4 M fun s hs=>hM s (by simp[hs]))⟩
    ·cases h
   |raw=>
    cases v<;>try (simp[l6]at h;done)
    simp only[l6]at h;obtain⟨x,x1,x2,x3,x4⟩:=ih h;exact⟨_,x1,by simp only[yo];rw[x2],by simp[x3],fun M hM=>push rfl (x4 M fun s hs=>hM s (by simp[hs]))⟩
   |bool=>
    cases v<;>try (simp[l6]at h;done)
    rename_i p;cases p<;>try (simp[l6]at h;done)
    simp only[l6]at h;obtain⟨x,x1,x2,x3,x4⟩:=ih h;exact⟨_,x1,by simp only[yo];rw[x2],by simp[x3],fun M hM=>push rfl (x4 M fun s hs=>hM s (by simp[hs]))⟩
   |str=>
    cases v<;>try (simp[l6]at h;done)
    rename_i p;cases p<;>try (simp[l6]at h;done)
    simp only[l6]at h;obtain⟨x,x1,x2,x3,x4⟩:=ih h;exact⟨_,x1,by simp only[yo];rw[x2],by simp[x3],fun M hM=>push rfl (x4 M fun s hs=>hM s (by simp[hs]))⟩
   |rp n=>
    cases v<;>try (simp[l6]at h;done)
    rename_i p;cases p<;>try (simp[l6]at h;done)
    rename_i cs;simp only[l6]at h;split at h
    ·rename_i hq;obtain⟨x,x1,x2,x3,x4⟩:=ih h;have he:aQ n (.agg cs)=cs:=by
      apply asB;intro j;by_cases hj:j<n
      ·have hl:j<(aQ n (.agg cs)).length:=by rw[bt];omega
       rw[cN hl];obtain⟨_,h6⟩:=sB (cN hl);simp_all[cell,PV.cells,List.getD]
      simp_all[atG,bt]
     exact⟨_,x1,by simp only[yo];rw[x2,he],by simp[x3],fun M hM=>push rfl (x4 M fun s hs=>hM s (by simp[hs]))⟩
    ·cases h
   |fs s=>
    cases v<;>try (simp[l6]at h;done)
    rename_i p;simp only[l6]at h;obtain⟨ls,hls,h⟩:=By.1 h;obtain⟨x,x1,x2,x3,x4⟩:=ih h;exact⟨_,x1,by grind [yo,Wu],by simp[x3],fun M hM=>push rfl (x4 M fun s hs=>hM s (by simp[hs]))⟩
   |rs sz=>
    cases v<;>try (simp[l6]at h;done)
    rename_i p;cases p<;>try (simp[l6]at h;done)
    simp only[l6]at h;split at h
    ·rename_i hq;subst hq;obtain⟨x,x1,x2,x3,x4⟩:=ih h;exact⟨_,x1,by simp only[yo];rw[x2],by simp[x3],fun M hM=>push rfl (x4 M fun s hs=>hM s (by simp[hs]))⟩
    ·cases h
theorem FW:∀{l:List (Nat×Option bX)}{id:Nat}{b:bX},Kz l id=some b→∃x∈l,x.1=id∧x.2=some b
 |[],_,_,h=>by simp[Kz]at h
 |(d,b')::r,id,b,h=>by
  simp only[Kz]at h;cases e:Nat.beq id d with
  |true=>rw[e]at h;exact⟨(d,b'),by simp,(Ka e).symm,h⟩
  |false=>rw[e]at h;obtain⟨x,hx,h1,h2⟩:=FW h;exact⟨x,by simp[hx],h1,h2⟩
theorem G9:∀{l:List (Nat×Option bX)}{id:Nat},(∀x∈l,x.2.isSome=true)→(∃x∈l,x.1=id)→(Kz l id).isSome=true
 |[],_,_,⟨x,hx,_⟩=>by cases hx
 |(d,b')::r,id,h,⟨x,hx,he⟩=>by
  simp only[Kz];cases e:Nat.beq id d with
  |true=>simp_all
  |false=>
   rcases asm.1 hx with rfl|hx
   ·simp_all
   ·exact G9 (fun y hy=>h y (by simp[hy])) ⟨x,hx,he⟩
theorem ag7{m:Mem}:∀{bs:List (Nat×GH)}{k:QD bs→Option R}{r:R},Ao m bs k=some r→∃x,k x=some r∧(iV bs x).map (·.1)=bs.map (·.1)∧(∀y∈iV bs x,∃b,y.2=some b∧m y.1=some b)∧∀M,(∀y∈bs,y.2.within M=true)→∀y∈iV bs x,∀b,y.2=some b→b.within M=true:=by
 intro bs;induction bs with
 |nil=>intro k r h;exact⟨(),h,rfl,by simp[iV],by simp[iV]⟩
 |cons y bs ih=>
  intro k r h;obtain⟨id,sh⟩:=y;cases sh with
  |box cs=>
   simp only[Ao]at h;split at h
   ·rename_i vs hm;obtain⟨t,t1,t2,t3,t4⟩:=ih h;obtain⟨x,x1,x2,x3,x4⟩:=WH t1;refine⟨x,x1,by simp only[iV,x2];simp[t2],fun y hy=>?_,fun M hM y hy b hb=>?_⟩
    ·simp only[iV,x2]at hy;grind
    ·simp only[iV,x2]at hy;rcases asm.1 hy with rfl|hy
     ·simp only[cO]at hb;subst hb;simp only[bX.within];refine x4 M fun s hs=>?_;have:=hM (id,.box cs) (by simp);grind [GH.within,List.all_eq_true]
     grind
   ·cases h
  |arr sz et=>
   simp only[Ao]at h;split at h
   ·rename_i M8 M9 es hm;split at h
    ·rename_i he;obtain⟨rfl,rfl⟩:=he;obtain⟨t,t1,t2,t3,t4⟩:=ih h;refine⟨(es,t),t1,by simp only[iV];simp[t2],fun y hy=>?_,fun M hM y hy b hb=>?_⟩
     ·simp only[iV]at hy;grind
     ·simp only[iV]at hy;rcases asm.1 hy with rfl|hy
      ·simp only[cO]at hb;subst hb;rfl
      grind
    ·cases h
   ·cases h
  |vK sz et=>
   simp only[Ao]at h;split at h
   ·rename_i M8 M9 es hm;split at h
    ·rename_i he;obtain⟨rfl,rfl⟩:=he;obtain⟨t,t1,t2,t3,t4⟩:=ih h;refine⟨(es,t),t1,by simp only[iV];simp[t2],fun y hy=>?_,fun M hM y hy b hb=>?_⟩
     ·simp only[iV]at hy;grind
     ·simp only[iV]at hy;rcases asm.1 hy with rfl|hy
      ·simp only[cO]at hb;subst hb;rfl
      grind
    ·cases h
   ·cases h
  |nest sz et=>
   simp only[Ao]at h;split at h
   ·rename_i M8 M9 es hm;split at h
    ·rename_i he;obtain⟨rfl,rfl⟩:=he;obtain⟨t,t1,t2,t3,t4⟩:=ih h;refine⟨(es,t),t1,by simp only[iV];simp[t2],fun y hy=>?_,fun M hM y hy b hb=>?_⟩
     ·simp only[iV]at hy;grind
     ·simp only[iV]at hy;rcases asm.1 hy with rfl|hy
      ·simp only[cO]at hb;subst hb;rfl
      grind
    ·cases h
   ·cases h
  |fU kt et=>
   simp only[Ao]at h;split at h
   ·rename_i Cx M9 es hm;split at h
    ·rename_i he;obtain⟨rfl,rfl⟩:=he;obtain⟨t,t1,t2,t3,t4⟩:=ih h;refine⟨(es,t),t1,by simp only[iV];simp[t2],fun y hy=>?_,fun M hM y hy b hb=>?_⟩
     ·simp only[iV]at hy;grind
     ·simp only[iV]at hy;rcases asm.1 hy with rfl|hy
      ·simp only[cO]at hb;subst hb;rfl
      grind
    ·cases h
   ·cases h
  |map kt=>
   simp only[Ao]at h;split at h
   ·rename_i Cx es hm;split at h
    ·rename_i he;subst he;obtain⟨t,t1,t2,t3,t4⟩:=ih h;refine⟨(es,t),t1,by simp only[iV];simp[t2],fun y hy=>?_,fun M hM y hy b hb=>?_⟩
     ·simp only[iV]at hy;grind
     ·simp only[iV]at hy;rcases asm.1 hy with rfl|hy
      ·simp only[cO]at hb;subst hb;rfl
      grind
    ·cases h
   ·cases h
  |iter ty=>
   simp only[Ao]at h;split at h
   ·rename_i t' es hm;split at h
    ·rename_i he;subst he;obtain⟨t,t1,t2,t3,t4⟩:=ih h;refine⟨(es,t),t1,by simp only[iV];simp[t2],fun y hy=>?_,fun M hM y hy b hb=>?_⟩
     ·simp only[iV]at hy;grind
     ·simp only[iV]at hy;rcases asm.1 hy with rfl|hy
      ·simp only[cO]at hb;subst hb;rfl
      grind
    ·cases h
   ·cases h
  |loop=>
   simp only[Ao]at h;split at h
   ·rename_i hm;obtain⟨t,t1,t2,t3,t4⟩:=ih h;refine⟨t,t1,by simp only[iV];simp[t2],fun y hy=>?_,fun M hM y hy b hb=>?_⟩
    ·simp only[iV]at hy;grind
    ·simp only[iV]at hy;rcases asm.1 hy with rfl|hy
     ·simp only[cO]at hb;subst hb;rfl
     grind
   ·cases h
  |busy=>
   simp only[Ao]at h;split at h
   ·rename_i hm;obtain⟨t,t1,t2,t3,t4⟩:=ih h;refine⟨t,t1,by simp only[iV];simp[t2],fun y hy=>?_,fun M hM y hy b hb=>?_⟩
    ·simp only[iV]at hy;grind
    ·simp only[iV]at hy;rcases asm.1 hy with rfl|hy
     ·simp only[cO]at hb;subst hb;rfl
     grind
   ·cases h
mutual
theorem LL{M:List Nat}{id:Nat}:∀(v:V),v.within M=true→v.has id=true→id∈M
 |.agg cs,h,hh=>tL cs (by simpa only[V.within]using h) (by simpa only[V.has]using hh)
 |.aG cs,h,hh=>tL cs (by simpa only[V.within]using h) (by simpa only[V.has]using hh)
 |.fn _ cs,h,hh=>tL cs (by simpa only[V.within]using h) (by simpa only[V.has]using hh)
 |.os j,h,hh=>by have:=Ka hh;subst this;simpa[V.within]using h
 |.gx j _ _,h,hh=>by have:=Ka hh;subst this;simpa[V.within]using h
 |.oe j _ _,h,hh=>by have:=Ka hh;subst this;simpa[V.within]using h
 |.om j,h,hh=>by have:=Ka hh;subst this;simpa[V.within]using h
 |.CC j _ _,h,hh=>by have:=Ka hh;subst this;simpa[V.within]using h
 |.GI j _ _ _ _ _,h,hh=>by have:=Ka hh;subst this;simpa[V.within]using h
 |.op j _,h,hh=>by have:=Ka hh;subst this;simpa[V.within]using h
 |.it j,h,hh=>by have:=Ka hh;subst this;simpa[V.within]using h
 |.yl j,h,hh=>by have:=Ka hh;subst this;simpa[V.within]using h
 |.pv _,_,hh=>by cases hh
 |.jC,_,hh=>by cases hh
 |.top,_,hh=>by cases hh
theorem tL{M:List Nat}{id:Nat}:∀(cs:List V),mN M cs=true→cA id cs=true→id∈M
 |[],_,hh=>by cases hh
 |v::r,h,hh=>by
  simp only[mN,amm]at h;simp only[cA,asz]at hh;rcases hh with hh|hh
  ·exact LL v h.1 hh
  ·exact tL r h.2 hh
end
theorem acT{f:Fr}:∀(cj:List (Nat×Sh))(t:Nat),TS (vY cj (cj.map fun(x:Nat×Sh)=>f x.1)) t=f t∨TS (vY cj (cj.map fun(x:Nat×Sh)=>f x.1)) t=.top
 |[],t=>.inr rfl
 |(d,s)::r,t=>by
  simp only[ass,vY,TS,ij];cases e:Nat.beq t d with
  |true=>simp_all
  |false=>exact acT r t
theorem LM{f:Fr}{M:List Nat}:∀(cj:List (Nat×Sh)),mN M (cj.map fun(x:Nat×Sh)=>f x.1)=true→∀t,(TS (vY cj (cj.map fun(x:Nat×Sh)=>f x.1)) t).within M=true
 |[],_,t=>rfl
 |(d,s)::r,h,t=>by
  simp only[ass,mN,amm]at h;simp only[ass,vY,TS,ij];cases e:Nat.beq t d with
  |true=>simp_all
  |false=>exact LM r h.2 t
theorem LN{T:NL}{f:Fr}{m:Mem}{k:T.ty→Option R}{r:R}(h:enc T f m k=some r):∃x,k x=some r∧Cg (TY T x) f∧(∀id b,KM T x id=some b→m id=some b)∧(∀t id,(TY T x t).has id=true→(KM T x id).isSome=true)∧∀j cs id,KM T x j=some (.box cs)→cA id cs=true→(KM T x id).isSome=true:=by
 unfold enc at h;split at h
 ·rename_i sJ;obtain⟨t,t1,t2,t3,t4⟩:=ag7 h;obtain⟨x,x1,x2,x3,x4⟩:=WH t1;simp only[NL.ok,amm,asV]at sJ;have kY:∀id,id∈T.FB.map (·.1)→(KM T x id).isSome=true:=fun id hid=>by
   unfold KM;rw[x2];refine G9 (fun y hy=>?_) ?_
   ·grind
   grind
  refine⟨x,x1,fun s=>?_,fun id b hb=>?_,fun s id hid=>kY id ?_,fun j cs id hj hh=>kY id ?_⟩
  ·simp_all[TY,acT]
  ·unfold KM at hb;grind [FW]
  ·have hw:=x4 (T.FB.map (·.1)) fun s hs=>by simp only[NL.l5,asC]at hs;grind
   have:=LM (M:=T.FB.map (·.1)) T.cj hw s;unfold TY at hid;grind [LL]
  ·unfold KM at hj;rw[x2]at hj;obtain⟨y,hy,h1,h2⟩:=FW hj;have:=t4 (T.FB.map (·.1)) (fun z hz=>sJ.2 z hz) y hy _ h2;grind [tL,bX.within]
 ·cases h
section
variable {E:Env} {w0:bO}
variable{nt:Nat}{μ:Ro}{φ:Nat→aP}{f:Fr}{m:Mem}{a:Act}{w:World}
theorem Rel.dec{f':Fr}{m':Mem}(h:Rel E.P E.aW nt w0 μ φ f m a w)(hf:Cg f' f)(hm:∀id b,m' id=some b→m id=some b)(hl:∀t id,(f' t).has id=true→(m' id).isSome=true)(hb:∀j cs id,m' j=some (.box cs)→cA id cs=true→(m' id).isSome=true):Rel E.P E.aW nt w0 μ φ f' m' a w:={below:=h.below,ro:=h.ro,aW:=h.aW,dX:=fun id b hb=>h.dX id b (hm id b hb),own:=fun id b g hb hg=>h.own id b g (hm id b hb) hg,inj:=fun id1 id2 b1 b2 g h1 h2=>h.inj id1 id2 b1 b2 g (hm _ _ h1) (hm _ _ h2),apart:=fun id b hb=>h.apart id b (hm id b hb),gz:=hb,base:=h.base,dY:=h.dY,Jj:=fun id st hid=>h.Jj id st (hm _ _ hid),size:=h.size,defers:=h.defers,py:=h.py,fr:=(h.weaken hf).fr,live:=hl}
theorem Rel.set(h:Rel E.P E.aW nt w0 μ φ f m a w){t:Nat}{p:PV}(hp:av E.P μ p (cj nt w0 a t)):Rel E.P E.aW nt w0 μ φ (ij f t (.pv p)) m a w:=
 {toaL:=h.toaL,size:=h.size,defers:=h.defers,py:=h.py,fr:=fun s=>by
   by_cases e:s=t
   ·subst e;rw[FH];exact .pv hp
   ·rw[wj e];exact h.fr s,
  live:=fun s id hid=>by
   by_cases e:s=t
   ·simp_all
   ·rw[wj e]at hid;exact h.live s id hid}
theorem Rel.freeze{nt:Nat}{μ:Ro}{φ:Nat→aP}{f:Fr}{m:Mem}{a:Act}{w:World}(h:Rel E.P E.aW nt w0 μ φ f m a w){id sz:Nat}{et:TypeId}{es:List PV}(hm:m id=some (.arr sz et es)):Rel E.P E.aW nt w0 (uR μ w (φ id).g) φ f (aD m id (.vK sz et es)) a w:=
 {toaL:=h.toaL.freeze hm,size:=h.size,defers:=h.defers.mono (oH h.toaL _),py:=h.py,fr:=fun s=>(h.fr s).E3 (oH h.toaL _),live:=fun s i hid=>by
   by_cases e:i=id
   ·simp_all
   ·rw[aF e];exact h.live s i hid}
theorem AF{A:Type}{nt:Nat}{a:Act}{w:World}:∀{l:List (Nat×Nat)}{μ:Ro}{φ:Nat→aP}{f:Fr}{m:Mem}{k:Fr→Mem→A}{r:A},Jf l f m k=r→Rel E.P E.aW nt w0 μ φ f m a w→∃f' m' μ',k f' m'=r∧Rel E.P E.aW nt w0 μ' φ f' m' a w
 |[],μ,φ,f,m,k,r,h,hR=>⟨f,m,μ,h,hR⟩
 |(t,sz)::l,μ,φ,f,m,k,r,h,hR=>by
  unfold Jf at h;split at h
  ·rename_i id hf;have hx:au E.P μ φ (.os id) (cj nt w0 a t):=hf▸hR.fr t;split at h
   ·rename_i s et es hm;have hF:=hR.freeze hm;have hA:=hF.toaL.arr (.inr (cg m id _));have hp:av E.P (uR μ w (φ id).g) (.rs s es) (cj nt w0 a t):=hA.full hF.toaL (hx.E3 (oH hR.toaL _)) (fun _ _ h=>h) (fun g hg=>by simp[uR,hg]);exact AF h (hF.set hp)
   ·rename_i s et es hm;have hB:iK E.P μ φ w id (.vK s et es):=hR.dX id _ hm;have hp:av E.P μ (.rs s es) (cj nt w0 a t):=(hR.toaL.arr (.inr hm)).full hR.toaL hx (fun _ _ h=>h) (fun g hg=>by obtain⟨o,ho⟩:=asA.1 (hB.2 g hg);rw[ho,hR.ro _ _ ho]);exact AF h (hR.set hp)
   ·exact AF h hR
  ·rename_i hf;have hx:au E.P μ φ .jC (cj nt w0 a t):=hf▸hR.fr t;have hp:av E.P μ (.rs sz []) (cj nt w0 a t):=by generalize cj nt w0 a t=y at hx;cases hx;exact .ny
   exact AF h (hR.set hp)
  ·exact AF h hR
variable{id:Nat}
theorem RM{u:V}:∀(cs:List V)(j:Nat),cA id (cs.set j u)=true→cA id cs=true∨u.has id=true:=by
 intro cs j h;obtain⟨v,hv,hh⟩:=cW.1 h;rcases List.mem_or_eq_of_mem_set hv with h1|h1
 ·exact .inl (cW.2 ⟨v,h1,hh⟩)
 simp_all
theorem Rel.acU(h:Rel E.P E.aW nt w0 μ φ f m a w){j:Nat}{cs:List V}{u:V}(hm:m id=some (.box cs))(hj:cs[j]?=some .jC)(hu:au E.P μ φ u (.slice none 0 0))(hl:∀i,u.has i=true→(m i).isSome=true):Rel E.P E.aW nt w0 μ φ f (aD m id (.box (cs.set j u))) a w:=by
 have key:∀i b,aD m id (.box (cs.set j u)) i=some b→(i=id∧b=.box (cs.set j u))∨m i=some b:=fun i b hb=>by
  by_cases e:i=id
  ·simp_all
  simp_all[aF]
 have Fh:∀i,(m i).isSome=true→(aD m id (.box (cs.set j u)) i).isSome=true:=fun i hi=>by
  by_cases e:i=id
  ·simp_all
  ·rw[aF e];omega
 have back:∀i b,aD m id (.box (cs.set j u)) i=some b→∃b',m i=some b'∧(b.lL=true→b'.lL=true)∧b.rowAt=b'.rowAt:=fun i b hb=>by
  rcases key i b hb with⟨rfl,rfl⟩|hb
  ·exact⟨_,hm,fun _=>rfl,rfl⟩
  simp_all
 exact
 {below:=h.below,ro:=h.ro,aW:=h.aW,dX:=fun i b hb=>by
   rcases key i b hb with⟨rfl,rfl⟩|hb
   ·obtain⟨g,c,T,c1,c2,c3,c4,c5,c6⟩:=h.dX _ _ hm;refine⟨g,c,T,c1,c2,by simpa using c3,fun i v x hv hx=>?_,c5,by simpa using c6⟩;rw[asU]at hv;split at hv
    ·rename_i e;subst e;split at hv
     ·simp only[cO]at hv;subst hv;have:=c4 j .jC x hj hx;cases this;omega
     ·cases hv
    ·exact c4 i v x hv hx
   ·exact h.dX i b hb,
  own:=fun i b g hb hg=>by obtain⟨b',ke,QG,B4⟩:=back i b hb;obtain⟨o1,o2⟩:=h.own i b' g ke (by simp_all[bX.owns]);simp_all,
  inj:=fun id1 id2 b1 b2 g h1 h2 g1 g2=>by obtain⟨b1',h1',_,r1⟩:=back id1 b1 h1;obtain⟨b2',h2',_,r2⟩:=back id2 b2 h2;exact h.inj id1 id2 b1' b2' g h1' h2' (by simp_all[bX.owns]) (by simp_all[bX.owns]),
  apart:=fun i b hb=>by obtain⟨b',ke,_,B4⟩:=back i b hb;have:=h.apart i b' ke;unfold bX.apart at this⊢;rw[B4];omega,
  gz:=fun i T5 yn hi hid=>by
   rcases key i _ hi with⟨rfl,he⟩|hi
   ·simp only[bX.box.injEq]at he;subst he;rcases RM _ _ hid with hid|hid
    ·exact Fh _ (h.gz _ _ _ hm hid)
    simp_all
   ·exact Fh _ (h.gz _ _ _ hi hid),
  base:=h.base,dY:=h.dY,
  Jj:=fun i st hi=>by
   rcases key i _ hi with⟨_,he⟩|hi
   ·cases he
   ·exact h.Jj i st hi,
  size:=h.size,defers:=h.defers,py:=h.py,fr:=h.fr,
  live:=fun t i hid=>Fh _ (h.live t i hid)}
variable{et:TypeId}
theorem Rel.ajr(h:Rel E.P E.aW nt w0 μ φ f m a w){nid:Nat}(hn:m nid=none)(eS:0<bj E.P et):∃φ',(φ' nid).g=none∧Rel E.P E.aW nt w0 μ φ' f (aD m nid (.arr (bj E.P et) et [])) a w:=by
 have hf:fresh false nid (.arr (bj E.P et) et []) f m (fun f m _=>some (f,m))=some (f,aD m nid (.arr (bj E.P et) et [])):=by simp[fresh,hn]
 obtain⟨f1,m1,_,hk,_,_,Ce⟩:=eM hf;simp only[cO,amn]at hk;obtain⟨rfl,rfl⟩:=hk;obtain⟨φ',a1,a2,a3⟩:=Ce E.P E.aW w0 μ φ w w (cj nt w0 a) (JY none 0 0 (bj E.P et)) h.toaL ⟨h.fr,h.live⟩ ⟨nD.refl _ _,h.toaL.ro,fun _ _ _ _ _=>rfl,by simp,fun φ' hp _=>by refine⟨by rw[hp];rfl,by rw[hp],rfl,eS,by simp,by rw[hp];simp[maxLen],?_⟩;simp_all,by simp[bX.names],fun st h=>by cases h⟩;exact⟨φ',by rw[a1],{toaL:=a2,size:=h.size,defers:=h.defers,py:=h.py,fr:=a3.fr,live:=a3.live}⟩
theorem AG{A:Type}{nt:Nat}{a:Act}{w:World}:∀{l:List (Nat×Nat×Nat×TypeId)}{μ:Ro}{φ:Nat→aP}{f:Fr}{m:Mem}{k:Mem→A}{r:A},Jg E.P l m k=r→Rel E.P E.aW nt w0 μ φ f m a w→∃m' φ',k m'=r∧Rel E.P E.aW nt w0 μ φ' f m' a w
 |[],μ,φ,f,m,k,r,h,hR=>⟨m,φ,h,hR⟩
 |(id,j,nid,et)::l,μ,φ,f,m,k,r,h,hR=>by
  unfold Jg at h;split at h
  ·rename_i cs hm;split at h
   ·rename_i hj;split at h
    ·rename_i hn;split at h
     ·rename_i eS;obtain⟨φ',g0,l7⟩:=hR.ajr hn eS;have cV:id≠nid:=fun e=>by simp_all
      exact AG h (l7.acU (by rw[aF cV];omega) hj (.yp g0) fun i hi=>by have:=Ka hi;subst this;simp)
     ·exact AG h hR
    ·exact AG h hR
   ·exact AG h hR
  ·exact AG h hR
theorem Ha{A:Type}{nt:Nat}{a:Act}{w:World}:∀{l:List (Nat×Nat×Nat)}{μ:Ro}{φ:Nat→aP}{f:Fr}{m:Mem}{k:Mem→A}{r:A},NQ l m k=r→Rel E.P E.aW nt w0 μ φ f m a w→∃m',k m'=r∧Rel E.P E.aW nt w0 μ φ f m' a w
 |[],μ,φ,f,m,k,r,h,hR=>⟨m,h,hR⟩
 |(id,j,sz)::l,μ,φ,f,m,k,r,h,hR=>by
  unfold NQ at h;split at h
  ·rename_i cs hm;split at h
   ·rename_i hj;exact Ha h (hR.acU hm hj (.pv .ny) (fun i hi=>by cases hi))
   ·exact Ha h hR
  ·exact Ha h hR
theorem kc{T:Type}{l:List T}{n i:Nat}{e:T}(h:(l.take n)[i]?=some e):l[i]?=some e∧i<n:=by grind
theorem Rel.ag8(h:Rel E.P E.aW nt w0 μ φ f m a w){s:Nat}{es:List PV}(hm:m id=some (.arr s et es)):Rel E.P E.aW nt w0 μ φ f (aD m id (.nest s et es)) a w:=by
 have hA:aX E.P μ φ w id s et es:=h.dX id _ hm;have key:∀i b,aD m id (.nest s et es) i=some b→(i=id∧b=.nest s et es)∨m i=some b:=fun i b hb=>by
  by_cases e:i=id
  ·simp_all
  simp_all[aF]
 have Fh:∀i,(m i).isSome=true→(aD m id (.nest s et es) i).isSome=true:=fun i hi=>by
  by_cases e:i=id
  ·simp_all
  ·rw[aF e];omega
 have hN:bu E.P μ φ w id s et es:=by
  obtain⟨h1,h2,h3,h4,h5,h6,h7⟩:=hA;refine⟨h1,h2,h3,h4,h5,h6,?_⟩;cases hg:(φ id).g with
  |none=>rw[hg]at h7;omega
  |some g=>rw[hg]at h7;obtain⟨c,T,c1,c2,c3,c4,c5⟩:=h7;exact⟨c,T,c1,c2,c3,fun i e j p x he hp hx=>.pure (c4 i e j p x he hp hx),c5⟩
 have Ii:∀i off,(bX.nest s et es).rowAt i off=true→False:=fun i off hr=>by
  rcases mf hr with⟨_,_,_,e,s',rs,hb,he,hp⟩|⟨_,_,_,_,_,_,hb,_⟩
  ·cases hb;obtain⟨h1,h2,h3,h4,h5,h6,h7⟩:=hA;cases hg:(φ id).g with
   |none=>simp_all
   |some g=>
    rw[hg]at h7;obtain⟨c,T,c1,c2,c3,c4,c5⟩:=h7;have hi:i<es.length:=(OF.1 he).1;have hj:off<s:=by grind
    have cd:i*s+off<c.size:=by have:(i+1)*s≤(φ id).cap*s:=asj _ (by omega);grind
    exact Bool.noConfusion (av.Ki (c4 i e off _ _ he hp (aiX cd)))
  ·cases hb
 have asc:∀i off,(bX.arr s et es).rowAt i off=true→False:=vL;have hM:aL E.P E.aW w0 μ φ (aD m id (.nest s et es)) w:=by
  refine h.toaL.Wv (fun _ k=>k) (fun j b' hb=>?_) (fun j b' g hb hg=>?_) (fun j b' hb=>?_) (fun j cs i hb hh=>?_) (fun j st hb=>?_)
  ·rcases key j b' hb with⟨rfl,rfl⟩|hb
   ·exact hN
   ·exact h.dX j b' hb
  ·rcases key j b' hb with⟨rfl,rfl⟩|hb
   ·exact⟨j,_,hm,.inl (sE Ii hg),fun _=>rfl,rfl⟩
   grind
  ·rcases key j b' hb with⟨rfl,rfl⟩|hb
   ·exact wm Ii
   ·exact h.apart j b' hb
  ·rcases key j _ hb with⟨_,hb⟩|hb
   ·cases hb
   ·exact Fh _ (h.gz j cs i hb hh)
  grind
 exact{toaL:=hM,size:=h.size,defers:=h.defers,py:=h.py,fr:=h.fr,live:=fun t i hid=>Fh _ (h.live t i hid)}
theorem LO{A:Type}{nt:Nat}{a:Act}{w:World}:∀{l:List Nat}{μ:Ro}{φ:Nat→aP}{f:Fr}{m:Mem}{k:Mem→A}{r:A},Ra l m k=r→Rel E.P E.aW nt w0 μ φ f m a w→∃m',k m'=r∧Rel E.P E.aW nt w0 μ φ f m' a w
 |[],μ,φ,f,m,k,r,h,hR=>⟨m,h,hR⟩
 |id::l,μ,φ,f,m,k,r,h,hR=>by
  unfold Ra at h;split at h
  ·rename_i s et es hm;exact LO h (hR.ag8 hm)
  ·exact LO h hR
theorem Rel.cut(h:Rel E.P E.aW nt w0 μ φ f m a w){j d len s:Nat}{cs:List V}{es:List PV}(hm:m id=some (.box cs))(hj:cs[j]?=some (.gx d 0 len))(hd:m d=some (.arr s et es))(cV:d≠id):∃φ',Rel E.P E.aW nt w0 μ φ' (fD d f) (aD (aD (bF (bS d m) d) d (.arr s et (es.take len))) id (.box ((cs.map (yz d)).set j (.os d)))) a w:=by
 obtain⟨m',hm'⟩:∃m',m'=aD (aD (bF (bS d m) d) d (.arr s et (es.take len))) id (.box ((cs.map (yz d)).set j (.os d))):=⟨_,rfl⟩;rw[←hm'];obtain⟨g0,c,T,c1,c2,c3,c4,c5,c6⟩:=h.dX _ _ hm;have hA:aX E.P μ φ w d s et es:=h.dX d _ hd;have zj:j<cs.length:=(OF.1 hj).1;have hx:=c4 j _ _ hj (aiX (by omega));obtain⟨φ',f1,f2,f3,f4⟩:∃φ':Nat→aP,(∀i,i≠d→φ' i=φ i)∧(φ' d).g=(φ d).g∧aX E.P μ φ' w d s et (es.take len)∧au E.P μ φ' (.os d) c[j]:=by
  obtain⟨h1,h2,h3,h4,h5,h6,h7⟩:=hA;generalize c[j]=x at hx;cases hx with
  |wa hg=>refine⟨φ,fun _ _=>rfl,rfl,?_,.yp hg⟩;rw[hg]at h7;obtain⟨rfl,h7⟩:=h7;refine⟨h1,h2,h3,h4,by simp,h6,?_⟩;simp_all
  | @gx _ _ _ cap g ad hg hl ha hc hc'=>
   rw[hg]at h7;obtain⟨q,Tq,q1,q2,q3,q4,q5⟩:=h7;have hlen:(es.take len).length=len:=by simp_all
   have had:ad=⟨g,0,none⟩:=by simp_all
   subst had;refine⟨fun i=>if i=d then{φ d with cap:=cap,len:=len}else φ i,fun i hi=>IS hi,by simp,⟨by simp[hlen],by simpa using h2,h3,h4,fun i e he=>h5 i e (kc he).1,by simp;omega,?_⟩,?_⟩
   ·simp only[BY,hg];refine⟨q,Tq,q1,asZ (asj _ (by omega)) q2,by omega,fun i e j p x he hp hx=>q4 i e j p x (kc he).1 hp hx,fun i x hi hx=>q5 i x (Nat.lt_of_lt_of_le hi (asj _ (by omega))) hx⟩
   ·have:=au.os (P:=E.P) (μ:=μ) (φ:=fun i=>if i=d then{φ d with cap:=cap,len:=len}else φ i) (id:=d) (g:=g) (by simp[hg]);simpa using this
 have key:∀i b,m' i=some b→(i=id∧b=.box ((cs.map (yz d)).set j (.os d)))∨(i=d∧b=.arr s et (es.take len))∨(i≠id∧i≠d∧∃b',m i=some b'∧b=il d b'):=fun i b hb=>by
  rw[hm']at hb;by_cases e:i=id
  ·simp_all
  ·rw[aF e]at hb;by_cases e':i=d
   ·simp_all
   simp_all[aF,gm]
 have Fh:∀i,(m i).isSome=true→(m' i).isSome=true:=fun i hi=>by
  rw[hm'];by_cases e:i=id
  ·simp_all
  ·rw[aF e];by_cases e':i=d
   ·simp_all
   simp_all[aF,zh]
 have ajs:∀{i:Nat}{b':bX},(il d b').names i=true→i≠d:=fun{i b'}hn=>by cases b'<;>simp only[il,bX.names]at hn<;>first|cases hn|exact(Ev hn).2
 have hM:aL E.P E.aW w0 μ φ' m' w:=by
  refine h.toaL.Wv (fun _ k=>k) (fun i b' hb=>?_) (fun i b' g hb hg=>?_) (fun i b' hb=>?_) (fun i T5 i' hb hh=>?_) (fun i st hb=>?_)
  ·rcases key i b' hb with⟨rfl,rfl⟩|⟨rfl,rfl⟩|⟨e1,e2,b2,yq,rfl⟩
   ·refine⟨g0,c,T,by grind,c2,by simpa using c3,fun n v x hv Px=>?_,c5,by grind⟩;rw[asU]at hv;split at hv
    ·simp_all
    ·simp only[AT,aqX]at hv;obtain⟨v',hv',rfl⟩:=hv;exact((c4 n v' x hv' Px).kill d).mono (fun _ _ h=>h) fun i hi=>f1 i (CL hi).2
   ·exact f3
   ·exact(h.dX i b2 yq).kill.cF (fun k hk=>f1 k (ajs hk)) (f1 i e2) (fun _ _ h=>h) (fun _ _=>rfl)
  ·rcases key i b' hb with⟨rfl,rfl⟩|⟨rfl,rfl⟩|⟨e1,e2,b2,yq,rfl⟩
   ·refine⟨i,_,hm,.inl ?_,fun _=>rfl,rfl⟩;have:=sE (by intro i off h;simp[bX.rowAt]at h) hg;grind
   ·refine⟨i,_,hd,.inl ?_,fun _=>rfl,rfl⟩;grind [sE,vL]
   ·refine⟨i,b2,yq,?_,fun QG=>by rw[Ew]at QG;omega,rfl⟩;rw[f1 i e2]at hg;exact hU.1 hg
  ·rcases key i b' hb with⟨rfl,rfl⟩|⟨rfl,rfl⟩|⟨e1,e2,b2,yq,rfl⟩
   ·grind [wm,bX.rowAt]
   ·exact wm vL
   ·rw[f1 i e2];exact Bf.2 (h.apart i b2 yq)
  ·rcases key i _ hb with⟨rfl,hb⟩|⟨rfl,hb⟩|⟨e1,e2,b2,yq,e⟩
   ·simp only[bX.box.injEq]at hb;subst hb;rcases RM _ _ hh with hh|hh
    ·exact Fh _ (h.gz _ _ _ hm (Ev hh).1)
    ·have:=Ka hh;simp_all
   ·cases hb
   ·cases b2 with
    |box cs2=>simp only[il,bX.box.injEq]at e;subst e;exact Fh _ (h.gz _ _ _ yq (Ev hh).1)
    |_=>simp[il]at e
  ·rcases key i _ hb with⟨rfl,hb⟩|⟨rfl,hb⟩|⟨e1,e2,b2,yq,e⟩
   ·cases hb
   ·cases hb
   ·cases b2 with
    |loop st2=>simp_all[il,bX.loop.injEq]
    |_=>simp[il]at e
 exact⟨φ',{toaL:=hM,size:=h.size,defers:=h.defers,py:=h.py,fr:=(fun t=>((h.fr t).kill d).mono (fun _ _ h=>h) fun i hi=>f1 i (CL hi).2),live:=fun t i hid=>Fh _ (h.live t i (CL hid).1)}⟩
theorem AH{A:Type}{nt:Nat}{a:Act}{w:World}:∀{l:List (Nat×Nat)}{μ:Ro}{φ:Nat→aP}{f:Fr}{m:Mem}{k:Fr→Mem→A}{r:A},Jh l f m k=r→Rel E.P E.aW nt w0 μ φ f m a w→∃f' m' φ',k f' m'=r∧Rel E.P E.aW nt w0 μ φ' f' m' a w
 |[],μ,φ,f,m,k,r,h,hR=>⟨f,m,φ,h,hR⟩
 |(id,j)::l,μ,φ,f,m,k,r,h,hR=>by
  unfold Jh at h;split at h
  ·rename_i cs hm;split at h
   ·rename_i d len hj;split at h
    ·rename_i s et es hd;split at h
     ·exact AH h hR
     ·rename_i cV;have cV:d≠id:=fun e=>cV (by simp_all);obtain⟨φ',l7⟩:=hR.cut hm hj hd cV;exact AH h l7
    ·exact AH h hR
   ·exact AH h hR
  ·exact AH h hR
theorem RN{A:Type}{T:NL}{k:Fr→Mem→A}{r:A}(h:NR E.P T f m k=r)(hR:Rel E.P E.aW nt w0 μ φ f m a w):∃f' m' μ' φ',k f' m'=r∧Rel E.P E.aW nt w0 μ' φ' f' m' a w:=by unfold NR at h;obtain⟨_,_,_,h,hR⟩:=AH h hR;obtain⟨m1,φ1,h,hR⟩:=AG h hR;obtain⟨m',h,hR⟩:=Ha h hR;obtain⟨m',h,hR⟩:=LO h hR;obtain⟨f',m',μ',h,hR⟩:=AF h hR;grind
def acV:Ex→Exit
 |.normal=>.normal
 |.exit id=>.exit id
 |.ret=>.ret
theorem Rel.acW(h:Rel E.P E.aW nt w0 μ φ f m a w):Rel E.P E.aW nt w0 μ φ f m a {w with drawn:=w.drawn+1}:={toaL:=h.toaL.drew,size:=h.size,defers:=h.defers,py:=h.py,fr:=h.fr,live:=h.live}
theorem aan{rd:Option Nat}(hE:mb E)(hY:Aq E.P E.aW E.fn.ntmps E.yl w0){R:Type}{ops:Array Oper}{draw:Bool}{k:Ex→Fr→Mem→Option R}{r:R}(h:gk E (.region id ops draw) f m k=some r){Q:Exit→Act→World→Prop}(hR:Rel E.P E.aW E.fn.ntmps w0 μ φ f m a w)(hQ:∀f' m' μ' φ' a' w',k .normal f' m'=some r→Rel E.P E.aW E.fn.ntmps w0 μ' φ' f' m' a' w'→Q .normal a' w'):(Code.region id ops draw).wpIn (FR rd) 0 E.P Q a w:=by
 simp only[gk]at h;cases draw with
 |false=>
  simp only[cQ,IT]at h;refine wpIn_region ?_;have hmz:∀x∈(List.range ops.size).zip ops.toList,ops[x.1]?=some x.2:=fun x hx=>by have:=(zo (l:=ops.toList) (i:=x.1) (o:=x.2)).1 (by omega);simp_all
  have:=j3 (rd:=rd) hE hY _ (.inl rfl) h hmz (by intro x hx g hg;cases hg) (fun h=>by omega) μ φ a w Q [] hR (by intro g hg;cases hg) fun f' m' μ' φ' a' w' hk l7 _ _=>hQ f' m' μ' φ' a' w' hk l7;simp_all[atf,List.map_fst_zip]
 |true=>
  simp only[BY]at h;split at h
  ·split at h
   ·rename_i hc;simp only[amm]at hc;exact wpIn_region_any hE.mixed (UE hE hY hc.1.1 hc.1.2 hc.2 h hR.acW hQ)
   ·cases h
  split at h
  ·rename_i hi;refine wpIn_region_any hE.mixed ?_;split at h
   ·rename_i yr;exact LI hE hY (.inl rfl) (fun _ o ho=>(Bool.and_eq_true_iff.1 (asV.1 yr o (atK.2 ho))).1) hi h hR.acW hQ
   ·exact LI hE hY (.inr rfl) (fun h=>by omega) hi h hR.acW hQ
  ·cases h
end
theorem ag9{g:FuncId}{fn:Func}(hf:P.funcs[g]?=some fn)(aio:(fn.name== "runtime.NumGoroutine")=false)(hb:fn.body=some c){args:Array Value}{w:World}:(callFunc g args).run P w=.ok (.enter g args) w:=EB hf aio hb
theorem aao{nt:Nat}{w0:bO}{a:Act}{t:Nat}:cj nt w0 a (t+nt)=w0.sv (t+nt):=by unfold cj;rw[IS (by omega)]
def Ir(c:Code):Prop:=∀{E:Env}{w0:bO}{rd:Option Nat}(_:mb E)(_:Aq E.P E.aW E.fn.ntmps E.yl w0)(_:E.rdb=false→rd=none){R:Type}{f:Fr}{m:Mem}{k:Ex→Fr→Mem→Option R}{r:R},gk E c f m k=some r→∀{μ:Ro}{φ:Nat→aP}{a:Act}{w:World}{Q:Exit→Act→World→Prop},Rel E.P E.aW E.fn.ntmps w0 μ φ f m a w→(∀e f' m' μ' φ' a' w',k e f' m'=some r→Rel E.P E.aW E.fn.ntmps w0 μ' φ' f' m' a' w'→Q (acV e) a' w')→c.wpIn (FR rd) 0 E.P Q a w
theorem acX{as b:Code}(ihA:Ir as)(ihB:Ir b){E:Env}(hE:mb E){w2:bO}{lid l ntI:Nat}{ps:Array Nat}{rc:Loop}{fid:Nat}(hrc:w2.rc lid=some (l,rc))(tU:rc.params=ps)(has:rc.assign=as)(hb:rc.body=b)(rW:rc.tmps.size=E.fn.ntmps)(hsv:∀t,t<E.fn.ntmps→w2.sv (t+ntI)=rc.tmps.getD t undef):Aq E.P E.aW ntI (fun _ nt _ id args F m k=>bif Nat.beq id lid then roundOf (gk {E with fid:=fid,yl:=HX,rdb:=true} as) (gk {E with fid:=fid,yl:=HX,rdb:=true} b) lid E.fn.ntmps ps.toList nt args F m k else none) w2:=by
 intro R site id args F m k r hy μ φ ρ w xs hM hF hρ hl hr Ps g hg;dsimp only at hy;cases hid:Nat.beq id lid with
 |false=>rw[hid]at hy;cases hy
 |true=>
  rw[hid]at hy;have hid:=Ka hid;subst hid;simp only[cond_true]at hy;unfold roundOf at hy;split at hy
  ·rename_i WI;split at hy
   ·rename_i Oa;obtain⟨g',rc',l1,l2,l3⟩:=hM.Jj id _ WI;rw[hrc]at l2;simp only[cO,amn]at l2;obtain⟨rfl,rfl⟩:=l2;rw[l1]at hg;simp only[cO]at hg;subst hg;have QH:xs.size=(TH.ready.obj rc).params.size:=by
     have:ps.toList.length=ps.size:=by simp
     show xs.size=rc.params.size;rw[tU];omega
    refine⟨_,_,_,_,run_yield l3 QH,?_⟩;have hE':mb {E with fid:=fid,yl:=HX,rdb:=true}:=⟨hE.mixed,hE.lp,hE.ctx,hE.own,hE.inl,hE.rng⟩;have aiA:=Ov (P:=E.P) (μ:=μ) (φ:=φ) ps.toList args xs.toList (CF ntI F) rc.tmps rW (by omega) (fun t ht=>by have:=hF.fr (t+ntI);rw[hρ _ (by omega),hsv t ht]at this;exact this) (fun i v x hv hx=>hr i v x hv (by simpa using hx));have hR3:Rel E.P E.aW E.fn.ntmps {w2 with sv:=fun t=>ρ (t-E.fn.ntmps),dY:=μ,py:=fun _=>none} μ φ (Wg E.fn.ntmps (KN ps.toList args (CF ntI F)) F) m {tmps:=((TH.ready.obj rc).params.zip xs).foldl (fun tmps(t,a)=>tmps.setIfInBounds t a) (TH.ready.obj rc).tmps,defers:=[]} w:=by
     have e:((TH.ready.obj rc).params.zip xs).foldl (fun tmps(t,a)=>tmps.setIfInBounds t a) (TH.ready.obj rc).tmps=(ps.toList.zip xs.toList).foldl (fun tmps(x:Nat×Value)=>tmps.setIfInBounds x.1 x.2) rc.tmps:=by rw[acS];show(rc.params.toList.zip xs.toList).foldl _ rc.tmps=_;rw[tU]
     rw[e];refine{toaL:=hM.CK rfl rfl (fun _ _ h=>h) (fun _ _ _=>rfl),size:=aiA.1,defers:=.nil _ _ _,py:=fun _ _ h=>(by cases h),fr:=fun t=>?_,live:=fun t id hid=>?_}
     ·unfold Wg cj;by_cases ht:t<E.fn.ntmps
      ·rw[show Nat.blt t E.fn.ntmps=true by simp_all,IN ht];exact aiA.2 t ht
      ·rw[show Nat.blt t E.fn.ntmps=false by rw[←atj,atl];omega,IS ht];exact hF.fr _
     ·unfold Wg at hid;cases e:Nat.blt t E.fn.ntmps with
      |true=>
       rw[e]at hid;rcases LJ _ _ _ _ hid with h|h
       ·exact Ps id h
       ·exact hF.live _ id h
      |false=>rw[e]at hid;exact hF.live _ id hid
    refine roundIn_of_wpIn trivial ?_;show(TH.ready.obj rc).assign.wpIn (FR (some l)) 0 E.P _ _ _;have ha':(TH.ready.obj rc).assign=as:=has;rw[ha'];refine ihA (rd:=some l) hE' (GQ _ _ _ _) (fun h=>by cases h) hy hR3 fun e f1 m1 μ1 φ1 a1 w1 hk1 Uz=>?_;split at hk1
    ·rename_i hm1;obtain⟨g1,rc1,p1,p2,p3⟩:=Uz.Jj id _ hm1;have p2:w2.rc id=some (g1,rc1):=p2;rw[hrc]at p2;simp only[cO,amn]at p2;obtain⟨rfl,rfl⟩:=p2;refine⟨_,run_beginRound p3 rfl,?_⟩;have ke:(TH.ready.obj rc).body=b:=hb;refine Eq.mpr (congrArg (fun c:Code=>c.wpIn (FR (some l)) 0 E.P _ a1 _) ke) ?_;have Bg:=Uz.toaL.turn (st':=.busy) hm1 p1 hrc;have aqg:Rel E.P E.aW E.fn.ntmps {w2 with sv:=fun t=>ρ (t-E.fn.ntmps),dY:=μ,py:=fun _=>none} μ1 φ1 f1 (aD m1 id (.loop .busy)) a1 (w1.putObj l (.loop {TH.ready.obj rc with state:=.busy})):=
      {toaL:=Bg,size:=Uz.size,defers:=Uz.defers,py:=Uz.py,fr:=Uz.fr,live:=fun t j hj=>by
        by_cases e:j=id
        ·subst e;simp
        ·rw[aF e];exact Uz.live t j hj}
     refine ihB (rd:=some l) hE' (GQ _ _ _ _) (fun h=>by cases h) hk1 aqg fun e f2 m2 μ2 φ2 a2 w2' Uj Of=>?_;split at Uj
     ·rename_i db;obtain⟨g2,rc2,q1,q2,q3⟩:=Of.Jj id _ db;have q2:w2.rc id=some (g2,rc2):=q2;rw[hrc]at q2;simp only[cO,amn]at q2;obtain⟨rfl,rfl⟩:=q2;have hle:Ry μ μ2:=Of.dY;have hFp:cp E.P μ2 φ2 m2 (CF E.fn.ntmps f2) ρ:=by refine⟨fun t=>?_,fun t id hid=>Of.live _ id hid⟩;have:=Of.fr (t+E.fn.ntmps);simp_all[aao,CF]
      have fin:∀(st:TH)(v:Bool),k (.pv (.bool v)) (CF E.fn.ntmps f2) (aD m2 id (.loop st))=some r→∃v' f' m' y μ' φ',k v' f' m'=some r∧Ending.returned (.bool v)=.returned y∧Ry μ μ'∧aL E.P E.aW w2 μ' φ' m' (w2'.putObj l (.loop (st.obj rc)))∧cp E.P μ' φ' m' f' ρ∧au E.P μ' φ' v' y∧∀id,v'.has id=true→(m' id).isSome=true:=by
       intro st v hk;have hM2:=Of.toaL.turn (st':=st) db q1 hrc;refine⟨_,_,_,_,μ2,φ2,hk,rfl,hle,hM2.CK rfl rfl (fun b o hb=>hle b o (hM.dY b o hb)) (fun _ _ _=>rfl),⟨hFp.fr,fun t j hj=>?_⟩,.pv .bool,fun id hid=>by cases hid⟩;by_cases e:j=id
       ·subst e;simp
       ·rw[aF e];exact hFp.live t j hj
      cases e with
      |normal=>exact⟨_,_,run_endRound none q3,fin .ready true Uj⟩
      |exit j=>exact⟨_,_,run_endRound (some (.exit j)) q3,fin (.done (.exit j)) false Uj⟩
      |ret=>exact⟨_,_,run_endRound (some .ret) q3,fin (.done .ret) false Uj⟩
     ·cases Uj
    ·cases hk1
   ·cases hy
  ·cases hy
theorem aha{μ:Ro}{φ:Nat→aP}{m:Mem}{v:V}{g:FuncId}{caps:List V}{y:Value}(h:ai0 v=some (g,caps))(hv:au P μ φ v y)(hl:∀id,v.has id=true→(m id).isSome=true):∃xs,y=.func (.func g) #[] xs∧caps.length=xs.size∧(∀(i:Nat)v x,caps[i]?=some v→xs[i]?=some x→au P μ φ v x)∧∀id,cA id caps=true→(m id).isSome=true:=by
 unfold ai0 at h;split at h
 ·rename_i g0 c0;cases e:Nat.blt g0 KA with
  |false=>rw[e]at h;cases h
  |true=>
  rw[e]at h;simp only[cond_true,cO,amn]at h;obtain⟨rfl,rfl⟩:=h;cases hv with
  | @fn _ _ xs h1 h2=>grind [wb,id,V.has]
 ·rename_i g0 c0;cases e:Nat.blt g0 KA with
  |false=>rw[e]at h;cases h
  |true=>
  rw[e]at h;simp only[cond_true,cO,amn]at h;obtain⟨rfl,rfl⟩:=h;cases hv with
  |pv hv=>cases hv with
   | @fn _ _ xs h1 h2=>
    refine⟨xs,wb e,by simpa using h1,fun i v x hv hx=>?_,fun id hid=>?_⟩
    ·simp only[AT,aqX]at hv;obtain⟨q,hq,rfl⟩:=hv;exact .pv (h2 i q x hq hx)
    ·obtain⟨v,hv,hh⟩:=cW.1 hid;obtain⟨q,_,rfl⟩:=asC.1 hv;cases hh
 ·cases h
theorem PM{g:Operand}{ps:Array Tmp}{as b:Code}(ihA:Ir as)(ihB:Ir b):Ir (.rangeFunc g ps as b):=by
 intro E w0 rd hE hY k8 R f m k r h μ φ a w Q hR hQ;simp only[gk]at h;split at h
 ·cases h
 rename_i hrb;have k8:=k8 (by simpa using hrb);subst k8;split at h;rotate_left
 ·cases h
 rename_i p0 pr QE;generalize asd:cS E (some p0)=lid at h;obtain⟨f1,m1,_,h,WI,Fb,aqh⟩:=eM h;obtain⟨hm0,rfl,rfl⟩:=Fb rfl;refine wpIn_rangeFunc fun fn _=>?_;obtain⟨rec,iW⟩:∃rec:Loop,rec={state:=.ready,pending:=none,fn,tmps:=a.tmps,params:=ps,assign:=as,body:=b,defers:=w.heap.size}:=⟨_,rfl⟩;obtain⟨wD,hwD⟩:∃wD,wD=w.alloc (.deferred (some [])):=⟨_,rfl⟩;obtain⟨W1,hW1⟩:∃W1,W1=wD.alloc (.loop rec):=⟨_,rfl⟩;obtain⟨l,hl⟩:∃l,l=wD.heap.size:=⟨_,rfl⟩;have hl':l=w.heap.size+1:=by rw[hl,hwD];simp
 obtain⟨μD,ajt⟩:∃μD,μD=JB μ w (.deferred (some [])):=⟨_,rfl⟩;have ahb:Ry μ μD:=ajt▸RJ hR.toaL _;have hMD:aL E.P E.aW w0 μD φ m wD:=ajt▸hwD▸hR.toaL.ag5 _;have hD:μD w.heap.size=some (.deferred (some [])):=by rw[ajt];simp[JB]
 obtain⟨w1,Nr⟩:∃w1:bO,w1={w0 with dY:=μD,rc:=fun i=>if i=lid then some (l,rec)else w0.rc i}:=⟨_,rfl⟩;have am8:aL E.P E.aW w1 μD φ m wD:=Nr▸hMD.CK rfl rfl (fun _ _ h=>h) (fun id st hid=>IS fun e=>by simp_all);have N2:cj E.fn.ntmps w1 a=cj E.fn.ntmps w0 a:=by subst Nr;rfl
 have hFD:cp E.P μD φ m f1 (cj E.fn.ntmps w0 a):=⟨fun t=>(hR.fr t).E3 ahb,hR.live⟩;have am9:w1.rc lid=some (l,rec):=by simp_all
 have acd:W1.heap[l]?=some (.loop rec):=by grind [heap_alloc_new]
 have QF:TH.ready.obj rec=rec:=by subst iW;rfl
 have oK:nA E.P w1 μD φ m wD W1 lid (.loop .ready) (JY (some l) 0 0 0):=by
  rw[hW1];refine nA.alloc am8 (by rw[hl]) (fun φ' hp _=>⟨l,rec,by rw[hp],?_⟩) (by simp[bX.names]) fun st uQ=>?_
  ·simp_all
  simp_all
 obtain⟨φ1,aqi,Bg,J1⟩:=aqh E.P E.aW w1 μD φ wD W1 (cj E.fn.ntmps w0 a) (JY (some l) 0 0 0) am8 hFD oK;have Uz:Rel E.P E.aW E.fn.ntmps w1 μD φ1 f1 (aD m lid (.loop .ready)) a W1:={toaL:=Bg,size:=hR.size,defers:=(by have:=hR.defers.mono ahb;subst Nr;omega),py:=(by subst Nr;exact fun b o hb=>ahb b o (hR.dY b o (hR.py b o hb))),fr:=fun t=>by rw[N2];exact J1.fr t,live:=J1.live};have hop:=aA Uz g;split at h;rotate_left
 ·cases h
 rename_i gid caps vb;obtain⟨xs,hgv,hlen,nC,aqj⟩:=aha vb hop.1 hop.2
 ·clear hop;obtain⟨fnI,cI,f1,f2,f3,yE⟩:=hE.rng _ _ _ _ _ _ _ _ _ h;have hyl:au E.P μD φ1 (.yl lid) (.func (.yield l) #[] #[]):=.yl (by rw[aqi]);have hC:=yE w1 μD φ1 (cj E.fn.ntmps w0 a) W1 (#[.func (.yield l) #[] #[]]++xs) Bg J1 (by simp;omega) (fun i v x hv hx=>by
    grind) (fun id hid=>by
    simp only[cA,asz]at hid;rcases hid with hid|hid
    ·have:=Ka hid;subst this;simp
    ·exact aqj id hid) (by
   refine fun R site id args F m k r hy=>acX (fid:=site*4096+E.fid%4096) ihA ihB hE (w2:={w1 with sv:=fun t=>cj E.fn.ntmps w0 a (t-fnI.ntmps)}) (rc:=rec) (l:=l) (lid:=lid) (ps:=ps) am9 (by subst iW;rfl) (by subst iW;rfl) (by subst iW;rfl) (by subst iW;exact hR.size) (fun t ht=>by grind [cj,Nat.add_sub_cancel,vZ]) R site id args F m k r hy)
  refine⟨l,[{target:=.collected w.heap.size,args:= #[]}],W1,{target:=.fn (.func gid) xs,args:= #[.func (.yield l) #[] #[]]},W1,gid,#[.func (.yield l) #[] #[]]++xs,W1,?_,?_,?_,?_,?_,?_⟩
  ·have:=run_enterLoop_outer (P:=E.P) (w:=w) fn a.tmps ps as b;rw[hl',hW1,hwD,iW];exact this
  ·simp only[resolve,hgv];simp[go_sem]
  ·exact fun _ _=>trivial
  ·grind [invoke,ag9]
  ·decide
  ·refine FR.Wy (hC.mono ?_);rintro e w' ⟨v,f',m',y,μ',φ',hk,rfl,hM',hF',_,_⟩;have ana:Ry μD μ':=by have:=hM'.dY;subst Nr;omega
   have hD':μ' w.heap.size=some (.deferred (some [])):=ana _ _ hD;have main:∀st,m' lid=some (.loop st)→st≠.busy→∃w4,(Instr.endLoop l).run E.P w'=.ok (st.obj rec).pending w4∧Rel E.P E.aW E.fn.ntmps w0 μ' φ' (fD lid f') (bF (bS lid m') lid) {a with defers:=[{target:=.collected w.heap.size,args:= #[]}]++a.defers} w4:=by
    intro st uQ Wr;obtain⟨g',rc',p1,p2,p3⟩:=hM'.Jj lid st uQ;rw[am9]at p2;simp only[cO,amn]at p2;obtain⟨rfl,rfl⟩:=p2;have H7:=hM'.own lid _ _ uQ (.inl p1);have hMf:=hM'.forget lid;have Ii:∀id b,bF (bS lid m') lid id=some b→¬b.owns (φ' id) l:=fun id b' hid e=>by obtain⟨cV,b2,yq,rfl⟩:=gm hid;exact cV (hM'.inj id lid b2 _ l yq uQ (hU.1 e) (.inl p1))
    have hM4:=hMf.other (.loop {st.obj rec with state:=.exhausted}) H7.1 (H7.2 rfl) Ii;have hM5:aL E.P E.aW w0 μ' φ' (bF (bS lid m') lid) (w'.putObj l (.loop {st.obj rec with state:=.exhausted})):=hM4.CK (by subst Nr;rfl) (by subst Nr;rfl) (fun b o hb=>ana b o (ahb b o (hR.dY b o hb))) (fun id st hid=>by
      have cV:id≠lid:=fun e=>by subst e;simp at hid
      subst Nr;exact(IS cV).symm)
    refine⟨_,run_endLoop p3 (by cases st<;>simp_all[TH.obj]),{toaL:=hM5,size:=hR.size,defers:=?_,py:=hR.py,fr:=?_,live:=?_}⟩
    ·obtain⟨Ds,e,hnd,hDs⟩:=hR.defers;have cd:∀b o,μ b=some o→b<w.heap.size:=fun b o hb=>(apj.1 (hR.ro b o hb)).1;refine⟨w.heap.size::Ds,by simp[e],auA.2 ⟨fun hd=>?_,hnd⟩,fun D hd=>?_⟩
     ·grind
     ·rcases asm.1 hd with rfl|hd
      ·refine⟨hR.below.size,?_,hD'⟩;cases ho:w0.py w.heap.size with
       |none=>rfl
       |some o=>have:=cd _ _ (hR.dY _ _ (hR.py _ _ ho));omega
      grind
    ·exact(hF'.forget lid).fr
    ·exact(hF'.forget lid).live
   dsimp only at hk;split at hk
   ·rename_i uQ;obtain⟨w4,e1,e2⟩:=main .ready uQ (by simp);exact⟨none,w4,e1,hQ .normal _ _ _ _ _ _ hk e2⟩
   ·rename_i j uQ;obtain⟨w4,e1,e2⟩:=main (.done j) uQ (by simp);refine⟨some j.code,w4,e1,?_⟩;cases j with
    |ret=>exact wpIn_ret (hQ .ret _ _ _ _ _ _ hk e2)
    |exit id=>exact wpIn_exit (hQ (.exit id) _ _ _ _ _ _ hk e2)
   ·cases hk
theorem acY:∀(c:Code),Ir c:=by
 intro c;induction c with
 |skip=>intro E w0 rd hE hY k8 R f m k r h μ φ a w Q hR hQ;simp only[gk]at h;exact wpIn_skip (hQ .normal _ _ _ _ _ _ h hR)
 |region id ops draw=>intro E w0 rd hE hY k8 R f m k r h μ φ a w Q hR hQ;exact aan hE hY h hR (hQ .normal)
 |seq x y ihx ihy=>
  intro E w0 rd hE hY k8 R f m k r h μ φ a w Q hR hQ;simp only[gk]at h;refine wpIn_seq (ihx hE hY k8 h hR fun e f' m' μ' φ' a' w' hk l7=>?_);cases e with
  |normal=>exact ihy hE hY k8 hk l7 hQ
  |exit id=>exact hQ (.exit id) _ _ _ _ _ _ hk l7
  |ret=>exact hQ .ret _ _ _ _ _ _ hk l7
 |cond c x y ihx ihy=>
  intro E w0 rd hE hY k8 R f m k r h μ φ a w Q hR hQ;simp only[gk]at h;split at h
  ·rename_i t b hb;have hv:a.eval (.tmp t)=.bool b:=by have:=(aA hR (.tmp t)).1;grind [wz]
   have ke:f t=.pv (.bool b):=(Lq hb).2;have hle:Cg (ij f t (.pv (.bool b))) f:=fun s=>by
    simp only[ij];cases e:Nat.beq s t with
    |true=>simp_all
    |false=>simp
   cases b with
   |true=>simp only[BY]at h;exact wpIn_cond_true hv (ihx hE hY k8 h (hR.weaken hle) hQ)
   |false=>simp only[cQ,IT]at h;exact wpIn_cond_false hv (ihy hE hY k8 h (hR.weaken hle) hQ)
  ·cases h
 |block id b ih=>
  intro E w0 rd hE hY k8 R f m k r h μ φ a w Q hR hQ;simp only[gk]at h;refine wpIn_block (ih hE hY k8 h hR fun e f' m' μ' φ' a' w' hk l7=>?_);cases e with
  |normal=>exact hQ .normal _ _ _ _ _ _ hk l7
  |exit j=>
   simp only[Ex.abX]at hk;simp only[acV,Exit.inBlock];split at hk
   ·rename_i hj;rw[IN hj];exact hQ .normal _ _ _ _ _ _ hk l7
   ·rename_i hj;rw[IS hj];exact hQ (.exit j) _ _ _ _ _ _ hk l7
  |ret=>exact hQ .ret _ _ _ _ _ _ hk l7
 |loop b ih=>
  intro E w0 rd hE hY k8 R f m k r h μ φ a w Q hR hQ;simp only[gk]at h;split at h
  ·rename_i T _;obtain⟨f,m,μ,φ,h,hR⟩:=RN h hR;obtain⟨s,hs,s1,s2,s3,s4⟩:=LN h;obtain⟨n0,hs⟩:=hE.lp _ _ _ _ _ hs;refine Ow (fun n a w=>∃s μ φ,Rel E.P E.aW E.fn.ntmps w0 μ φ (TY T s) (KM T s) a w∧cE (fun s rec=>gk E b (TY T s) (KM T s) (Ex.Rb (fun f m=>NR E.P T f m fun f m=>enc T f m rec) k)) n s=some r) ?_ n0 a w ⟨s,μ,φ,hR.dec s1 s2 s3 s4,hs⟩;rintro n a w ⟨s,μ,φ,hR,hs⟩;cases n with
   |zero=>simp[cE]at hs
   |succ n=>
    refine⟨n,rfl,?_⟩;simp only[cE]at hs;refine ih hE hY k8 hs hR fun e f' m' μ' φ' a' w' hk l7=>?_;cases e with
    |normal=>obtain⟨f',m',μ',φ',hk,l7⟩:=RN hk l7;obtain⟨s',hs',t1,t2,t3,t4⟩:=LN hk;exact⟨s',μ',φ',l7.dec t1 t2 t3 t4,hs'⟩
    |exit j=>exact hQ (.exit j) _ _ _ _ _ _ hk l7
    |ret=>exact hQ .ret _ _ _ _ _ _ hk l7
  ·refine Ow (fun n a w=>∃f m μ φ,Rel E.P E.aW E.fn.ntmps w0 μ φ f m a w∧Q9 (fun f m rec=>gk E b f m (Ex.Rb rec k)) n f m=some r) ?_ E.u a w ⟨f,m,μ,φ,hR,h⟩;rintro n a w ⟨f,m,μ,φ,hR,hs⟩;cases n with
   |zero=>simp[Q9]at hs
   |succ n=>
    refine⟨n,rfl,?_⟩;simp only[Q9]at hs;refine ih hE hY k8 hs hR fun e f' m' μ' φ' a' w' hk l7=>?_;cases e with
    |normal=>exact⟨f',m',μ',φ',l7,hk⟩
    |exit j=>exact hQ (.exit j) _ _ _ _ _ _ hk l7
    |ret=>exact hQ .ret _ _ _ _ _ _ hk l7
 |exit id=>intro E w0 rd hE hY k8 R f m k r h μ φ a w Q hR hQ;simp only[gk]at h;exact wpIn_exit (hQ (.exit id) _ _ _ _ _ _ h hR)
 |label l=>intro E w0 rd hE hY k8 R f m k r h μ φ a w Q hR hQ;simp only[gk]at h;exact wpIn_label (hQ .normal _ _ _ _ _ _ h hR)
 |ret=>intro E w0 rd hE hY k8 R f m k r h μ φ a w Q hR hQ;simp only[gk]at h;exact wpIn_ret (hQ .ret _ _ _ _ _ _ h hR)
 |scope b ih=>intro E w0 rd hE hY k8 R f m k r h μ φ a w Q hR hQ;simp only[gk]at h;exact aam (ih hE hY k8 h hR fun e f' m' μ' φ' a' w' hk l7=>by cases e<;>exact hQ _ _ _ _ _ _ _ hk l7)
 |rangeFunc g ps as b ihA ihB=>exact PM ihA ihB
 |_=>intro E w0 rd hE hY k8 R f m k r h;simp[gk]at h
def Obj.aju:Obj→Bool
 |.cells .. =>true
 |.map .. =>true
 |_=>false
def WJ(μ μ':Ro):Prop:=∀b o,μ b=some o→Obj.aju o=true→μ' b=some o
theorem WJ.trans{a b c:Ro}(h:WJ a b)(k:WJ b c):WJ a c:=fun x o hx ho=>k x o (h x o hx ho) ho
section
variable {P:Program} {G:Nat→Option (List PV)} {w0:bO} {μ μ':Ro} {φ:Nat→aP} {m:Mem} {w w':World}
variable{x:Value}
theorem LP(h:WJ μ μ'){b o:Nat}(hx:cellAt μ b o=some x):cellAt μ' b o=some x:=by
 unfold cellAt at*;split at hx
 ·rename_i c t fz hb;rw[h _ _ hb rfl];omega
 ·cases hx
theorem av.off(h:WJ μ μ'){p:PV}(hp:av P μ p x):av P μ' p x:=by
 induction hp with
 |int h=>exact .int h
 |bool=>exact .bool
 |str h=>exact .str h
 |agg h1 _ h3 ih=>exact .agg h1 ih h3
 |aG h1 _ ih=>exact .aG h1 ih
 |vT=>exact .vT
 |rp X h1 _ h3 ih=>exact .rp X (fun i p hi=>LP h (h1 i p hi)) ih h3
 |ny=>exact .ny
 |Ni h=>exact .Ni h
 |rs X h1 h2 h3 h4 _ h6 ih=>exact .rs X h1 h2 h3 (fun i e j p hi hj=>LP h (h4 i e j p hi hj)) ih h6
 |A3=>exact .A3
 |rm h1 h2 h3 h4 h5 _ _ ih1 ih2=>exact .rm (h _ _ h1 rfl) h2 h3 h4 h5 ih1 ih2
 |JW=>exact .JW
 |fn h1 _ ih=>exact .fn h1 ih
 |ab3=>exact .ab3
 |agH=>exact .agH
 |bad=>exact .bad
theorem E2.off(h:WJ μ μ'){g:Nat}{cs:List PV}(hv:E2 P μ g cs):E2 P μ' g cs:=⟨hv.rep.off h,let⟨c,T,z,h1,h2⟩:=hv.size;⟨c,T,z,h _ _ h1 rfl,h2⟩⟩
theorem au.off(h:WJ μ μ'){v:V}{x:Value}(hv:au P μ φ v x):au P μ' φ v x:=by
 induction hv with
 |pv hp=>exact .pv (hp.off h)
 |jC=>exact .jC
 |op hg=>exact .op hg
 |oe hg=>exact .oe hg
 |yp hg=>exact .yp hg
 |os hg=>exact .os hg
 |wa hg=>exact .wa hg
 |gx hg hl ha hc hc'=>exact .gx hg hl ha hc hc'
 |Pt hg=>exact .Pt hg
 |CC hg=>exact .CC hg
 |GI hg hs=>exact .GI hg hs
 |om hg=>exact .om hg
 |yl hg=>exact .yl hg
 |it hg=>exact .it hg
 |fn h1 _ ih=>exact .fn h1 ih
 |agg h1 _ h3 ih=>exact .agg h1 ih h3
 |aG h1 _ ih=>exact .aG h1 ih
 |top=>exact .top
theorem aX.off(h:WJ μ μ'){id sz:Nat}{et:TypeId}{es:List PV}(ha:aX P μ φ w id sz et es)(hw:∀g,(φ id).g=some g→w'.heap[g]?=w.heap[g]?):aX P μ' φ w' id sz et es:=by
 obtain⟨a1,a2,a3,a4,a5,a6,a7⟩:=ha;refine⟨a1,a2,a3,a4,a5,a6,?_⟩;cases hg:(φ id).g with
 |none=>rw[hg]at a7;omega
 |some g=>rw[hg]at a7;obtain⟨c,T,c1,c2,c3,c4,c5⟩:=a7;exact⟨c,T,by rw[hw g hg];omega,c2,c3,fun i e j p x h1 h2 h3=>(c4 i e j p x h1 h2 h3).off h,c5⟩
theorem fm.off(hh:WJ μ μ'){R:Jk}{s:Nat}{rs:List PV}{x:Value}(h:fm P μ R w s rs x)(hw:∀g,R.g=some g→w'.heap[g]?=w.heap[g]?):fm P μ' R w' s rs x:=
 let⟨⟨et,hA⟩,hV⟩:=h
 ⟨⟨et,hA.off hh hw⟩,hV.off hh⟩
theorem eH.off(hh:WJ μ μ'){R:Jk}{p:PV}{x:Value}(h:eH P μ R w p x)(hw:p.isRow=true→∀g,R.g=some g→w'.heap[g]?=w.heap[g]?):eH P μ' R w' p x:=by
 unfold eH at*;split at h
 ·exact fm.off hh h (hw rfl)
 ·exact av.off hh h
theorem bu.off(hh:WJ μ μ'){id sz:Nat}{et:TypeId}{es:List PV}(h:bu P μ φ w id sz et es)(hw:∀g,(bX.nest sz et es).owns (φ id) g→w'.heap[g]?=w.heap[g]?):bu P μ' φ w' id sz et es:=by
 obtain⟨a1,a2,a3,a4,a5,a6,a7⟩:=h;refine⟨a1,a2,a3,a4,a5,a6,?_⟩;cases hg:(φ id).g with
 |none=>rw[hg]at a7;omega
 |some g=>rw[hg]at a7;obtain⟨c,T,c1,c2,c3,c4,c5⟩:=a7;exact⟨c,T,by rw[hw g (.inl hg)];omega,c2,c3,fun i e j p x h1 h2 h3=>(c4 i e j p x h1 h2 h3).off hh fun hr g' du=>hw g' (.inr ⟨i,j,by rw[dS h1 h2];omega,du⟩),c5⟩
theorem fm.WK{R:Jk}{s g:Nat}{rs:List PV}(h:fm P μ R w s rs x)(hg:R.g=some g):∃c T z,w.heap[g]?=some (.cells c T z):=by obtain⟨⟨et,_,_,_,_,_,_,a7⟩,_⟩:=h;have du:R.up.g=some g:=hg;grind
theorem iK.acZ{id g i off:Nat}{b:bX}(h:iK P μ φ w id b)(hr:b.rowAt i off=true)(hg:((φ id).row i off).g=some g):∃c T z,w.heap[g]?=some (.cells c T z):=by
 rcases mf hr with⟨sz,et,es,e,s,rs,rfl,he,hp⟩|⟨kt,e0,es,k,s,rs,rfl,rfl,he⟩
 ·have hN:bu P μ φ w id sz et es:=h;have hgg:∃g0,(φ id).g=some g0:=by
   cases hq:(φ id).g with
   |some g0=>simp
   |none=>have a7:=hN.2.2.2.2.2.2;simp_all
  obtain⟨g0,T2⟩:=hgg;obtain⟨c,_,x,_,_,c3,_⟩:=hN.cell T2 he hp;exact fm.WK (show fm P μ _ w s rs x from c3) hg
 ·obtain⟨g0,en,clock,kk,T2,hh,hs,hk,hc,Cy,hv⟩:=h;have hi:i<en.size:=by grind
  have h3:=(hv i k _ en[i] he (aiX hi)).2;exact fm.WK (P:=P) (μ:=μ) (R:=(φ id).row i 0) (s:=s) (rs:=rs) (x:=en[i].val) ⟨⟨_,h3.1⟩,h3.2⟩ hg
theorem iK.off(h:WJ μ μ')(B4:∀b o,μ b=some o→w.heap[b]?=some o){id:Nat}{b:bX}(hb:iK P μ φ w id b)(hw:∀g,b.owns (φ id) g→w'.heap[g]?=w.heap[g]?):iK P μ' φ w' id b:=by
 cases b with
 |nest sz et es=>exact bu.off h hb hw
 |fU kt e0 es=>
  obtain⟨g,en,clock,kk,hg,hh,hs,hk,hc,Cy,hv⟩:=hb;refine⟨g,en,clock,kk,hg,by rw[hw g (.inl hg)];omega,hs,hk,hc,Cy,fun i k v e h1 h2=>⟨(hv i k v e h1 h2).1.off h,?_⟩⟩;have h3:=(hv i k v e h1 h2).2;split at h3
  ·exact⟨h3.1.off h fun g' du=>hw g' (.inr ⟨i,0,by rw[me h1];rfl,du⟩),h3.2.off h⟩
  ·exact h3.off h
 |box cs=>obtain⟨g,c,T,hg,hh,hs,hv,h1,JZ⟩:=hb;exact⟨g,c,T,hg,by rw[hw g (.inl hg)];omega,hs,fun i v x hi hx=>(hv i v x hi hx).off h,h1,JZ⟩
 |arr sz et es=>exact aX.off h hb fun g hg=>hw g (.inl hg)
 |vK sz et es=>refine⟨aX.off h hb.1 fun g hg=>hw g (.inl hg),fun g hg=>?_⟩;obtain⟨o,ho⟩:=asA.1 (hb.2 g hg);obtain⟨_,_,_,_,_,_,a7⟩:=hb.1;rw[hg]at a7;obtain⟨c,_,c1,_⟩:=a7;have:=B4 g o ho;rw[c1]at this;cases this;rw[h _ _ ho rfl];rfl
 |map kt es=>obtain⟨g,en,clock,kk,hg,hh,hs,hk,hc,Cy,hv⟩:=hb;exact⟨g,en,clock,kk,hg,by rw[hw g (.inl hg)];omega,hs,hk,hc,Cy,fun i k v e h1 h2=>⟨(hv i k v e h1 h2).1.off h,(hv i k v e h1 h2).2.off h⟩⟩
 |iter t es cur=>obtain⟨g,mg,en,clock,seen,hg,hh,QG,Cy,JZ,hv,hcu⟩:=hb;exact⟨g,mg,en,clock,seen,hg,by rw[hw g (.inl hg)];omega,h _ _ QG rfl,Cy,JZ,fun i k v e h1 h2=>⟨(hv i k v e h1 h2).1.off h,(hv i k v e h1 h2).2.off h⟩,fun k v hc=>let⟨i,e,h1,h2,h3,h4⟩:=hcu k v hc;⟨i,e,h1,h2,h3.off h,h4.off h⟩⟩
 |loop st=>obtain⟨g,rc,hg,hh⟩:=hb;exact⟨g,rc,hg,by rw[hw g (.inl hg)];omega⟩
def JC(μ:Ro)(D:Nat):Ro:=fun b=>if b=D then none else μ b
theorem WL{D:Nat}(hD:μ D=some (.deferred (some []))):WJ μ (JC μ D):=by intro b o hb ho;unfold JC;rw[IS fun e=>by subst e;rw[hD]at hb;cases hb;cases ho];omega
theorem aL.shut(hM:aL P G w0 μ φ m w){D:Nat}(hB:w0.heap.size≤D)(hk:w0.dY D=none)(hD:μ D=some (.deferred (some []))):aL P G w0 (JC μ D) φ m (w.putObj D (.deferred none)):=by
 have hc:=WL hD;have hh:=hM.ro _ _ hD;have Nt:∀k,k≠D→(w.putObj D (.deferred none)).heap[k]?=w.heap[k]?:=fun k hk=>World.putObj_heap_other hk;have cV:∀id b g,m id=some b→b.owns (φ id) g→g≠D:=fun id b g hm hg e=>by
  subst e;have hR:=hM.dX id b hm;rcases hg with hg|⟨i,off,hr,hg⟩
  rotate_left
  ·obtain⟨c,T,z,h2⟩:=hR.acZ hr hg;rw[hh]at h2;cases h2
  cases b with
  |nest sz et es=>obtain⟨_,_,_,_,_,_,a7⟩:=hR;simp_all
  |fU kt e0 es=>obtain⟨g',en,clock,kk,du,h2,_⟩:=hR;simp_all
  |box cs=>obtain⟨g',c,T,du,h2,_⟩:=hR;simp_all
  |arr sz et es=>obtain⟨_,_,_,_,_,_,a7⟩:=hR;simp_all
  |vK sz et es=>obtain⟨⟨_,_,_,_,_,_,a7⟩,_⟩:=hR;simp_all
  |map kt es=>obtain⟨g',en,clock,kk,du,h2,_⟩:=hR;simp_all
  |loop st=>obtain⟨g',rc,du,h2⟩:=hR;simp_all
  |iter t es cur=>obtain⟨g',mg,en,clock,seen,du,h2,_⟩:=hR;simp_all
 refine⟨hM.below.trans ((nD.putObj w D _).mono hB),fun b o hb=>?_,fun g cs hg=>(hM.aW g cs hg).off hc,fun id b hm=>(hM.dX id b hm).off hc hM.ro fun g hg=>Nt g (cV id b g hm hg),fun id b g hm hg=>?_,hM.inj,hM.apart,hM.gz,fun b o hb cd=>?_,fun b o hb=>?_,fun id st hm=>?_⟩
 ·unfold JC at hb;split at hb
  ·cases hb
  ·rename_i e;rw[Nt b e];exact hM.ro b o hb
 ·obtain⟨h1,h2⟩:=hM.own id b g hm hg;refine⟨h1,fun ab9=>?_⟩;unfold JC;simp_all
 ·unfold JC at hb;split at hb
  ·omega
  ·exact hM.base b o hb cd
 ·unfold JC;rw[IS fun e=>by simp_all];exact hM.dY b o hb
 ·obtain⟨g,rc,h1,h2,h3⟩:=hM.Jj id st hm;grind
end
section
variable {E:Env} {w0:bO}
theorem Hb{R:Ending→World→Prop}{f:Fr}{m:Mem}{φ:Nat→aP}{fn:Func}{tmps:Array Value}:∀(Ds:List Nat){μ:Ro}{w:World},Ds.Nodup→(∀D∈Ds,w0.heap.size≤D∧w0.dY D=none∧μ D=some (.deferred (some [])))→Rel E.P E.aW E.fn.ntmps w0 μ φ f m {tmps,defers:=[]} w→(∀μ' w',Rel E.P E.aW E.fn.ntmps w0 μ' φ f m {tmps,defers:=[]} w'→∃v,(results fn tmps).run E.P w'=.ok v w'∧R (.returned v) w')→LeavesInM (FR none) 0 E.P fn tmps R (Ds.map fun D=>{target:=.collected D,args:= #[]}) .returning w
 |[],μ,w,_,_,hR,Nu=>Nu μ w hR
 |D::Ds,μ,w,hn,hD,hR,Nu=>by obtain⟨h1,h2,h3⟩:=hD D (by simp);obtain⟨n1,n2⟩:=auA.1 hn;have hM:=hR.toaL.shut h1 h2 h3;refine⟨by simp,.inl ⟨D,_,rfl,run_takeDeferred (hR.ro _ _ h3),?_⟩⟩;refine Hb Ds n2 (fun D' hd'=>?_) {toaL:=hM,size:=hR.size,defers:=.nil _ _ _,py:=hR.py,fr:=fun t=>(hR.fr t).off (WL h3),live:=hR.live} Nu;obtain⟨a1,a2,a3⟩:=hD D' (by simp[hd']);refine⟨a1,a2,?_⟩;unfold JC;grind
theorem ze(hE:mb E)(hY:Aq E.P E.aW E.fn.ntmps E.yl w0)(hko:∀b o,w0.dY b=some o→w0.py b=some o){g:FuncId}{c:Code}(hf:E.P.funcs[g]?=some E.fn)(hb:E.fn.body=some c){xs:Array Value}{R:Ending→World→Prop}{S:Type}{f:Fr}{m:Mem}{k:Ex→Fr→Mem→Option S}{r:S}(h:gk E c f m k=some r){μ:Ro}{φ:Nat→aP}{w:World}(hR:Rel E.P E.aW E.fn.ntmps w0 μ φ f m {tmps:=xs++Array.replicate (E.fn.ntmps-xs.size) undef,defers:=[]} w)(Nu:∀e f' m' μ' φ' tmps w',k e f' m'=some r→Rel E.P E.aW E.fn.ntmps w0 μ' φ' f' m' {tmps,defers:=[]} w'→(∀id,e≠.exit id)∧∃v,(results E.fn tmps).run E.P w'=.ok v w'∧R (.returned v) w'):Calls E.P g xs w R:=by
 refine(callsIn_wide (n:=0)).1 (callsIn_of_wp_marks (F:=FR none) hf hb trivial ?_);refine acY c hE hY (fun _=>rfl) h hR fun e f' m' μ' φ' a' w' hk l7=>?_;obtain⟨Ds,e1,e2,e3⟩:=l7.defers;have Of:Rel E.P E.aW E.fn.ntmps w0 μ' φ' f' m' {tmps:=a'.tmps,defers:=[]} w':={toaL:=l7.toaL,size:=l7.size,defers:=.nil _ _ _,py:=l7.py,fr:=l7.fr,live:=l7.live};have key:(∀id,e≠.exit id)→LeavesInM (FR none) 0 E.P E.fn a'.tmps R a'.defers .returning w':=fun _=>by
  rw[e1];refine Hb Ds e2 (fun D hd=>?_) Of fun μ2 w2 hR3=>(Nu e f' m' μ2 φ' a'.tmps w2 hk hR3).2;obtain⟨a1,a2,a3⟩:=e3 D hd;refine⟨a1,?_,a3⟩;cases hq:w0.dY D with
  |none=>rfl
  |some o=>simp_all
 have cV:=(Nu e f' m' μ' φ' a'.tmps w' hk Of).1;cases e with
 |normal=>exact key cV
 |ret=>exact key cV
 |exit id=>simp_all
end
end Go.Ab
