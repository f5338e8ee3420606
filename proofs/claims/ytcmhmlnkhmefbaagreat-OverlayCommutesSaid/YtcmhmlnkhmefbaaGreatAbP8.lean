import Derived.Test.YtcmhmlnkhmefbaaGreatAbP7
import Derived.RangeFuncIn
import Derived.Scope
set_option linter.unusedVariables false
namespace Go.Ab
open Go.RowKit (Below)
section
variable {P:Program} {G:Nat→Option (List PV)} {w0:bx} {μ:Ro} {φ:Nat→aF} {m:Mem} {w:World}
theorem jw.putObj(w:World)(g:Nat)(o:Obj):jw g w (w.putObj g o):=⟨⟨rfl,rfl,rfl,by simp,fun k hk=>World.putObj_heap_other (by omega)⟩,fun _=>Nat.le_refl _⟩
theorem ax.tg(h:ax P G w0 μ φ m w){w1:bx}(hw:w1.w=w0.w)(Bb:w1.mu=w0.mu)(hk:∀b o,w1.dC b=some o→μ b=some o)(UD:∀id st,m id=some (.loop st)→w1.rc id=w0.rc id):ax P G w1 μ φ m w:=by obtain⟨a0,b0,c0,d0,e0⟩:=w0;obtain⟨a1,b1,c1,d1,e1⟩:=w1;simp only at hw Bb;subst hw;subst Bb;refine⟨h.below,h.ro,h.aH,h.dI,h.own,h.inj,h.apart,h.fi,h.base,hk,fun id st hid=>?_⟩;obtain⟨g,rc,h1,h2,h3⟩:=h.y8 id st hid;exact⟨g,rc,h1,(UD id st hid).trans h2,h3⟩
def zs(μ:Ro)(w:World)(o:Obj):Ro:=fun b=>if b=w.heap.size then some o else μ b
theorem GU(hM:ax P G w0 μ φ m w)(o:Obj):GJ μ (zs μ w o):=by intro b o' hb;have:=(Array.getElem?_eq_some_iff.1 (hM.ro b o' hb)).1;unfold zs;rw[if_neg (by omega)];exact hb
theorem ax.UE(hM:ax P G w0 μ φ m w)(o:Obj):ax P G w0 (zs μ w o) φ m (w.alloc o):=by
 have hle:=GU hM o;have hold:∀k,k<w.heap.size→(w.alloc o).heap[k]?=w.heap[k]?:=fun k hk=>jw.heap_alloc w o k hk;have kM:w0.heap.size≤w.heap.size:=hM.below.size;refine⟨hM.below.alloc hM.below.size o,fun b o' hb=>?_,fun g cs hg=>(hM.aH g cs hg).mono hle,fun id b hid=>?_,fun id b g hid hg=>?_,hM.inj,hM.apart,hM.fi,fun b o' hb br=>?_,fun b o' hb=>hle b o' (hM.dC b o' hb),fun id st hid=>?_⟩
 ·unfold zs at hb;split at hb
  ·rename_i e;subst e;cases hb;exact heap_alloc_new w o
  ·have:=hM.ro b o' hb;rw[hold b (Array.getElem?_eq_some_iff.1 this).1];exact this
 ·have hR:=hM.dI id b hid;exact hR.cH (fun _ _=>rfl) rfl hle (fun g hg=>hold g (hR.Bc hg))
 ·obtain⟨h1,h2⟩:=hM.own id b g hid hg;refine⟨h1,fun Gp=>?_⟩;have:=(hM.dI id b hid).Bc hg;unfold zs;rw[if_neg (by omega)];exact h2 Gp
 ·unfold zs at hb;rw[if_neg (by omega)]at hb;exact hM.base b o' hb br
 ·obtain⟨g,rc,h1,h2,h3⟩:=hM.y8 id st hid;exact⟨g,rc,h1,h2,by rw[hold g (Array.getElem?_eq_some_iff.1 h3).1];exact h3⟩
theorem ax.other(hM:ax P G w0 μ φ m w){g:Nat}(o:Obj)(hg:w0.heap.size≤g)(hμ:μ g=none)(yj:∀id b,m id=some b→¬b.owns (φ id) g):ax P G w0 μ φ m (w.putObj g o):=by
 have Ac:∀k,k≠g→(w.putObj g o).heap[k]?=w.heap[k]?:=fun k hk=>World.putObj_heap_other hk;refine⟨hM.below.trans ((jw.putObj w g o).mono hg),fun b o' hb=>?_,hM.aH,fun id b hid=>?_,hM.own,hM.inj,hM.apart,hM.fi,hM.base,hM.dC,fun id st hid=>?_⟩
 ·rw[Ac b fun e=>by subst e;rw[hμ]at hb;cases hb];exact hM.ro b o' hb
 ·have hR:=hM.dI id b hid;exact hR.cH (fun _ _=>rfl) rfl (fun _ _ h=>h) (fun g' bV=>Ac g' fun e=>by subst e;exact yj id b hid bV)
 ·obtain⟨g',rc,h1,h2,h3⟩:=hM.y8 id st hid;exact⟨g',rc,h1,h2,by rw[Ac g' fun e=>by subst e;exact yj id _ hid (.inl h1)];exact h3⟩
theorem ax.turn(hM:ax P G w0 μ φ m w){id g:Nat}{st st':IA}{rc:Loop}(hm:m id=some (.loop st))(hg:(φ id).g=some g)(UD:w0.rc id=some (g,rc)):ax P G w0 μ φ (an m id (.loop st')) (w.putObj g (.loop (st'.obj rc))):=by have br:=(hM.dI id _ hm).Bc (.inl hg);have Ew:(w.putObj g (.loop (st'.obj rc))).heap[g]?=some (.loop (st'.obj rc)):=World.putObj_heap_same br;exact hM.write hm rfl hg (jw.putObj w g _) (by simp) (fun k hk=>World.putObj_heap_other hk) ⟨g,rc,hg,Ew⟩ rfl (by simp[bJ.names]) fun s hs=>by cases hs;exact⟨rc,UD,Ew⟩
end
section
variable {P:Program} {μ:Ro} {φ:Nat→aF}
theorem DH{nt:Nat}:∀(ps:List Nat)(args:List V)(xs:List Value)(f:Fr)(tmps:Array Value),tmps.size=nt→args.length=xs.length→(∀t,t<nt→ai P μ φ (f t) (tmps.getD t undef))→(∀(i:Nat)v x,args[i]?=some v→xs[i]?=some x→ai P μ φ v x)→((ps.zip xs).foldl (fun tmps(x:Nat×Value)=>tmps.setIfInBounds x.1 x.2) tmps).size=nt∧∀t,t<nt→ai P μ φ (AX ps args f t) (((ps.zip xs).foldl (fun tmps(x:Nat×Value)=>tmps.setIfInBounds x.1 x.2) tmps).getD t undef)
 |[],args,xs,f,tmps,hs,_,hf,_=>by cases args<;>exact⟨hs,hf⟩
 |p::ps,[],xs,f,tmps,hs,hl,hf,_=>by have:xs=[]:=List.eq_nil_of_length_eq_zero (by simpa using hl.symm);subst this;exact⟨hs,hf⟩
 |p::ps,v::args,[],f,tmps,hs,hl,hf,_=>by simp at hl
 |p::ps,v::args,x::xs,f,tmps,hs,hl,hf,hr=>by
  simp only[List.zip_cons_cons,List.foldl_cons,AX];refine DH ps args xs (fh f p v) (tmps.setIfInBounds p x) (by simpa using hs) (by simpa using hl) (fun t ht=>?_) (fun i u y hu hy=>hr (i+1) u y (by simpa using hu) (by simpa using hy));by_cases e:t=p
  ·subst e;rw[rV];have:(tmps.setIfInBounds t x).getD t undef=x:=by rw[Array.getD_eq_getD_getElem?,Array.getElem?_setIfInBounds];simp[show t<tmps.size by omega]
   rw[this];exact hr 0 v x rfl rfl
  ·rw[ou e];have:(tmps.setIfInBounds p x).getD t undef=tmps.getD t undef:=by rw[Array.getD_eq_getD_getElem?,Array.getD_eq_getD_getElem?,Array.getElem?_setIfInBounds,if_neg (fun h=>e h.symm)]
   rw[this];exact hf t ht
theorem BU{id:Nat}:∀(ps:List Nat)(args:List V)(f:Fr)(t:Nat),(AX ps args f t).has id=true→cq id args=true∨(f t).has id=true
 |[],args,f,t,h=>by cases args<;>exact .inr h
 |p::ps,[],f,t,h=>.inr h
 |p::ps,v::args,f,t,h=>by
  simp only[AX]at h;rcases BU ps args _ t h with h|h
  ·exact .inl (by simp[cq,h])
  ·by_cases e:t=p
   ·subst e;rw[rV]at h;exact .inl (by simp[cq,h])
   ·rw[ou e]at h;exact .inr h
theorem Rs(ps:Array Nat)(xs:Array Value)(tmps:Array Value):(ps.zip xs).foldl (fun tmps(t,a)=>tmps.setIfInBounds t a) tmps=(ps.toList.zip xs.toList).foldl (fun tmps(x:Nat×Value)=>tmps.setIfInBounds x.1 x.2) tmps:=by rw[←Array.foldl_toList,Array.toList_zip]
end
end Go.Ab
set_option linter.unusedVariables false
namespace Go.Ab
open Go.RowKit (Below)
variable{P:Program}{c:Code}{Q:Exit→Act→World→Prop}
theorem DJ{F:Fence}{nn:Nat}(I:Nat→Act→World→Prop)(round:∀n a w,I n a w→∃n',n=n'+1∧c.wpIn F nn P (Exit.then (I n') Q) a w):∀n a w,I n a w→(Code.loop c).wpIn F nn P Q a w:=by
 intro n a w hI b k cs mh hb hr;have key:∀n a w,I n a w→∃e a' w',Q e a' w'∧ArrivesIn (Machine.fenced P F) P (lone (b.atR a (.code c::.inLoop c::k)) cs w) b k cs e a' w':=by
  intro n;induction n with
  |zero=>intro a w h;obtain⟨n',h,_⟩:=round 0 a w h;omega
  |succ n ih=>
   intro a w h;obtain⟨n',hn,wR⟩:=round _ a w h;have hn:n=n':=by omega
   subst hn;obtain⟨e,a₁,w₁,hq,xb⟩:=wR b (.inLoop c::k) cs mh hb hr;cases e with
   |normal=>obtain⟨e₂,a₂,w₂,aav,UF⟩:=ih a₁ w₁ hq;exact⟨e₂,a₂,w₂,aav,.of_steps (StepsIn.trans xb (.one (fenced_calm hb hr rfl) stepR_inLoop)) UF⟩
   |_=>exact⟨_,a₁,w₁,hq,.pass (x:=.inLoop c) rfl (fun _ _=>.inl (by simp)) xb⟩
 obtain⟨e,a',w',hq,xb⟩:=key n a w hI;exact⟨e,a',w',hq,.of_steps (.one (fenced_calm hb hr rfl) stepR_loop) xb⟩
theorem OK{rd:Option Nat}{n:Nat}{a:Act}{w:World}(h:c.wpIn (FR rd) n P (Exit.noGoto Q) a w):(Code.scope c).wpIn (FR rd) n P Q a w:=by
 intro b k cs mh hb hr;obtain⟨e,a₁,w₁,hq,xb⟩:=h b (.inScope c::k) cs mh hb hr;have s1:StepsIn (Machine.fenced P (FR rd)) P (lone (b.atR a (.code (.scope c)::k)) cs w) (lone (b.atR a (.code c::.inScope c::k)) cs w):=.one (fenced_calm hb hr rfl) (step_lone_go (by simp[stepG,stepG.exec,Frame.atR]));have s2:∀a w,StepsIn (Machine.fenced P (FR rd)) P (lone (b.atR a (.inScope c::k)) cs w) (lone (b.atR a k) cs w):=fun a w=>.one (fenced_calm hb hr rfl) (step_lone_go (by simp[stepG,stepG.exec,Frame.atR]));cases e with
 |normal=>exact⟨.normal,a₁,w₁,hq,s1.trans (StepsIn.trans xb (s2 _ _))⟩
 |exit id=>exact⟨.exit id,a₁,w₁,hq,fun k' hk=>s1.trans (xb.1 k' (by simp[exitTo,hk])),fun hr hk=>let⟨k₁,h1,h2⟩:=xb.2 hr (by simp[exitTo,hk]);⟨k₁,h1,s1.trans h2⟩⟩
 |goto l=>exact hq.elim
 |ret=>exact⟨_,a₁,w₁,hq,.of_steps s1 xb⟩
 |panic ch=>exact⟨_,a₁,w₁,hq,.of_steps s1 xb⟩
 |outgrown=>exact⟨_,a₁,w₁,hq,.of_steps s1 xb⟩
mutual
theorem MS:∀{v u:V},v.same u=true→v=u
 |.op i o,u,h=>by cases u<;>simp only[V.same,Bool.and_eq_true,Bool.false_eq_true]at h;rw[Nat.eq_of_beq_eq_true h.1,Nat.eq_of_beq_eq_true h.2]
 |.oe i a o,u,h=>by cases u<;>simp only[V.same,Bool.and_eq_true,Bool.false_eq_true]at h;rw[Nat.eq_of_beq_eq_true h.1.1,Nat.eq_of_beq_eq_true h.1.2,Nat.eq_of_beq_eq_true h.2]
 |.os i,u,h=>by cases u<;>simp only[V.same,Bool.false_eq_true]at h;rw[Nat.eq_of_beq_eq_true h]
 |.om i,u,h=>by cases u<;>simp only[V.same,Bool.false_eq_true]at h;rw[Nat.eq_of_beq_eq_true h]
 |.yl i,u,h=>by cases u<;>simp only[V.same,Bool.false_eq_true]at h;rw[Nat.eq_of_beq_eq_true h]
 |.it i,u,h=>by cases u<;>simp only[V.same,Bool.false_eq_true]at h;rw[Nat.eq_of_beq_eq_true h]
 |.bj,u,h=>by cases u<;>simp only[V.same,Bool.false_eq_true]at h;rfl
 |.fn f cs,u,h=>by cases u<;>simp only[V.same,Bool.and_eq_true,Bool.false_eq_true]at h;rw[Nat.eq_of_beq_eq_true h.1,GV h.2]
 |.pv p,u,h=>by
  cases u<;>try (cases p<;>simp[V.same]at h;done)
  rename_i q;cases p<;>cases q<;>first|rfl|(simp[V.same]at h;done)|(simp only[V.same,Bool.and_eq_true,decide_eq_true_eq]at h;rw[h.1,h.2])
 |.fg _ _ _,u,h=>by cases u<;>simp[V.same]at h
 |.agg _,u,h=>by cases u<;>simp[V.same]at h
 |.bm _,u,h=>by cases u<;>simp[V.same]at h
 |.top,u,h=>by cases u<;>simp[V.same]at h
theorem GV:∀{vs us:List V},C7 vs us=true→vs=us
 |[],us,h=>by
  cases us with
  |nil=>rfl
  |cons _ _=>simp[C7]at h
 |v::vs,us,h=>by
  cases us with
  |nil=>simp[C7]at h
  |cons u us=>simp only[C7,Bool.and_eq_true]at h;rw[MS h.1,GV h.2]
end
variable{R:Type}
theorem MT{T:Type}:∀{iD:List Sh}{vs:List V}{t:T}{k:Mo iD T→Option R}{r:R},iE iD vs t k=some r→∃x,k x=some r∧pz iD x=(vs,t)∧vs.length=iD.length∧∀M,(∀sh∈iD,sh.within M=true)→iX M vs=true:=by
 intro iD;induction iD with
 |nil=>
  intro vs t k r h;cases vs with
  |nil=>exact⟨t,h,rfl,rfl,fun _ _=>rfl⟩
  |cons v vs=>simp[iE]at h
 |cons sh iD ih=>
  intro vs t k r h;cases vs with
  |nil=>cases sh<;>simp[iE]at h
  |cons v vs=>
   have push:∀{M},v.within M=true→iX M vs=true→iX M (v::vs)=true:=fun h1 h2=>by simp[iX,h1,h2]
   cases sh with
   |own u=>
    simp only[iE]at h;split at h
    ·rename_i hs;obtain⟨x,x1,x2,x3,x4⟩:=ih h;have:=MS hs;subst this;refine⟨x,x1,by simp only[pz];rw[x2],by simp[x3],fun M hM=>push ?_ (x4 M fun s hs=>hM s (by simp[hs]))⟩;exact hM (.own u) (by simp)
    ·cases h
   |int q=>
    cases v<;>try (simp[iE]at h;done)
    rename_i p;cases p<;>try (simp[iE]at h;done)
    simp only[iE]at h;split at h
    ·rename_i hq;subst hq;obtain⟨x,x1,x2,x3,x4⟩:=ih h;exact⟨_,x1,by simp only[pz];rw[x2],by simp[x3],fun M hM=>push rfl (x4 M fun s hs=>hM s (by simp[hs]))⟩
    ·cases h
   |row id off=>
    cases v<;>try (simp[iE]at h;done)
    rename_i nA i qi;simp only[iE]at h;split at h
    ·rename_i hq;obtain⟨rfl,rfl⟩:=hq;obtain⟨x,x1,x2,x3,x4⟩:=ih h;exact⟨_,x1,by simp only[pz,Int.toNat_natCast];rw[x2],by simp[x3],fun M hM=>push (hM (.row nA qi) (by simp)) (x4 M fun s hs=>hM s (by simp[hs]))⟩
    ·cases h
   |raw=>
    cases v<;>try (simp[iE]at h;done)
    simp only[iE]at h;obtain⟨x,x1,x2,x3,x4⟩:=ih h;exact⟨_,x1,by simp only[pz];rw[x2],by simp[x3],fun M hM=>push rfl (x4 M fun s hs=>hM s (by simp[hs]))⟩
   |bool=>
    cases v<;>try (simp[iE]at h;done)
    rename_i p;cases p<;>try (simp[iE]at h;done)
    simp only[iE]at h;obtain⟨x,x1,x2,x3,x4⟩:=ih h;exact⟨_,x1,by simp only[pz];rw[x2],by simp[x3],fun M hM=>push rfl (x4 M fun s hs=>hM s (by simp[hs]))⟩
   |str=>
    cases v<;>try (simp[iE]at h;done)
    rename_i p;cases p<;>try (simp[iE]at h;done)
    simp only[iE]at h;obtain⟨x,x1,x2,x3,x4⟩:=ih h;exact⟨_,x1,by simp only[pz];rw[x2],by simp[x3],fun M hM=>push rfl (x4 M fun s hs=>hM s (by simp[hs]))⟩
   |rp n=>
    cases v<;>try (simp[iE]at h;done)
    rename_i p;cases p<;>try (simp[iE]at h;done)
    rename_i cs;simp only[iE]at h;split at h
    ·rename_i hq;obtain⟨x,x1,x2,x3,x4⟩:=ih h;have he:aK n (.agg cs)=cs:=by
      apply List.ext_getElem?;intro j;by_cases hj:j<n
      ·have hl:j<(aK n (.agg cs)).length:=by rw[bl];exact hj
       rw[List.getElem?_eq_getElem hl];obtain⟨_,h6⟩:=mf (List.getElem?_eq_getElem hl);rw[h6];simp[cell,PV.cells,List.getD,show j<cs.length by omega]
      ·rw[List.getElem?_eq_none (by rw[bl];omega),List.getElem?_eq_none (by omega)]
     exact⟨_,x1,by simp only[pz];rw[x2,he],by simp[x3],fun M hM=>push rfl (x4 M fun s hs=>hM s (by simp[hs]))⟩
    ·cases h
   |fs s=>
    cases v<;>try (simp[iE]at h;done)
    rename_i p;simp only[iE]at h;obtain⟨ls,hls,h⟩:=Option.bind_eq_some_iff.1 h;obtain⟨x,x1,x2,x3,x4⟩:=ih h;exact⟨_,x1,by simp only[pz];rw[x2,MG hls],by simp[x3],fun M hM=>push rfl (x4 M fun s hs=>hM s (by simp[hs]))⟩
   |rs sz=>
    cases v<;>try (simp[iE]at h;done)
    rename_i p;cases p<;>try (simp[iE]at h;done)
    simp only[iE]at h;split at h
    ·rename_i hq;subst hq;obtain⟨x,x1,x2,x3,x4⟩:=ih h;exact⟨_,x1,by simp only[pz];rw[x2],by simp[x3],fun M hM=>push rfl (x4 M fun s hs=>hM s (by simp[hs]))⟩
    ·cases h
theorem vZ:∀{l:List (Nat×Option bJ)}{id:Nat}{b:bJ},AH l id=some b→∃x∈l,x.1=id∧x.2=some b
 |[],_,_,h=>by simp[AH]at h
 |(d,b')::r,id,b,h=>by
  simp only[AH]at h;cases e:Nat.beq id d with
  |true=>rw[e]at h;exact⟨(d,b'),by simp,(Nat.eq_of_beq_eq_true e).symm,h⟩
  |false=>rw[e]at h;obtain⟨x,hx,h1,h2⟩:=vZ h;exact⟨x,by simp[hx],h1,h2⟩
theorem xc:∀{l:List (Nat×Option bJ)}{id:Nat},(∀x∈l,x.2.isSome=true)→(∃x∈l,x.1=id)→(AH l id).isSome=true
 |[],_,_,⟨x,hx,_⟩=>by cases hx
 |(d,b')::r,id,h,⟨x,hx,he⟩=>by
  simp only[AH];cases e:Nat.beq id d with
  |true=>exact h (d,b') (by simp)
  |false=>
   rcases List.mem_cons.1 hx with rfl|hx
   ·simp only at he;subst he;simp[Nat.beq_refl]at e
   ·exact xc (fun y hy=>h y (by simp[hy])) ⟨x,hx,he⟩
theorem UG{m:Mem}:∀{bs:List (Nat×Qf)}{k:FW bs→Option R}{r:R},qP m bs k=some r→∃x,k x=some r∧(fZ bs x).map (·.1)=bs.map (·.1)∧(∀y∈fZ bs x,∃b,y.2=some b∧m y.1=some b)∧∀M,(∀y∈bs,y.2.within M=true)→∀y∈fZ bs x,∀b,y.2=some b→b.within M=true:=by
 intro bs;induction bs with
 |nil=>intro k r h;exact⟨(),h,rfl,by simp[fZ],by simp[fZ]⟩
 |cons y bs ih=>
  intro k r h;obtain⟨id,sh⟩:=y;cases sh with
  |box cs=>
   simp only[qP]at h;split at h
   ·rename_i vs hm;obtain⟨t,t1,t2,t3,t4⟩:=ih h;obtain⟨x,x1,x2,x3,x4⟩:=MT t1;refine⟨x,x1,by simp only[fZ,x2];simp[t2],fun y hy=>?_,fun M hM y hy b hb=>?_⟩
    ·simp only[fZ,x2]at hy;rcases List.mem_cons.1 hy with rfl|hy
     ·exact⟨_,rfl,hm⟩
     ·exact t3 y hy
    ·simp only[fZ,x2]at hy;rcases List.mem_cons.1 hy with rfl|hy
     ·simp only[Option.some.injEq]at hb;subst hb;simp only[bJ.within];refine x4 M fun s hs=>?_;have:=hM (id,.box cs) (by simp);simp only[Qf.within,List.all_eq_true]at this;exact this s hs
     ·exact t4 M (fun z hz=>hM z (by simp[hz])) y hy b hb
   ·cases h
  |arr sz et=>
   simp only[qP]at h;split at h
   ·rename_i CD AP es hm;split at h
    ·rename_i he;obtain⟨rfl,rfl⟩:=he;obtain⟨t,t1,t2,t3,t4⟩:=ih h;refine⟨(es,t),t1,by simp only[fZ];simp[t2],fun y hy=>?_,fun M hM y hy b hb=>?_⟩
     ·simp only[fZ]at hy;rcases List.mem_cons.1 hy with rfl|hy
      ·exact⟨_,rfl,hm⟩
      ·exact t3 y hy
     ·simp only[fZ]at hy;rcases List.mem_cons.1 hy with rfl|hy
      ·simp only[Option.some.injEq]at hb;subst hb;rfl
      ·exact t4 M (fun z hz=>hM z (by simp[hz])) y hy b hb
    ·cases h
   ·cases h
  |nM sz et=>
   simp only[qP]at h;split at h
   ·rename_i CD AP es hm;split at h
    ·rename_i he;obtain⟨rfl,rfl⟩:=he;obtain⟨t,t1,t2,t3,t4⟩:=ih h;refine⟨(es,t),t1,by simp only[fZ];simp[t2],fun y hy=>?_,fun M hM y hy b hb=>?_⟩
     ·simp only[fZ]at hy;rcases List.mem_cons.1 hy with rfl|hy
      ·exact⟨_,rfl,hm⟩
      ·exact t3 y hy
     ·simp only[fZ]at hy;rcases List.mem_cons.1 hy with rfl|hy
      ·simp only[Option.some.injEq]at hb;subst hb;rfl
      ·exact t4 M (fun z hz=>hM z (by simp[hz])) y hy b hb
    ·cases h
   ·cases h
  |nest sz et=>
   simp only[qP]at h;split at h
   ·rename_i CD AP es hm;split at h
    ·rename_i he;obtain⟨rfl,rfl⟩:=he;obtain⟨t,t1,t2,t3,t4⟩:=ih h;refine⟨(es,t),t1,by simp only[fZ];simp[t2],fun y hy=>?_,fun M hM y hy b hb=>?_⟩
     ·simp only[fZ]at hy;rcases List.mem_cons.1 hy with rfl|hy
      ·exact⟨_,rfl,hm⟩
      ·exact t3 y hy
     ·simp only[fZ]at hy;rcases List.mem_cons.1 hy with rfl|hy
      ·simp only[Option.some.injEq]at hb;subst hb;rfl
      ·exact t4 M (fun z hz=>hM z (by simp[hz])) y hy b hb
    ·cases h
   ·cases h
  |eU kt et=>
   simp only[qP]at h;split at h
   ·rename_i sQ AP es hm;split at h
    ·rename_i he;obtain⟨rfl,rfl⟩:=he;obtain⟨t,t1,t2,t3,t4⟩:=ih h;refine⟨(es,t),t1,by simp only[fZ];simp[t2],fun y hy=>?_,fun M hM y hy b hb=>?_⟩
     ·simp only[fZ]at hy;rcases List.mem_cons.1 hy with rfl|hy
      ·exact⟨_,rfl,hm⟩
      ·exact t3 y hy
     ·simp only[fZ]at hy;rcases List.mem_cons.1 hy with rfl|hy
      ·simp only[Option.some.injEq]at hb;subst hb;rfl
      ·exact t4 M (fun z hz=>hM z (by simp[hz])) y hy b hb
    ·cases h
   ·cases h
  |map kt=>
   simp only[qP]at h;split at h
   ·rename_i sQ es hm;split at h
    ·rename_i he;subst he;obtain⟨t,t1,t2,t3,t4⟩:=ih h;refine⟨(es,t),t1,by simp only[fZ];simp[t2],fun y hy=>?_,fun M hM y hy b hb=>?_⟩
     ·simp only[fZ]at hy;rcases List.mem_cons.1 hy with rfl|hy
      ·exact⟨_,rfl,hm⟩
      ·exact t3 y hy
     ·simp only[fZ]at hy;rcases List.mem_cons.1 hy with rfl|hy
      ·simp only[Option.some.injEq]at hb;subst hb;rfl
      ·exact t4 M (fun z hz=>hM z (by simp[hz])) y hy b hb
    ·cases h
   ·cases h
  |iter ty=>
   simp only[qP]at h;split at h
   ·rename_i t' es hm;split at h
    ·rename_i he;subst he;obtain⟨t,t1,t2,t3,t4⟩:=ih h;refine⟨(es,t),t1,by simp only[fZ];simp[t2],fun y hy=>?_,fun M hM y hy b hb=>?_⟩
     ·simp only[fZ]at hy;rcases List.mem_cons.1 hy with rfl|hy
      ·exact⟨_,rfl,hm⟩
      ·exact t3 y hy
     ·simp only[fZ]at hy;rcases List.mem_cons.1 hy with rfl|hy
      ·simp only[Option.some.injEq]at hb;subst hb;rfl
      ·exact t4 M (fun z hz=>hM z (by simp[hz])) y hy b hb
    ·cases h
   ·cases h
  |loop=>
   simp only[qP]at h;split at h
   ·rename_i hm;obtain⟨t,t1,t2,t3,t4⟩:=ih h;refine⟨t,t1,by simp only[fZ];simp[t2],fun y hy=>?_,fun M hM y hy b hb=>?_⟩
    ·simp only[fZ]at hy;rcases List.mem_cons.1 hy with rfl|hy
     ·exact⟨_,rfl,hm⟩
     ·exact t3 y hy
    ·simp only[fZ]at hy;rcases List.mem_cons.1 hy with rfl|hy
     ·simp only[Option.some.injEq]at hb;subst hb;rfl
     ·exact t4 M (fun z hz=>hM z (by simp[hz])) y hy b hb
   ·cases h
  |busy=>
   simp only[qP]at h;split at h
   ·rename_i hm;obtain⟨t,t1,t2,t3,t4⟩:=ih h;refine⟨t,t1,by simp only[fZ];simp[t2],fun y hy=>?_,fun M hM y hy b hb=>?_⟩
    ·simp only[fZ]at hy;rcases List.mem_cons.1 hy with rfl|hy
     ·exact⟨_,rfl,hm⟩
     ·exact t3 y hy
    ·simp only[fZ]at hy;rcases List.mem_cons.1 hy with rfl|hy
     ·simp only[Option.some.injEq]at hb;subst hb;rfl
     ·exact t4 M (fun z hz=>hM z (by simp[hz])) y hy b hb
   ·cases h
mutual
theorem BV{M:List Nat}{id:Nat}:∀(v:V),v.within M=true→v.has id=true→id∈M
 |.agg cs,h,hh=>mG cs (by simpa only[V.within]using h) (by simpa only[V.has]using hh)
 |.bm cs,h,hh=>mG cs (by simpa only[V.within]using h) (by simpa only[V.has]using hh)
 |.fn _ cs,h,hh=>mG cs (by simpa only[V.within]using h) (by simpa only[V.has]using hh)
 |.os j,h,hh=>by have:=Nat.eq_of_beq_eq_true hh;subst this;simpa[V.within]using h
 |.fg j _ _,h,hh=>by have:=Nat.eq_of_beq_eq_true hh;subst this;simpa[V.within]using h
 |.oe j _ _,h,hh=>by have:=Nat.eq_of_beq_eq_true hh;subst this;simpa[V.within]using h
 |.om j,h,hh=>by have:=Nat.eq_of_beq_eq_true hh;subst this;simpa[V.within]using h
 |.sY j _ _,h,hh=>by have:=Nat.eq_of_beq_eq_true hh;subst this;simpa[V.within]using h
 |.wC j _ _ _ _ _,h,hh=>by have:=Nat.eq_of_beq_eq_true hh;subst this;simpa[V.within]using h
 |.op j _,h,hh=>by have:=Nat.eq_of_beq_eq_true hh;subst this;simpa[V.within]using h
 |.it j,h,hh=>by have:=Nat.eq_of_beq_eq_true hh;subst this;simpa[V.within]using h
 |.yl j,h,hh=>by have:=Nat.eq_of_beq_eq_true hh;subst this;simpa[V.within]using h
 |.pv _,_,hh=>by cases hh
 |.bj,_,hh=>by cases hh
 |.top,_,hh=>by cases hh
theorem mG{M:List Nat}{id:Nat}:∀(cs:List V),iX M cs=true→cq id cs=true→id∈M
 |[],_,hh=>by cases hh
 |v::r,h,hh=>by
  simp only[iX,Bool.and_eq_true]at h;simp only[cq,Bool.or_eq_true]at hh;rcases hh with hh|hh
  ·exact BV v h.1 hh
  ·exact mG r h.2 hh
end
theorem Rt{f:Fr}:∀(az:List (Nat×Sh))(t:Nat),IM (od az (az.map fun(x:Nat×Sh)=>f x.1)) t=f t∨IM (od az (az.map fun(x:Nat×Sh)=>f x.1)) t=.top
 |[],t=>.inr rfl
 |(d,s)::r,t=>by
  simp only[List.map_cons,od,IM,fh];cases e:Nat.beq t d with
  |true=>have:=Nat.eq_of_beq_eq_true e;subst this;exact .inl rfl
  |false=>exact Rt r t
theorem BW{f:Fr}{M:List Nat}:∀(az:List (Nat×Sh)),iX M (az.map fun(x:Nat×Sh)=>f x.1)=true→∀t,(IM (od az (az.map fun(x:Nat×Sh)=>f x.1)) t).within M=true
 |[],_,t=>rfl
 |(d,s)::r,h,t=>by
  simp only[List.map_cons,iX,Bool.and_eq_true]at h;simp only[List.map_cons,od,IM,fh];cases e:Nat.beq t d with
  |true=>have:=Nat.eq_of_beq_eq_true e;subst this;exact h.1
  |false=>exact BW r h.2 t
theorem Ru{T:ff}{f:Fr}{m:Mem}{k:T.ty→Option R}{r:R}(h:enc T f m k=some r):∃x,k x=some r∧sR (IW T x) f∧(∀id b,AW T x id=some b→m id=some b)∧(∀t id,(IW T x t).has id=true→(AW T x id).isSome=true)∧∀j cs id,AW T x j=some (.box cs)→cq id cs=true→(AW T x id).isSome=true:=by
 unfold enc at h;split at h
 ·rename_i wB;obtain⟨t,t1,t2,t3,t4⟩:=UG h;obtain⟨x,x1,x2,x3,x4⟩:=MT t1;simp only[ff.ok,Bool.and_eq_true,List.all_eq_true]at wB;have pS:∀id,id∈T.bQ.map (·.1)→(AW T x id).isSome=true:=fun id hid=>by
   unfold AW;rw[x2];refine xc (fun y hy=>?_) ?_
   ·obtain⟨b,hb,_⟩:=t3 y hy;rw[hb];rfl
   ·rw[←t2]at hid;obtain⟨y,hy,he⟩:=List.mem_map.1 hid;exact⟨y,hy,he⟩
  refine⟨x,x1,fun s=>?_,fun id b hb=>?_,fun s id hid=>pS id ?_,fun j cs id hj hh=>pS id ?_⟩
  ·unfold IW;rw[x2];exact Rt T.az s
  ·unfold AW at hb;rw[x2]at hb;obtain⟨y,hy,h1,h2⟩:=vZ hb;obtain⟨b',fQ,hm⟩:=t3 y hy;rw[h2]at fQ;cases fQ;rw[←h1];exact hm
  ·have hw:=x4 (T.bQ.map (·.1)) fun s hs=>by simp only[ff.iD,List.mem_map]at hs;obtain⟨y,hy,rfl⟩:=hs;exact wB.1 y hy
   have:=BW (M:=T.bQ.map (·.1)) T.az hw s;unfold IW at hid;rw[x2]at hid;exact BV _ this hid
  ·unfold AW at hj;rw[x2]at hj;obtain⟨y,hy,h1,h2⟩:=vZ hj;have:=t4 (T.bQ.map (·.1)) (fun z hz=>wB.2 z hz) y hy _ h2;exact mG _ (by simpa only[bJ.within]using this) hh
 ·cases h
section
variable {E:Env} {w0:bx}
variable{nt:Nat}{μ:Ro}{φ:Nat→aF}{f:Fr}{m:Mem}{a:Act}{w:World}
theorem Rel.dec{f':Fr}{m':Mem}(h:Rel E.P E.aH nt w0 μ φ f m a w)(hf:sR f' f)(hm:∀id b,m' id=some b→m id=some b)(hl:∀t id,(f' t).has id=true→(m' id).isSome=true)(hb:∀j cs id,m' j=some (.box cs)→cq id cs=true→(m' id).isSome=true):Rel E.P E.aH nt w0 μ φ f' m' a w:={below:=h.below,ro:=h.ro,aH:=h.aH,dI:=fun id b hb=>h.dI id b (hm id b hb),own:=fun id b g hb hg=>h.own id b g (hm id b hb) hg,inj:=fun PX id2 b1 b2 g h1 h2=>h.inj PX id2 b1 b2 g (hm _ _ h1) (hm _ _ h2),apart:=fun id b hb=>h.apart id b (hm id b hb),fi:=hb,base:=h.base,dC:=h.dC,y8:=fun id st hid=>h.y8 id st (hm _ _ hid),size:=h.size,defers:=h.defers,kF:=h.kF,fr:=(h.weaken hf).fr,live:=hl}
theorem Rel.set(h:Rel E.P E.aH nt w0 μ φ f m a w){t:Nat}{p:PV}(hp:aj E.P μ p (az nt w0 a t)):Rel E.P E.aH nt w0 μ φ (fh f t (.pv p)) m a w:=
 {toax:=h.toax,size:=h.size,defers:=h.defers,kF:=h.kF,fr:=fun s=>by
   by_cases e:s=t
   ·subst e;rw[rV];exact .pv hp
   ·rw[ou e];exact h.fr s,
  live:=fun s id hid=>by
   by_cases e:s=t
   ·subst e;rw[rV]at hid;cases hid
   ·rw[ou e]at hid;exact h.live s id hid}
theorem Rel.freeze{nt:Nat}{μ:Ro}{φ:Nat→aF}{f:Fr}{m:Mem}{a:Act}{w:World}(h:Rel E.P E.aH nt w0 μ φ f m a w){id sz:Nat}{et:TypeId}{es:List PV}(hm:m id=some (.arr sz et es)):Rel E.P E.aH nt w0 (nr μ w (φ id).g) φ f (an m id (.nM sz et es)) a w:=
 {toax:=h.toax.freeze hm,size:=h.size,defers:=h.defers.mono (jV h.toax _),kF:=h.kF,fr:=fun s=>(h.fr s).vn (jV h.toax _),live:=fun s i hid=>by
   by_cases e:i=id
   ·subst e;rw[aM];rfl
   ·rw[ao e];exact h.live s i hid}
theorem re{A:Type}{nt:Nat}{a:Act}{w:World}:∀{l:List (Nat×Nat)}{μ:Ro}{φ:Nat→aF}{f:Fr}{m:Mem}{k:Fr→Mem→A}{r:A},y4 l f m k=r→Rel E.P E.aH nt w0 μ φ f m a w→∃f' m' μ',k f' m'=r∧Rel E.P E.aH nt w0 μ' φ f' m' a w
 |[],μ,φ,f,m,k,r,h,hR=>⟨f,m,μ,h,hR⟩
 |(t,sz)::l,μ,φ,f,m,k,r,h,hR=>by
  unfold y4 at h;split at h
  ·rename_i id hf;have hx:ai E.P μ φ (.os id) (az nt w0 a t):=hf▸hR.fr t;split at h
   ·rename_i s et es hm;have hF:=hR.freeze hm;have hA:=hF.toax.arr (.inr (aM m id _));have hp:aj E.P (nr μ w (φ id).g) (.rs s es) (az nt w0 a t):=hA.full hF.toax (hx.vn (jV hR.toax _)) (fun _ _ h=>h) (fun g hg=>by simp[nr,hg]);exact re h (hF.set hp)
   ·rename_i s et es hm;have hB:fR E.P μ φ w id (.nM s et es):=hR.dI id _ hm;have hp:aj E.P μ (.rs s es) (az nt w0 a t):=(hR.toax.arr (.inr hm)).full hR.toax hx (fun _ _ h=>h) (fun g hg=>by obtain⟨o,ho⟩:=Option.isSome_iff_exists.1 (hB.2 g hg);rw[ho,hR.ro _ _ ho]);exact re h (hR.set hp)
   ·exact re h hR
  ·rename_i hf;have hx:ai E.P μ φ .bj (az nt w0 a t):=hf▸hR.fr t;have hp:aj E.P μ (.rs sz []) (az nt w0 a t):=by generalize az nt w0 a t=y at hx;cases hx;exact .jl
   exact re h (hR.set hp)
  ·exact re h hR
variable{id:Nat}
theorem GW{u:V}:∀(cs:List V)(j:Nat),cq id (cs.set j u)=true→cq id cs=true∨u.has id=true:=by
 intro cs j h;obtain⟨v,hv,hh⟩:=cT.1 h;rcases List.mem_or_eq_of_mem_set hv with h1|h1
 ·exact .inl (cT.2 ⟨v,h1,hh⟩)
 ·subst h1;exact .inr hh
theorem Rel.Rv(h:Rel E.P E.aH nt w0 μ φ f m a w){j:Nat}{cs:List V}{u:V}(hm:m id=some (.box cs))(hj:cs[j]?=some .bj)(hu:ai E.P μ φ u (.slice none 0 0))(hl:∀i,u.has i=true→(m i).isSome=true):Rel E.P E.aH nt w0 μ φ f (an m id (.box (cs.set j u))) a w:=by
 have key:∀i b,an m id (.box (cs.set j u)) i=some b→(i=id∧b=.box (cs.set j u))∨m i=some b:=fun i b hb=>by
  by_cases e:i=id
  ·subst e;rw[aM]at hb;exact .inl ⟨rfl,(Option.some.inj hb).symm⟩
  ·rw[ao e]at hb;exact .inr hb
 have sH:∀i,(m i).isSome=true→(an m id (.box (cs.set j u)) i).isSome=true:=fun i hi=>by
  by_cases e:i=id
  ·subst e;rw[aM];rfl
  ·rw[ao e];exact hi
 have back:∀i b,an m id (.box (cs.set j u)) i=some b→∃b',m i=some b'∧(b.ir=true→b'.ir=true)∧b.rowAt=b'.rowAt:=fun i b hb=>by
  rcases key i b hb with⟨rfl,rfl⟩|hb
  ·exact⟨_,hm,fun _=>rfl,rfl⟩
  ·exact⟨b,hb,fun h=>h,rfl⟩
 exact
 {below:=h.below,ro:=h.ro,aH:=h.aH,dI:=fun i b hb=>by
   rcases key i b hb with⟨rfl,rfl⟩|hb
   ·obtain⟨g,c,T,c1,c2,c3,c4,c5,c6⟩:=h.dI _ _ hm;refine⟨g,c,T,c1,c2,by simpa using c3,fun i v x hv hx=>?_,c5,by simpa using c6⟩;rw[List.getElem?_set]at hv;split at hv
    ·rename_i e;subst e;split at hv
     ·simp only[Option.some.injEq]at hv;subst hv;have:=c4 j .bj x hj hx;cases this;exact hu
     ·cases hv
    ·exact c4 i v x hv hx
   ·exact h.dI i b hb,
  own:=fun i b g hb hg=>by obtain⟨b',fQ,Bb,mh⟩:=back i b hb;obtain⟨o1,o2⟩:=h.own i b' g fQ (by unfold bJ.owns at hg⊢;rw[←mh];exact hg);exact⟨o1,fun hb=>o2 (Bb hb)⟩,
  inj:=fun PX id2 b1 b2 g h1 h2 g1 g2=>by obtain⟨ZR,MF,_,r1⟩:=back PX b1 h1;obtain⟨ZS,Oe,_,r2⟩:=back id2 b2 h2;exact h.inj PX id2 ZR ZS g MF Oe (by unfold bJ.owns at g1⊢;rw[←r1];exact g1) (by unfold bJ.owns at g2⊢;rw[←r2];exact g2),
  apart:=fun i b hb=>by obtain⟨b',fQ,_,mh⟩:=back i b hb;have:=h.apart i b' fQ;unfold bJ.apart at this⊢;rw[mh];exact this,
  fi:=fun i Dk nA hi hid=>by
   rcases key i _ hi with⟨rfl,he⟩|hi
   ·simp only[bJ.box.injEq]at he;subst he;rcases GW _ _ hid with hid|hid
    ·exact sH _ (h.fi _ _ _ hm hid)
    ·exact sH _ (hl _ hid)
   ·exact sH _ (h.fi _ _ _ hi hid),
  base:=h.base,dC:=h.dC,
  y8:=fun i st hi=>by
   rcases key i _ hi with⟨_,he⟩|hi
   ·cases he
   ·exact h.y8 i st hi,
  size:=h.size,defers:=h.defers,kF:=h.kF,fr:=h.fr,
  live:=fun t i hid=>sH _ (h.live t i hid)}
variable{et:TypeId}
theorem Rel.XE(h:Rel E.P E.aH nt w0 μ φ f m a w){Qm:Nat}(hn:m Qm=none)(eo:0<aS E.P et):∃φ',(φ' Qm).g=none∧Rel E.P E.aH nt w0 μ φ' f (an m Qm (.arr (aS E.P et) et [])) a w:=by
 have hf:fresh false Qm (.arr (aS E.P et) et []) f m (fun f m _=>some (f,m))=some (f,an m Qm (.arr (aS E.P et) et [])):=by simp[fresh,hn]
 obtain⟨f1,m1,_,hk,_,_,te⟩:=cJ hf;simp only[Option.some.injEq,Prod.mk.injEq]at hk;obtain⟨rfl,rfl⟩:=hk;obtain⟨φ',a1,a2,a3⟩:=te E.P E.aH w0 μ φ w w (az nt w0 a) (CE none 0 0 (aS E.P et)) h.toax ⟨h.fr,h.live⟩ ⟨jw.refl _ _,h.toax.ro,fun _ _ _ _ _=>rfl,by simp,fun φ' hp _=>by refine⟨by rw[hp];rfl,by rw[hp],rfl,eo,by simp,by rw[hp];simp[maxLen],?_⟩;rw[hp];exact⟨rfl,rfl⟩,by simp[bJ.names],fun st h=>by cases h⟩;exact⟨φ',by rw[a1],{toax:=a2,size:=h.size,defers:=h.defers,kF:=h.kF,fr:=a3.fr,live:=a3.live}⟩
theorem rf{A:Type}{nt:Nat}{a:Act}{w:World}:∀{l:List (Nat×Nat×Nat×TypeId)}{μ:Ro}{φ:Nat→aF}{f:Fr}{m:Mem}{k:Mem→A}{r:A},y5 E.P l m k=r→Rel E.P E.aH nt w0 μ φ f m a w→∃m' φ',k m'=r∧Rel E.P E.aH nt w0 μ φ' f m' a w
 |[],μ,φ,f,m,k,r,h,hR=>⟨m,φ,h,hR⟩
 |(id,j,Qm,et)::l,μ,φ,f,m,k,r,h,hR=>by
  unfold y5 at h;split at h
  ·rename_i cs hm;split at h
   ·rename_i hj;split at h
    ·rename_i hn;split at h
     ·rename_i eo;obtain⟨φ',g0,iq⟩:=hR.XE hn eo;have cS:id≠Qm:=fun e=>by subst e;rw[hm]at hn;cases hn
      exact rf h (iq.Rv (by rw[ao cS];exact hm) hj (.pA g0) fun i hi=>by have:=Nat.eq_of_beq_eq_true hi;subst this;simp)
     ·exact rf h hR
    ·exact rf h hR
   ·exact rf h hR
  ·exact rf h hR
theorem xd{A:Type}{nt:Nat}{a:Act}{w:World}:∀{l:List (Nat×Nat×Nat)}{μ:Ro}{φ:Nat→aF}{f:Fr}{m:Mem}{k:Mem→A}{r:A},C8 l m k=r→Rel E.P E.aH nt w0 μ φ f m a w→∃m',k m'=r∧Rel E.P E.aH nt w0 μ φ f m' a w
 |[],μ,φ,f,m,k,r,h,hR=>⟨m,h,hR⟩
 |(id,j,sz)::l,μ,φ,f,m,k,r,h,hR=>by
  unfold C8 at h;split at h
  ·rename_i cs hm;split at h
   ·rename_i hj;exact xd h (hR.Rv hm hj (.pv .jl) (fun i hi=>by cases hi))
   ·exact xd h hR
  ·exact xd h hR
theorem gE{T:Type}{l:List T}{n i:Nat}{e:T}(h:(l.take n)[i]?=some e):l[i]?=some e∧i<n:=by
 rw[List.getElem?_take]at h;split at h
 ·exact⟨h,‹_›⟩
 ·cases h
theorem Rel.UH(h:Rel E.P E.aH nt w0 μ φ f m a w){s:Nat}{es:List PV}(hm:m id=some (.arr s et es)):Rel E.P E.aH nt w0 μ φ f (an m id (.nest s et es)) a w:=by
 have hA:aL E.P μ φ w id s et es:=h.dI id _ hm;have key:∀i b,an m id (.nest s et es) i=some b→(i=id∧b=.nest s et es)∨m i=some b:=fun i b hb=>by
  by_cases e:i=id
  ·subst e;rw[aM]at hb;exact .inl ⟨rfl,(Option.some.inj hb).symm⟩
  ·rw[ao e]at hb;exact .inr hb
 have sH:∀i,(m i).isSome=true→(an m id (.nest s et es) i).isSome=true:=fun i hi=>by
  by_cases e:i=id
  ·subst e;rw[aM];rfl
  ·rw[ao e];exact hi
 have hN:aV E.P μ φ w id s et es:=by
  obtain⟨h1,h2,h3,h4,h5,h6,h7⟩:=hA;refine⟨h1,h2,h3,h4,h5,h6,?_⟩;cases hg:(φ id).g with
  |none=>rw[hg]at h7;exact h7
  |some g=>rw[hg]at h7;obtain⟨c,c1,c2,c3,c4,c5⟩:=h7;exact⟨c,c1,c2,c3,fun i e j p x he hp hx=>.pure (c4 i e j p x he hp hx),c5⟩
 have yj:∀i off,(bJ.nest s et es).rowAt i off=true→False:=fun i off hr=>by
  rcases iN hr with⟨_,_,_,e,s',rs,hb,he,hp⟩|⟨_,_,_,_,_,_,hb,_⟩
  ·cases hb;obtain⟨h1,h2,h3,h4,h5,h6,h7⟩:=hA;cases hg:(φ id).g with
   |none=>rw[hg]at h7;obtain⟨rfl,_⟩:=h7;simp at he
   |some g=>
    rw[hg]at h7;obtain⟨c,c1,c2,c3,c4,c5⟩:=h7;have hi:i<es.length:=(List.getElem?_eq_some_iff.1 he).1;have hj:off<s:=by have:=(List.getElem?_eq_some_iff.1 hp).1;rw[h5 _ _ he]at this;exact this
    have br:i*s+off<c.size:=by have:(i+1)*s≤(φ id).cap*s:=Nat.mul_le_mul_right _ (by omega);rw[Nat.succ_mul]at this;omega
    exact Bool.noConfusion (aj.Aq (c4 i e off _ _ he hp (Array.getElem?_eq_getElem br)))
  ·cases hb
 have agx:∀i off,(bJ.arr s et es).rowAt i off=true→False:=nN;have hM:ax E.P E.aH w0 μ φ (an m id (.nest s et es)) w:=by
  refine h.toax.MI (fun _ k=>k) (fun j b' hb=>?_) (fun j b' g hb hg=>?_) (fun j b' hb=>?_) (fun j cs i hb hh=>?_) (fun j st hb=>?_)
  ·rcases key j b' hb with⟨rfl,rfl⟩|hb
   ·exact hN
   ·exact h.dI j b' hb
  ·rcases key j b' hb with⟨rfl,rfl⟩|hb
   ·exact⟨j,_,hm,.inl (mi yj hg),fun _=>rfl,rfl⟩
   ·exact⟨j,b',hb,hg,fun h=>h,rfl⟩
  ·rcases key j b' hb with⟨rfl,rfl⟩|hb
   ·exact ov yj
   ·exact h.apart j b' hb
  ·rcases key j _ hb with⟨_,hb⟩|hb
   ·cases hb
   ·exact sH _ (h.fi j cs i hb hh)
  ·rcases key j _ hb with⟨_,hb⟩|hb
   ·cases hb
   ·exact⟨hb,rfl⟩
 exact{toax:=hM,size:=h.size,defers:=h.defers,kF:=h.kF,fr:=h.fr,live:=fun t i hid=>sH _ (h.live t i hid)}
theorem BX{A:Type}{nt:Nat}{a:Act}{w:World}:∀{l:List Nat}{μ:Ro}{φ:Nat→aF}{f:Fr}{m:Mem}{k:Mem→A}{r:A},Gi l m k=r→Rel E.P E.aH nt w0 μ φ f m a w→∃m',k m'=r∧Rel E.P E.aH nt w0 μ φ f m' a w
 |[],μ,φ,f,m,k,r,h,hR=>⟨m,h,hR⟩
 |id::l,μ,φ,f,m,k,r,h,hR=>by
  unfold Gi at h;split at h
  ·rename_i s et es hm;exact BX h (hR.UH hm)
  ·exact BX h hR
theorem Rel.cut(h:Rel E.P E.aH nt w0 μ φ f m a w){j d len s:Nat}{cs:List V}{es:List PV}(hm:m id=some (.box cs))(hj:cs[j]?=some (.fg d 0 len))(hd:m d=some (.arr s et es))(cS:d≠id):∃φ',Rel E.P E.aH nt w0 μ φ' (eP d f) (an (an (bf (bC d m) d) d (.arr s et (es.take len))) id (.box ((cs.map (pM d)).set j (.os d)))) a w:=by
 obtain⟨m',TA⟩:∃m',m'=an (an (bf (bC d m) d) d (.arr s et (es.take len))) id (.box ((cs.map (pM d)).set j (.os d))):=⟨_,rfl⟩;rw[←TA];obtain⟨g0,c,T,c1,c2,c3,c4,c5,c6⟩:=h.dI _ _ hm;have hA:aL E.P μ φ w d s et es:=h.dI d _ hd;have xJ:j<cs.length:=(List.getElem?_eq_some_iff.1 hj).1;have hx:=c4 j _ _ hj (Array.getElem?_eq_getElem (by omega));obtain⟨φ',f1,f2,f3,f4⟩:∃φ':Nat→aF,(∀i,i≠d→φ' i=φ i)∧(φ' d).g=(φ d).g∧aL E.P μ φ' w d s et (es.take len)∧ai E.P μ φ' (.os d) c[j]:=by
  obtain⟨h1,h2,h3,h4,h5,h6,h7⟩:=hA;generalize c[j]=x at hx;cases hx with
  |oh hg=>refine⟨φ,fun _ _=>rfl,rfl,?_,.pA hg⟩;rw[hg]at h7;obtain⟨rfl,h7⟩:=h7;refine⟨h1,h2,h3,h4,by simp,h6,?_⟩;rw[hg];exact⟨rfl,h7⟩
  | @fg _ _ _ cap g ad hg hl ha hc PU=>
   rw[hg]at h7;obtain⟨q,q1,q2,q3,q4,q5⟩:=h7;have hlen:(es.take len).length=len:=by rw[List.length_take];omega
   have had:ad=⟨g,0,none⟩:=by
    rcases ha with ha|⟨_,ha⟩
    ·rw[ha];simp
    ·omega
   subst had;refine⟨fun i=>if i=d then{φ d with cap:=cap,len:=len}else φ i,fun i hi=>if_neg hi,by simp,⟨by simp[hlen],by simpa using h2,h3,h4,fun i e he=>h5 i e (gE he).1,by simp;omega,?_⟩,?_⟩
   ·simp only[if_true,hg];refine⟨q,q1,Nat.le_trans (Nat.mul_le_mul_right _ (by omega)) q2,by rw[hlen];exact hc,fun i e j p x he hp hx=>q4 i e j p x (gE he).1 hp hx,fun i x hi hx=>q5 i x (Nat.lt_of_lt_of_le hi (Nat.mul_le_mul_right _ (by rw[hlen];omega))) hx⟩
   ·have:=ai.os (P:=E.P) (μ:=μ) (φ:=fun i=>if i=d then{φ d with cap:=cap,len:=len}else φ i) (id:=d) (g:=g) (by simp[hg]);simpa using this
 have key:∀i b,m' i=some b→(i=id∧b=.box ((cs.map (pM d)).set j (.os d)))∨(i=d∧b=.arr s et (es.take len))∨(i≠id∧i≠d∧∃b',m i=some b'∧b=fI d b'):=fun i b hb=>by
  rw[TA]at hb;by_cases e:i=id
  ·subst e;rw[aM]at hb;exact .inl ⟨rfl,(Option.some.inj hb).symm⟩
  ·rw[ao e]at hb;by_cases e':i=d
   ·subst e';rw[aM]at hb;exact .inr (.inl ⟨rfl,(Option.some.inj hb).symm⟩)
   ·rw[ao e']at hb;exact .inr (.inr ⟨e,(eM hb).1,(eM hb).2⟩)
 have sH:∀i,(m i).isSome=true→(m' i).isSome=true:=fun i hi=>by
  rw[TA];by_cases e:i=id
  ·subst e;rw[aM];rfl
  ·rw[ao e];by_cases e':i=d
   ·subst e';rw[aM];rfl
   ·rw[ao e'];exact qn e' hi
 have XF:∀{i:Nat}{b':bJ},(fI d b').names i=true→i≠d:=fun{i b'}hn=>by cases b'<;>simp only[fI,bJ.names]at hn<;>first|cases hn|exact(uJ hn).2
 have hM:ax E.P E.aH w0 μ φ' m' w:=by
  refine h.toax.MI (fun _ k=>k) (fun i b' hb=>?_) (fun i b' g hb hg=>?_) (fun i b' hb=>?_) (fun i Dk i' hb hh=>?_) (fun i st hb=>?_)
  ·rcases key i b' hb with⟨rfl,rfl⟩|⟨rfl,rfl⟩|⟨e1,e2,b2,pB,rfl⟩
   ·refine⟨g0,c,T,by rw[f1 _ (Ne.symm cS)];exact c1,c2,by simpa using c3,fun n v x hv I3=>?_,c5,by rw[f1 _ (Ne.symm cS)];simpa using c6⟩;rw[List.getElem?_set]at hv;split at hv
    ·rename_i e;subst e;split at hv
     ·simp only[Option.some.injEq]at hv;subst hv;rw[Array.getElem?_eq_getElem (by omega)]at I3;simp only[Option.some.injEq]at I3;subst I3;exact f4
     ·cases hv
    ·simp only[List.getElem?_map,Option.map_eq_some_iff]at hv;obtain⟨v',FZ,rfl⟩:=hv;exact((c4 n v' x FZ I3).kill d).mono (fun _ _ h=>h) fun i hi=>f1 i (ti hi).2
   ·exact f3
   ·exact(h.dI i b2 pB).kill.cH (fun k hk=>f1 k (XF hk)) (f1 i e2) (fun _ _ h=>h) (fun _ _=>rfl)
  ·rcases key i b' hb with⟨rfl,rfl⟩|⟨rfl,rfl⟩|⟨e1,e2,b2,pB,rfl⟩
   ·refine⟨i,_,hm,.inl ?_,fun _=>rfl,rfl⟩;have:=mi (by intro i off h;simp[bJ.rowAt]at h) hg;rw[←this,f1 _ (Ne.symm cS)]
   ·refine⟨i,_,hd,.inl ?_,fun _=>rfl,rfl⟩;rw[←f2];exact mi nN hg
   ·refine⟨i,b2,pB,?_,fun Bb=>by rw[uK]at Bb;exact Bb,rfl⟩;rw[f1 i e2]at hg;exact fD.1 hg
  ·rcases key i b' hb with⟨rfl,rfl⟩|⟨rfl,rfl⟩|⟨e1,e2,b2,pB,rfl⟩
   ·exact ov (by intro i off h;simp[bJ.rowAt]at h)
   ·exact ov nN
   ·rw[f1 i e2];exact rX.2 (h.apart i b2 pB)
  ·rcases key i _ hb with⟨rfl,hb⟩|⟨rfl,hb⟩|⟨e1,e2,b2,pB,e⟩
   ·simp only[bJ.box.injEq]at hb;subst hb;rcases GW _ _ hh with hh|hh
    ·exact sH _ (h.fi _ _ _ hm (uJ hh).1)
    ·have:=Nat.eq_of_beq_eq_true hh;subst this;exact sH _ (by rw[hd];rfl)
   ·cases hb
   ·cases b2 with
    |box cs2=>simp only[fI,bJ.box.injEq]at e;subst e;exact sH _ (h.fi _ _ _ pB (uJ hh).1)
    |_=>simp[fI]at e
  ·rcases key i _ hb with⟨rfl,hb⟩|⟨rfl,hb⟩|⟨e1,e2,b2,pB,e⟩
   ·cases hb
   ·cases hb
   ·cases b2 with
    |loop st2=>simp only[fI,bJ.loop.injEq]at e;subst e;exact⟨pB,by rw[f1 i e2]⟩
    |_=>simp[fI]at e
 exact⟨φ',{toax:=hM,size:=h.size,defers:=h.defers,kF:=h.kF,fr:=(fun t=>((h.fr t).kill d).mono (fun _ _ h=>h) fun i hi=>f1 i (ti hi).2),live:=fun t i hid=>sH _ (h.live t i (ti hid).1)}⟩
theorem ri{A:Type}{nt:Nat}{a:Act}{w:World}:∀{l:List (Nat×Nat)}{μ:Ro}{φ:Nat→aF}{f:Fr}{m:Mem}{k:Fr→Mem→A}{r:A},y6 l f m k=r→Rel E.P E.aH nt w0 μ φ f m a w→∃f' m' φ',k f' m'=r∧Rel E.P E.aH nt w0 μ φ' f' m' a w
 |[],μ,φ,f,m,k,r,h,hR=>⟨f,m,φ,h,hR⟩
 |(id,j)::l,μ,φ,f,m,k,r,h,hR=>by
  unfold y6 at h;split at h
  ·rename_i cs hm;split at h
   ·rename_i d len hj;split at h
    ·rename_i s et es hd;split at h
     ·exact ri h hR
     ·rename_i cS;have cS:d≠id:=fun e=>cS (by rw[e];exact Nat.beq_refl _);obtain⟨φ',iq⟩:=hR.cut hm hj hd cS;exact ri h iq
    ·exact ri h hR
   ·exact ri h hR
  ·exact ri h hR
theorem GX{A:Type}{T:ff}{k:Fr→Mem→A}{r:A}(h:C9 E.P T f m k=r)(hR:Rel E.P E.aH nt w0 μ φ f m a w):∃f' m' μ' φ',k f' m'=r∧Rel E.P E.aH nt w0 μ' φ' f' m' a w:=by unfold C9 at h;obtain⟨_,_,_,h,hR⟩:=ri h hR;obtain⟨m1,φ1,h,hR⟩:=rf h hR;obtain⟨m',h,hR⟩:=xd h hR;obtain⟨m',h,hR⟩:=BX h hR;obtain⟨f',m',μ',h,hR⟩:=re h hR;exact⟨f',m',μ',φ1,h,hR⟩
def Rw:Ex→Exit
 |.normal=>.normal
 |.exit id=>.exit id
 |.ret=>.ret
theorem Rel.Rx(h:Rel E.P E.aH nt w0 μ φ f m a w):Rel E.P E.aH nt w0 μ φ f m a {w with drawn:=w.drawn+1}:={toax:=h.toax.drew,size:=h.size,defers:=h.defers,kF:=h.kF,fr:=h.fr,live:=h.live}
theorem OL{rd:Option Nat}(hE:iJ E)(hY:qR E.P E.aH E.fn.ntmps E.yl w0){R:Type}{ops:Array Oper}{draw:Bool}{k:Ex→Fr→Mem→Option R}{r:R}(h:eZ E (.region id ops draw) f m k=some r){Q:Exit→Act→World→Prop}(hR:Rel E.P E.aH E.fn.ntmps w0 μ φ f m a w)(hQ:∀f' m' μ' φ' a' w',k .normal f' m'=some r→Rel E.P E.aH E.fn.ntmps w0 μ' φ' f' m' a' w'→Q .normal a' w'):(Code.region id ops draw).wpIn (FR rd) 0 E.P Q a w:=by
 simp only[eZ]at h;cases draw with
 |false=>
  simp only[Bool.false_eq_true,if_false]at h;refine wpIn_region ?_;have hmz:∀x∈(List.range ops.size).zip ops.toList,ops[x.1]?=some x.2:=fun x hx=>by have:=(qv (l:=ops.toList) (i:=x.1) (o:=x.2)).1 (by simpa using hx);rwa[Array.getElem?_toList]at this
  have:=gy (rd:=rd) hE hY _ (.inl rfl) h hmz (by intro x hx g hg;cases hg) (fun h=>by cases h) μ φ a w Q [] hR (by intro g hg;cases hg) fun f' m' μ' φ' a' w' hk iq _ _=>hQ f' m' μ' φ' a' w' hk iq;rw[List.append_nil,List.map_fst_zip (by simp)]at this;exact this
 |true=>
  simp only[if_true]at h;split at h
  ·split at h
   ·rename_i hc;simp only[Bool.and_eq_true]at hc;exact wpIn_region_any hE.mixed (Jx hE hY hc.1.1 hc.1.2 hc.2 h hR.Rx hQ)
   ·cases h
  split at h
  ·rename_i hi;refine wpIn_region_any hE.mixed ?_;split at h
   ·rename_i wQ;exact BT hE hY (.inl rfl) (fun _ o ho=>List.all_eq_true.1 wQ o (Array.mem_toList_iff.2 ho)) hi h hR.Rx hQ
   ·exact BT hE hY (.inr rfl) (fun h=>by cases h) hi h hR.Rx hQ
  ·cases h
end
theorem UI{g:FuncId}{fn:Func}(hf:P.funcs[g]?=some fn)(QY:(fn.name== "runtime.NumGoroutine")=false)(hb:fn.body=some c){args:Array Value}{w:World}:(callFunc g args).run P w=.ok (.enter g args) w:=uP hf QY hb
theorem OM{nt:Nat}{w0:bx}{a:Act}{t:Nat}:az nt w0 a (t+nt)=w0.sv (t+nt):=by unfold az;rw[if_neg (by omega)]
def yw(c:Code):Prop:=∀{E:Env}{w0:bx}{rd:Option Nat}(_:iJ E)(_:qR E.P E.aH E.fn.ntmps E.yl w0)(_:E.WS=false→rd=none){R:Type}{f:Fr}{m:Mem}{k:Ex→Fr→Mem→Option R}{r:R},eZ E c f m k=some r→∀{μ:Ro}{φ:Nat→aF}{a:Act}{w:World}{Q:Exit→Act→World→Prop},Rel E.P E.aH E.fn.ntmps w0 μ φ f m a w→(∀e f' m' μ' φ' a' w',k e f' m'=some r→Rel E.P E.aH E.fn.ntmps w0 μ' φ' f' m' a' w'→Q (Rw e) a' w')→c.wpIn (FR rd) 0 E.P Q a w
theorem Ry{as b:Code}(ihA:yw as)(ihB:yw b){E:Env}(hE:iJ E){w2:bx}{lid l ntI:Nat}{ps:Array Nat}{rc:Loop}{fid:Nat}(UD:w2.rc lid=some (l,rc))(lZ:rc.params=ps)(has:rc.assign=as)(hb:rc.body=b)(kM:rc.tmps.size=E.fn.ntmps)(hsv:∀t,t<E.fn.ntmps→w2.sv (t+ntI)=rc.tmps.getD t undef):qR E.P E.aH ntI (fun _ nt _ id args F m k=>bif Nat.beq id lid then roundOf (eZ {E with fid:=fid,yl:=xN,WS:=true} as) (eZ {E with fid:=fid,yl:=xN,WS:=true} b) lid E.fn.ntmps ps.toList nt args F m k else none) w2:=by
 intro R site id args F m k r hy μ φ ρ w xs hM hF hρ hl hr Ep g hg;dsimp only at hy;cases hid:Nat.beq id lid with
 |false=>rw[hid]at hy;cases hy
 |true=>
  rw[hid]at hy;have hid:=Nat.eq_of_beq_eq_true hid;subst hid;simp only[cond_true]at hy;unfold roundOf at hy;split at hy
  ·rename_i Rz;split at hy
   ·rename_i Oa;obtain⟨g',rc',l1,l2,l3⟩:=hM.y8 id _ Rz;rw[UD]at l2;simp only[Option.some.injEq,Prod.mk.injEq]at l2;obtain⟨rfl,rfl⟩:=l2;rw[l1]at hg;simp only[Option.some.injEq]at hg;subst hg;have Gv:xs.size=(IA.ready.obj rc).params.size:=by
     have:ps.toList.length=ps.size:=by simp
     show xs.size=rc.params.size;rw[lZ];omega
    refine⟨_,_,_,_,run_yield l3 Gv,?_⟩;have Za:iJ {E with fid:=fid,yl:=xN,WS:=true}:=⟨hE.mixed,hE.lp,hE.ctx,hE.own,hE.inl,hE.WR⟩;have V9:=DH (P:=E.P) (μ:=μ) (φ:=φ) ps.toList args xs.toList (s9 ntI F) rc.tmps kM (by simpa using hl) (fun t ht=>by have:=hF.fr (t+ntI);rw[hρ _ (by omega),hsv t ht]at this;exact this) (fun i v x hv hx=>hr i v x hv (by simpa using hx));have hR3:Rel E.P E.aH E.fn.ntmps {w2 with sv:=fun t=>ρ (t-E.fn.ntmps),dC:=μ,kF:=fun _=>none} μ φ (Mp E.fn.ntmps (AX ps.toList args (s9 ntI F)) F) m {tmps:=((IA.ready.obj rc).params.zip xs).foldl (fun tmps(t,a)=>tmps.setIfInBounds t a) (IA.ready.obj rc).tmps,defers:=[]} w:=by
     have e:((IA.ready.obj rc).params.zip xs).foldl (fun tmps(t,a)=>tmps.setIfInBounds t a) (IA.ready.obj rc).tmps=(ps.toList.zip xs.toList).foldl (fun tmps(x:Nat×Value)=>tmps.setIfInBounds x.1 x.2) rc.tmps:=by rw[Rs];show(rc.params.toList.zip xs.toList).foldl _ rc.tmps=_;rw[lZ]
     rw[e];refine{toax:=hM.tg rfl rfl (fun _ _ h=>h) (fun _ _ _=>rfl),size:=V9.1,defers:=.nil _ _ _,kF:=fun _ _ h=>(by cases h),fr:=fun t=>?_,live:=fun t id hid=>?_}
     ·unfold Mp az;by_cases ht:t<E.fn.ntmps
      ·rw[show Nat.blt t E.fn.ntmps=true by rw[Nat.blt_eq];exact ht,if_pos ht];exact V9.2 t ht
      ·rw[show Nat.blt t E.fn.ntmps=false by rw[←Bool.not_eq_true,Nat.blt_eq];exact ht,if_neg ht];exact hF.fr _
     ·unfold Mp at hid;cases e:Nat.blt t E.fn.ntmps with
      |true=>
       rw[e]at hid;rcases BU _ _ _ _ hid with h|h
       ·exact Ep id h
       ·exact hF.live _ id h
      |false=>rw[e]at hid;exact hF.live _ id hid
    refine roundIn_of_wpIn trivial ?_;show(IA.ready.obj rc).assign.wpIn (FR (some l)) 0 E.P _ _ _;have VI:(IA.ready.obj rc).assign=as:=has;rw[VI];refine ihA (rd:=some l) Za (wL _ _ _ _) (fun h=>by cases h) hy hR3 fun e f1 m1 μ1 φ1 a1 w1 Om Js=>?_;split at Om
    ·rename_i TB;obtain⟨g1,rc1,p1,p2,p3⟩:=Js.y8 id _ TB;have p2:w2.rc id=some (g1,rc1):=p2;rw[UD]at p2;simp only[Option.some.injEq,Prod.mk.injEq]at p2;obtain⟨rfl,rfl⟩:=p2;refine⟨_,run_beginRound p3 rfl,?_⟩;have fQ:(IA.ready.obj rc).body=b:=hb;refine Eq.mpr (congrArg (fun c:Code=>c.wpIn (FR (some l)) 0 E.P _ a1 _) fQ) ?_;have qW:=Js.toax.turn (st':=.busy) TB p1 UD;have aeq:Rel E.P E.aH E.fn.ntmps {w2 with sv:=fun t=>ρ (t-E.fn.ntmps),dC:=μ,kF:=fun _=>none} μ1 φ1 f1 (an m1 id (.loop .busy)) a1 (w1.putObj l (.loop {IA.ready.obj rc with state:=.busy})):=
      {toax:=qW,size:=Js.size,defers:=Js.defers,kF:=Js.kF,fr:=Js.fr,live:=fun t j hj=>by
        by_cases e:j=id
        ·subst e;simp
        ·rw[ao e];exact Js.live t j hj}
     refine ihB (rd:=some l) Za (wL _ _ _ _) (fun h=>by cases h) Om aeq fun e f2 m2 μ2 φ2 a2 w2' Un Dw=>?_;split at Un
     ·rename_i cG;obtain⟨g2,rc2,q1,q2,q3⟩:=Dw.y8 id _ cG;have q2:w2.rc id=some (g2,rc2):=q2;rw[UD]at q2;simp only[Option.some.injEq,Prod.mk.injEq]at q2;obtain⟨rfl,rfl⟩:=q2;have hle:GJ μ μ2:=Dw.dC;have hFp:ck E.P μ2 φ2 m2 (s9 E.fn.ntmps f2) ρ:=by refine⟨fun t=>?_,fun t id hid=>Dw.live _ id hid⟩;have:=Dw.fr (t+E.fn.ntmps);rw[OM]at this;simpa[s9]using this
      have fin:∀(st:IA)(v:Bool),k (.pv (.bool v)) (s9 E.fn.ntmps f2) (an m2 id (.loop st))=some r→∃v' f' m' y μ' φ',k v' f' m'=some r∧Ending.returned (.bool v)=.returned y∧GJ μ μ'∧ax E.P E.aH w2 μ' φ' m' (w2'.putObj l (.loop (st.obj rc)))∧ck E.P μ' φ' m' f' ρ∧ai E.P μ' φ' v' y∧∀id,v'.has id=true→(m' id).isSome=true:=by
       intro st v hk;have Y8:=Dw.toax.turn (st':=st) cG q1 UD;refine⟨_,_,_,_,μ2,φ2,hk,rfl,hle,Y8.tg rfl rfl (fun b o hb=>hle b o (hM.dC b o hb)) (fun _ _ _=>rfl),⟨hFp.fr,fun t j hj=>?_⟩,.pv .bool,fun id hid=>by cases hid⟩;by_cases e:j=id
       ·subst e;simp
       ·rw[ao e];exact hFp.live t j hj
      cases e with
      |normal=>exact⟨_,_,run_endRound none q3,fin .ready true Un⟩
      |exit j=>exact⟨_,_,run_endRound (some (.exit j)) q3,fin (.done (.exit j)) false Un⟩
      |ret=>exact⟨_,_,run_endRound (some .ret) q3,fin (.done .ret) false Un⟩
     ·cases Un
    ·cases Om
   ·cases hy
  ·cases hy
theorem UJ{μ:Ro}{φ:Nat→aF}{m:Mem}{v:V}{g:FuncId}{lU:List V}{y:Value}(h:WT v=some (g,lU))(hv:ai P μ φ v y)(hl:∀id,v.has id=true→(m id).isSome=true):∃xs,y=.func (.func g) #[] xs∧lU.length=xs.size∧(∀(i:Nat)v x,lU[i]?=some v→xs[i]?=some x→ai P μ φ v x)∧∀id,cq id lU=true→(m id).isSome=true:=by
 unfold WT at h;split at h
 ·simp only[Option.some.injEq,Prod.mk.injEq]at h;obtain⟨rfl,rfl⟩:=h;cases hv with
  | @fn _ _ xs h1 h2=>exact⟨xs,rfl,h1,h2,fun id hid=>hl id (by simpa only[V.has]using hid)⟩
 ·simp only[Option.some.injEq,Prod.mk.injEq]at h;obtain⟨rfl,rfl⟩:=h;cases hv with
  |pv hv=>cases hv with
   | @fn _ _ xs h1 h2=>
    refine⟨xs,rfl,by simpa using h1,fun i v x hv hx=>?_,fun id hid=>?_⟩
    ·simp only[List.getElem?_map,Option.map_eq_some_iff]at hv;obtain⟨q,hq,rfl⟩:=hv;exact .pv (h2 i q x hq hx)
    ·obtain⟨v,hv,hh⟩:=cT.1 hid;obtain⟨q,_,rfl⟩:=List.mem_map.1 hv;cases hh
 ·cases h
theorem EK{g:Operand}{ps:Array Tmp}{as b:Code}(ihA:yw as)(ihB:yw b):yw (.rangeFunc g ps as b):=by
 intro E w0 rd hE hY wR R f m k r h μ φ a w Q hR hQ;simp only[eZ]at h;split at h
 ·cases h
 rename_i IH;have wR:=wR (by simpa using IH);subst wR;split at h;rotate_left
 ·cases h
 rename_i p0 pr CF;generalize agy:cF E (some p0)=lid at h;obtain⟨f1,m1,_,h,Rz,vP,aer⟩:=cJ h;obtain⟨hm0,rfl,rfl⟩:=vP rfl;refine wpIn_rangeFunc fun fn _=>?_;obtain⟨rec,EL⟩:∃rec:Loop,rec={state:=.ready,pending:=none,fn,tmps:=a.tmps,params:=ps,assign:=as,body:=b,defers:=w.heap.size}:=⟨_,rfl⟩;obtain⟨wD,hwD⟩:∃wD,wD=w.alloc (.deferred (some [])):=⟨_,rfl⟩;obtain⟨W1,hW1⟩:∃W1,W1=wD.alloc (.loop rec):=⟨_,rfl⟩;obtain⟨l,hl⟩:∃l,l=wD.heap.size:=⟨_,rfl⟩;have IB:l=w.heap.size+1:=by rw[hl,hwD];simp
 obtain⟨μD,XG⟩:∃μD,μD=zs μ w (.deferred (some [])):=⟨_,rfl⟩;have RA:GJ μ μD:=XG▸GU hR.toax _;have hMD:ax E.P E.aH w0 μD φ m wD:=XG▸hwD▸hR.toax.UE _;have hD:μD w.heap.size=some (.deferred (some [])):=by rw[XG];simp[zs]
 obtain⟨w1,MH⟩:∃w1:bx,w1={w0 with dC:=μD,rc:=fun i=>if i=lid then some (l,rec)else w0.rc i}:=⟨_,rfl⟩;have aaw:ax E.P E.aH w1 μD φ m wD:=MH▸hMD.tg rfl rfl (fun _ _ h=>h) (fun id st hid=>if_neg fun e=>by subst e;rw[hm0]at hid;cases hid);have A9:az E.fn.ntmps w1 a=az E.fn.ntmps w0 a:=by subst MH;rfl
 have hFD:ck E.P μD φ m f1 (az E.fn.ntmps w0 a):=⟨fun t=>(hR.fr t).vn RA,hR.live⟩;have XH:w1.rc lid=some (l,rec):=by subst MH;exact if_pos rfl
 have Ew:W1.heap[l]?=some (.loop rec):=by rw[hW1,hl];exact heap_alloc_new wD _
 have zX:IA.ready.obj rec=rec:=by subst EL;rfl
 have qt:jy E.P w1 μD φ m wD W1 lid (.loop .ready) (CE (some l) 0 0 0):=by
  rw[hW1];refine jy.alloc aaw (by rw[hl]) (fun φ' hp _=>⟨l,rec,by rw[hp],?_⟩) (by simp[bJ.names]) fun st sU=>?_
  ·rw[zX,←hW1];exact Ew
  ·cases sU;exact⟨l,rec,rfl,XH,by rw[zX,←hW1];exact Ew⟩
 obtain⟨φ1,aes,qW,Aa⟩:=aer E.P E.aH w1 μD φ wD W1 (az E.fn.ntmps w0 a) (CE (some l) 0 0 0) aaw hFD qt;have Js:Rel E.P E.aH E.fn.ntmps w1 μD φ1 f1 (an m lid (.loop .ready)) a W1:={toax:=qW,size:=hR.size,defers:=(by have:=hR.defers.mono RA;subst MH;exact this),kF:=(by subst MH;exact fun b o hb=>RA b o (hR.dC b o (hR.kF b o hb))),fr:=fun t=>by rw[A9];exact Aa.fr t,live:=Aa.live};have OA:=ak Js g;split at h;rotate_left
 ·cases h
 rename_i gid lU mY;obtain⟨xs,hgv,hlen,iY,aet⟩:=UJ mY OA.1 OA.2
 ·clear OA;obtain⟨fnI,cI,f1,f2,f3,gz⟩:=hE.WR _ _ _ _ _ _ _ _ _ h;have PT:ai E.P μD φ1 (.yl lid) (.func (.yield l) #[] #[]):=.yl (by rw[aes]);have hC:=gz w1 μD φ1 (az E.fn.ntmps w0 a) W1 (#[.func (.yield l) #[] #[]]++xs) qW Aa (by simp;omega) (fun i v x hv hx=>by
    cases i with
    |zero=>simp at hv;subst hv;rw[Array.getElem?_append]at hx;simp at hx;subst hx;exact PT
    |succ i=>simp at hv;rw[Array.getElem?_append_right (by simp)]at hx;exact iY i v x hv (by simpa using hx)) (fun id hid=>by
    simp only[cq,Bool.or_eq_true]at hid;rcases hid with hid|hid
    ·have:=Nat.eq_of_beq_eq_true hid;subst this;simp
    ·exact aet id hid) (by
   refine fun R site id args F m k r hy=>Ry (fid:=site*4096+E.fid%4096) ihA ihB hE (w2:={w1 with sv:=fun t=>az E.fn.ntmps w0 a (t-fnI.ntmps)}) (rc:=rec) (l:=l) (lid:=lid) (ps:=ps) XH (by subst EL;rfl) (by subst EL;rfl) (by subst EL;rfl) (by subst EL;exact hR.size) (fun t ht=>by subst EL;show az E.fn.ntmps w0 a (t+fnI.ntmps-fnI.ntmps)=_;rw[Nat.add_sub_cancel,og ht]) R site id args F m k r hy)
  refine⟨l,[{target:=.collected w.heap.size,args:= #[]}],W1,{target:=.fn (.func gid) xs,args:= #[.func (.yield l) #[] #[]]},W1,gid,#[.func (.yield l) #[] #[]]++xs,W1,?_,?_,?_,?_,?_,?_⟩
  ·have:=run_enterLoop_outer (P:=E.P) (w:=w) fn a.tmps ps as b;rw[IB,hW1,hwD,EL];exact this
  ·simp only[resolve,hgv];simp[go_sem]
  ·exact fun _ _=>trivial
  ·simp[invoke,go_sem,UI f1 f3 f2]
  ·exact fun h=>by cases h
  ·refine FR.MM (hC.mono ?_);rintro e w' ⟨v,f',m',y,μ',φ',hk,rfl,QD,ZH,_,_⟩;have XI:GJ μD μ':=by have:=QD.dC;subst MH;exact this
   have hD':μ' w.heap.size=some (.deferred (some [])):=XI _ _ hD;have main:∀st,m' lid=some (.loop st)→st≠.busy→∃w4,(Instr.endLoop l).run E.P w'=.ok (st.obj rec).pending w4∧Rel E.P E.aH E.fn.ntmps w0 μ' φ' (eP lid f') (bf (bC lid m') lid) {a with defers:=[{target:=.collected w.heap.size,args:= #[]}]++a.defers} w4:=by
    intro st sU ZT;obtain⟨g',rc',p1,p2,p3⟩:=QD.y8 lid st sU;rw[XH]at p2;simp only[Option.some.injEq,Prod.mk.injEq]at p2;obtain⟨rfl,rfl⟩:=p2;have rR:=QD.own lid _ _ sU (.inl p1);have hMf:=QD.forget lid;have yj:∀id b,bf (bC lid m') lid id=some b→¬b.owns (φ' id) l:=fun id b' hid e=>by obtain⟨cS,b2,pB,rfl⟩:=eM hid;exact cS (QD.inj id lid b2 _ l pB sU (fD.1 e) (.inl p1))
    have hM4:=hMf.other (.loop {st.obj rec with state:=.exhausted}) rR.1 (rR.2 rfl) yj;have hM5:ax E.P E.aH w0 μ' φ' (bf (bC lid m') lid) (w'.putObj l (.loop {st.obj rec with state:=.exhausted})):=hM4.tg (by subst MH;rfl) (by subst MH;rfl) (fun b o hb=>XI b o (RA b o (hR.dC b o hb))) (fun id st hid=>by
      have cS:id≠lid:=fun e=>by subst e;simp at hid
      subst MH;exact(if_neg cS).symm)
    refine⟨_,run_endLoop p3 (by cases st<;>simp_all[IA.obj]),{toax:=hM5,size:=hR.size,defers:=?_,kF:=hR.kF,fr:=?_,live:=?_}⟩
    ·obtain⟨Ds,e,Tz,hDs⟩:=hR.defers;have br:∀b o,μ b=some o→b<w.heap.size:=fun b o hb=>(Array.getElem?_eq_some_iff.1 (hR.ro b o hb)).1;refine⟨w.heap.size::Ds,by simp[e],List.nodup_cons.2 ⟨fun hd=>?_,Tz⟩,fun D hd=>?_⟩
     ·have:=br _ _ (hDs _ hd).2.2;omega
     ·rcases List.mem_cons.1 hd with rfl|hd
      ·refine⟨hR.below.size,?_,hD'⟩;cases ho:w0.kF w.heap.size with
       |none=>rfl
       |some o=>have:=br _ _ (hR.dC _ _ (hR.kF _ _ ho));omega
      ·exact⟨(hDs D hd).1,(hDs D hd).2.1,XI _ _ (RA _ _ (hDs D hd).2.2)⟩
    ·exact(ZH.forget lid).fr
    ·exact(ZH.forget lid).live
   dsimp only at hk;split at hk
   ·rename_i sU;obtain⟨w4,e1,e2⟩:=main .ready sU (by simp);exact⟨none,w4,e1,hQ .normal _ _ _ _ _ _ hk e2⟩
   ·rename_i j sU;obtain⟨w4,e1,e2⟩:=main (.done j) sU (by simp);refine⟨some j.code,w4,e1,?_⟩;cases j with
    |ret=>exact wpIn_ret (hQ .ret _ _ _ _ _ _ hk e2)
    |exit id=>exact wpIn_exit (hQ (.exit id) _ _ _ _ _ _ hk e2)
   ·cases hk
theorem RB:∀(c:Code),yw c:=by
 intro c;induction c with
 |skip=>intro E w0 rd hE hY wR R f m k r h μ φ a w Q hR hQ;simp only[eZ]at h;exact wpIn_skip (hQ .normal _ _ _ _ _ _ h hR)
 |region id ops draw=>intro E w0 rd hE hY wR R f m k r h μ φ a w Q hR hQ;exact OL hE hY h hR (hQ .normal)
 |seq x y ihx ihy=>
  intro E w0 rd hE hY wR R f m k r h μ φ a w Q hR hQ;simp only[eZ]at h;refine wpIn_seq (ihx hE hY wR h hR fun e f' m' μ' φ' a' w' hk iq=>?_);cases e with
  |normal=>exact ihy hE hY wR hk iq hQ
  |exit id=>exact hQ (.exit id) _ _ _ _ _ _ hk iq
  |ret=>exact hQ .ret _ _ _ _ _ _ hk iq
 |cond c x y ihx ihy=>
  intro E w0 rd hE hY wR R f m k r h μ φ a w Q hR hQ;simp only[eZ]at h;split at h
  ·rename_i t b hb;have hv:a.eval (.tmp t)=.bool b:=by have:=(ak hR (.tmp t)).1;rw[hb]at this;exact oE this
   have fQ:f t=.pv (.bool b):=(BD hb).2;have hle:sR (fh f t (.pv (.bool b))) f:=fun s=>by
    simp only[fh];cases e:Nat.beq s t with
    |true=>have:=Nat.eq_of_beq_eq_true e;subst this;exact .inl fQ.symm
    |false=>exact .inl rfl
   cases b with
   |true=>simp only[if_true]at h;exact wpIn_cond_true hv (ihx hE hY wR h (hR.weaken hle) hQ)
   |false=>simp only[Bool.false_eq_true,if_false]at h;exact wpIn_cond_false hv (ihy hE hY wR h (hR.weaken hle) hQ)
  ·cases h
 |block id b ih=>
  intro E w0 rd hE hY wR R f m k r h μ φ a w Q hR hQ;simp only[eZ]at h;refine wpIn_block (ih hE hY wR h hR fun e f' m' μ' φ' a' w' hk iq=>?_);cases e with
  |normal=>exact hQ .normal _ _ _ _ _ _ hk iq
  |exit j=>
   simp only[Ex.Qn]at hk;simp only[Rw,Exit.inBlock];split at hk
   ·rename_i hj;rw[if_pos hj];exact hQ .normal _ _ _ _ _ _ hk iq
   ·rename_i hj;rw[if_neg hj];exact hQ (.exit j) _ _ _ _ _ _ hk iq
  |ret=>exact hQ .ret _ _ _ _ _ _ hk iq
 |loop b ih=>
  intro E w0 rd hE hY wR R f m k r h μ φ a w Q hR hQ;simp only[eZ]at h;split at h
  ·rename_i T _;obtain⟨f,m,μ,φ,h,hR⟩:=GX h hR;obtain⟨s,hs,s1,s2,s3,s4⟩:=Ru h;obtain⟨n0,hs⟩:=hE.lp _ _ _ _ _ hs;refine DJ (fun n a w=>∃s μ φ,Rel E.P E.aH E.fn.ntmps w0 μ φ (IW T s) (AW T s) a w∧cE (fun s rec=>eZ E b (IW T s) (AW T s) (Ex.Gj (fun f m=>C9 E.P T f m fun f m=>enc T f m rec) k)) n s=some r) ?_ n0 a w ⟨s,μ,φ,hR.dec s1 s2 s3 s4,hs⟩;rintro n a w ⟨s,μ,φ,hR,hs⟩;cases n with
   |zero=>simp[cE]at hs
   |succ n=>
    refine⟨n,rfl,?_⟩;simp only[cE]at hs;refine ih hE hY wR hs hR fun e f' m' μ' φ' a' w' hk iq=>?_;cases e with
    |normal=>obtain⟨f',m',μ',φ',hk,iq⟩:=GX hk iq;obtain⟨s',hs',t1,t2,t3,t4⟩:=Ru hk;exact⟨s',μ',φ',iq.dec t1 t2 t3 t4,hs'⟩
    |exit j=>exact hQ (.exit j) _ _ _ _ _ _ hk iq
    |ret=>exact hQ .ret _ _ _ _ _ _ hk iq
  ·refine DJ (fun n a w=>∃f m μ φ,Rel E.P E.aH E.fn.ntmps w0 μ φ f m a w∧Gh (fun f m rec=>eZ E b f m (Ex.Gj rec k)) n f m=some r) ?_ E.u a w ⟨f,m,μ,φ,hR,h⟩;rintro n a w ⟨f,m,μ,φ,hR,hs⟩;cases n with
   |zero=>simp[Gh]at hs
   |succ n=>
    refine⟨n,rfl,?_⟩;simp only[Gh]at hs;refine ih hE hY wR hs hR fun e f' m' μ' φ' a' w' hk iq=>?_;cases e with
    |normal=>exact⟨f',m',μ',φ',iq,hk⟩
    |exit j=>exact hQ (.exit j) _ _ _ _ _ _ hk iq
    |ret=>exact hQ .ret _ _ _ _ _ _ hk iq
 |exit id=>intro E w0 rd hE hY wR R f m k r h μ φ a w Q hR hQ;simp only[eZ]at h;exact wpIn_exit (hQ (.exit id) _ _ _ _ _ _ h hR)
 |label l=>intro E w0 rd hE hY wR R f m k r h μ φ a w Q hR hQ;simp only[eZ]at h;exact wpIn_label (hQ .normal _ _ _ _ _ _ h hR)
 |ret=>intro E w0 rd hE hY wR R f m k r h μ φ a w Q hR hQ;simp only[eZ]at h;exact wpIn_ret (hQ .ret _ _ _ _ _ _ h hR)
 |scope b ih=>intro E w0 rd hE hY wR R f m k r h μ φ a w Q hR hQ;simp only[eZ]at h;exact OK (ih hE hY wR h hR fun e f' m' μ' φ' a' w' hk iq=>by cases e<;>exact hQ _ _ _ _ _ _ _ hk iq)
 |rangeFunc g ps as b ihA ihB=>exact EK ihA ihB
 |_=>intro E w0 rd hE hY wR R f m k r h;simp[eZ]at h
end Go.Ab
set_option linter.unusedVariables false
namespace Go.Ab
open Go.RowKit (Below)
def Obj.XJ:Obj→Bool
 |.cells .. =>true
 |.map .. =>true
 |_=>false
def MU(μ μ':Ro):Prop:=∀b o,μ b=some o→Obj.XJ o=true→μ' b=some o
theorem MU.trans{a b c:Ro}(h:MU a b)(k:MU b c):MU a c:=fun x o hx ho=>k x o (h x o hx ho) ho
section
variable {P:Program} {G:Nat→Option (List PV)} {w0:bx} {μ μ':Ro} {φ:Nat→aF} {m:Mem} {w w':World}
variable{x:Value}
theorem BZ(h:MU μ μ'){b o:Nat}(hx:cellAt μ b o=some x):cellAt μ' b o=some x:=by
 unfold cellAt at*;split at hx
 ·rename_i c t fz hb;rw[h _ _ hb rfl];exact hx
 ·cases hx
theorem aj.off(h:MU μ μ'){p:PV}(hp:aj P μ p x):aj P μ' p x:=by
 induction hp with
 |int h=>exact .int h
 |bool=>exact .bool
 |str h=>exact .str h
 |agg h1 _ h3 ih=>exact .agg h1 ih h3
 |bm h1 _ ih=>exact .bm h1 ih
 |ny=>exact .ny
 |rp X h1 _ h3 ih=>exact .rp X (fun i p hi=>BZ h (h1 i p hi)) ih h3
 |jl=>exact .jl
 |FX h=>exact .FX h
 |rs X h1 h2 h3 h4 _ h6 ih=>exact .rs X h1 h2 h3 (fun i e j p hi hj=>BZ h (h4 i e j p hi hj)) ih h6
 |sN=>exact .sN
 |rm h1 h2 h3 h4 h5 _ _ ih1 ih2=>exact .rm (h _ _ h1 rfl) h2 h3 h4 h5 ih1 ih2
 |xL=>exact .xL
 |fn h1 _ ih=>exact .fn h1 ih
 |Qu=>exact .Qu
 |T3=>exact .T3
 |bad=>exact .bad
theorem vl.off(h:MU μ μ'){g:Nat}{cs:List PV}(hv:vl P μ g cs):vl P μ' g cs:=⟨hv.rep.off h,let⟨c,T,z,h1,h2⟩:=hv.size;⟨c,T,z,h _ _ h1 rfl,h2⟩⟩
theorem ai.off(h:MU μ μ'){v:V}{x:Value}(hv:ai P μ φ v x):ai P μ' φ v x:=by
 induction hv with
 |pv hp=>exact .pv (hp.off h)
 |bj=>exact .bj
 |op hg=>exact .op hg
 |oe hg=>exact .oe hg
 |pA hg=>exact .pA hg
 |os hg=>exact .os hg
 |oh hg=>exact .oh hg
 |fg hg hl ha hc PU=>exact .fg hg hl ha hc PU
 |Er hg=>exact .Er hg
 |sY hg=>exact .sY hg
 |wC hg hs=>exact .wC hg hs
 |om hg=>exact .om hg
 |yl hg=>exact .yl hg
 |it hg=>exact .it hg
 |fn h1 _ ih=>exact .fn h1 ih
 |agg h1 _ h3 ih=>exact .agg h1 ih h3
 |bm h1 _ ih=>exact .bm h1 ih
 |top=>exact .top
theorem aL.off(h:MU μ μ'){id sz:Nat}{et:TypeId}{es:List PV}(ha:aL P μ φ w id sz et es)(hw:∀g,(φ id).g=some g→w'.heap[g]?=w.heap[g]?):aL P μ' φ w' id sz et es:=by
 obtain⟨a1,a2,a3,a4,a5,a6,a7⟩:=ha;refine⟨a1,a2,a3,a4,a5,a6,?_⟩;cases hg:(φ id).g with
 |none=>rw[hg]at a7;exact a7
 |some g=>rw[hg]at a7;obtain⟨c,c1,c2,c3,c4,c5⟩:=a7;exact⟨c,by rw[hw g hg];exact c1,c2,c3,fun i e j p x h1 h2 h3=>(c4 i e j p x h1 h2 h3).off h,c5⟩
theorem eK.off(hh:MU μ μ'){R:y9}{s:Nat}{rs:List PV}{x:Value}(h:eK P μ R w s rs x)(hw:∀g,R.g=some g→w'.heap[g]?=w.heap[g]?):eK P μ' R w' s rs x:=
 let⟨⟨et,hA⟩,hV⟩:=h
 ⟨⟨et,hA.off hh hw⟩,hV.off hh⟩
theorem eg.off(hh:MU μ μ'){R:y9}{p:PV}{x:Value}(h:eg P μ R w p x)(hw:p.isRow=true→∀g,R.g=some g→w'.heap[g]?=w.heap[g]?):eg P μ' R w' p x:=by
 unfold eg at*;split at h
 ·exact eK.off hh h (hw rfl)
 ·exact aj.off hh h
theorem aV.off(hh:MU μ μ'){id sz:Nat}{et:TypeId}{es:List PV}(h:aV P μ φ w id sz et es)(hw:∀g,(bJ.nest sz et es).owns (φ id) g→w'.heap[g]?=w.heap[g]?):aV P μ' φ w' id sz et es:=by
 obtain⟨a1,a2,a3,a4,a5,a6,a7⟩:=h;refine⟨a1,a2,a3,a4,a5,a6,?_⟩;cases hg:(φ id).g with
 |none=>rw[hg]at a7;exact a7
 |some g=>rw[hg]at a7;obtain⟨c,c1,c2,c3,c4,c5⟩:=a7;exact⟨c,by rw[hw g (.inl hg)];exact c1,c2,c3,fun i e j p x h1 h2 h3=>(c4 i e j p x h1 h2 h3).off hh fun hr g' bV=>hw g' (.inr ⟨i,j,by rw[dy h1 h2];exact hr,bV⟩),c5⟩
theorem eK.MV{R:y9}{s g:Nat}{rs:List PV}(h:eK P μ R w s rs x)(hg:R.g=some g):∃c T z,w.heap[g]?=some (.cells c T z):=by obtain⟨⟨et,_,_,_,_,_,_,a7⟩,_⟩:=h;have bV:R.up.g=some g:=hg;simp only[bV]at a7;obtain⟨c,c1,_⟩:=a7;exact⟨_,_,_,c1⟩
theorem fR.RC{id g i off:Nat}{b:bJ}(h:fR P μ φ w id b)(hr:b.rowAt i off=true)(hg:((φ id).row i off).g=some g):∃c T z,w.heap[g]?=some (.cells c T z):=by
 rcases iN hr with⟨sz,et,es,e,s,rs,rfl,he,hp⟩|⟨kt,e0,es,k,s,rs,rfl,rfl,he⟩
 ·have hN:aV P μ φ w id sz et es:=h;have hgg:∃g0,(φ id).g=some g0:=by
   cases hq:(φ id).g with
   |some g0=>exact⟨g0,rfl⟩
   |none=>have a7:=hN.2.2.2.2.2.2;rw[hq]at a7;rw[a7.1]at he;simp at he
  obtain⟨g0,IC⟩:=hgg;obtain⟨c,x,_,_,c3,_⟩:=hN.cell IC he hp;exact eK.MV (show eK P μ _ w s rs x from c3) hg
 ·obtain⟨g0,en,clock,kk,IC,hh,hs,hk,hc,sE,hv⟩:=h;have hi:i<en.size:=by rw[hs];exact(List.getElem?_eq_some_iff.1 he).1
  have h3:=(hv i k _ en[i] he (Array.getElem?_eq_getElem hi)).2;exact eK.MV (P:=P) (μ:=μ) (R:=(φ id).row i 0) (s:=s) (rs:=rs) (x:=en[i].val) ⟨⟨_,h3.1⟩,h3.2⟩ hg
theorem fR.off(h:MU μ μ')(mh:∀b o,μ b=some o→w.heap[b]?=some o){id:Nat}{b:bJ}(hb:fR P μ φ w id b)(hw:∀g,b.owns (φ id) g→w'.heap[g]?=w.heap[g]?):fR P μ' φ w' id b:=by
 cases b with
 |nest sz et es=>exact aV.off h hb hw
 |eU kt e0 es=>
  obtain⟨g,en,clock,kk,hg,hh,hs,hk,hc,sE,hv⟩:=hb;refine⟨g,en,clock,kk,hg,by rw[hw g (.inl hg)];exact hh,hs,hk,hc,sE,fun i k v e h1 h2=>⟨(hv i k v e h1 h2).1.off h,?_⟩⟩;have h3:=(hv i k v e h1 h2).2;split at h3
  ·exact⟨h3.1.off h fun g' bV=>hw g' (.inr ⟨i,0,by rw[iM h1];rfl,bV⟩),h3.2.off h⟩
  ·exact h3.off h
 |box cs=>obtain⟨g,c,T,hg,hh,hs,hv,h1,xZ⟩:=hb;exact⟨g,c,T,hg,by rw[hw g (.inl hg)];exact hh,hs,fun i v x hi hx=>(hv i v x hi hx).off h,h1,xZ⟩
 |arr sz et es=>exact aL.off h hb fun g hg=>hw g (.inl hg)
 |nM sz et es=>refine⟨aL.off h hb.1 fun g hg=>hw g (.inl hg),fun g hg=>?_⟩;obtain⟨o,ho⟩:=Option.isSome_iff_exists.1 (hb.2 g hg);obtain⟨_,_,_,_,_,_,a7⟩:=hb.1;rw[hg]at a7;obtain⟨c,c1,_⟩:=a7;have:=mh g o ho;rw[c1]at this;cases this;rw[h _ _ ho rfl];rfl
 |map kt es=>obtain⟨g,en,clock,kk,hg,hh,hs,hk,hc,sE,hv⟩:=hb;exact⟨g,en,clock,kk,hg,by rw[hw g (.inl hg)];exact hh,hs,hk,hc,sE,fun i k v e h1 h2=>⟨(hv i k v e h1 h2).1.off h,(hv i k v e h1 h2).2.off h⟩⟩
 |iter t es cur=>obtain⟨g,mg,en,clock,seen,hg,hh,Bb,sE,xZ,hv,ZP⟩:=hb;exact⟨g,mg,en,clock,seen,hg,by rw[hw g (.inl hg)];exact hh,h _ _ Bb rfl,sE,xZ,fun i k v e h1 h2=>⟨(hv i k v e h1 h2).1.off h,(hv i k v e h1 h2).2.off h⟩,fun k v hc=>let⟨i,e,h1,h2,h3,h4⟩:=ZP k v hc;⟨i,e,h1,h2,h3.off h,h4.off h⟩⟩
 |loop st=>obtain⟨g,rc,hg,hh⟩:=hb;exact⟨g,rc,hg,by rw[hw g (.inl hg)];exact hh⟩
def zt(μ:Ro)(D:Nat):Ro:=fun b=>if b=D then none else μ b
theorem MW{D:Nat}(hD:μ D=some (.deferred (some []))):MU μ (zt μ D):=by intro b o hb ho;unfold zt;rw[if_neg fun e=>by subst e;rw[hD]at hb;cases hb;cases ho];exact hb
theorem ax.shut(hM:ax P G w0 μ φ m w){D:Nat}(hB:w0.heap.size≤D)(hk:w0.dC D=none)(hD:μ D=some (.deferred (some []))):ax P G w0 (zt μ D) φ m (w.putObj D (.deferred none)):=by
 have hc:=MW hD;have hh:=hM.ro _ _ hD;have Ac:∀k,k≠D→(w.putObj D (.deferred none)).heap[k]?=w.heap[k]?:=fun k hk=>World.putObj_heap_other hk;have cS:∀id b g,m id=some b→b.owns (φ id) g→g≠D:=fun id b g hm hg e=>by
  subst e;have hR:=hM.dI id b hm;rcases hg with hg|⟨i,off,hr,hg⟩
  rotate_left
  ·obtain⟨c,T,z,h2⟩:=hR.RC hr hg;rw[hh]at h2;cases h2
  cases b with
  |nest sz et es=>obtain⟨_,_,_,_,_,_,a7⟩:=hR;rw[hg]at a7;obtain⟨c,c1,_⟩:=a7;rw[hh]at c1;cases c1
  |eU kt e0 es=>obtain⟨g',en,clock,kk,bV,h2,_⟩:=hR;rw[hg]at bV;cases bV;rw[hh]at h2;cases h2
  |box cs=>obtain⟨g',c,T,bV,h2,_⟩:=hR;rw[hg]at bV;cases bV;rw[hh]at h2;cases h2
  |arr sz et es=>obtain⟨_,_,_,_,_,_,a7⟩:=hR;rw[hg]at a7;obtain⟨c,c1,_⟩:=a7;rw[hh]at c1;cases c1
  |nM sz et es=>obtain⟨⟨_,_,_,_,_,_,a7⟩,_⟩:=hR;rw[hg]at a7;obtain⟨c,c1,_⟩:=a7;rw[hh]at c1;cases c1
  |map kt es=>obtain⟨g',en,clock,kk,bV,h2,_⟩:=hR;rw[hg]at bV;cases bV;rw[hh]at h2;cases h2
  |loop st=>obtain⟨g',rc,bV,h2⟩:=hR;rw[hg]at bV;cases bV;rw[hh]at h2;cases h2
  |iter t es cur=>obtain⟨g',mg,en,clock,seen,bV,h2,_⟩:=hR;rw[hg]at bV;cases bV;rw[hh]at h2;cases h2
 refine⟨hM.below.trans ((jw.putObj w D _).mono hB),fun b o hb=>?_,fun g cs hg=>(hM.aH g cs hg).off hc,fun id b hm=>(hM.dI id b hm).off hc hM.ro fun g hg=>Ac g (cS id b g hm hg),fun id b g hm hg=>?_,hM.inj,hM.apart,hM.fi,fun b o hb br=>?_,fun b o hb=>?_,fun id st hm=>?_⟩
 ·unfold zt at hb;split at hb
  ·cases hb
  ·rename_i e;rw[Ac b e];exact hM.ro b o hb
 ·obtain⟨h1,h2⟩:=hM.own id b g hm hg;refine⟨h1,fun Gp=>?_⟩;unfold zt;rw[if_neg (cS id b g hm hg)];exact h2 Gp
 ·unfold zt at hb;split at hb
  ·cases hb
  ·exact hM.base b o hb br
 ·unfold zt;rw[if_neg fun e=>by subst e;rw[hk]at hb;cases hb];exact hM.dC b o hb
 ·obtain⟨g,rc,h1,h2,h3⟩:=hM.y8 id st hm;exact⟨g,rc,h1,h2,by rw[Ac g (cS id _ g hm (.inl h1))];exact h3⟩
end
section
variable {E:Env} {w0:bx}
theorem xe{R:Ending→World→Prop}{f:Fr}{m:Mem}{φ:Nat→aF}{fn:Func}{tmps:Array Value}:∀(Ds:List Nat){μ:Ro}{w:World},Ds.Nodup→(∀D∈Ds,w0.heap.size≤D∧w0.dC D=none∧μ D=some (.deferred (some [])))→Rel E.P E.aH E.fn.ntmps w0 μ φ f m {tmps,defers:=[]} w→(∀μ' w',Rel E.P E.aH E.fn.ntmps w0 μ' φ f m {tmps,defers:=[]} w'→∃v,(results fn tmps).run E.P w'=.ok v w'∧R (.returned v) w')→LeavesInM (FR none) 0 E.P fn tmps R (Ds.map fun D=>{target:=.collected D,args:= #[]}) .returning w
 |[],μ,w,_,_,hR,tE=>tE μ w hR
 |D::Ds,μ,w,hn,hD,hR,tE=>by obtain⟨h1,h2,h3⟩:=hD D (by simp);obtain⟨n1,n2⟩:=List.nodup_cons.1 hn;have hM:=hR.toax.shut h1 h2 h3;refine⟨by simp,.inl ⟨D,_,rfl,run_takeDeferred (hR.ro _ _ h3),?_⟩⟩;refine xe Ds n2 (fun D' MD=>?_) {toax:=hM,size:=hR.size,defers:=.nil _ _ _,kF:=hR.kF,fr:=fun t=>(hR.fr t).off (MW h3),live:=hR.live} tE;obtain⟨a1,a2,a3⟩:=hD D' (by simp[MD]);refine⟨a1,a2,?_⟩;unfold zt;rw[if_neg fun e=>by subst e;exact n1 MD];exact a3
theorem qj(hE:iJ E)(hY:qR E.P E.aH E.fn.ntmps E.yl w0)(hko:∀b o,w0.dC b=some o→w0.kF b=some o){g:FuncId}{c:Code}(hf:E.P.funcs[g]?=some E.fn)(hb:E.fn.body=some c){xs:Array Value}{R:Ending→World→Prop}{S:Type}{f:Fr}{m:Mem}{k:Ex→Fr→Mem→Option S}{r:S}(h:eZ E c f m k=some r){μ:Ro}{φ:Nat→aF}{w:World}(hR:Rel E.P E.aH E.fn.ntmps w0 μ φ f m {tmps:=xs++Array.replicate (E.fn.ntmps-xs.size) undef,defers:=[]} w)(tE:∀e f' m' μ' φ' tmps w',k e f' m'=some r→Rel E.P E.aH E.fn.ntmps w0 μ' φ' f' m' {tmps,defers:=[]} w'→(∀id,e≠.exit id)∧∃v,(results E.fn tmps).run E.P w'=.ok v w'∧R (.returned v) w'):Calls E.P g xs w R:=by
 refine(callsIn_wide (n:=0)).1 (callsIn_of_wp_marks (F:=FR none) hf hb trivial ?_);refine RB c hE hY (fun _=>rfl) h hR fun e f' m' μ' φ' a' w' hk iq=>?_;obtain⟨Ds,e1,e2,e3⟩:=iq.defers;have Dw:Rel E.P E.aH E.fn.ntmps w0 μ' φ' f' m' {tmps:=a'.tmps,defers:=[]} w':={toax:=iq.toax,size:=iq.size,defers:=.nil _ _ _,kF:=iq.kF,fr:=iq.fr,live:=iq.live};have key:(∀id,e≠.exit id)→LeavesInM (FR none) 0 E.P E.fn a'.tmps R a'.defers .returning w':=fun _=>by
  rw[e1];refine xe Ds e2 (fun D hd=>?_) Dw fun μ2 w2 hR3=>(tE e f' m' μ2 φ' a'.tmps w2 hk hR3).2;obtain⟨a1,a2,a3⟩:=e3 D hd;refine⟨a1,?_,a3⟩;cases hq:w0.dC D with
  |none=>rfl
  |some o=>rw[hko D o hq]at a2;cases a2
 have cS:=(tE e f' m' μ' φ' a'.tmps w' hk Dw).1;cases e with
 |normal=>exact key cS
 |ret=>exact key cS
 |exit id=>exact absurd rfl (cS id)
end
end Go.Ab
