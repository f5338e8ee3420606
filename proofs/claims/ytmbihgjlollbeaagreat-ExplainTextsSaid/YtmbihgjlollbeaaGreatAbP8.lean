import Derived.Test.YtmbihgjlollbeaaGreatAbP7
import Derived.RangeFuncIn
import Derived.Scope
set_option linter.unusedVariables false
set_option linter.unusedSimpArgs false
namespace Go.Ab
open Go.RowKit (Below)
section
variable {P:Program} {G:Nat→Option (List PV)} {w0:bw} {μ:Ro} {φ:Nat→aA} {m:Mem} {w:World}
theorem jS.putObj(w:World)(g:Nat)(o:Obj):jS g w (w.putObj g o):=⟨⟨rfl,rfl,rfl,by simp,fun k hk=>World.putObj_heap_other (by omega)⟩,fun _=>aiJ _⟩
theorem av.vq(h:av P G w0 μ φ m w){w1:bw}(hw:w1.w=w0.w)(Fg:w1.mu=w0.mu)(hk:∀b o,w1.dy b=some o→μ b=some o)(XE:∀id st,m id=some (.loop st)→w1.rc id=w0.rc id):av P G w1 μ φ m w:=by obtain⟨a0,b0,c0,d0,e0⟩:=w0;obtain⟨a1,b1,c1,d1,e1⟩:=w1;simp only at hw Fg;subst hw;subst Fg;refine⟨h.below,h.ro,h.aF,h.dw,h.own,h.inj,h.apart,h.fu,h.base,hk,fun id st hid=>?_⟩;obtain⟨g,rc,h1,h2,h3⟩:=h.BH id st hid;exact⟨g,rc,h1,(XE id st hid).trans h2,h3⟩
def B2(μ:Ro)(w:World)(o:Obj):Ro:=fun b=>if b=w.heap.size then some o else μ b
theorem Kb(hM:av P G w0 μ φ m w)(o:Obj):J0 μ (B2 μ w o):=by intro b o' hb;have:=(OF.1 (hM.ro b o' hb)).1;unfold B2;rw[By (by omega)];exact hb
theorem av.XF(hM:av P G w0 μ φ m w)(o:Obj):av P G w0 (B2 μ w o) φ m (w.alloc o):=by
 have hle:=Kb hM o;have hold:∀k,k<w.heap.size→(w.alloc o).heap[k]?=w.heap[k]?:=fun k hk=>jS.heap_alloc w o k hk;have mI:w0.heap.size≤w.heap.size:=hM.below.size;refine⟨hM.below.alloc hM.below.size o,fun b o' hb=>?_,fun g cs hg=>(hM.aF g cs hg).mono hle,fun id b hid=>?_,fun id b g hid hg=>?_,hM.inj,hM.apart,hM.fu,fun b o' hb bT=>?_,fun b o' hb=>hle b o' (hM.dy b o' hb),fun id st hid=>?_⟩
 ·unfold B2 at hb;split at hb
  ·rename_i e;subst e;cases hb;exact heap_alloc_new w o
  ·have:=hM.ro b o' hb;rw[hold b (OF.1 this).1];exact this
 ·have hR:=hM.dw id b hid;exact hR.cn (fun _ _=>rfl) rfl hle (fun g hg=>hold g (hR.Dl hg))
 ·obtain⟨h1,h2⟩:=hM.own id b g hid hg;refine⟨h1,fun MM=>?_⟩;have:=(hM.dw id b hid).Dl hg;unfold B2;rw[By (by omega)];exact h2 MM
 ·unfold B2 at hb;rw[By (by omega)]at hb;exact hM.base b o' hb bT
 ·obtain⟨g,rc,h1,h2,h3⟩:=hM.BH id st hid;exact⟨g,rc,h1,h2,by rw[hold g (OF.1 h3).1];exact h3⟩
theorem av.other(hM:av P G w0 μ φ m w){g:Nat}(o:Obj)(hg:w0.heap.size≤g)(hμ:μ g=none)(BV:∀id b,m id=some b→¬b.owns (φ id) g):av P G w0 μ φ m (w.putObj g o):=by
 have DK:∀k,k≠g→(w.putObj g o).heap[k]?=w.heap[k]?:=fun k hk=>World.putObj_heap_other hk;refine⟨hM.below.trans ((jS.putObj w g o).mono hg),fun b o' hb=>?_,hM.aF,fun id b hid=>?_,hM.own,hM.inj,hM.apart,hM.fu,hM.base,hM.dy,fun id st hid=>?_⟩
 ·rw[DK b fun e=>by subst e;rw[hμ]at hb;cases hb];exact hM.ro b o' hb
 ·have hR:=hM.dw id b hid;exact hR.cn (fun _ _=>rfl) rfl (fun _ _ h=>h) (fun g' cv=>DK g' fun e=>by subst e;exact BV id b hid cv)
 ·obtain⟨g',rc,h1,h2,h3⟩:=hM.BH id st hid;exact⟨g',rc,h1,h2,by rw[DK g' fun e=>by subst e;exact BV id _ hid (.inl h1)];exact h3⟩
theorem av.turn(hM:av P G w0 μ φ m w){id g:Nat}{st st':Mk}{rc:Loop}(hm:m id=some (.loop st))(hg:(φ id).g=some g)(XE:w0.rc id=some (g,rc)):av P G w0 μ φ (al m id (.loop st')) (w.putObj g (.loop (st'.obj rc))):=by have bT:=(hM.dw id _ hm).Dl (.inl hg);have RX:(w.putObj g (.loop (st'.obj rc))).heap[g]?=some (.loop (st'.obj rc)):=World.putObj_heap_same bT;exact hM.write hm rfl hg (jS.putObj w g _) (by simp) (fun k hk=>World.putObj_heap_other hk) ⟨g,rc,hg,RX⟩ rfl (by simp[bF.names]) fun s hs=>by cases hs;exact⟨rc,XE,RX⟩
end
section
variable {P:Program} {μ:Ro} {φ:Nat→aA}
theorem Gk{nt:Nat}:∀(ps:List Nat)(args:List V)(xs:List Value)(f:Fr)(tmps:Array Value),tmps.size=nt→args.length=xs.length→(∀t,t<nt→ag P μ φ (f t) (tmps.getD t undef))→(∀(i:Nat)v x,args[i]?=some v→xs[i]?=some x→ag P μ φ v x)→((ps.zip xs).foldl (fun tmps(x:Nat×Value)=>tmps.setIfInBounds x.1 x.2) tmps).size=nt∧∀t,t<nt→ag P μ φ (Db ps args f t) (((ps.zip xs).foldl (fun tmps(x:Nat×Value)=>tmps.setIfInBounds x.1 x.2) tmps).getD t undef)
 |[],args,xs,f,tmps,hs,_,hf,_=>by cases args<;>exact⟨hs,hf⟩
 |p::ps,[],xs,f,tmps,hs,hl,hf,_=>by have:xs=[]:=ahk (by simpa using hl.symm);subst this;exact⟨hs,hf⟩
 |p::ps,v::args,[],f,tmps,hs,hl,hf,_=>by simp at hl
 |p::ps,v::args,x::xs,f,tmps,hs,hl,hf,hr=>by
  simp only[akR,ak9,Db];refine Gk ps args xs (fT f p v) (tmps.setIfInBounds p x) (by simpa using hs) (by simpa using hl) (fun t ht=>?_) (fun i u y hu hy=>hr (i+1) u y (by simpa using hu) (by simpa using hy));by_cases e:t=p
  ·subst e;rw[yf];have:(tmps.setIfInBounds t x).getD t undef=x:=by rw[aiA,ajw];simp[show t<tmps.size by omega]
   rw[this];exact hr 0 v x rfl rfl
  ·rw[pR e];have:(tmps.setIfInBounds p x).getD t undef=tmps.getD t undef:=by rw[aiA,aiA,ajw,By (fun h=>e h.symm)]
   rw[this];exact hf t ht
theorem D8{id:Nat}:∀(ps:List Nat)(args:List V)(f:Fr)(t:Nat),(Db ps args f t).has id=true→cd id args=true∨(f t).has id=true
 |[],args,f,t,h=>by cases args<;>exact .inr h
 |p::ps,[],f,t,h=>.inr h
 |p::ps,v::args,f,t,h=>by
  simp only[Db]at h;rcases D8 ps args _ t h with h|h
  ·exact .inl (by simp[cd,h])
  ·by_cases e:t=p
   ·subst e;rw[yf]at h;exact .inl (by simp[cd,h])
   ·rw[pR e]at h;exact .inr h
theorem U3(ps:Array Nat)(xs:Array Value)(tmps:Array Value):(ps.zip xs).foldl (fun tmps(t,a)=>tmps.setIfInBounds t a) tmps=(ps.toList.zip xs.toList).foldl (fun tmps(x:Nat×Value)=>tmps.setIfInBounds x.1 x.2) tmps:=by rw[←Array.foldl_toList,Array.toList_zip]
end
variable{P:Program}{c:Code}{Q:Exit→Act→World→Prop}
theorem Gl{F:Fence}{nn:Nat}(I:Nat→Act→World→Prop)(round:∀n a w,I n a w→∃n',n=n'+1∧c.wpIn F nn P (Exit.then (I n') Q) a w):∀n a w,I n a w→(Code.loop c).wpIn F nn P Q a w:=by
 intro n a w hI b k cs tx hb hr;have key:∀n a w,I n a w→∃e a' w',Q e a' w'∧ArrivesIn (Machine.fenced P F) P (lone (b.atR a (.code c::.inLoop c::k)) cs w) b k cs e a' w':=by
  intro n;induction n with
  |zero=>grind
  |succ n ih=>
   intro a w h;obtain⟨n',hn,zn⟩:=round _ a w h;have hn:n=n':=by omega
   subst hn;obtain⟨e,a₁,w₁,hq,D9⟩:=zn b (.inLoop c::k) cs tx hb hr;cases e with
   |normal=>obtain⟨e₂,a₂,w₂,acU,XG⟩:=ih a₁ w₁ hq;exact⟨e₂,a₂,w₂,acU,.of_steps (StepsIn.trans D9 (.one (fenced_calm hb hr rfl) stepR_inLoop)) XG⟩
   |_=>exact⟨_,a₁,w₁,hq,.pass (x:=.inLoop c) rfl (fun _ _=>.inl (by simp)) D9⟩
 obtain⟨e,a',w',hq,D9⟩:=key n a w hI;exact⟨e,a',w',hq,.of_steps (.one (fenced_calm hb hr rfl) stepR_loop) D9⟩
theorem Su{rd:Option Nat}{n:Nat}{a:Act}{w:World}(h:c.wpIn (FR rd) n P (Exit.noGoto Q) a w):(Code.scope c).wpIn (FR rd) n P Q a w:=by
 intro b k cs tx hb hr;obtain⟨e,a₁,w₁,hq,D9⟩:=h b (.inScope c::k) cs tx hb hr;have s1:StepsIn (Machine.fenced P (FR rd)) P (lone (b.atR a (.code (.scope c)::k)) cs w) (lone (b.atR a (.code c::.inScope c::k)) cs w):=.one (fenced_calm hb hr rfl) (step_lone_go (by rfl));have s2:∀a w,StepsIn (Machine.fenced P (FR rd)) P (lone (b.atR a (.inScope c::k)) cs w) (lone (b.atR a k) cs w):=fun a w=>.one (fenced_calm hb hr rfl) (step_lone_go (by rfl));cases e with
 |normal=>exact⟨.normal,a₁,w₁,hq,s1.trans (StepsIn.trans D9 (s2 _ _))⟩
 |exit id=>exact⟨.exit id,a₁,w₁,hq,fun k' hk=>s1.trans (D9.1 k' (by simp[exitTo,hk])),fun hr hk=>let⟨k₁,h1,h2⟩:=D9.2 hr (by simp[exitTo,hk]);⟨k₁,h1,s1.trans h2⟩⟩
 |goto l=>exact hq.elim
 |ret=>exact⟨_,a₁,w₁,hq,.of_steps s1 D9⟩
 |panic ch=>exact⟨_,a₁,w₁,hq,.of_steps s1 D9⟩
 |outgrown=>exact⟨_,a₁,w₁,hq,.of_steps s1 D9⟩
mutual
theorem QN:∀{v u:V},v.same u=true→v=u
 |.op i o,u,h=>by cases u<;>simp only[V.same,No,cT]at h;rw[BY h.1,BY h.2]
 |.oe i a o,u,h=>by cases u<;>simp only[V.same,No,cT]at h;rw[BY h.1.1,BY h.1.2,BY h.2]
 |.os i,u,h=>by cases u<;>simp only[V.same,cT]at h;rw[BY h]
 |.om i,u,h=>by cases u<;>simp only[V.same,cT]at h;rw[BY h]
 |.yl i,u,h=>by cases u<;>simp only[V.same,cT]at h;rw[BY h]
 |.it i,u,h=>by cases u<;>simp only[V.same,cT]at h;rw[BY h]
 |.gy,u,h=>by cases u<;>simp only[V.same,cT]at h;rfl
 |.fn f cs,u,h=>by cases u<;>simp only[V.same,No,cT]at h;rw[BY h.1,Kc h.2]
 |.pv p,u,h=>by
  cases u<;>try (cases p<;>simp[V.same]at h;done)
  rename_i q;cases p<;>cases q<;>first|rfl|(simp[V.same]at h;done)|(simp only[V.same,No,IL]at h;rw[h.1,h.2])
 |.fq _ _ _,u,h=>by cases u<;>simp[V.same]at h
 |.agg _,u,h=>by cases u<;>simp[V.same]at h
 |.aP _,u,h=>by cases u<;>simp[V.same]at h
 |.top,u,h=>by cases u<;>simp[V.same]at h
theorem Kc:∀{vs us:List V},FH vs us=true→vs=us
 |[],us,h=>by
  cases us with
  |nil=>rfl
  |cons _ _=>simp[FH]at h
 |v::vs,us,h=>by
  cases us with
  |nil=>simp[FH]at h
  |cons u us=>simp only[FH,No]at h;rw[QN h.1,Kc h.2]
end
variable{R:Type}
theorem QO{T:Type}:∀{ja:List Sh}{vs:List V}{t:T}{k:Qp ja T→Option R}{r:R},jb ja vs t k=some r→∃x,k x=some r∧qX ja x=(vs,t)∧vs.length=ja.length∧∀M,(∀sh∈ja,sh.within M=true)→jy M vs=true:=by
 intro ja;induction ja with
 |nil=>
  intro vs t k r h;cases vs with
  |nil=>exact⟨t,h,rfl,rfl,fun _ _=>rfl⟩
  |cons v vs=>simp[jb]at h
 |cons sh ja ih=>
  intro vs t k r h;cases vs with
  |nil=>cases sh<;>simp[jb]at h
  |cons v vs=>
   have push:∀{M},v.within M=true→jy M vs=true→jy M (v::vs)=true:=fun h1 h2=>by simp[jy,h1,h2]
   cases sh with
   |own u=>
    simp only[jb]at h;split at h
    ·rename_i hs;obtain⟨x,x1,x2,x3,x4⟩:=ih h;have:=QN hs;subst this;refine⟨x,x1,by simp only[qX];rw[x2],by simp[x3],fun M hM=>push ?_ (x4 M fun s hs=>hM s (by simp[hs]))⟩;exact hM (.own u) (by simp)
    ·cases h
   |int q=>
    cases v<;>try (simp[jb]at h;done)
    rename_i p;cases p<;>try (simp[jb]at h;done)
    simp only[jb]at h;split at h
    ·rename_i hq;subst hq;obtain⟨x,x1,x2,x3,x4⟩:=ih h;exact⟨_,x1,by simp only[qX];rw[x2],by simp[x3],fun M hM=>push rfl (x4 M fun s hs=>hM s (by simp[hs]))⟩
    ·cases h
   |row id off=>
    cases v<;>try (simp[jb]at h;done)
    rename_i qW i rP;simp only[jb]at h;split at h
    ·rename_i hq;obtain⟨rfl,rfl⟩:=hq;obtain⟨x,x1,x2,x3,x4⟩:=ih h;exact⟨_,x1,by simp_all[qX,aiP],by simp[x3],fun M hM=>push (hM (.row qW rP) (by simp)) (x4 M fun s hs=>hM s (by simp[hs]))⟩
    ·cases h
   |raw=>
    cases v<;>try (simp[jb]at h;done)
    simp only[jb]at h;obtain⟨x,x1,x2,x3,x4⟩:=ih h;exact⟨_,x1,by simp only[qX];rw[x2],by simp[x3],fun M hM=>push rfl (x4 M fun s hs=>hM s (by simp[hs]))⟩
   |bool=>
    cases v<;>try (simp[jb]at h;done)
    rename_i p;cases p<;>try (simp[jb]at h;done)
    simp only[jb]at h;obtain⟨x,x1,x2,x3,x4⟩:=ih h;exact⟨_,x1,by simp only[qX];rw[x2],by simp[x3],fun M hM=>push rfl (x4 M fun s hs=>hM s (by simp[hs]))⟩
   |str=>
    cases v<;>try (simp[jb]at h;done)
    rename_i p;cases p<;>try (simp[jb]at h;done)
    simp only[jb]at h;obtain⟨x,x1,x2,x3,x4⟩:=ih h;exact⟨_,x1,by simp only[qX];rw[x2],by simp[x3],fun M hM=>push rfl (x4 M fun s hs=>hM s (by simp[hs]))⟩
   |rp n=>
    cases v<;>try (simp[jb]at h;done)
    rename_i p;cases p<;>try (simp[jb]at h;done)
    rename_i cs;simp only[jb]at h;split at h
    ·rename_i hq;obtain⟨x,x1,x2,x3,x4⟩:=ih h;have he:aJ n (.agg cs)=cs:=by
      apply aiY;intro j;by_cases hj:j<n
      ·have hl:j<(aJ n (.agg cs)).length:=by rw[bd];omega
       rw[cO hl];obtain⟨_,h6⟩:=nr (cO hl);simp_all[cell,PV.cells,List.getD]
      simp_all[ahl,bd]
     exact⟨_,x1,by simp only[qX];rw[x2,he],by simp[x3],fun M hM=>push rfl (x4 M fun s hs=>hM s (by simp[hs]))⟩
    ·cases h
   |fs s=>
    cases v<;>try (simp[jb]at h;done)
    rename_i p;simp only[jb]at h;obtain⟨ls,hls,h⟩:=cQ.1 h;obtain⟨x,x1,x2,x3,x4⟩:=ih h;exact⟨_,x1,by grind [qX,QD],by simp[x3],fun M hM=>push rfl (x4 M fun s hs=>hM s (by simp[hs]))⟩
   |rs sz=>
    cases v<;>try (simp[jb]at h;done)
    rename_i p;cases p<;>try (simp[jb]at h;done)
    simp only[jb]at h;split at h
    ·rename_i hq;subst hq;obtain⟨x,x1,x2,x3,x4⟩:=ih h;exact⟨_,x1,by simp only[qX];rw[x2],by simp[x3],fun M hM=>push rfl (x4 M fun s hs=>hM s (by simp[hs]))⟩
    ·cases h
theorem yA:∀{l:List (Nat×Option bF)}{id:Nat}{b:bF},CX l id=some b→∃x∈l,x.1=id∧x.2=some b
 |[],_,_,h=>by simp[CX]at h
 |(d,b')::r,id,b,h=>by
  simp only[CX]at h;cases e:Nat.beq id d with
  |true=>rw[e]at h;exact⟨(d,b'),by simp,(BY e).symm,h⟩
  |false=>rw[e]at h;obtain⟨x,hx,h1,h2⟩:=yA h;exact⟨x,by simp[hx],h1,h2⟩
theorem zA:∀{l:List (Nat×Option bF)}{id:Nat},(∀x∈l,x.2.isSome=true)→(∃x∈l,x.1=id)→(CX l id).isSome=true
 |[],_,_,⟨x,hx,_⟩=>by cases hx
 |(d,b')::r,id,h,⟨x,hx,he⟩=>by
  simp only[CX];cases e:Nat.beq id d with
  |true=>simp_all
  |false=>
   rcases abX.1 hx with rfl|hx
   ·simp_all
   ·exact zA (fun y hy=>h y (by simp[hy])) ⟨x,hx,he⟩
theorem XH{m:Mem}:∀{bs:List (Nat×TQ)}{k:Jl bs→Option R}{r:R},sE m bs k=some r→∃x,k x=some r∧(dn bs x).map (·.1)=bs.map (·.1)∧(∀y∈dn bs x,∃b,y.2=some b∧m y.1=some b)∧∀M,(∀y∈bs,y.2.within M=true)→∀y∈dn bs x,∀b,y.2=some b→b.within M=true:=by
 intro bs;induction bs with
 |nil=>intro k r h;exact⟨(),h,rfl,by simp[dn],by simp[dn]⟩
 |cons y bs ih=>
  intro k r h;obtain⟨id,sh⟩:=y;cases sh with
  |box cs=>
   simp only[sE]at h;split at h
   ·rename_i vs hm;obtain⟨t,t1,t2,t3,t4⟩:=ih h;obtain⟨x,x1,x2,x3,x4⟩:=QO t1;refine⟨x,x1,by simp only[dn,x2];simp[t2],fun y hy=>?_,fun M hM y hy b hb=>?_⟩
    ·simp only[dn,x2]at hy;grind
    ·simp only[dn,x2]at hy;rcases abX.1 hy with rfl|hy
     ·simp only[cN]at hb;subst hb;simp only[bF.within];refine x4 M fun s hs=>?_;have:=hM (id,.box cs) (by simp);grind [TQ.within,List.all_eq_true]
     grind
   ·cases h
  |arr sz et=>
   simp only[sE]at h;split at h
   ·rename_i E1 E2 es hm;split at h
    ·rename_i he;obtain⟨rfl,rfl⟩:=he;obtain⟨t,t1,t2,t3,t4⟩:=ih h;refine⟨(es,t),t1,by simp only[dn];simp[t2],fun y hy=>?_,fun M hM y hy b hb=>?_⟩
     ·simp only[dn]at hy;grind
     ·simp only[dn]at hy;rcases abX.1 hy with rfl|hy
      ·simp only[cN]at hb;subst hb;rfl
      grind
    ·cases h
   ·cases h
  |pt sz et=>
   simp only[sE]at h;split at h
   ·rename_i E1 E2 es hm;split at h
    ·rename_i he;obtain⟨rfl,rfl⟩:=he;obtain⟨t,t1,t2,t3,t4⟩:=ih h;refine⟨(es,t),t1,by simp only[dn];simp[t2],fun y hy=>?_,fun M hM y hy b hb=>?_⟩
     ·simp only[dn]at hy;grind
     ·simp only[dn]at hy;rcases abX.1 hy with rfl|hy
      ·simp only[cN]at hb;subst hb;rfl
      grind
    ·cases h
   ·cases h
  |nest sz et=>
   simp only[sE]at h;split at h
   ·rename_i E1 E2 es hm;split at h
    ·rename_i he;obtain⟨rfl,rfl⟩:=he;obtain⟨t,t1,t2,t3,t4⟩:=ih h;refine⟨(es,t),t1,by simp only[dn];simp[t2],fun y hy=>?_,fun M hM y hy b hb=>?_⟩
     ·simp only[dn]at hy;grind
     ·simp only[dn]at hy;rcases abX.1 hy with rfl|hy
      ·simp only[cN]at hb;subst hb;rfl
      grind
    ·cases h
   ·cases h
  |eV kt et=>
   simp only[sE]at h;split at h
   ·rename_i uR E2 es hm;split at h
    ·rename_i he;obtain⟨rfl,rfl⟩:=he;obtain⟨t,t1,t2,t3,t4⟩:=ih h;refine⟨(es,t),t1,by simp only[dn];simp[t2],fun y hy=>?_,fun M hM y hy b hb=>?_⟩
     ·simp only[dn]at hy;grind
     ·simp only[dn]at hy;rcases abX.1 hy with rfl|hy
      ·simp only[cN]at hb;subst hb;rfl
      grind
    ·cases h
   ·cases h
  |map kt=>
   simp only[sE]at h;split at h
   ·rename_i uR es hm;split at h
    ·rename_i he;subst he;obtain⟨t,t1,t2,t3,t4⟩:=ih h;refine⟨(es,t),t1,by simp only[dn];simp[t2],fun y hy=>?_,fun M hM y hy b hb=>?_⟩
     ·simp only[dn]at hy;grind
     ·simp only[dn]at hy;rcases abX.1 hy with rfl|hy
      ·simp only[cN]at hb;subst hb;rfl
      grind
    ·cases h
   ·cases h
  |iter ty=>
   simp only[sE]at h;split at h
   ·rename_i t' es hm;split at h
    ·rename_i he;subst he;obtain⟨t,t1,t2,t3,t4⟩:=ih h;refine⟨(es,t),t1,by simp only[dn];simp[t2],fun y hy=>?_,fun M hM y hy b hb=>?_⟩
     ·simp only[dn]at hy;grind
     ·simp only[dn]at hy;rcases abX.1 hy with rfl|hy
      ·simp only[cN]at hb;subst hb;rfl
      grind
    ·cases h
   ·cases h
  |loop=>
   simp only[sE]at h;split at h
   ·rename_i hm;obtain⟨t,t1,t2,t3,t4⟩:=ih h;refine⟨t,t1,by simp only[dn];simp[t2],fun y hy=>?_,fun M hM y hy b hb=>?_⟩
    ·simp only[dn]at hy;grind
    ·simp only[dn]at hy;rcases abX.1 hy with rfl|hy
     ·simp only[cN]at hb;subst hb;rfl
     grind
   ·cases h
  |busy=>
   simp only[sE]at h;split at h
   ·rename_i hm;obtain⟨t,t1,t2,t3,t4⟩:=ih h;refine⟨t,t1,by simp only[dn];simp[t2],fun y hy=>?_,fun M hM y hy b hb=>?_⟩
    ·simp only[dn]at hy;grind
    ·simp only[dn]at hy;rcases abX.1 hy with rfl|hy
     ·simp only[cN]at hb;subst hb;rfl
     grind
   ·cases h
mutual
theorem Ea{M:List Nat}{id:Nat}:∀(v:V),v.within M=true→v.has id=true→id∈M
 |.agg cs,h,hh=>nN cs (by simpa only[V.within]using h) (by simpa only[V.has]using hh)
 |.aP cs,h,hh=>nN cs (by simpa only[V.within]using h) (by simpa only[V.has]using hh)
 |.fn _ cs,h,hh=>nN cs (by simpa only[V.within]using h) (by simpa only[V.has]using hh)
 |.os j,h,hh=>by have:=BY hh;subst this;simpa[V.within]using h
 |.fq j _ _,h,hh=>by have:=BY hh;subst this;simpa[V.within]using h
 |.oe j _ _,h,hh=>by have:=BY hh;subst this;simpa[V.within]using h
 |.om j,h,hh=>by have:=BY hh;subst this;simpa[V.within]using h
 |.vg j _ _,h,hh=>by have:=BY hh;subst this;simpa[V.within]using h
 |.y7 j _ _ _ _ _,h,hh=>by have:=BY hh;subst this;simpa[V.within]using h
 |.op j _,h,hh=>by have:=BY hh;subst this;simpa[V.within]using h
 |.it j,h,hh=>by have:=BY hh;subst this;simpa[V.within]using h
 |.yl j,h,hh=>by have:=BY hh;subst this;simpa[V.within]using h
 |.pv _,_,hh=>by cases hh
 |.gy,_,hh=>by cases hh
 |.top,_,hh=>by cases hh
theorem nN{M:List Nat}{id:Nat}:∀(cs:List V),jy M cs=true→cd id cs=true→id∈M
 |[],_,hh=>by cases hh
 |v::r,h,hh=>by
  simp only[jy,No]at h;simp only[cd,aiI]at hh;rcases hh with hh|hh
  ·exact Ea v h.1 hh
  ·exact nN r h.2 hh
end
theorem U4{f:Fr}:∀(an:List (Nat×Sh))(t:Nat),Mz (pJ an (an.map fun(x:Nat×Sh)=>f x.1)) t=f t∨Mz (pJ an (an.map fun(x:Nat×Sh)=>f x.1)) t=.top
 |[],t=>.inr rfl
 |(d,s)::r,t=>by
  simp only[aiL,pJ,Mz,fT];cases e:Nat.beq t d with
  |true=>simp_all
  |false=>exact U4 r t
theorem Eb{f:Fr}{M:List Nat}:∀(an:List (Nat×Sh)),jy M (an.map fun(x:Nat×Sh)=>f x.1)=true→∀t,(Mz (pJ an (an.map fun(x:Nat×Sh)=>f x.1)) t).within M=true
 |[],_,t=>rfl
 |(d,s)::r,h,t=>by
  simp only[aiL,jy,No]at h;simp only[aiL,pJ,Mz,fT];cases e:Nat.beq t d with
  |true=>simp_all
  |false=>exact Eb r h.2 t
theorem U5{T:dM}{f:Fr}{m:Mem}{k:T.ty→Option R}{r:R}(h:enc T f m k=some r):∃x,k x=some r∧uV (MF T x) f∧(∀id b,Da T x id=some b→m id=some b)∧(∀t id,(MF T x t).has id=true→(Da T x id).isSome=true)∧∀j cs id,Da T x j=some (.box cs)→cd id cs=true→(Da T x id).isSome=true:=by
 unfold enc at h;split at h
 ·rename_i Cr;obtain⟨t,t1,t2,t3,t4⟩:=XH h;obtain⟨x,x1,x2,x3,x4⟩:=QO t1;simp only[dM.ok,No,ajh]at Cr;have uW:∀id,id∈T.bk.map (·.1)→(Da T x id).isSome=true:=fun id hid=>by
   unfold Da;rw[x2];refine zA (fun y hy=>?_) ?_
   ·grind
   grind
  refine⟨x,x1,fun s=>?_,fun id b hb=>?_,fun s id hid=>uW id ?_,fun j cs id hj hh=>uW id ?_⟩
  ·simp_all[MF,U4]
  ·unfold Da at hb;grind [yA]
  ·have hw:=x4 (T.bk.map (·.1)) fun s hs=>by simp only[dM.ja,aiR]at hs;grind
   have:=Eb (M:=T.bk.map (·.1)) T.an hw s;unfold MF at hid;grind [Ea]
  ·unfold Da at hj;rw[x2]at hj;obtain⟨y,hy,h1,h2⟩:=yA hj;have:=t4 (T.bk.map (·.1)) (fun z hz=>Cr.2 z hz) y hy _ h2;grind [nN,bF.within]
 ·cases h
section
variable {E:Env} {w0:bw}
variable{nt:Nat}{μ:Ro}{φ:Nat→aA}{f:Fr}{m:Mem}{a:Act}{w:World}
theorem Rel.dec{f':Fr}{m':Mem}(h:Rel E.P E.aF nt w0 μ φ f m a w)(hf:uV f' f)(hm:∀id b,m' id=some b→m id=some b)(hl:∀t id,(f' t).has id=true→(m' id).isSome=true)(hb:∀j cs id,m' j=some (.box cs)→cd id cs=true→(m' id).isSome=true):Rel E.P E.aF nt w0 μ φ f' m' a w:={below:=h.below,ro:=h.ro,aF:=h.aF,dw:=fun id b hb=>h.dw id b (hm id b hb),own:=fun id b g hb hg=>h.own id b g (hm id b hb) hg,inj:=fun Tv id2 b1 b2 g h1 h2=>h.inj Tv id2 b1 b2 g (hm _ _ h1) (hm _ _ h2),apart:=fun id b hb=>h.apart id b (hm id b hb),fu:=hb,base:=h.base,dy:=h.dy,BH:=fun id st hid=>h.BH id st (hm _ _ hid),size:=h.size,defers:=h.defers,lD:=h.lD,fr:=(h.weaken hf).fr,live:=hl}
theorem Rel.set(h:Rel E.P E.aF nt w0 μ φ f m a w){t:Nat}{p:PV}(hp:ah E.P μ p (an nt w0 a t)):Rel E.P E.aF nt w0 μ φ (fT f t (.pv p)) m a w:=
 {toav:=h.toav,size:=h.size,defers:=h.defers,lD:=h.lD,fr:=fun s=>by
   by_cases e:s=t
   ·subst e;rw[yf];exact .pv hp
   ·rw[pR e];exact h.fr s,
  live:=fun s id hid=>by
   by_cases e:s=t
   ·simp_all
   ·rw[pR e]at hid;exact h.live s id hid}
theorem Rel.freeze{nt:Nat}{μ:Ro}{φ:Nat→aA}{f:Fr}{m:Mem}{a:Act}{w:World}(h:Rel E.P E.aF nt w0 μ φ f m a w){id sz:Nat}{et:TypeId}{es:List PV}(hm:m id=some (.arr sz et es)):Rel E.P E.aF nt w0 (oN μ w (φ id).g) φ f (al m id (.pt sz et es)) a w:=
 {toav:=h.toav.freeze hm,size:=h.size,defers:=h.defers.mono (kM h.toav _),lD:=h.lD,fr:=fun s=>(h.fr s).xn (kM h.toav _),live:=fun s i hid=>by
   by_cases e:i=id
   ·simp_all
   ·rw[ao e];exact h.live s i hid}
theorem sR{A:Type}{nt:Nat}{a:Act}{w:World}:∀{l:List (Nat×Nat)}{μ:Ro}{φ:Nat→aA}{f:Fr}{m:Mem}{k:Fr→Mem→A}{r:A},BD l f m k=r→Rel E.P E.aF nt w0 μ φ f m a w→∃f' m' μ',k f' m'=r∧Rel E.P E.aF nt w0 μ' φ f' m' a w
 |[],μ,φ,f,m,k,r,h,hR=>⟨f,m,μ,h,hR⟩
 |(t,sz)::l,μ,φ,f,m,k,r,h,hR=>by
  unfold BD at h;split at h
  ·rename_i id hf;have hx:ag E.P μ φ (.os id) (an nt w0 a t):=hf▸hR.fr t;split at h
   ·rename_i s et es hm;have hF:=hR.freeze hm;have hA:=hF.toav.arr (.inr (bm m id _));have hp:ah E.P (oN μ w (φ id).g) (.rs s es) (an nt w0 a t):=hA.full hF.toav (hx.xn (kM hR.toav _)) (fun _ _ h=>h) (fun g hg=>by simp[oN,hg]);exact sR h (hF.set hp)
   ·rename_i s et es hm;have hB:gf E.P μ φ w id (.pt s et es):=hR.dw id _ hm;have hp:ah E.P μ (.rs s es) (an nt w0 a t):=(hR.toav.arr (.inr hm)).full hR.toav hx (fun _ _ h=>h) (fun g hg=>by obtain⟨o,ho⟩:=aiO.1 (hB.2 g hg);rw[ho,hR.ro _ _ ho]);exact sR h (hR.set hp)
   ·exact sR h hR
  ·rename_i hf;have hx:ag E.P μ φ .gy (an nt w0 a t):=hf▸hR.fr t;have hp:ah E.P μ (.rs sz []) (an nt w0 a t):=by generalize an nt w0 a t=y at hx;cases hx;exact .jL
   exact sR h (hR.set hp)
  ·exact sR h hR
variable{id:Nat}
theorem Ke{u:V}:∀(cs:List V)(j:Nat),cd id (cs.set j u)=true→cd id cs=true∨u.has id=true:=by
 intro cs j h;obtain⟨v,hv,hh⟩:=cC.1 h;rcases List.mem_or_eq_of_mem_set hv with h1|h1
 ·exact .inl (cC.2 ⟨v,h1,hh⟩)
 simp_all
theorem Rel.U6(h:Rel E.P E.aF nt w0 μ φ f m a w){j:Nat}{cs:List V}{u:V}(hm:m id=some (.box cs))(hj:cs[j]?=some .gy)(hu:ag E.P μ φ u (.slice none 0 0))(hl:∀i,u.has i=true→(m i).isSome=true):Rel E.P E.aF nt w0 μ φ f (al m id (.box (cs.set j u))) a w:=by
 have key:∀i b,al m id (.box (cs.set j u)) i=some b→(i=id∧b=.box (cs.set j u))∨m i=some b:=fun i b hb=>by
  by_cases e:i=id
  ·simp_all
  simp_all[ao]
 have xD:∀i,(m i).isSome=true→(al m id (.box (cs.set j u)) i).isSome=true:=fun i hi=>by
  by_cases e:i=id
  ·simp_all
  ·rw[ao e];omega
 have back:∀i b,al m id (.box (cs.set j u)) i=some b→∃b',m i=some b'∧(b.iO=true→b'.iO=true)∧b.rowAt=b'.rowAt:=fun i b hb=>by
  rcases key i b hb with⟨rfl,rfl⟩|hb
  ·exact⟨_,hm,fun _=>rfl,rfl⟩
  simp_all
 exact
 {below:=h.below,ro:=h.ro,aF:=h.aF,dw:=fun i b hb=>by
   rcases key i b hb with⟨rfl,rfl⟩|hb
   ·obtain⟨g,c,T,c1,c2,c3,c4,c5,c6⟩:=h.dw _ _ hm;refine⟨g,c,T,c1,c2,by simpa using c3,fun i v x hv hx=>?_,c5,by simpa using c6⟩;rw[ai9]at hv;split at hv
    ·rename_i e;subst e;split at hv
     ·simp only[cN]at hv;subst hv;have:=c4 j .gy x hj hx;cases this;omega
     ·cases hv
    ·exact c4 i v x hv hx
   ·exact h.dw i b hb,
  own:=fun i b g hb hg=>by obtain⟨b',gN,Fg,tx⟩:=back i b hb;obtain⟨o1,o2⟩:=h.own i b' g gN (by simp_all[bF.owns]);simp_all,
  inj:=fun Tv id2 b1 b2 g h1 h2 g1 g2=>by obtain⟨b1',WK,_,r1⟩:=back Tv b1 h1;obtain⟨b2',h2',_,r2⟩:=back id2 b2 h2;exact h.inj Tv id2 b1' b2' g WK h2' (by simp_all[bF.owns]) (by simp_all[bF.owns]),
  apart:=fun i b hb=>by obtain⟨b',gN,_,tx⟩:=back i b hb;have:=h.apart i b' gN;unfold bF.apart at this⊢;rw[tx];omega,
  fu:=fun i ML qW hi hid=>by
   rcases key i _ hi with⟨rfl,he⟩|hi
   ·simp only[bF.box.injEq]at he;subst he;rcases Ke _ _ hid with hid|hid
    ·exact xD _ (h.fu _ _ _ hm hid)
    simp_all
   ·exact xD _ (h.fu _ _ _ hi hid),
  base:=h.base,dy:=h.dy,
  BH:=fun i st hi=>by
   rcases key i _ hi with⟨_,he⟩|hi
   ·cases he
   ·exact h.BH i st hi,
  size:=h.size,defers:=h.defers,lD:=h.lD,fr:=h.fr,
  live:=fun t i hid=>xD _ (h.live t i hid)}
variable{et:TypeId}
theorem Rel.aav(h:Rel E.P E.aF nt w0 μ φ f m a w){TX:Nat}(hn:m TX=none)(eB:0<aQ E.P et):∃φ',(φ' TX).g=none∧Rel E.P E.aF nt w0 μ φ' f (al m TX (.arr (aQ E.P et) et [])) a w:=by
 have hf:fresh false TX (.arr (aQ E.P et) et []) f m (fun f m _=>some (f,m))=some (f,al m TX (.arr (aQ E.P et) et [])):=by simp[fresh,hn]
 obtain⟨f1,m1,_,hk,_,_,uS⟩:=dY hf;simp only[cN,IT]at hk;obtain⟨rfl,rfl⟩:=hk;obtain⟨φ',a1,a2,a3⟩:=uS E.P E.aF w0 μ φ w w (an nt w0 a) (Cn none 0 0 (aQ E.P et)) h.toav ⟨h.fr,h.live⟩ ⟨jS.refl _ _,h.toav.ro,fun _ _ _ _ _=>rfl,by simp,fun φ' hp _=>by refine⟨by rw[hp];rfl,by rw[hp],rfl,eB,by simp,by rw[hp];simp[maxLen],?_⟩;simp_all,by simp[bF.names],fun st h=>by cases h⟩;exact⟨φ',by rw[a1],{toav:=a2,size:=h.size,defers:=h.defers,lD:=h.lD,fr:=a3.fr,live:=a3.live}⟩
theorem sS{A:Type}{nt:Nat}{a:Act}{w:World}:∀{l:List (Nat×Nat×Nat×TypeId)}{μ:Ro}{φ:Nat→aA}{f:Fr}{m:Mem}{k:Mem→A}{r:A},BE E.P l m k=r→Rel E.P E.aF nt w0 μ φ f m a w→∃m' φ',k m'=r∧Rel E.P E.aF nt w0 μ φ' f m' a w
 |[],μ,φ,f,m,k,r,h,hR=>⟨m,φ,h,hR⟩
 |(id,j,TX,et)::l,μ,φ,f,m,k,r,h,hR=>by
  unfold BE at h;split at h
  ·rename_i cs hm;split at h
   ·rename_i hj;split at h
    ·rename_i hn;split at h
     ·rename_i eB;obtain⟨φ',g0,iN⟩:=hR.aav hn eB;have dh:id≠TX:=fun e=>by simp_all
      exact sS h (iN.U6 (by rw[ao dh];omega) hj (.qY g0) fun i hi=>by have:=BY hi;subst this;simp)
     ·exact sS h hR
    ·exact sS h hR
   ·exact sS h hR
  ·exact sS h hR
theorem zB{A:Type}{nt:Nat}{a:Act}{w:World}:∀{l:List (Nat×Nat×Nat)}{μ:Ro}{φ:Nat→aA}{f:Fr}{m:Mem}{k:Mem→A}{r:A},FI l m k=r→Rel E.P E.aF nt w0 μ φ f m a w→∃m',k m'=r∧Rel E.P E.aF nt w0 μ φ f m' a w
 |[],μ,φ,f,m,k,r,h,hR=>⟨m,h,hR⟩
 |(id,j,sz)::l,μ,φ,f,m,k,r,h,hR=>by
  unfold FI at h;split at h
  ·rename_i cs hm;split at h
   ·rename_i hj;exact zB h (hR.U6 hm hj (.pv .jL) (fun i hi=>by cases hi))
   ·exact zB h hR
  ·exact zB h hR
theorem gW{T:Type}{l:List T}{n i:Nat}{e:T}(h:(l.take n)[i]?=some e):l[i]?=some e∧i<n:=by grind
theorem Rel.XI(h:Rel E.P E.aF nt w0 μ φ f m a w){s:Nat}{es:List PV}(hm:m id=some (.arr s et es)):Rel E.P E.aF nt w0 μ φ f (al m id (.nest s et es)) a w:=by
 have hA:aH E.P μ φ w id s et es:=h.dw id _ hm;have key:∀i b,al m id (.nest s et es) i=some b→(i=id∧b=.nest s et es)∨m i=some b:=fun i b hb=>by
  by_cases e:i=id
  ·simp_all
  simp_all[ao]
 have xD:∀i,(m i).isSome=true→(al m id (.nest s et es) i).isSome=true:=fun i hi=>by
  by_cases e:i=id
  ·simp_all
  ·rw[ao e];omega
 have hN:aW E.P μ φ w id s et es:=by
  obtain⟨h1,h2,h3,h4,h5,h6,h7⟩:=hA;refine⟨h1,h2,h3,h4,h5,h6,?_⟩;cases hg:(φ id).g with
  |none=>rw[hg]at h7;omega
  |some g=>rw[hg]at h7;obtain⟨c,T,c1,c2,c3,c4,c5⟩:=h7;exact⟨c,T,c1,c2,c3,fun i e j p x he hp hx=>.pure (c4 i e j p x he hp hx),c5⟩
 have BV:∀i off,(bF.nest s et es).rowAt i off=true→False:=fun i off hr=>by
  rcases jh hr with⟨_,_,_,e,s',rs,hb,he,hp⟩|⟨_,_,_,_,_,_,hb,_⟩
  ·cases hb;obtain⟨h1,h2,h3,h4,h5,h6,h7⟩:=hA;cases hg:(φ id).g with
   |none=>simp_all
   |some g=>
    rw[hg]at h7;obtain⟨c,T,c1,c2,c3,c4,c5⟩:=h7;have hi:i<es.length:=(AT.1 he).1;have hj:off<s:=by grind
    have bT:i*s+off<c.size:=by have:(i+1)*s≤(φ id).cap*s:=ZG _ (by omega);grind
    exact Bool.noConfusion (ah.CI (c4 i e off _ _ he hp (IN bT)))
  ·cases hb
 have aiv:∀i off,(bF.arr s et es).rowAt i off=true→False:=pw;have hM:av E.P E.aF w0 μ φ (al m id (.nest s et es)) w:=by
  refine h.toav.QE (fun _ k=>k) (fun j b' hb=>?_) (fun j b' g hb hg=>?_) (fun j b' hb=>?_) (fun j cs i hb hh=>?_) (fun j st hb=>?_)
  ·rcases key j b' hb with⟨rfl,rfl⟩|hb
   ·exact hN
   ·exact h.dw j b' hb
  ·rcases key j b' hb with⟨rfl,rfl⟩|hb
   ·exact⟨j,_,hm,.inl (ny BV hg),fun _=>rfl,rfl⟩
   grind
  ·rcases key j b' hb with⟨rfl,rfl⟩|hb
   ·exact pS BV
   ·exact h.apart j b' hb
  ·rcases key j _ hb with⟨_,hb⟩|hb
   ·cases hb
   ·exact xD _ (h.fu j cs i hb hh)
  grind
 exact{toav:=hM,size:=h.size,defers:=h.defers,lD:=h.lD,fr:=h.fr,live:=fun t i hid=>xD _ (h.live t i hid)}
theorem Ec{A:Type}{nt:Nat}{a:Act}{w:World}:∀{l:List Nat}{μ:Ro}{φ:Nat→aA}{f:Fr}{m:Mem}{k:Mem→A}{r:A},JG l m k=r→Rel E.P E.aF nt w0 μ φ f m a w→∃m',k m'=r∧Rel E.P E.aF nt w0 μ φ f m' a w
 |[],μ,φ,f,m,k,r,h,hR=>⟨m,h,hR⟩
 |id::l,μ,φ,f,m,k,r,h,hR=>by
  unfold JG at h;split at h
  ·rename_i s et es hm;exact Ec h (hR.XI hm)
  ·exact Ec h hR
theorem Rel.cut(h:Rel E.P E.aF nt w0 μ φ f m a w){j d len s:Nat}{cs:List V}{es:List PV}(hm:m id=some (.box cs))(hj:cs[j]?=some (.fq d 0 len))(hd:m d=some (.arr s et es))(dh:d≠id):∃φ',Rel E.P E.aF nt w0 μ φ' (eM d f) (al (al (bj (bB d m) d) d (.arr s et (es.take len))) id (.box ((cs.map (rf d)).set j (.os d)))) a w:=by
 obtain⟨m',hm'⟩:∃m',m'=al (al (bj (bB d m) d) d (.arr s et (es.take len))) id (.box ((cs.map (rf d)).set j (.os d))):=⟨_,rfl⟩;rw[←hm'];obtain⟨g0,c,T,c1,c2,c3,c4,c5,c6⟩:=h.dw _ _ hm;have hA:aH E.P μ φ w d s et es:=h.dw d _ hd;have Cq:j<cs.length:=(AT.1 hj).1;have hx:=c4 j _ _ hj (IN (by omega));obtain⟨φ',f1,f2,f3,f4⟩:∃φ':Nat→aA,(∀i,i≠d→φ' i=φ i)∧(φ' d).g=(φ d).g∧aH E.P μ φ' w d s et (es.take len)∧ag E.P μ φ' (.os d) c[j]:=by
  obtain⟨h1,h2,h3,h4,h5,h6,h7⟩:=hA;generalize c[j]=x at hx;cases hx with
  |pL hg=>refine⟨φ,fun _ _=>rfl,rfl,?_,.qY hg⟩;rw[hg]at h7;obtain⟨rfl,h7⟩:=h7;refine⟨h1,h2,h3,h4,by simp,h6,?_⟩;simp_all
  | @fq _ _ _ cap g ad hg hl ha hc Z4=>
   rw[hg]at h7;obtain⟨q,Tq,q1,q2,q3,q4,q5⟩:=h7;have hlen:(es.take len).length=len:=by simp_all
   have had:ad=⟨g,0,none⟩:=by simp_all
   subst had;refine⟨fun i=>if i=d then{φ d with cap:=cap,len:=len}else φ i,fun i hi=>By hi,by simp,⟨by simp[hlen],by simpa using h2,h3,h4,fun i e he=>h5 i e (gW he).1,by simp;omega,?_⟩,?_⟩
   ·simp only[IS,hg];refine⟨q,Tq,q1,ajq (ZG _ (by omega)) q2,by omega,fun i e j p x he hp hx=>q4 i e j p x (gW he).1 hp hx,fun i x hi hx=>q5 i x (Nat.lt_of_lt_of_le hi (ZG _ (by omega))) hx⟩
   ·have:=ag.os (P:=E.P) (μ:=μ) (φ:=fun i=>if i=d then{φ d with cap:=cap,len:=len}else φ i) (id:=d) (g:=g) (by simp[hg]);simpa using this
 have key:∀i b,m' i=some b→(i=id∧b=.box ((cs.map (rf d)).set j (.os d)))∨(i=d∧b=.arr s et (es.take len))∨(i≠id∧i≠d∧∃b',m i=some b'∧b=fU d b'):=fun i b hb=>by
  rw[hm']at hb;by_cases e:i=id
  ·simp_all
  ·rw[ao e]at hb;by_cases e':i=d
   ·simp_all
   simp_all[ao,ff]
 have xD:∀i,(m i).isSome=true→(m' i).isSome=true:=fun i hi=>by
  rw[hm'];by_cases e:i=id
  ·simp_all
  ·rw[ao e];by_cases e':i=d
   ·simp_all
   simp_all[ao,rT]
 have aaw:∀{i:Nat}{b':bF},(fU d b').names i=true→i≠d:=fun{i b'}hn=>by cases b'<;>simp only[fU,bF.names]at hn<;>first|cases hn|exact(wQ hn).2
 have hM:av E.P E.aF w0 μ φ' m' w:=by
  refine h.toav.QE (fun _ k=>k) (fun i b' hb=>?_) (fun i b' g hb hg=>?_) (fun i b' hb=>?_) (fun i ML i' hb hh=>?_) (fun i st hb=>?_)
  ·rcases key i b' hb with⟨rfl,rfl⟩|⟨rfl,rfl⟩|⟨e1,e2,b2,uw,rfl⟩
   ·refine⟨g0,c,T,by grind,c2,by simpa using c3,fun n v x hv QB=>?_,c5,by grind⟩;rw[ai9]at hv;split at hv
    ·simp_all
    ·simp only[GP,Yo]at hv;obtain⟨v',Uk,rfl⟩:=hv;exact((c4 n v' x Uk QB).kill d).mono (fun _ _ h=>h) fun i hi=>f1 i (vt hi).2
   ·exact f3
   ·exact(h.dw i b2 uw).kill.cn (fun k hk=>f1 k (aaw hk)) (f1 i e2) (fun _ _ h=>h) (fun _ _=>rfl)
  ·rcases key i b' hb with⟨rfl,rfl⟩|⟨rfl,rfl⟩|⟨e1,e2,b2,uw,rfl⟩
   ·refine⟨i,_,hm,.inl ?_,fun _=>rfl,rfl⟩;have:=ny (by intro i off h;simp[bF.rowAt]at h) hg;grind
   ·refine⟨i,_,hd,.inl ?_,fun _=>rfl,rfl⟩;grind [ny,pw]
   ·refine⟨i,b2,uw,?_,fun Fg=>by rw[wR]at Fg;omega,rfl⟩;rw[f1 i e2]at hg;exact fN.1 hg
  ·rcases key i b' hb with⟨rfl,rfl⟩|⟨rfl,rfl⟩|⟨e1,e2,b2,uw,rfl⟩
   ·grind [pS,bF.rowAt]
   ·exact pS pw
   ·rw[f1 i e2];exact tD.2 (h.apart i b2 uw)
  ·rcases key i _ hb with⟨rfl,hb⟩|⟨rfl,hb⟩|⟨e1,e2,b2,uw,e⟩
   ·simp only[bF.box.injEq]at hb;subst hb;rcases Ke _ _ hh with hh|hh
    ·exact xD _ (h.fu _ _ _ hm (wQ hh).1)
    ·have:=BY hh;simp_all
   ·cases hb
   ·cases b2 with
    |box cs2=>simp only[fU,bF.box.injEq]at e;subst e;exact xD _ (h.fu _ _ _ uw (wQ hh).1)
    |_=>simp[fU]at e
  ·rcases key i _ hb with⟨rfl,hb⟩|⟨rfl,hb⟩|⟨e1,e2,b2,uw,e⟩
   ·cases hb
   ·cases hb
   ·cases b2 with
    |loop st2=>simp_all[fU,bF.loop.injEq]
    |_=>simp[fU]at e
 exact⟨φ',{toav:=hM,size:=h.size,defers:=h.defers,lD:=h.lD,fr:=(fun t=>((h.fr t).kill d).mono (fun _ _ h=>h) fun i hi=>f1 i (vt hi).2),live:=fun t i hid=>xD _ (h.live t i (vt hid).1)}⟩
theorem sT{A:Type}{nt:Nat}{a:Act}{w:World}:∀{l:List (Nat×Nat)}{μ:Ro}{φ:Nat→aA}{f:Fr}{m:Mem}{k:Fr→Mem→A}{r:A},BF l f m k=r→Rel E.P E.aF nt w0 μ φ f m a w→∃f' m' φ',k f' m'=r∧Rel E.P E.aF nt w0 μ φ' f' m' a w
 |[],μ,φ,f,m,k,r,h,hR=>⟨f,m,φ,h,hR⟩
 |(id,j)::l,μ,φ,f,m,k,r,h,hR=>by
  unfold BF at h;split at h
  ·rename_i cs hm;split at h
   ·rename_i d len hj;split at h
    ·rename_i s et es hd;split at h
     ·exact sT h hR
     ·rename_i dh;have dh:d≠id:=fun e=>dh (by simp_all);obtain⟨φ',iN⟩:=hR.cut hm hj hd dh;exact sT h iN
    ·exact sT h hR
   ·exact sT h hR
  ·exact sT h hR
theorem Kf{A:Type}{T:dM}{k:Fr→Mem→A}{r:A}(h:FJ E.P T f m k=r)(hR:Rel E.P E.aF nt w0 μ φ f m a w):∃f' m' μ' φ',k f' m'=r∧Rel E.P E.aF nt w0 μ' φ' f' m' a w:=by unfold FJ at h;obtain⟨_,_,_,h,hR⟩:=sT h hR;obtain⟨m1,φ1,h,hR⟩:=sS h hR;obtain⟨m',h,hR⟩:=zB h hR;obtain⟨m',h,hR⟩:=Ec h hR;obtain⟨f',m',μ',h,hR⟩:=sR h hR;grind
def U7:Ex→Exit
 |.normal=>.normal
 |.exit id=>.exit id
 |.ret=>.ret
theorem Rel.U8(h:Rel E.P E.aF nt w0 μ φ f m a w):Rel E.P E.aF nt w0 μ φ f m a {w with drawn:=w.drawn+1}:={toav:=h.toav.drew,size:=h.size,defers:=h.defers,lD:=h.lD,fr:=h.fr,live:=h.live}
theorem Sv{rd:Option Nat}(hE:je E)(hY:sG E.P E.aF E.fn.ntmps E.yl w0){R:Type}{ops:Array Oper}{draw:Bool}{k:Ex→Fr→Mem→Option R}{r:R}(h:fe E (.region id ops draw) f m k=some r){Q:Exit→Act→World→Prop}(hR:Rel E.P E.aF E.fn.ntmps w0 μ φ f m a w)(hQ:∀f' m' μ' φ' a' w',k .normal f' m'=some r→Rel E.P E.aF E.fn.ntmps w0 μ' φ' f' m' a' w'→Q .normal a' w'):(Code.region id ops draw).wpIn (FR rd) 0 E.P Q a w:=by
 simp only[fe]at h;cases draw with
 |false=>
  simp only[cT,T1]at h;refine wpIn_region ?_;have hmz:∀x∈(List.range ops.size).zip ops.toList,ops[x.1]?=some x.2:=fun x hx=>by have:=(rZ (l:=ops.toList) (i:=x.1) (o:=x.2)).1 (by omega);simp_all
  have:=gR (rd:=rd) hE hY _ (.inl rfl) h hmz (by intro x hx g hg;cases hg) (fun h=>by omega) μ φ a w Q [] hR (by intro g hg;cases hg) fun f' m' μ' φ' a' w' hk iN _ _=>hQ f' m' μ' φ' a' w' hk iN;simp_all[aja,List.map_fst_zip]
 |true=>
  simp only[IS]at h;split at h
  ·split at h
   ·rename_i hc;simp only[No]at hc;exact wpIn_region_any hE.mixed (Nj hE hY hc.1.1 hc.1.2 hc.2 h hR.U8 hQ)
   ·cases h
  split at h
  ·rename_i hi;refine wpIn_region_any hE.mixed ?_;split at h
   ·rename_i Fk;exact D7 hE hY (.inl rfl) (fun _ o ho=>(Bool.and_eq_true_iff.1 (ajh.1 Fk o (ajH.2 ho))).1) hi h hR.U8 hQ
   ·exact D7 hE hY (.inr rfl) (fun h=>by omega) hi h hR.U8 hQ
  ·cases h
end
theorem XJ{g:FuncId}{fn:Func}(hf:P.funcs[g]?=some fn)(Y9:(fn.name== "runtime.NumGoroutine")=false)(hb:fn.body=some c){args:Array Value}{w:World}:(callFunc g args).run P w=.ok (.enter g args) w:=wU hf Y9 hb
theorem Sw{nt:Nat}{w0:bw}{a:Act}{t:Nat}:an nt w0 a (t+nt)=w0.sv (t+nt):=by unfold an;rw[By (by omega)]
def AZ(c:Code):Prop:=∀{E:Env}{w0:bw}{rd:Option Nat}(_:je E)(_:sG E.P E.aF E.fn.ntmps E.yl w0)(_:E.ZY=false→rd=none){R:Type}{f:Fr}{m:Mem}{k:Ex→Fr→Mem→Option R}{r:R},fe E c f m k=some r→∀{μ:Ro}{φ:Nat→aA}{a:Act}{w:World}{Q:Exit→Act→World→Prop},Rel E.P E.aF E.fn.ntmps w0 μ φ f m a w→(∀e f' m' μ' φ' a' w',k e f' m'=some r→Rel E.P E.aF E.fn.ntmps w0 μ' φ' f' m' a' w'→Q (U7 e) a' w')→c.wpIn (FR rd) 0 E.P Q a w
theorem U9{as b:Code}(ihA:AZ as)(ihB:AZ b){E:Env}(hE:je E){w2:bw}{lid l ntI:Nat}{ps:Array Nat}{rc:Loop}{fid:Nat}(XE:w2.rc lid=some (l,rc))(oa:rc.params=ps)(has:rc.assign=as)(hb:rc.body=b)(mI:rc.tmps.size=E.fn.ntmps)(hsv:∀t,t<E.fn.ntmps→w2.sv (t+ntI)=rc.tmps.getD t undef):sG E.P E.aF ntI (fun _ nt _ id args F m k=>bif Nat.beq id lid then roundOf (fe {E with fid:=fid,yl:=Ax,ZY:=true} as) (fe {E with fid:=fid,yl:=Ax,ZY:=true} b) lid E.fn.ntmps ps.toList nt args F m k else none) w2:=by
 intro R site id args F m k r hy μ φ ρ w xs hM hF hρ hl hr G7 g hg;dsimp only at hy;cases hid:Nat.beq id lid with
 |false=>rw[hid]at hy;cases hy
 |true=>
  rw[hid]at hy;have hid:=BY hid;subst hid;simp only[cond_true]at hy;unfold roundOf at hy;split at hy
  ·rename_i hml;split at hy
   ·rename_i RY;obtain⟨g',rc',l1,l2,l3⟩:=hM.BH id _ hml;rw[XE]at l2;simp only[cN,IT]at l2;obtain⟨rfl,rfl⟩:=l2;rw[l1]at hg;simp only[cN]at hg;subst hg;have Jn:xs.size=(Mk.ready.obj rc).params.size:=by
     have:ps.toList.length=ps.size:=by simp
     show xs.size=rc.params.size;rw[oa];omega
    refine⟨_,_,_,_,run_yield l3 Jn,?_⟩;have hE':je {E with fid:=fid,yl:=Ax,ZY:=true}:=⟨hE.mixed,hE.lp,hE.ctx,hE.own,hE.inl,hE.ZX⟩;have Zm:=Gk (P:=E.P) (μ:=μ) (φ:=φ) ps.toList args xs.toList (vj ntI F) rc.tmps mI (by omega) (fun t ht=>by have:=hF.fr (t+ntI);rw[hρ _ (by omega),hsv t ht]at this;exact this) (fun i v x hv hx=>hr i v x hv (by simpa using hx));have hR3:Rel E.P E.aF E.fn.ntmps {w2 with sv:=fun t=>ρ (t-E.fn.ntmps),dy:=μ,lD:=fun _=>none} μ φ (Qq E.fn.ntmps (Db ps.toList args (vj ntI F)) F) m {tmps:=((Mk.ready.obj rc).params.zip xs).foldl (fun tmps(t,a)=>tmps.setIfInBounds t a) (Mk.ready.obj rc).tmps,defers:=[]} w:=by
     have e:((Mk.ready.obj rc).params.zip xs).foldl (fun tmps(t,a)=>tmps.setIfInBounds t a) (Mk.ready.obj rc).tmps=(ps.toList.zip xs.toList).foldl (fun tmps(x:Nat×Value)=>tmps.setIfInBounds x.1 x.2) rc.tmps:=by rw[U3];show(rc.params.toList.zip xs.toList).foldl _ rc.tmps=_;rw[oa]
     rw[e];refine{toav:=hM.vq rfl rfl (fun _ _ h=>h) (fun _ _ _=>rfl),size:=Zm.1,defers:=.nil _ _ _,lD:=fun _ _ h=>(by cases h),fr:=fun t=>?_,live:=fun t id hid=>?_}
     ·unfold Qq an;by_cases ht:t<E.fn.ntmps
      ·rw[show Nat.blt t E.fn.ntmps=true by simp_all,AI ht];exact Zm.2 t ht
      ·rw[show Nat.blt t E.fn.ntmps=false by rw[←ajz,ajv];omega,By ht];exact hF.fr _
     ·unfold Qq at hid;cases e:Nat.blt t E.fn.ntmps with
      |true=>
       rw[e]at hid;rcases D8 _ _ _ _ hid with h|h
       ·exact G7 id h
       ·exact hF.live _ id h
      |false=>rw[e]at hid;exact hF.live _ id hid
    refine roundIn_of_wpIn trivial ?_;show(Mk.ready.obj rc).assign.wpIn (FR (some l)) 0 E.P _ _ _;have YW:(Mk.ready.obj rc).assign=as:=has;rw[YW];refine ihA (rd:=some l) hE' (zg _ _ _ _) (fun h=>by cases h) hy hR3 fun e f1 m1 μ1 φ1 a1 w1 R9 Nc=>?_;split at R9
    ·rename_i hm1;obtain⟨g1,rc1,p1,p2,p3⟩:=Nc.BH id _ hm1;have p2:w2.rc id=some (g1,rc1):=p2;rw[XE]at p2;simp only[cN,IT]at p2;obtain⟨rfl,rfl⟩:=p2;refine⟨_,run_beginRound p3 rfl,?_⟩;have gN:(Mk.ready.obj rc).body=b:=hb;refine Eq.mpr (congrArg (fun c:Code=>c.wpIn (FR (some l)) 0 E.P _ a1 _) gN) ?_;have tE:=Nc.toav.turn (st':=.busy) hm1 p1 XE;have agN:Rel E.P E.aF E.fn.ntmps {w2 with sv:=fun t=>ρ (t-E.fn.ntmps),dy:=μ,lD:=fun _=>none} μ1 φ1 f1 (al m1 id (.loop .busy)) a1 (w1.putObj l (.loop {Mk.ready.obj rc with state:=.busy})):=
      {toav:=tE,size:=Nc.size,defers:=Nc.defers,lD:=Nc.lD,fr:=Nc.fr,live:=fun t j hj=>by
        by_cases e:j=id
        ·subst e;simp
        ·rw[ao e];exact Nc.live t j hj}
     refine ihB (rd:=some l) hE' (zg _ _ _ _) (fun h=>by cases h) R9 agN fun e f2 m2 μ2 φ2 a2 w2' Xo F9=>?_;split at Xo
     ·rename_i cL;obtain⟨g2,rc2,q1,q2,q3⟩:=F9.BH id _ cL;have q2:w2.rc id=some (g2,rc2):=q2;rw[XE]at q2;simp only[cN,IT]at q2;obtain⟨rfl,rfl⟩:=q2;have hle:J0 μ μ2:=F9.dy;have hFp:bU E.P μ2 φ2 m2 (vj E.fn.ntmps f2) ρ:=by refine⟨fun t=>?_,fun t id hid=>F9.live _ id hid⟩;have:=F9.fr (t+E.fn.ntmps);simp_all[Sw,vj]
      have fin:∀(st:Mk)(v:Bool),k (.pv (.bool v)) (vj E.fn.ntmps f2) (al m2 id (.loop st))=some r→∃v' f' m' y μ' φ',k v' f' m'=some r∧Ending.returned (.bool v)=.returned y∧J0 μ μ'∧av E.P E.aF w2 μ' φ' m' (w2'.putObj l (.loop (st.obj rc)))∧bU E.P μ' φ' m' f' ρ∧ag E.P μ' φ' v' y∧∀id,v'.has id=true→(m' id).isSome=true:=by
       intro st v hk;have hM2:=F9.toav.turn (st':=st) cL q1 XE;refine⟨_,_,_,_,μ2,φ2,hk,rfl,hle,hM2.vq rfl rfl (fun b o hb=>hle b o (hM.dy b o hb)) (fun _ _ _=>rfl),⟨hFp.fr,fun t j hj=>?_⟩,.pv .bool,fun id hid=>by cases hid⟩;by_cases e:j=id
       ·subst e;simp
       ·rw[ao e];exact hFp.live t j hj
      cases e with
      |normal=>exact⟨_,_,run_endRound none q3,fin .ready true Xo⟩
      |exit j=>exact⟨_,_,run_endRound (some (.exit j)) q3,fin (.done (.exit j)) false Xo⟩
      |ret=>exact⟨_,_,run_endRound (some .ret) q3,fin (.done .ret) false Xo⟩
     ·cases Xo
    ·cases R9
   ·cases hy
  ·cases hy
theorem XK{μ:Ro}{φ:Nat→aA}{m:Mem}{v:V}{g:FuncId}{caps:List V}{y:Value}(h:ZZ v=some (g,caps))(hv:ag P μ φ v y)(hl:∀id,v.has id=true→(m id).isSome=true):∃xs,y=.func (.func g) #[] xs∧caps.length=xs.size∧(∀(i:Nat)v x,caps[i]?=some v→xs[i]?=some x→ag P μ φ v x)∧∀id,cd id caps=true→(m id).isSome=true:=by
 unfold ZZ at h;split at h
 ·rename_i g0 c0;cases e:Nat.blt g0 CY with
  |false=>rw[e]at h;cases h
  |true=>
  rw[e]at h;simp only[cond_true,cN,IT]at h;obtain⟨rfl,rfl⟩:=h;cases hv with
  | @fn _ _ xs h1 h2=>grind [pM,id,V.has]
 ·rename_i g0 c0;cases e:Nat.blt g0 CY with
  |false=>rw[e]at h;cases h
  |true=>
  rw[e]at h;simp only[cond_true,cN,IT]at h;obtain⟨rfl,rfl⟩:=h;cases hv with
  |pv hv=>cases hv with
   | @fn _ _ xs h1 h2=>
    refine⟨xs,pM e,by simpa using h1,fun i v x hv hx=>?_,fun id hid=>?_⟩
    ·simp only[GP,Yo]at hv;obtain⟨q,hq,rfl⟩:=hv;exact .pv (h2 i q x hq hx)
    ·obtain⟨v,hv,hh⟩:=cC.1 hid;obtain⟨q,_,rfl⟩:=aiR.1 hv;cases hh
 ·cases h
theorem Hq{g:Operand}{ps:Array Tmp}{as b:Code}(ihA:AZ as)(ihB:AZ b):AZ (.rangeFunc g ps as b):=by
 intro E w0 rd hE hY zn R f m k r h μ φ a w Q hR hQ;simp only[fe]at h;split at h
 ·cases h
 rename_i Fm;have zn:=zn (by simpa using Fm);subst zn;split at h;rotate_left
 ·cases h
 rename_i p0 pr G9;generalize aiw:cA E (some p0)=lid at h;obtain⟨f1,m1,_,h,hml,xz,agO⟩:=dY h;obtain⟨hm0,rfl,rfl⟩:=xz rfl;refine wpIn_rangeFunc fun fn _=>?_;obtain⟨rec,Kg⟩:∃rec:Loop,rec={state:=.ready,pending:=none,fn,tmps:=a.tmps,params:=ps,assign:=as,body:=b,defers:=w.heap.size}:=⟨_,rfl⟩;obtain⟨wD,hwD⟩:∃wD,wD=w.alloc (.deferred (some [])):=⟨_,rfl⟩;obtain⟨W1,hW1⟩:∃W1,W1=wD.alloc (.loop rec):=⟨_,rfl⟩;obtain⟨l,hl⟩:∃l,l=wD.heap.size:=⟨_,rfl⟩;have Mm:l=w.heap.size+1:=by rw[hl,hwD];simp
 obtain⟨μD,aax⟩:∃μD,μD=B2 μ w (.deferred (some [])):=⟨_,rfl⟩;have XL:J0 μ μD:=aax▸Kb hR.toav _;have hMD:av E.P E.aF w0 μD φ m wD:=aax▸hwD▸hR.toav.XF _;have hD:μD w.heap.size=some (.deferred (some [])):=by rw[aax];simp[B2]
 obtain⟨w1,R7⟩:∃w1:bw,w1={w0 with dy:=μD,rc:=fun i=>if i=lid then some (l,rec)else w0.rc i}:=⟨_,rfl⟩;have acV:av E.P E.aF w1 μD φ m wD:=R7▸hMD.vq rfl rfl (fun _ _ h=>h) (fun id st hid=>By fun e=>by simp_all);have E3:an E.fn.ntmps w1 a=an E.fn.ntmps w0 a:=by subst R7;rfl
 have hFD:bU E.P μD φ m f1 (an E.fn.ntmps w0 a):=⟨fun t=>(hR.fr t).xn XL,hR.live⟩;have acW:w1.rc lid=some (l,rec):=by simp_all
 have RX:W1.heap[l]?=some (.loop rec):=by grind [heap_alloc_new]
 have Ml:Mk.ready.obj rec=rec:=by subst Kg;rfl
 have rY:jM E.P w1 μD φ m wD W1 lid (.loop .ready) (Cn (some l) 0 0 0):=by
  rw[hW1];refine jM.alloc acV (by rw[hl]) (fun φ' hp _=>⟨l,rec,by rw[hp],?_⟩) (by simp[bF.names]) fun st vw=>?_
  ·simp_all
  simp_all
 obtain⟨φ1,agP,tE,Cp⟩:=agO E.P E.aF w1 μD φ wD W1 (an E.fn.ntmps w0 a) (Cn (some l) 0 0 0) acV hFD rY;have Nc:Rel E.P E.aF E.fn.ntmps w1 μD φ1 f1 (al m lid (.loop .ready)) a W1:={toav:=tE,size:=hR.size,defers:=(by have:=hR.defers.mono XL;subst R7;omega),lD:=(by subst R7;exact fun b o hb=>XL b o (hR.dy b o (hR.lD b o hb))),fr:=fun t=>by rw[E3];exact Cp.fr t,live:=Cp.live};have Sn:=ai Nc g;split at h;rotate_left
 ·cases h
 rename_i gid caps od;obtain⟨xs,hgv,hlen,jR,agQ⟩:=XK od Sn.1 Sn.2
 ·clear Sn;obtain⟨fnI,cI,f1,f2,f3,zC⟩:=hE.ZX _ _ _ _ _ _ _ _ _ h;have YU:ag E.P μD φ1 (.yl lid) (.func (.yield l) #[] #[]):=.yl (by rw[agP]);have hC:=zC w1 μD φ1 (an E.fn.ntmps w0 a) W1 (#[.func (.yield l) #[] #[]]++xs) tE Cp (by simp;omega) (fun i v x hv hx=>by
    grind) (fun id hid=>by
    simp only[cd,aiI]at hid;rcases hid with hid|hid
    ·have:=BY hid;subst this;simp
    ·exact agQ id hid) (by
   refine fun R site id args F m k r hy=>U9 (fid:=site*4096+E.fid%4096) ihA ihB hE (w2:={w1 with sv:=fun t=>an E.fn.ntmps w0 a (t-fnI.ntmps)}) (rc:=rec) (l:=l) (lid:=lid) (ps:=ps) acW (by subst Kg;rfl) (by subst Kg;rfl) (by subst Kg;rfl) (by subst Kg;exact hR.size) (fun t ht=>by grind [an,Nat.add_sub_cancel,pK]) R site id args F m k r hy)
  refine⟨l,[{target:=.collected w.heap.size,args:= #[]}],W1,{target:=.fn (.func gid) xs,args:= #[.func (.yield l) #[] #[]]},W1,gid,#[.func (.yield l) #[] #[]]++xs,W1,?_,?_,?_,?_,?_,?_⟩
  ·have:=run_enterLoop_outer (P:=E.P) (w:=w) fn a.tmps ps as b;rw[Mm,hW1,hwD,Kg];exact this
  ·simp only[resolve,hgv];simp[go_sem]
  ·exact fun _ _=>trivial
  ·grind [invoke,XJ]
  ·decide
  ·refine FR.QH (hC.mono ?_);rintro e w' ⟨v,f',m',y,μ',φ',hk,rfl,Ui,hF',_,_⟩;have acX:J0 μD μ':=by have:=Ui.dy;subst R7;omega
   have hD':μ' w.heap.size=some (.deferred (some [])):=acX _ _ hD;have main:∀st,m' lid=some (.loop st)→st≠.busy→∃w4,(Instr.endLoop l).run E.P w'=.ok (st.obj rec).pending w4∧Rel E.P E.aF E.fn.ntmps w0 μ' φ' (eM lid f') (bj (bB lid m') lid) {a with defers:=[{target:=.collected w.heap.size,args:= #[]}]++a.defers} w4:=by
    intro st vw hnb;obtain⟨g',rc',p1,p2,p3⟩:=Ui.BH lid st vw;rw[acW]at p2;simp only[cN,IT]at p2;obtain⟨rfl,rfl⟩:=p2;have vp:=Ui.own lid _ _ vw (.inl p1);have hMf:=Ui.forget lid;have BV:∀id b,bj (bB lid m') lid id=some b→¬b.owns (φ' id) l:=fun id b' hid e=>by obtain⟨dh,b2,uw,rfl⟩:=ff hid;exact dh (Ui.inj id lid b2 _ l uw vw (fN.1 e) (.inl p1))
    have hM4:=hMf.other (.loop {st.obj rec with state:=.exhausted}) vp.1 (vp.2 rfl) BV;have hM5:av E.P E.aF w0 μ' φ' (bj (bB lid m') lid) (w'.putObj l (.loop {st.obj rec with state:=.exhausted})):=hM4.vq (by subst R7;rfl) (by subst R7;rfl) (fun b o hb=>acX b o (XL b o (hR.dy b o hb))) (fun id st hid=>by
      have dh:id≠lid:=fun e=>by subst e;simp at hid
      subst R7;exact(By dh).symm)
    refine⟨_,run_endLoop p3 (by cases st<;>simp_all[Mk.obj]),{toav:=hM5,size:=hR.size,defers:=?_,lD:=hR.lD,fr:=?_,live:=?_}⟩
    ·obtain⟨Ds,e,hnd,hDs⟩:=hR.defers;have bT:∀b o,μ b=some o→b<w.heap.size:=fun b o hb=>(OF.1 (hR.ro b o hb)).1;refine⟨w.heap.size::Ds,by simp[e],alc.2 ⟨fun hd=>?_,hnd⟩,fun D hd=>?_⟩
     ·grind
     ·rcases abX.1 hd with rfl|hd
      ·refine⟨hR.below.size,?_,hD'⟩;cases ho:w0.lD w.heap.size with
       |none=>rfl
       |some o=>have:=bT _ _ (hR.dy _ _ (hR.lD _ _ ho));omega
      grind
    ·exact(hF'.forget lid).fr
    ·exact(hF'.forget lid).live
   dsimp only at hk;split at hk
   ·rename_i vw;obtain⟨w4,e1,e2⟩:=main .ready vw (by simp);exact⟨none,w4,e1,hQ .normal _ _ _ _ _ _ hk e2⟩
   ·rename_i j vw;obtain⟨w4,e1,e2⟩:=main (.done j) vw (by simp);refine⟨some j.code,w4,e1,?_⟩;cases j with
    |ret=>exact wpIn_ret (hQ .ret _ _ _ _ _ _ hk e2)
    |exit id=>exact wpIn_exit (hQ (.exit id) _ _ _ _ _ _ hk e2)
   ·cases hk
theorem Va:∀(c:Code),AZ c:=by
 intro c;induction c with
 |skip=>intro E w0 rd hE hY zn R f m k r h μ φ a w Q hR hQ;simp only[fe]at h;exact wpIn_skip (hQ .normal _ _ _ _ _ _ h hR)
 |region id ops draw=>intro E w0 rd hE hY zn R f m k r h μ φ a w Q hR hQ;exact Sv hE hY h hR (hQ .normal)
 |seq x y ihx ihy=>
  intro E w0 rd hE hY zn R f m k r h μ φ a w Q hR hQ;simp only[fe]at h;refine wpIn_seq (ihx hE hY zn h hR fun e f' m' μ' φ' a' w' hk iN=>?_);cases e with
  |normal=>exact ihy hE hY zn hk iN hQ
  |exit id=>exact hQ (.exit id) _ _ _ _ _ _ hk iN
  |ret=>exact hQ .ret _ _ _ _ _ _ hk iN
 |cond c x y ihx ihy=>
  intro E w0 rd hE hY zn R f m k r h μ φ a w Q hR hQ;simp only[fe]at h;split at h
  ·rename_i t b hb;have hv:a.eval (.tmp t)=.bool b:=by have:=(ai hR (.tmp t)).1;grind [qe]
   have gN:f t=.pv (.bool b):=(DP hb).2;have hle:uV (fT f t (.pv (.bool b))) f:=fun s=>by
    simp only[fT];cases e:Nat.beq s t with
    |true=>simp_all
    |false=>simp
   cases b with
   |true=>simp only[IS]at h;exact wpIn_cond_true hv (ihx hE hY zn h (hR.weaken hle) hQ)
   |false=>simp only[cT,T1]at h;exact wpIn_cond_false hv (ihy hE hY zn h (hR.weaken hle) hQ)
  ·cases h
 |block id b ih=>
  intro E w0 rd hE hY zn R f m k r h μ φ a w Q hR hQ;simp only[fe]at h;refine wpIn_block (ih hE hY zn h hR fun e f' m' μ' φ' a' w' hk iN=>?_);cases e with
  |normal=>exact hQ .normal _ _ _ _ _ _ hk iN
  |exit j=>
   simp only[Ex.TY]at hk;simp only[U7,Exit.inBlock];split at hk
   ·rename_i hj;rw[AI hj];exact hQ .normal _ _ _ _ _ _ hk iN
   ·rename_i hj;rw[By hj];exact hQ (.exit j) _ _ _ _ _ _ hk iN
  |ret=>exact hQ .ret _ _ _ _ _ _ hk iN
 |loop b ih=>
  intro E w0 rd hE hY zn R f m k r h μ φ a w Q hR hQ;simp only[fe]at h;split at h
  ·rename_i T _;obtain⟨f,m,μ,φ,h,hR⟩:=Kf h hR;obtain⟨s,hs,s1,s2,s3,s4⟩:=U5 h;obtain⟨n0,hs⟩:=hE.lp _ _ _ _ _ hs;refine Gl (fun n a w=>∃s μ φ,Rel E.P E.aF E.fn.ntmps w0 μ φ (MF T s) (Da T s) a w∧cZ (fun s rec=>fe E b (MF T s) (Da T s) (Ex.JH (fun f m=>FJ E.P T f m fun f m=>enc T f m rec) k)) n s=some r) ?_ n0 a w ⟨s,μ,φ,hR.dec s1 s2 s3 s4,hs⟩;rintro n a w ⟨s,μ,φ,hR,hs⟩;cases n with
   |zero=>simp[cZ]at hs
   |succ n=>
    refine⟨n,rfl,?_⟩;simp only[cZ]at hs;refine ih hE hY zn hs hR fun e f' m' μ' φ' a' w' hk iN=>?_;cases e with
    |normal=>obtain⟨f',m',μ',φ',hk,iN⟩:=Kf hk iN;obtain⟨s',hs',t1,t2,t3,t4⟩:=U5 hk;exact⟨s',μ',φ',iN.dec t1 t2 t3 t4,hs'⟩
    |exit j=>exact hQ (.exit j) _ _ _ _ _ _ hk iN
    |ret=>exact hQ .ret _ _ _ _ _ _ hk iN
  ·refine Gl (fun n a w=>∃f m μ φ,Rel E.P E.aF E.fn.ntmps w0 μ φ f m a w∧JF (fun f m rec=>fe E b f m (Ex.JH rec k)) n f m=some r) ?_ E.u a w ⟨f,m,μ,φ,hR,h⟩;rintro n a w ⟨f,m,μ,φ,hR,hs⟩;cases n with
   |zero=>simp[JF]at hs
   |succ n=>
    refine⟨n,rfl,?_⟩;simp only[JF]at hs;refine ih hE hY zn hs hR fun e f' m' μ' φ' a' w' hk iN=>?_;cases e with
    |normal=>exact⟨f',m',μ',φ',iN,hk⟩
    |exit j=>exact hQ (.exit j) _ _ _ _ _ _ hk iN
    |ret=>exact hQ .ret _ _ _ _ _ _ hk iN
 |exit id=>intro E w0 rd hE hY zn R f m k r h μ φ a w Q hR hQ;simp only[fe]at h;exact wpIn_exit (hQ (.exit id) _ _ _ _ _ _ h hR)
 |label l=>intro E w0 rd hE hY zn R f m k r h μ φ a w Q hR hQ;simp only[fe]at h;exact wpIn_label (hQ .normal _ _ _ _ _ _ h hR)
 |ret=>intro E w0 rd hE hY zn R f m k r h μ φ a w Q hR hQ;simp only[fe]at h;exact wpIn_ret (hQ .ret _ _ _ _ _ _ h hR)
 |scope b ih=>intro E w0 rd hE hY zn R f m k r h μ φ a w Q hR hQ;simp only[fe]at h;exact Su (ih hE hY zn h hR fun e f' m' μ' φ' a' w' hk iN=>by cases e<;>exact hQ _ _ _ _ _ _ _ hk iN)
 |rangeFunc g ps as b ihA ihB=>exact Hq ihA ihB
 |_=>intro E w0 rd hE hY zn R f m k r h;simp[fe]at h
def Obj.aay:Obj→Bool
 |.cells .. =>true
 |.map .. =>true
 |_=>false
def QP(μ μ':Ro):Prop:=∀b o,μ b=some o→Obj.aay o=true→μ' b=some o
theorem QP.trans{a b c:Ro}(h:QP a b)(k:QP b c):QP a c:=fun x o hx ho=>k x o (h x o hx ho) ho
section
variable {P:Program} {G:Nat→Option (List PV)} {w0:bw} {μ μ':Ro} {φ:Nat→aA} {m:Mem} {w w':World}
variable{x:Value}
theorem Ee(h:QP μ μ'){b o:Nat}(hx:cellAt μ b o=some x):cellAt μ' b o=some x:=by
 unfold cellAt at*;split at hx
 ·rename_i c t fz hb;rw[h _ _ hb rfl];exact hx
 ·cases hx
theorem ah.off(h:QP μ μ'){p:PV}(hp:ah P μ p x):ah P μ' p x:=by
 induction hp with
 |int h=>exact .int h
 |bool=>exact .bool
 |str h=>exact .str h
 |agg h1 _ h3 ih=>exact .agg h1 ih h3
 |aP h1 _ ih=>exact .aP h1 ih
 |oW=>exact .oW
 |rp X h1 _ h3 ih=>exact .rp X (fun i p hi=>Ee h (h1 i p hi)) ih h3
 |jL=>exact .jL
 |Jm h=>exact .Jm h
 |rs X h1 h2 h3 h4 _ h6 ih=>exact .rs X h1 h2 h3 (fun i e j p hi hj=>Ee h (h4 i e j p hi hj)) ih h6
 |sA=>exact .sA
 |rm h1 h2 h3 h4 h5 _ _ ih1 ih2=>exact .rm (h _ _ h1 rfl) h2 h3 h4 h5 ih1 ih2
 |Av=>exact .Av
 |fn h1 _ ih=>exact .fn h1 ih
 |T7=>exact .T7
 |W7=>exact .W7
 |bad=>exact .bad
theorem xm.off(h:QP μ μ'){g:Nat}{cs:List PV}(hv:xm P μ g cs):xm P μ' g cs:=⟨hv.rep.off h,let⟨c,T,z,h1,h2⟩:=hv.size;⟨c,T,z,h _ _ h1 rfl,h2⟩⟩
theorem ag.off(h:QP μ μ'){v:V}{x:Value}(hv:ag P μ φ v x):ag P μ' φ v x:=by
 induction hv with
 |pv hp=>exact .pv (hp.off h)
 |gy=>exact .gy
 |op hg=>exact .op hg
 |oe hg=>exact .oe hg
 |qY hg=>exact .qY hg
 |os hg=>exact .os hg
 |pL hg=>exact .pL hg
 |fq hg hl ha hc Z4=>exact .fq hg hl ha hc Z4
 |G8 hg=>exact .G8 hg
 |vg hg=>exact .vg hg
 |y7 hg hs=>exact .y7 hg hs
 |om hg=>exact .om hg
 |yl hg=>exact .yl hg
 |it hg=>exact .it hg
 |fn h1 _ ih=>exact .fn h1 ih
 |agg h1 _ h3 ih=>exact .agg h1 ih h3
 |aP h1 _ ih=>exact .aP h1 ih
 |top=>exact .top
theorem aH.off(h:QP μ μ'){id sz:Nat}{et:TypeId}{es:List PV}(ha:aH P μ φ w id sz et es)(hw:∀g,(φ id).g=some g→w'.heap[g]?=w.heap[g]?):aH P μ' φ w' id sz et es:=by
 obtain⟨a1,a2,a3,a4,a5,a6,a7⟩:=ha;refine⟨a1,a2,a3,a4,a5,a6,?_⟩;cases hg:(φ id).g with
 |none=>rw[hg]at a7;exact a7
 |some g=>rw[hg]at a7;obtain⟨c,T,c1,c2,c3,c4,c5⟩:=a7;exact⟨c,T,by rw[hw g hg];exact c1,c2,c3,fun i e j p x h1 h2 h3=>(c4 i e j p x h1 h2 h3).off h,c5⟩
theorem ez.off(hh:QP μ μ'){R:BI}{s:Nat}{rs:List PV}{x:Value}(h:ez P μ R w s rs x)(hw:∀g,R.g=some g→w'.heap[g]?=w.heap[g]?):ez P μ' R w' s rs x:=
 let⟨⟨et,hA⟩,hV⟩:=h
 ⟨⟨et,hA.off hh hw⟩,hV.off hh⟩
theorem dV.off(hh:QP μ μ'){R:BI}{p:PV}{x:Value}(h:dV P μ R w p x)(hw:p.isRow=true→∀g,R.g=some g→w'.heap[g]?=w.heap[g]?):dV P μ' R w' p x:=by
 unfold dV at*;split at h
 ·exact ez.off hh h (hw rfl)
 ·exact ah.off hh h
theorem aW.off(hh:QP μ μ'){id sz:Nat}{et:TypeId}{es:List PV}(h:aW P μ φ w id sz et es)(hw:∀g,(bF.nest sz et es).owns (φ id) g→w'.heap[g]?=w.heap[g]?):aW P μ' φ w' id sz et es:=by
 obtain⟨a1,a2,a3,a4,a5,a6,a7⟩:=h;refine⟨a1,a2,a3,a4,a5,a6,?_⟩;cases hg:(φ id).g with
 |none=>rw[hg]at a7;exact a7
 |some g=>rw[hg]at a7;obtain⟨c,T,c1,c2,c3,c4,c5⟩:=a7;exact⟨c,T,by rw[hw g (.inl hg)];exact c1,c2,c3,fun i e j p x h1 h2 h3=>(c4 i e j p x h1 h2 h3).off hh fun hr g' cv=>hw g' (.inr ⟨i,j,by rw[du h1 h2];exact hr,cv⟩),c5⟩
theorem ez.QQ{R:BI}{s g:Nat}{rs:List PV}(h:ez P μ R w s rs x)(hg:R.g=some g):∃c T z,w.heap[g]?=some (.cells c T z):=by obtain⟨⟨et,_,_,_,_,_,_,a7⟩,_⟩:=h;have cv:R.up.g=some g:=hg;simp only[cv]at a7;obtain⟨c,_,c1,_⟩:=a7;exact⟨_,_,_,c1⟩
theorem gf.Vb{id g i off:Nat}{b:bF}(h:gf P μ φ w id b)(hr:b.rowAt i off=true)(hg:((φ id).row i off).g=some g):∃c T z,w.heap[g]?=some (.cells c T z):=by
 rcases jh hr with⟨sz,et,es,e,s,rs,rfl,he,hp⟩|⟨kt,e0,es,k,s,rs,rfl,rfl,he⟩
 ·have hN:aW P μ φ w id sz et es:=h;have hgg:∃g0,(φ id).g=some g0:=by
   cases hq:(φ id).g with
   |some g0=>exact⟨g0,rfl⟩
   |none=>have a7:=hN.2.2.2.2.2.2;rw[hq]at a7;rw[a7.1]at he;simp at he
  obtain⟨g0,MJ⟩:=hgg;obtain⟨c,_,x,_,_,c3,_⟩:=hN.cell MJ he hp;exact ez.QQ (show ez P μ _ w s rs x from c3) hg
 ·obtain⟨g0,en,clock,kk,MJ,hh,hs,hk,hc,wK,hv⟩:=h;have hi:i<en.size:=by rw[hs];exact(AT.1 he).1
  have h3:=(hv i k _ en[i] he (IN hi)).2;exact ez.QQ (P:=P) (μ:=μ) (R:=(φ id).row i 0) (s:=s) (rs:=rs) (x:=en[i].val) ⟨⟨_,h3.1⟩,h3.2⟩ hg
theorem gf.off(h:QP μ μ')(tx:∀b o,μ b=some o→w.heap[b]?=some o){id:Nat}{b:bF}(hb:gf P μ φ w id b)(hw:∀g,b.owns (φ id) g→w'.heap[g]?=w.heap[g]?):gf P μ' φ w' id b:=by
 cases b with
 |nest sz et es=>exact aW.off h hb hw
 |eV kt e0 es=>
  obtain⟨g,en,clock,kk,hg,hh,hs,hk,hc,wK,hv⟩:=hb;refine⟨g,en,clock,kk,hg,by rw[hw g (.inl hg)];exact hh,hs,hk,hc,wK,fun i k v e h1 h2=>⟨(hv i k v e h1 h2).1.off h,?_⟩⟩;have h3:=(hv i k v e h1 h2).2;split at h3
  ·exact⟨h3.1.off h fun g' cv=>hw g' (.inr ⟨i,0,by rw[jg h1];rfl,cv⟩),h3.2.off h⟩
  ·exact h3.off h
 |box cs=>obtain⟨g,c,T,hg,hh,hs,hv,h1,CJ⟩:=hb;exact⟨g,c,T,hg,by rw[hw g (.inl hg)];exact hh,hs,fun i v x hi hx=>(hv i v x hi hx).off h,h1,CJ⟩
 |arr sz et es=>exact aH.off h hb fun g hg=>hw g (.inl hg)
 |pt sz et es=>refine⟨aH.off h hb.1 fun g hg=>hw g (.inl hg),fun g hg=>?_⟩;obtain⟨o,ho⟩:=aiO.1 (hb.2 g hg);obtain⟨_,_,_,_,_,_,a7⟩:=hb.1;rw[hg]at a7;obtain⟨c,_,c1,_⟩:=a7;have:=tx g o ho;rw[c1]at this;cases this;rw[h _ _ ho rfl];rfl
 |map kt es=>obtain⟨g,en,clock,kk,hg,hh,hs,hk,hc,wK,hv⟩:=hb;exact⟨g,en,clock,kk,hg,by rw[hw g (.inl hg)];exact hh,hs,hk,hc,wK,fun i k v e h1 h2=>⟨(hv i k v e h1 h2).1.off h,(hv i k v e h1 h2).2.off h⟩⟩
 |iter t es cur=>obtain⟨g,mg,en,clock,seen,hg,hh,Fg,wK,CJ,hv,hcu⟩:=hb;exact⟨g,mg,en,clock,seen,hg,by rw[hw g (.inl hg)];exact hh,h _ _ Fg rfl,wK,CJ,fun i k v e h1 h2=>⟨(hv i k v e h1 h2).1.off h,(hv i k v e h1 h2).2.off h⟩,fun k v hc=>let⟨i,e,h1,h2,h3,h4⟩:=hcu k v hc;⟨i,e,h1,h2,h3.off h,h4.off h⟩⟩
 |loop st=>obtain⟨g,rc,hg,hh⟩:=hb;exact⟨g,rc,hg,by rw[hw g (.inl hg)];exact hh⟩
def B3(μ:Ro)(D:Nat):Ro:=fun b=>if b=D then none else μ b
theorem QR{D:Nat}(hD:μ D=some (.deferred (some []))):QP μ (B3 μ D):=by intro b o hb ho;unfold B3;rw[By fun e=>by subst e;rw[hD]at hb;cases hb;cases ho];exact hb
theorem av.shut(hM:av P G w0 μ φ m w){D:Nat}(hB:w0.heap.size≤D)(hk:w0.dy D=none)(hD:μ D=some (.deferred (some []))):av P G w0 (B3 μ D) φ m (w.putObj D (.deferred none)):=by
 have hc:=QR hD;have hh:=hM.ro _ _ hD;have DK:∀k,k≠D→(w.putObj D (.deferred none)).heap[k]?=w.heap[k]?:=fun k hk=>World.putObj_heap_other hk;have dh:∀id b g,m id=some b→b.owns (φ id) g→g≠D:=fun id b g hm hg e=>by
  subst e;have hR:=hM.dw id b hm;rcases hg with hg|⟨i,off,hr,hg⟩
  rotate_left
  ·obtain⟨c,T,z,h2⟩:=hR.Vb hr hg;rw[hh]at h2;cases h2
  cases b with
  |nest sz et es=>obtain⟨_,_,_,_,_,_,a7⟩:=hR;rw[hg]at a7;obtain⟨c,_,c1,_⟩:=a7;rw[hh]at c1;cases c1
  |eV kt e0 es=>obtain⟨g',en,clock,kk,cv,h2,_⟩:=hR;rw[hg]at cv;cases cv;rw[hh]at h2;cases h2
  |box cs=>obtain⟨g',c,T,cv,h2,_⟩:=hR;rw[hg]at cv;cases cv;rw[hh]at h2;cases h2
  |arr sz et es=>obtain⟨_,_,_,_,_,_,a7⟩:=hR;rw[hg]at a7;obtain⟨c,_,c1,_⟩:=a7;rw[hh]at c1;cases c1
  |pt sz et es=>obtain⟨⟨_,_,_,_,_,_,a7⟩,_⟩:=hR;rw[hg]at a7;obtain⟨c,_,c1,_⟩:=a7;rw[hh]at c1;cases c1
  |map kt es=>obtain⟨g',en,clock,kk,cv,h2,_⟩:=hR;rw[hg]at cv;cases cv;rw[hh]at h2;cases h2
  |loop st=>obtain⟨g',rc,cv,h2⟩:=hR;rw[hg]at cv;cases cv;rw[hh]at h2;cases h2
  |iter t es cur=>obtain⟨g',mg,en,clock,seen,cv,h2,_⟩:=hR;rw[hg]at cv;cases cv;rw[hh]at h2;cases h2
 refine⟨hM.below.trans ((jS.putObj w D _).mono hB),fun b o hb=>?_,fun g cs hg=>(hM.aF g cs hg).off hc,fun id b hm=>(hM.dw id b hm).off hc hM.ro fun g hg=>DK g (dh id b g hm hg),fun id b g hm hg=>?_,hM.inj,hM.apart,hM.fu,fun b o hb bT=>?_,fun b o hb=>?_,fun id st hm=>?_⟩
 ·unfold B3 at hb;split at hb
  ·cases hb
  ·rename_i e;rw[DK b e];exact hM.ro b o hb
 ·obtain⟨h1,h2⟩:=hM.own id b g hm hg;refine⟨h1,fun MM=>?_⟩;unfold B3;rw[By (dh id b g hm hg)];exact h2 MM
 ·unfold B3 at hb;split at hb
  ·cases hb
  ·exact hM.base b o hb bT
 ·unfold B3;rw[By fun e=>by subst e;rw[hk]at hb;cases hb];exact hM.dy b o hb
 ·obtain⟨g,rc,h1,h2,h3⟩:=hM.BH id st hm;exact⟨g,rc,h1,h2,by rw[DK g (dh id _ g hm (.inl h1))];exact h3⟩
end
section
variable {E:Env} {w0:bw}
theorem zD{R:Ending→World→Prop}{f:Fr}{m:Mem}{φ:Nat→aA}{fn:Func}{tmps:Array Value}:∀(Ds:List Nat){μ:Ro}{w:World},Ds.Nodup→(∀D∈Ds,w0.heap.size≤D∧w0.dy D=none∧μ D=some (.deferred (some [])))→Rel E.P E.aF E.fn.ntmps w0 μ φ f m {tmps,defers:=[]} w→(∀μ' w',Rel E.P E.aF E.fn.ntmps w0 μ' φ f m {tmps,defers:=[]} w'→∃v,(results fn tmps).run E.P w'=.ok v w'∧R (.returned v) w')→LeavesInM (FR none) 0 E.P fn tmps R (Ds.map fun D=>{target:=.collected D,args:= #[]}) .returning w
 |[],μ,w,_,_,hR,Sx=>Sx μ w hR
 |D::Ds,μ,w,hn,hD,hR,Sx=>by obtain⟨h1,h2,h3⟩:=hD D (by simp);obtain⟨n1,n2⟩:=alc.1 hn;have hM:=hR.toav.shut h1 h2 h3;refine⟨by simp,.inl ⟨D,_,rfl,run_takeDeferred (hR.ro _ _ h3),?_⟩⟩;refine zD Ds n2 (fun D' hd'=>?_) {toav:=hM,size:=hR.size,defers:=.nil _ _ _,lD:=hR.lD,fr:=fun t=>(hR.fr t).off (QR h3),live:=hR.live} Sx;obtain⟨a1,a2,a3⟩:=hD D' (by simp[hd']);refine⟨a1,a2,?_⟩;unfold B3;rw[By fun e=>by subst e;exact n1 hd'];exact a3
theorem rQ(hE:je E)(hY:sG E.P E.aF E.fn.ntmps E.yl w0)(hko:∀b o,w0.dy b=some o→w0.lD b=some o){g:FuncId}{c:Code}(hf:E.P.funcs[g]?=some E.fn)(hb:E.fn.body=some c){xs:Array Value}{R:Ending→World→Prop}{S:Type}{f:Fr}{m:Mem}{k:Ex→Fr→Mem→Option S}{r:S}(h:fe E c f m k=some r){μ:Ro}{φ:Nat→aA}{w:World}(hR:Rel E.P E.aF E.fn.ntmps w0 μ φ f m {tmps:=xs++Array.replicate (E.fn.ntmps-xs.size) undef,defers:=[]} w)(Sx:∀e f' m' μ' φ' tmps w',k e f' m'=some r→Rel E.P E.aF E.fn.ntmps w0 μ' φ' f' m' {tmps,defers:=[]} w'→(∀id,e≠.exit id)∧∃v,(results E.fn tmps).run E.P w'=.ok v w'∧R (.returned v) w'):Calls E.P g xs w R:=by
 refine(callsIn_wide (n:=0)).1 (callsIn_of_wp_marks (F:=FR none) hf hb trivial ?_);refine Va c hE hY (fun _=>rfl) h hR fun e f' m' μ' φ' a' w' hk iN=>?_;obtain⟨Ds,e1,e2,e3⟩:=iN.defers;have F9:Rel E.P E.aF E.fn.ntmps w0 μ' φ' f' m' {tmps:=a'.tmps,defers:=[]} w':={toav:=iN.toav,size:=iN.size,defers:=.nil _ _ _,lD:=iN.lD,fr:=iN.fr,live:=iN.live};have key:(∀id,e≠.exit id)→LeavesInM (FR none) 0 E.P E.fn a'.tmps R a'.defers .returning w':=fun _=>by
  rw[e1];refine zD Ds e2 (fun D hd=>?_) F9 fun μ2 w2 hR3=>(Sx e f' m' μ2 φ' a'.tmps w2 hk hR3).2;obtain⟨a1,a2,a3⟩:=e3 D hd;refine⟨a1,?_,a3⟩;cases hq:w0.dy D with
  |none=>rfl
  |some o=>rw[hko D o hq]at a2;cases a2
 have dh:=(Sx e f' m' μ' φ' a'.tmps w' hk F9).1;cases e with
 |normal=>exact key dh
 |ret=>exact key dh
 |exit id=>exact absurd rfl (dh id)
end
end Go.Ab
