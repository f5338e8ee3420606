import Derived.Test.YtmbihgjlollbeaaGreatAbP7
import Derived.RangeFuncIn
import Derived.Scope
set_option linter.unusedVariables false
set_option linter.unusedSimpArgs false
namespace Go.Ab
open Go.RowKit (Below)
section
variable {P:Program} {G:Nat→Option (List PV)} {w0:bx} {μ:Ro} {φ:Nat→aA} {m:Mem} {w:World}
theorem lD.putObj(w:World)(g:Nat)(o:Obj):lD g w (w.putObj g o):=⟨⟨rfl,rfl,rfl,by simp,fun k hk=>World.putObj_heap_other (by omega)⟩,fun _=>ajo _⟩
theorem av.wQ(h:av P G w0 μ φ m w){w1:bx}(hw:w1.w=w0.w)(JR:w1.mu=w0.mu)(hk:∀b o,w1.dA b=some o→μ b=some o)(hrc:∀id st,m id=some (.loop st)→w1.rc id=w0.rc id):av P G w1 μ φ m w:=by obtain⟨a0,b0,c0,d0,e0⟩:=w0;obtain⟨a1,b1,c1,d1,e1⟩:=w1;simp only at hw JR;subst hw;subst JR;refine⟨h.below,h.ro,h.aG,h.dx,h.own,h.inj,h.apart,h.fO,h.base,hk,fun id st hid=>?_⟩;obtain⟨g,rc,h1,h2,h3⟩:=h.CO id st hid;simp_all
def C7(μ:Ro)(w:World)(o:Obj):Ro:=fun b=>if b=w.heap.size then some o else μ b
theorem KP(hM:av P G w0 μ φ m w)(o:Obj):KF μ (C7 μ w o):=by intro b o' hb;have:=(abi.1 (hM.ro b o' hb)).1;unfold C7;grind
theorem av.Zb(hM:av P G w0 μ φ m w)(o:Obj):av P G w0 (C7 μ w o) φ m (w.alloc o):=by
 have hle:=KP hM o;have hold:∀k,k<w.heap.size→(w.alloc o).heap[k]?=w.heap[k]?:=fun k hk=>lD.heap_alloc w o k hk;have oD:w0.heap.size≤w.heap.size:=hM.below.size;refine⟨hM.below.alloc hM.below.size o,fun b o' hb=>?_,fun g cs hg=>(hM.aG g cs hg).mono hle,fun id b hid=>?_,fun id b g hid hg=>?_,hM.inj,hM.apart,hM.fO,fun b o' hb bT=>?_,fun b o' hb=>hle b o' (hM.dA b o' hb),fun id st hid=>?_⟩
 ·unfold C7 at hb;split at hb
  ·grind [heap_alloc_new]
  ·have:=hM.ro b o' hb;grind
 ·have hR:=hM.dx id b hid;exact hR.cg (fun _ _=>rfl) rfl hle (fun g hg=>hold g (hR.Ev hg))
 ·obtain⟨h1,h2⟩:=hM.own id b g hid hg;refine⟨h1,fun TY=>?_⟩;have:=(hM.dx id b hid).Ev hg;unfold C7;grind
 ·unfold C7 at hb;rw[No (by omega)]at hb;exact hM.base b o' hb bT
 ·obtain⟨g,rc,h1,h2,h3⟩:=hM.CO id st hid;grind
theorem av.other(hM:av P G w0 μ φ m w){g:Nat}(o:Obj)(hg:w0.heap.size≤g)(hμ:μ g=none)(DS:∀id b,m id=some b→¬b.owns (φ id) g):av P G w0 μ φ m (w.putObj g o):=by
 have GG:∀k,k≠g→(w.putObj g o).heap[k]?=w.heap[k]?:=fun k hk=>World.putObj_heap_other hk;refine⟨hM.below.trans ((lD.putObj w g o).mono hg),fun b o' hb=>?_,hM.aG,fun id b hid=>?_,hM.own,hM.inj,hM.apart,hM.fO,hM.base,hM.dA,fun id st hid=>?_⟩
 ·rw[GG b fun e=>by simp_all];exact hM.ro b o' hb
 ·have hR:=hM.dx id b hid;exact hR.cg (fun _ _=>rfl) rfl (fun _ _ h=>h) (fun g' cP=>GG g' fun e=>by simp_all)
 ·obtain⟨g',rc,h1,h2,h3⟩:=hM.CO id st hid;exact⟨g',rc,h1,h2,by rw[GG g' fun e=>by subst e;exact DS id _ hid (.inl h1)];omega⟩
theorem av.turn(hM:av P G w0 μ φ m w){id g:Nat}{st st':Mw}{rc:Loop}(hm:m id=some (.loop st))(hg:(φ id).g=some g)(hrc:w0.rc id=some (g,rc)):av P G w0 μ φ (ao m id (.loop st')) (w.putObj g (.loop (st'.obj rc))):=by have bT:=(hM.dx id _ hm).Ev (.inl hg);have T3:(w.putObj g (.loop (st'.obj rc))).heap[g]?=some (.loop (st'.obj rc)):=World.putObj_heap_same bT;exact hM.write hm rfl hg (lD.putObj w g _) (by simp) (fun k hk=>World.putObj_heap_other hk) ⟨g,rc,hg,T3⟩ rfl (by simp[bH.names]) fun s hs=>by simp_all
end
section
variable {P:Program} {μ:Ro} {φ:Nat→aA}
theorem HJ{nt:Nat}:∀(ps:List Nat)(args:List V)(xs:List Value)(f:Fr)(tmps:Array Value),tmps.size=nt→args.length=xs.length→(∀t,t<nt→af P μ φ (f t) (tmps.getD t undef))→(∀(i:Nat)v x,args[i]?=some v→xs[i]?=some x→af P μ φ v x)→((ps.zip xs).foldl (fun tmps(x:Nat×Value)=>tmps.setIfInBounds x.1 x.2) tmps).size=nt∧∀t,t<nt→af P μ φ (Ei ps args f t) (((ps.zip xs).foldl (fun tmps(x:Nat×Value)=>tmps.setIfInBounds x.1 x.2) tmps).getD t undef)
 |[],args,xs,f,tmps,hs,_,hf,_=>by cases args<;>exact⟨hs,hf⟩
 |p::ps,[],xs,f,tmps,hs,hl,hf,_=>by have:xs=[]:=ajl (by simpa using hl.symm);subst this;exact⟨hs,hf⟩
 |p::ps,v::args,[],f,tmps,hs,hl,hf,_=>by simp at hl
 |p::ps,v::args,x::xs,f,tmps,hs,hl,hf,hr=>by
  simp only[alA,alp,Ei];refine HJ ps args xs (gp f p v) (tmps.setIfInBounds p x) (by simpa using hs) (by simpa using hl) (fun t ht=>?_) (fun i u y hu hy=>hr (i+1) u y (by simpa using hu) (by simpa using hy));by_cases e:t=p
  ·subst e;rw[zH];have:(tmps.setIfInBounds t x).getD t undef=x:=by simp_all
   rw[this];exact hr 0 v x rfl rfl
  ·rw[rC e];have:(tmps.setIfInBounds p x).getD t undef=tmps.getD t undef:=by rw[ajp,ajp,akx,No (fun h=>e h.symm)]
   rw[this];exact hf t ht
theorem Fe{id:Nat}:∀(ps:List Nat)(args:List V)(f:Fr)(t:Nat),(Ei ps args f t).has id=true→b8 id args=true∨(f t).has id=true
 |[],args,f,t,h=>by cases args<;>exact .inr h
 |p::ps,[],f,t,h=>.inr h
 |p::ps,v::args,f,t,h=>by
  simp only[Ei]at h;rcases Fe ps args _ t h with h|h
  ·exact .inl (by simp[b8,h])
  ·by_cases e:t=p
   ·subst e;rw[zH]at h;exact .inl (by simp[b8,h])
   ·rw[rC e]at h;exact .inr h
theorem UM(ps:Array Nat)(xs:Array Value)(tmps:Array Value):(ps.zip xs).foldl (fun tmps(t,a)=>tmps.setIfInBounds t a) tmps=(ps.toList.zip xs.toList).foldl (fun tmps(x:Nat×Value)=>tmps.setIfInBounds x.1 x.2) tmps:=by rw[←Array.foldl_toList,Array.toList_zip]
end
variable{P:Program}{c:Code}{Q:Exit→Act→World→Prop}
theorem HK{F:Fence}{nn:Nat}(I:Nat→Act→World→Prop)(round:∀n a w,I n a w→∃n',n=n'+1∧c.wpIn F nn P (Exit.then (I n') Q) a w):∀n a w,I n a w→(Code.loop c).wpIn F nn P Q a w:=by
 intro n a w hI b k cs vT hb hr;have key:∀n a w,I n a w→∃e a' w',Q e a' w'∧ArrivesIn (Machine.fenced P F) P (lone (b.atR a (.code c::.inLoop c::k)) cs w) b k cs e a' w':=by
  intro n;induction n with
  |zero=>grind
  |succ n ih=>
   intro a w h;obtain⟨n',hn,pB⟩:=round _ a w h;have hn:n=n':=by omega
   subst hn;obtain⟨e,a₁,w₁,hq,Ff⟩:=pB b (.inLoop c::k) cs vT hb hr;cases e with
   |normal=>obtain⟨e₂,a₂,w₂,aeb,Zc⟩:=ih a₁ w₁ hq;exact⟨e₂,a₂,w₂,aeb,.of_steps (StepsIn.trans Ff (.one (fenced_calm hb hr rfl) stepR_inLoop)) Zc⟩
   |_=>exact⟨_,a₁,w₁,hq,.pass (x:=.inLoop c) rfl (fun _ _=>.inl (by simp)) Ff⟩
 obtain⟨e,a',w',hq,Ff⟩:=key n a w hI;exact⟨e,a',w',hq,.of_steps (.one (fenced_calm hb hr rfl) stepR_loop) Ff⟩
theorem RR{rd:Option Nat}{n:Nat}{a:Act}{w:World}(h:c.wpIn (FR rd) n P (Exit.noGoto Q) a w):(Code.scope c).wpIn (FR rd) n P Q a w:=by
 intro b k cs vT hb hr;obtain⟨e,a₁,w₁,hq,Ff⟩:=h b (.inScope c::k) cs vT hb hr;have s1:StepsIn (Machine.fenced P (FR rd)) P (lone (b.atR a (.code (.scope c)::k)) cs w) (lone (b.atR a (.code c::.inScope c::k)) cs w):=.one (fenced_calm hb hr rfl) (step_lone_go (by rfl));have s2:∀a w,StepsIn (Machine.fenced P (FR rd)) P (lone (b.atR a (.inScope c::k)) cs w) (lone (b.atR a k) cs w):=fun a w=>.one (fenced_calm hb hr rfl) (step_lone_go (by rfl));cases e with
 |normal=>exact⟨.normal,a₁,w₁,hq,s1.trans (StepsIn.trans Ff (s2 _ _))⟩
 |exit id=>exact⟨.exit id,a₁,w₁,hq,fun k' hk=>s1.trans (Ff.1 k' (by simp[exitTo,hk])),fun hr hk=>let⟨k₁,h1,h2⟩:=Ff.2 hr (by simp[exitTo,hk]);⟨k₁,h1,s1.trans h2⟩⟩
 |goto l=>exact hq.elim
 |ret=>exact⟨_,a₁,w₁,hq,.of_steps s1 Ff⟩
 |panic ch=>exact⟨_,a₁,w₁,hq,.of_steps s1 Ff⟩
 |outgrown=>exact⟨_,a₁,w₁,hq,.of_steps s1 Ff⟩
mutual
theorem Pq:∀{v u:V},v.same u=true→v=u
 |.op i o,u,h=>by cases u<;>simp only[V.same,OF,cQ]at h;rw[AI h.1,AI h.2]
 |.oe i a o,u,h=>by cases u<;>simp only[V.same,OF,cQ]at h;rw[AI h.1.1,AI h.1.2,AI h.2]
 |.os i,u,h=>by cases u<;>simp only[V.same,cQ]at h;rw[AI h]
 |.om i,u,h=>by cases u<;>simp only[V.same,cQ]at h;rw[AI h]
 |.yl i,u,h=>by cases u<;>simp only[V.same,cQ]at h;rw[AI h]
 |.it i,u,h=>by cases u<;>simp only[V.same,cQ]at h;rw[AI h]
 |.iq,u,h=>by cases u<;>simp only[V.same,cQ]at h;rfl
 |.fn f cs,u,h=>by cases u<;>simp only[V.same,OF,cQ]at h;rw[AI h.1,KQ h.2]
 |.pv p,u,h=>by
  cases u<;>try (cases p<;>simp[V.same]at h;done)
  rename_i q;cases p<;>cases q<;>first|rfl|(simp[V.same]at h;done)|(simp only[V.same,OF,AT]at h;rw[h.1,h.2])
 |.fL _ _ _,u,h=>by cases u<;>simp[V.same]at h
 |.agg _,u,h=>by cases u<;>simp[V.same]at h
 |.aP _,u,h=>by cases u<;>simp[V.same]at h
 |.top,u,h=>by cases u<;>simp[V.same]at h
theorem KQ:∀{vs us:List V},G8 vs us=true→vs=us
 |[],us,h=>by
  cases us with
  |nil=>rfl
  |cons _ _=>simp[G8]at h
 |v::vs,us,h=>by
  cases us with
  |nil=>simp[G8]at h
  |cons u us=>simp only[G8,OF]at h;rw[Pq h.1,KQ h.2]
end
variable{R:Type}
theorem Pr{T:Type}:∀{j4:List Sh}{vs:List V}{t:T}{k:OZ j4 T→Option R}{r:R},j5 j4 vs t k=some r→∃x,k x=some r∧sJ j4 x=(vs,t)∧vs.length=j4.length∧∀M,(∀sh∈j4,sh.within M=true)→kJ M vs=true:=by
 intro j4;induction j4 with
 |nil=>
  intro vs t k r h;cases vs with
  |nil=>exact⟨t,h,rfl,rfl,fun _ _=>rfl⟩
  |cons v vs=>simp[j5]at h
 |cons sh j4 ih=>
  intro vs t k r h;cases vs with
  |nil=>cases sh<;>simp[j5]at h
  |cons v vs=>
   have push:∀{M},v.within M=true→kJ M vs=true→kJ M (v::vs)=true:=fun h1 h2=>by simp[kJ,h1,h2]
   cases sh with
   |own u=>
    simp only[j5]at h;split at h
    ·rename_i hs;obtain⟨x,x1,x2,x3,x4⟩:=ih h;have:=Pq hs;subst this;refine⟨x,x1,by simp only[sJ];rw[x2],by simp[x3],fun M hM=>push ?_ (x4 M fun s hs=>hM s (by simp[hs]))⟩;exact hM (.own u) (by simp)
    ·cases h
   |int q=>
    cases v<;>try (simp[j5]at h;done)
    rename_i p;cases p<;>try (simp[j5]at h;done)
    simp only[j5]at h;split at h
    ·rename_i hq;subst hq;obtain⟨x,x1,x2,x3,x4⟩:=ih h;exact⟨_,x1,by simp only[sJ];rw[x2],by simp[x3],fun M hM=>push rfl (x4 M fun s hs=>hM s (by simp[hs]))⟩
    ·cases h
   |row id off=>
    cases v<;>try (simp[j5]at h;done)
    rename_i sI i vb;simp only[j5]at h;split at h
    ·rename_i hq;obtain⟨rfl,rfl⟩:=hq;obtain⟨x,x1,x2,x3,x4⟩:=ih h;exact⟨_,x1,by simp_all[sJ,ajk],by simp[x3],fun M hM=>push (hM (.row sI vb) (by simp)) (x4 M fun s hs=>hM s (by simp[hs]))⟩
    ·cases h
   |raw=>
    cases v<;>try (simp[j5]at h;done)
    simp only[j5]at h;obtain⟨x,x1,x2,x3,x4⟩:=ih h;exact⟨_,x1,by simp only[sJ];rw[x2],by simp[x3],fun M hM=>push rfl (x4 M fun s hs=>hM s (by simp[hs]))⟩
   |bool=>
    cases v<;>try (simp[j5]at h;done)
    rename_i p;cases p<;>try (simp[j5]at h;done)
    simp only[j5]at h;obtain⟨x,x1,x2,x3,x4⟩:=ih h;exact⟨_,x1,by simp only[sJ];rw[x2],by simp[x3],fun M hM=>push rfl (x4 M fun s hs=>hM s (by simp[hs]))⟩
   |str=>
    cases v<;>try (simp[j5]at h;done)
    rename_i p;cases p<;>try (simp[j5]at h;done)
    simp only[j5]at h;obtain⟨x,x1,x2,x3,x4⟩:=ih h;exact⟨_,x1,by simp only[sJ];rw[x2],by simp[x3],fun M hM=>push rfl (x4 M fun s hs=>hM s (by simp[hs]))⟩
   |rp n=>
    cases v<;>try (simp[j5]at h;done)
    rename_i p;cases p<;>try (simp[j5]at h;done)
    rename_i cs;simp only[j5]at h;split at h
    ·rename_i hq;obtain⟨x,x1,x2,x3,x4⟩:=ih h;have he:aC n (.agg cs)=cs:=by
      apply ajw;intro j;by_cases hj:j<n
      ·have hl:j<(aC n (.agg cs)).length:=by rw[aW];omega
       rw[cO hl];obtain⟨_,h6⟩:=oW (cO hl);simp_all[cell,PV.cells,List.getD]
      simp_all[aks,aW]
     exact⟨_,x1,by simp only[sJ];rw[x2,he],by simp[x3],fun M hM=>push rfl (x4 M fun s hs=>hM s (by simp[hs]))⟩
    ·cases h
   |fs s=>
    cases v<;>try (simp[j5]at h;done)
    rename_i p;simp only[j5]at h;obtain⟨ls,hls,h⟩:=cT.1 h;obtain⟨x,x1,x2,x3,x4⟩:=ih h;exact⟨_,x1,by grind [sJ,Pe],by simp[x3],fun M hM=>push rfl (x4 M fun s hs=>hM s (by simp[hs]))⟩
   |rs sz=>
    cases v<;>try (simp[j5]at h;done)
    rename_i p;cases p<;>try (simp[j5]at h;done)
    simp only[j5]at h;split at h
    ·rename_i hq;subst hq;obtain⟨x,x1,x2,x3,x4⟩:=ih h;exact⟨_,x1,by simp only[sJ];rw[x2],by simp[x3],fun M hM=>push rfl (x4 M fun s hs=>hM s (by simp[hs]))⟩
    ·cases h
theorem zV:∀{l:List (Nat×Option bH)}{id:Nat}{b:bH},D3 l id=some b→∃x∈l,x.1=id∧x.2=some b
 |[],_,_,h=>by simp[D3]at h
 |(d,b')::r,id,b,h=>by
  simp only[D3]at h;cases e:Nat.beq id d with
  |true=>rw[e]at h;exact⟨(d,b'),by simp,(AI e).symm,h⟩
  |false=>rw[e]at h;obtain⟨x,hx,h1,h2⟩:=zV h;exact⟨x,by simp[hx],h1,h2⟩
theorem AU:∀{l:List (Nat×Option bH)}{id:Nat},(∀x∈l,x.2.isSome=true)→(∃x∈l,x.1=id)→(D3 l id).isSome=true
 |[],_,_,⟨x,hx,_⟩=>by cases hx
 |(d,b')::r,id,h,⟨x,hx,he⟩=>by
  simp only[D3];cases e:Nat.beq id d with
  |true=>simp_all
  |false=>
   rcases aih.1 hx with rfl|hx
   ·simp_all
   ·exact AU (fun y hy=>h y (by simp[hy])) ⟨x,hx,he⟩
theorem Zd{m:Mem}:∀{bs:List (Nat×CF)}{k:JP bs→Option R}{r:R},uj m bs k=some r→∃x,k x=some r∧(gO bs x).map (·.1)=bs.map (·.1)∧(∀y∈gO bs x,∃b,y.2=some b∧m y.1=some b)∧∀M,(∀y∈bs,y.2.within M=true)→∀y∈gO bs x,∀b,y.2=some b→b.within M=true:=by
 intro bs;induction bs with
 |nil=>intro k r h;exact⟨(),h,rfl,by simp[gO],by simp[gO]⟩
 |cons y bs ih=>
  intro k r h;obtain⟨id,sh⟩:=y;cases sh with
  |box cs=>
   simp only[uj]at h;split at h
   ·rename_i vs hm;obtain⟨t,t1,t2,t3,t4⟩:=ih h;obtain⟨x,x1,x2,x3,x4⟩:=Pr t1;refine⟨x,x1,by simp only[gO,x2];simp[t2],fun y hy=>?_,fun M hM y hy b hb=>?_⟩
    ·simp only[gO,x2]at hy;grind
    ·simp only[gO,x2]at hy;rcases aih.1 hy with rfl|hy
     ·simp only[cN]at hb;subst hb;simp only[bH.within];refine x4 M fun s hs=>?_;have:=hM (id,.box cs) (by simp);grind [CF.within,List.all_eq_true]
     grind
   ·cases h
  |arr sz et=>
   simp only[uj]at h;split at h
   ·rename_i Gp Gq es hm;split at h
    ·rename_i he;obtain⟨rfl,rfl⟩:=he;obtain⟨t,t1,t2,t3,t4⟩:=ih h;refine⟨(es,t),t1,by simp only[gO];simp[t2],fun y hy=>?_,fun M hM y hy b hb=>?_⟩
     ·simp only[gO]at hy;grind
     ·simp only[gO]at hy;rcases aih.1 hy with rfl|hy
      ·simp only[cN]at hb;subst hb;rfl
      grind
    ·cases h
   ·cases h
  |qT sz et=>
   simp only[uj]at h;split at h
   ·rename_i Gp Gq es hm;split at h
    ·rename_i he;obtain⟨rfl,rfl⟩:=he;obtain⟨t,t1,t2,t3,t4⟩:=ih h;refine⟨(es,t),t1,by simp only[gO];simp[t2],fun y hy=>?_,fun M hM y hy b hb=>?_⟩
     ·simp only[gO]at hy;grind
     ·simp only[gO]at hy;rcases aih.1 hy with rfl|hy
      ·simp only[cN]at hb;subst hb;rfl
      grind
    ·cases h
   ·cases h
  |nest sz et=>
   simp only[uj]at h;split at h
   ·rename_i Gp Gq es hm;split at h
    ·rename_i he;obtain⟨rfl,rfl⟩:=he;obtain⟨t,t1,t2,t3,t4⟩:=ih h;refine⟨(es,t),t1,by simp only[gO];simp[t2],fun y hy=>?_,fun M hM y hy b hb=>?_⟩
     ·simp only[gO]at hy;grind
     ·simp only[gO]at hy;rcases aih.1 hy with rfl|hy
      ·simp only[cN]at hb;subst hb;rfl
      grind
    ·cases h
   ·cases h
  |fa kt et=>
   simp only[uj]at h;split at h
   ·rename_i wE Gq es hm;split at h
    ·rename_i he;obtain⟨rfl,rfl⟩:=he;obtain⟨t,t1,t2,t3,t4⟩:=ih h;refine⟨(es,t),t1,by simp only[gO];simp[t2],fun y hy=>?_,fun M hM y hy b hb=>?_⟩
     ·simp only[gO]at hy;grind
     ·simp only[gO]at hy;rcases aih.1 hy with rfl|hy
      ·simp only[cN]at hb;subst hb;rfl
      grind
    ·cases h
   ·cases h
  |map kt=>
   simp only[uj]at h;split at h
   ·rename_i wE es hm;split at h
    ·rename_i he;subst he;obtain⟨t,t1,t2,t3,t4⟩:=ih h;refine⟨(es,t),t1,by simp only[gO];simp[t2],fun y hy=>?_,fun M hM y hy b hb=>?_⟩
     ·simp only[gO]at hy;grind
     ·simp only[gO]at hy;rcases aih.1 hy with rfl|hy
      ·simp only[cN]at hb;subst hb;rfl
      grind
    ·cases h
   ·cases h
  |iter ty=>
   simp only[uj]at h;split at h
   ·rename_i t' es hm;split at h
    ·rename_i he;subst he;obtain⟨t,t1,t2,t3,t4⟩:=ih h;refine⟨(es,t),t1,by simp only[gO];simp[t2],fun y hy=>?_,fun M hM y hy b hb=>?_⟩
     ·simp only[gO]at hy;grind
     ·simp only[gO]at hy;rcases aih.1 hy with rfl|hy
      ·simp only[cN]at hb;subst hb;rfl
      grind
    ·cases h
   ·cases h
  |loop=>
   simp only[uj]at h;split at h
   ·rename_i hm;obtain⟨t,t1,t2,t3,t4⟩:=ih h;refine⟨t,t1,by simp only[gO];simp[t2],fun y hy=>?_,fun M hM y hy b hb=>?_⟩
    ·simp only[gO]at hy;grind
    ·simp only[gO]at hy;rcases aih.1 hy with rfl|hy
     ·simp only[cN]at hb;subst hb;rfl
     grind
   ·cases h
  |busy=>
   simp only[uj]at h;split at h
   ·rename_i hm;obtain⟨t,t1,t2,t3,t4⟩:=ih h;refine⟨t,t1,by simp only[gO];simp[t2],fun y hy=>?_,fun M hM y hy b hb=>?_⟩
    ·simp only[gO]at hy;grind
    ·simp only[gO]at hy;rcases aih.1 hy with rfl|hy
     ·simp only[cN]at hb;subst hb;rfl
     grind
   ·cases h
mutual
theorem Fg{M:List Nat}{id:Nat}:∀(v:V),v.within M=true→v.has id=true→id∈M
 |.agg cs,h,hh=>pF cs (by simpa only[V.within]using h) (by simpa only[V.has]using hh)
 |.aP cs,h,hh=>pF cs (by simpa only[V.within]using h) (by simpa only[V.has]using hh)
 |.fn _ cs,h,hh=>pF cs (by simpa only[V.within]using h) (by simpa only[V.has]using hh)
 |.os j,h,hh=>by have:=AI hh;subst this;simpa[V.within]using h
 |.fL j _ _,h,hh=>by have:=AI hh;subst this;simpa[V.within]using h
 |.oe j _ _,h,hh=>by have:=AI hh;subst this;simpa[V.within]using h
 |.om j,h,hh=>by have:=AI hh;subst this;simpa[V.within]using h
 |.wI j _ _,h,hh=>by have:=AI hh;subst this;simpa[V.within]using h
 |.Ar j _ _ _ _ _,h,hh=>by have:=AI hh;subst this;simpa[V.within]using h
 |.op j _,h,hh=>by have:=AI hh;subst this;simpa[V.within]using h
 |.it j,h,hh=>by have:=AI hh;subst this;simpa[V.within]using h
 |.yl j,h,hh=>by have:=AI hh;subst this;simpa[V.within]using h
 |.pv _,_,hh=>by cases hh
 |.iq,_,hh=>by cases hh
 |.top,_,hh=>by cases hh
theorem pF{M:List Nat}{id:Nat}:∀(cs:List V),kJ M cs=true→b8 id cs=true→id∈M
 |[],_,hh=>by cases hh
 |v::r,h,hh=>by
  simp only[kJ,OF]at h;simp only[b8,ajt]at hh;rcases hh with hh|hh
  ·exact Fg v h.1 hh
  ·exact pF r h.2 hh
end
theorem UN{f:Fr}:∀(bO:List (Nat×Sh))(t:Nat),MG (rj bO (bO.map fun(x:Nat×Sh)=>f x.1)) t=f t∨MG (rj bO (bO.map fun(x:Nat×Sh)=>f x.1)) t=.top
 |[],t=>.inr rfl
 |(d,s)::r,t=>by
  simp only[ajr,rj,MG,gp];cases e:Nat.beq t d with
  |true=>simp_all
  |false=>exact UN r t
theorem Fh{f:Fr}{M:List Nat}:∀(bO:List (Nat×Sh)),kJ M (bO.map fun(x:Nat×Sh)=>f x.1)=true→∀t,(MG (rj bO (bO.map fun(x:Nat×Sh)=>f x.1)) t).within M=true
 |[],_,t=>rfl
 |(d,s)::r,h,t=>by
  simp only[ajr,kJ,OF]at h;simp only[ajr,rj,MG,gp];cases e:Nat.beq t d with
  |true=>simp_all
  |false=>exact Fh r h.2 t
theorem Fi{T:G4}{f:Fr}{m:Mem}{k:T.ty→Option R}{r:R}(h:enc T f m k=some r):∃x,k x=some r∧we (MM T x) f∧(∀id b,Eh T x id=some b→m id=some b)∧(∀t id,(MM T x t).has id=true→(Eh T x id).isSome=true)∧∀j cs id,Eh T x j=some (.box cs)→b8 id cs=true→(Eh T x id).isSome=true:=by
 unfold enc at h;split at h
 ·rename_i wZ;obtain⟨t,t1,t2,t3,t4⟩:=Zd h;obtain⟨x,x1,x2,x3,x4⟩:=Pr t1;simp only[G4.ok,OF,ajO]at wZ;have pR:∀id,id∈T.zA.map (·.1)→(Eh T x id).isSome=true:=fun id hid=>by
   unfold Eh;rw[x2];refine AU (fun y hy=>?_) ?_
   ·grind
   grind
  refine⟨x,x1,fun s=>?_,fun id b hb=>?_,fun s id hid=>pR id ?_,fun j cs id hj hh=>pR id ?_⟩
  ·simp_all[MM,UN]
  ·unfold Eh at hb;grind [zV]
  ·have hw:=x4 (T.zA.map (·.1)) fun s hs=>by simp only[G4.j4,ajy]at hs;grind
   have:=Fh (M:=T.zA.map (·.1)) T.bO hw s;unfold MM at hid;grind [Fg]
  ·unfold Eh at hj;rw[x2]at hj;obtain⟨y,hy,h1,h2⟩:=zV hj;have:=t4 (T.zA.map (·.1)) (fun z hz=>wZ.2 z hz) y hy _ h2;grind [pF,bH.within]
 ·cases h
section
variable {E:Env} {w0:bx}
variable{nt:Nat}{μ:Ro}{φ:Nat→aA}{f:Fr}{m:Mem}{a:Act}{w:World}
theorem Rel.dec{f':Fr}{m':Mem}(h:Rel E.P E.aG nt w0 μ φ f m a w)(hf:we f' f)(hm:∀id b,m' id=some b→m id=some b)(hl:∀t id,(f' t).has id=true→(m' id).isSome=true)(hb:∀j cs id,m' j=some (.box cs)→b8 id cs=true→(m' id).isSome=true):Rel E.P E.aG nt w0 μ φ f' m' a w:={below:=h.below,ro:=h.ro,aG:=h.aG,dx:=fun id b hb=>h.dx id b (hm id b hb),own:=fun id b g hb hg=>h.own id b g (hm id b hb) hg,inj:=fun TQ id2 b1 b2 g h1 h2=>h.inj TQ id2 b1 b2 g (hm _ _ h1) (hm _ _ h2),apart:=fun id b hb=>h.apart id b (hm id b hb),fO:=hb,base:=h.base,dA:=h.dA,CO:=fun id st hid=>h.CO id st (hm _ _ hid),size:=h.size,defers:=h.defers,mR:=h.mR,fr:=(h.weaken hf).fr,live:=hl}
theorem Rel.set(h:Rel E.P E.aG nt w0 μ φ f m a w){t:Nat}{p:PV}(hp:ai E.P μ p (bO nt w0 a t)):Rel E.P E.aG nt w0 μ φ (gp f t (.pv p)) m a w:=
 {toav:=h.toav,size:=h.size,defers:=h.defers,mR:=h.mR,fr:=fun s=>by
   by_cases e:s=t
   ·subst e;rw[zH];exact .pv hp
   ·rw[rC e];exact h.fr s,
  live:=fun s id hid=>by
   by_cases e:s=t
   ·simp_all
   ·rw[rC e]at hid;exact h.live s id hid}
theorem Rel.freeze{nt:Nat}{μ:Ro}{φ:Nat→aA}{f:Fr}{m:Mem}{a:Act}{w:World}(h:Rel E.P E.aG nt w0 μ φ f m a w){id sz:Nat}{et:TypeId}{es:List PV}(hm:m id=some (.arr sz et es)):Rel E.P E.aG nt w0 (qy μ w (φ id).g) φ f (ao m id (.qT sz et es)) a w:=
 {toav:=h.toav.freeze hm,size:=h.size,defers:=h.defers.mono (mn h.toav _),mR:=h.mR,fr:=fun s=>(h.fr s).za (mn h.toav _),live:=fun s i hid=>by
   by_cases e:i=id
   ·simp_all
   ·rw[aq e];exact h.live s i hid}
theorem uF{A:Type}{nt:Nat}{a:Act}{w:World}:∀{l:List (Nat×Nat)}{μ:Ro}{φ:Nat→aA}{f:Fr}{m:Mem}{k:Fr→Mem→A}{r:A},CK l f m k=r→Rel E.P E.aG nt w0 μ φ f m a w→∃f' m' μ',k f' m'=r∧Rel E.P E.aG nt w0 μ' φ f' m' a w
 |[],μ,φ,f,m,k,r,h,hR=>⟨f,m,μ,h,hR⟩
 |(t,sz)::l,μ,φ,f,m,k,r,h,hR=>by
  unfold CK at h;split at h
  ·rename_i id hf;have hx:af E.P μ φ (.os id) (bO nt w0 a t):=hf▸hR.fr t;split at h
   ·rename_i s et es hm;have hF:=hR.freeze hm;have hA:=hF.toav.arr (.inr (bM m id _));have hp:ai E.P (qy μ w (φ id).g) (.rs s es) (bO nt w0 a t):=hA.full hF.toav (hx.za (mn hR.toav _)) (fun _ _ h=>h) (fun g hg=>by simp[qy,hg]);exact uF h (hF.set hp)
   ·rename_i s et es hm;have hB:gG E.P μ φ w id (.qT s et es):=hR.dx id _ hm;have hp:ai E.P μ (.rs s es) (bO nt w0 a t):=(hR.toav.arr (.inr hm)).full hR.toav hx (fun _ _ h=>h) (fun g hg=>by obtain⟨o,ho⟩:=ajv.1 (hB.2 g hg);rw[ho,hR.ro _ _ ho]);exact uF h (hR.set hp)
   ·exact uF h hR
  ·rename_i hf;have hx:af E.P μ φ .iq (bO nt w0 a t):=hf▸hR.fr t;have hp:ai E.P μ (.rs sz []) (bO nt w0 a t):=by generalize bO nt w0 a t=y at hx;cases hx;exact .ly
   exact uF h (hR.set hp)
  ·exact uF h hR
variable{id:Nat}
theorem KS{u:V}:∀(cs:List V)(j:Nat),b8 id (cs.set j u)=true→b8 id cs=true∨u.has id=true:=by
 intro cs j h;obtain⟨v,hv,hh⟩:=cy.1 h;rcases List.mem_or_eq_of_mem_set hv with h1|h1
 ·exact .inl (cy.2 ⟨v,h1,hh⟩)
 simp_all
theorem Rel.UO(h:Rel E.P E.aG nt w0 μ φ f m a w){j:Nat}{cs:List V}{u:V}(hm:m id=some (.box cs))(hj:cs[j]?=some .iq)(hu:af E.P μ φ u (.slice none 0 0))(hl:∀i,u.has i=true→(m i).isSome=true):Rel E.P E.aG nt w0 μ φ f (ao m id (.box (cs.set j u))) a w:=by
 have key:∀i b,ao m id (.box (cs.set j u)) i=some b→(i=id∧b=.box (cs.set j u))∨m i=some b:=fun i b hb=>by
  by_cases e:i=id
  ·simp_all
  simp_all[aq]
 have zp:∀i,(m i).isSome=true→(ao m id (.box (cs.set j u)) i).isSome=true:=fun i hi=>by
  by_cases e:i=id
  ·simp_all
  ·rw[aq e];omega
 have back:∀i b,ao m id (.box (cs.set j u)) i=some b→∃b',m i=some b'∧(b.jO=true→b'.jO=true)∧b.rowAt=b'.rowAt:=fun i b hb=>by
  rcases key i b hb with⟨rfl,rfl⟩|hb
  ·exact⟨_,hm,fun _=>rfl,rfl⟩
  simp_all
 exact
 {below:=h.below,ro:=h.ro,aG:=h.aG,dx:=fun i b hb=>by
   rcases key i b hb with⟨rfl,rfl⟩|hb
   ·obtain⟨g,c,T,c1,c2,c3,c4,c5,c6⟩:=h.dx _ _ hm;refine⟨g,c,T,c1,c2,by simpa using c3,fun i v x hv hx=>?_,c5,by simpa using c6⟩;rw[ajW]at hv;split at hv
    ·rename_i e;subst e;split at hv
     ·simp only[cN]at hv;subst hv;have:=c4 j .iq x hj hx;cases this;omega
     ·cases hv
    ·exact c4 i v x hv hx
   ·exact h.dx i b hb,
  own:=fun i b g hb hg=>by obtain⟨b',jG,JR,vT⟩:=back i b hb;obtain⟨o1,o2⟩:=h.own i b' g jG (by simp_all[bH.owns]);simp_all,
  inj:=fun TQ id2 b1 b2 g h1 h2 g1 g2=>by obtain⟨b1',h1',_,r1⟩:=back TQ b1 h1;obtain⟨b2',YS,_,r2⟩:=back id2 b2 h2;exact h.inj TQ id2 b1' b2' g h1' YS (by simp_all[bH.owns]) (by simp_all[bH.owns]),
  apart:=fun i b hb=>by obtain⟨b',jG,_,vT⟩:=back i b hb;have:=h.apart i b' jG;unfold bH.apart at this⊢;rw[vT];omega,
  fO:=fun i MS sI hi hid=>by
   rcases key i _ hi with⟨rfl,he⟩|hi
   ·simp only[bH.box.injEq]at he;subst he;rcases KS _ _ hid with hid|hid
    ·exact zp _ (h.fO _ _ _ hm hid)
    simp_all
   ·exact zp _ (h.fO _ _ _ hi hid),
  base:=h.base,dA:=h.dA,
  CO:=fun i st hi=>by
   rcases key i _ hi with⟨_,he⟩|hi
   ·cases he
   ·exact h.CO i st hi,
  size:=h.size,defers:=h.defers,mR:=h.mR,fr:=h.fr,
  live:=fun t i hid=>zp _ (h.live t i hid)}
variable{et:TypeId}
theorem Rel.abN(h:Rel E.P E.aG nt w0 μ φ f m a w){TG:Nat}(hn:m TG=none)(ff:0<aO E.P et):∃φ',(φ' TG).g=none∧Rel E.P E.aG nt w0 μ φ' f (ao m TG (.arr (aO E.P et) et [])) a w:=by
 have hf:fresh false TG (.arr (aO E.P et) et []) f m (fun f m _=>some (f,m))=some (f,ao m TG (.arr (aO E.P et) et [])):=by simp[fresh,hn]
 obtain⟨f1,m1,_,hk,_,_,vZ⟩:=dZ hf;simp only[cN,aab]at hk;obtain⟨rfl,rfl⟩:=hk;obtain⟨φ',a1,a2,a3⟩:=vZ E.P E.aG w0 μ φ w w (bO nt w0 a) (Dz none 0 0 (aO E.P et)) h.toav ⟨h.fr,h.live⟩ ⟨lD.refl _ _,h.toav.ro,fun _ _ _ _ _=>rfl,by simp,fun φ' hp _=>by refine⟨by rw[hp];rfl,by rw[hp],rfl,ff,by simp,by rw[hp];simp[maxLen],?_⟩;simp_all,by simp[bH.names],fun st h=>by cases h⟩;exact⟨φ',by rw[a1],{toav:=a2,size:=h.size,defers:=h.defers,mR:=h.mR,fr:=a3.fr,live:=a3.live}⟩
theorem uG{A:Type}{nt:Nat}{a:Act}{w:World}:∀{l:List (Nat×Nat×Nat×TypeId)}{μ:Ro}{φ:Nat→aA}{f:Fr}{m:Mem}{k:Mem→A}{r:A},CL E.P l m k=r→Rel E.P E.aG nt w0 μ φ f m a w→∃m' φ',k m'=r∧Rel E.P E.aG nt w0 μ φ' f m' a w
 |[],μ,φ,f,m,k,r,h,hR=>⟨m,φ,h,hR⟩
 |(id,j,TG,et)::l,μ,φ,f,m,k,r,h,hR=>by
  unfold CL at h;split at h
  ·rename_i cs hm;split at h
   ·rename_i hj;split at h
    ·rename_i hn;split at h
     ·rename_i ff;obtain⟨φ',g0,j6⟩:=hR.abN hn ff;have cJ:id≠TG:=fun e=>by simp_all
      exact uG h (j6.UO (by rw[aq cJ];omega) hj (.sK g0) fun i hi=>by have:=AI hi;subst this;simp)
     ·exact uG h hR
    ·exact uG h hR
   ·exact uG h hR
  ·exact uG h hR
theorem AV{A:Type}{nt:Nat}{a:Act}{w:World}:∀{l:List (Nat×Nat×Nat)}{μ:Ro}{φ:Nat→aA}{f:Fr}{m:Mem}{k:Mem→A}{r:A},G9 l m k=r→Rel E.P E.aG nt w0 μ φ f m a w→∃m',k m'=r∧Rel E.P E.aG nt w0 μ φ f m' a w
 |[],μ,φ,f,m,k,r,h,hR=>⟨m,h,hR⟩
 |(id,j,sz)::l,μ,φ,f,m,k,r,h,hR=>by
  unfold G9 at h;split at h
  ·rename_i cs hm;split at h
   ·rename_i hj;exact AV h (hR.UO hm hj (.pv .ly) (fun i hi=>by cases hi))
   ·exact AV h hR
  ·exact AV h hR
theorem iX{T:Type}{l:List T}{n i:Nat}{e:T}(h:(l.take n)[i]?=some e):l[i]?=some e∧i<n:=by grind
theorem Rel.Ze(h:Rel E.P E.aG nt w0 μ φ f m a w){s:Nat}{es:List PV}(hm:m id=some (.arr s et es)):Rel E.P E.aG nt w0 μ φ f (ao m id (.nest s et es)) a w:=by
 have hA:aH E.P μ φ w id s et es:=h.dx id _ hm;have key:∀i b,ao m id (.nest s et es) i=some b→(i=id∧b=.nest s et es)∨m i=some b:=fun i b hb=>by
  by_cases e:i=id
  ·simp_all
  simp_all[aq]
 have zp:∀i,(m i).isSome=true→(ao m id (.nest s et es) i).isSome=true:=fun i hi=>by
  by_cases e:i=id
  ·simp_all
  ·rw[aq e];omega
 have hN:aX E.P μ φ w id s et es:=by
  obtain⟨h1,h2,h3,h4,h5,h6,h7⟩:=hA;refine⟨h1,h2,h3,h4,h5,h6,?_⟩;cases hg:(φ id).g with
  |none=>rw[hg]at h7;omega
  |some g=>rw[hg]at h7;obtain⟨c,T,c1,c2,c3,c4,c5⟩:=h7;exact⟨c,T,c1,c2,c3,fun i e j p x he hp hx=>.pure (c4 i e j p x he hp hx),c5⟩
 have DS:∀i off,(bH.nest s et es).rowAt i off=true→False:=fun i off hr=>by
  rcases kj hr with⟨_,_,_,e,s',rs,hb,he,hp⟩|⟨_,_,_,_,_,_,hb,_⟩
  ·cases hb;obtain⟨h1,h2,h3,h4,h5,h6,h7⟩:=hA;cases hg:(φ id).g with
   |none=>simp_all
   |some g=>
    rw[hg]at h7;obtain⟨c,T,c1,c2,c3,c4,c5⟩:=h7;have hi:i<es.length:=(By.1 he).1;have hj:off<s:=by grind
    have bT:i*s+off<c.size:=by have:(i+1)*s≤(φ id).cap*s:=agw _ (by omega);grind
    exact Bool.noConfusion (ai.DO (c4 i e off _ _ he hp (IT bT)))
  ·cases hb
 have ai8:∀i off,(bH.arr s et es).rowAt i off=true→False:=qU;have hM:av E.P E.aG w0 μ φ (ao m id (.nest s et es)) w:=by
  refine h.toav.Pf (fun _ k=>k) (fun j b' hb=>?_) (fun j b' g hb hg=>?_) (fun j b' hb=>?_) (fun j cs i hb hh=>?_) (fun j st hb=>?_)
  ·rcases key j b' hb with⟨rfl,rfl⟩|hb
   ·exact hN
   ·exact h.dx j b' hb
  ·rcases key j b' hb with⟨rfl,rfl⟩|hb
   ·exact⟨j,_,hm,.inl (oZ DS hg),fun _=>rfl,rfl⟩
   grind
  ·rcases key j b' hb with⟨rfl,rfl⟩|hb
   ·exact rD DS
   ·exact h.apart j b' hb
  ·rcases key j _ hb with⟨_,hb⟩|hb
   ·cases hb
   ·exact zp _ (h.fO j cs i hb hh)
  grind
 exact{toav:=hM,size:=h.size,defers:=h.defers,mR:=h.mR,fr:=h.fr,live:=fun t i hid=>zp _ (h.live t i hid)}
theorem Fj{A:Type}{nt:Nat}{a:Act}{w:World}:∀{l:List Nat}{μ:Ro}{φ:Nat→aA}{f:Fr}{m:Mem}{k:Mem→A}{r:A},Kj l m k=r→Rel E.P E.aG nt w0 μ φ f m a w→∃m',k m'=r∧Rel E.P E.aG nt w0 μ φ f m' a w
 |[],μ,φ,f,m,k,r,h,hR=>⟨m,h,hR⟩
 |id::l,μ,φ,f,m,k,r,h,hR=>by
  unfold Kj at h;split at h
  ·rename_i s et es hm;exact Fj h (hR.Ze hm)
  ·exact Fj h hR
theorem Rel.cut(h:Rel E.P E.aG nt w0 μ φ f m a w){j d len s:Nat}{cs:List V}{es:List PV}(hm:m id=some (.box cs))(hj:cs[j]?=some (.fL d 0 len))(hd:m d=some (.arr s et es))(cJ:d≠id):∃φ',Rel E.P E.aG nt w0 μ φ' (eN d f) (ao (ao (bg (bD d m) d) d (.arr s et (es.take len))) id (.box ((cs.map (sV d)).set j (.os d)))) a w:=by
 obtain⟨m',hm'⟩:∃m',m'=ao (ao (bg (bD d m) d) d (.arr s et (es.take len))) id (.box ((cs.map (sV d)).set j (.os d))):=⟨_,rfl⟩;rw[←hm'];obtain⟨g0,c,T,c1,c2,c3,c4,c5,c6⟩:=h.dx _ _ hm;have hA:aH E.P μ φ w d s et es:=h.dx d _ hd;have zK:j<cs.length:=(By.1 hj).1;have hx:=c4 j _ _ hj (IT (by omega));obtain⟨φ',f1,f2,f3,f4⟩:∃φ':Nat→aA,(∀i,i≠d→φ' i=φ i)∧(φ' d).g=(φ d).g∧aH E.P μ φ' w d s et (es.take len)∧af E.P μ φ' (.os d) c[j]:=by
  obtain⟨h1,h2,h3,h4,h5,h6,h7⟩:=hA;generalize c[j]=x at hx;cases hx with
  |rq hg=>refine⟨φ,fun _ _=>rfl,rfl,?_,.sK hg⟩;rw[hg]at h7;obtain⟨rfl,h7⟩:=h7;refine⟨h1,h2,h3,h4,by simp,h6,?_⟩;simp_all
  | @fL _ _ _ cap g ad hg hl ha hc hc'=>
   rw[hg]at h7;obtain⟨q,Tq,q1,q2,q3,q4,q5⟩:=h7;have hlen:(es.take len).length=len:=by simp_all
   have had:ad=⟨g,0,none⟩:=by simp_all
   subst had;refine⟨fun i=>if i=d then{φ d with cap:=cap,len:=len}else φ i,fun i hi=>No hi,by simp,⟨by simp[hlen],by simpa using h2,h3,h4,fun i e he=>h5 i e (iX he).1,by simp;omega,?_⟩,?_⟩
   ·simp only[IS,hg];refine⟨q,Tq,q1,ajQ (agw _ (by omega)) q2,by omega,fun i e j p x he hp hx=>q4 i e j p x (iX he).1 hp hx,fun i x hi hx=>q5 i x (Nat.lt_of_lt_of_le hi (agw _ (by omega))) hx⟩
   ·have:=af.os (P:=E.P) (μ:=μ) (φ:=fun i=>if i=d then{φ d with cap:=cap,len:=len}else φ i) (id:=d) (g:=g) (by simp[hg]);simpa using this
 have key:∀i b,m' i=some b→(i=id∧b=.box ((cs.map (sV d)).set j (.os d)))∨(i=d∧b=.arr s et (es.take len))∨(i≠id∧i≠d∧∃b',m i=some b'∧b=gq d b'):=fun i b hb=>by
  rw[hm']at hb;by_cases e:i=id
  ·simp_all
  ·rw[aq e]at hb;by_cases e':i=d
   ·simp_all
   simp_all[aq,fC]
 have zp:∀i,(m i).isSome=true→(m' i).isSome=true:=fun i hi=>by
  rw[hm'];by_cases e:i=id
  ·simp_all
  ·rw[aq e];by_cases e':i=d
   ·simp_all
   simp_all[aq,tu]
 have abO:∀{i:Nat}{b':bH},(gq d b').names i=true→i≠d:=fun{i b'}hn=>by cases b'<;>simp only[gq,bH.names]at hn<;>first|cases hn|exact(yz hn).2
 have hM:av E.P E.aG w0 μ φ' m' w:=by
  refine h.toav.Pf (fun _ k=>k) (fun i b' hb=>?_) (fun i b' g hb hg=>?_) (fun i b' hb=>?_) (fun i MS i' hb hh=>?_) (fun i st hb=>?_)
  ·rcases key i b' hb with⟨rfl,rfl⟩|⟨rfl,rfl⟩|⟨e1,e2,b2,ux,rfl⟩
   ·refine⟨g0,c,T,by grind,c2,by simpa using c3,fun n v x hv IG=>?_,c5,by grind⟩;rw[ajW]at hv;split at hv
    ·simp_all
    ·simp only[IN,adr]at hv;obtain⟨v',T2,rfl⟩:=hv;exact((c4 n v' x T2 IG).kill d).mono (fun _ _ h=>h) fun i hi=>f1 i (wR hi).2
   ·exact f3
   ·exact(h.dx i b2 ux).kill.cg (fun k hk=>f1 k (abO hk)) (f1 i e2) (fun _ _ h=>h) (fun _ _=>rfl)
  ·rcases key i b' hb with⟨rfl,rfl⟩|⟨rfl,rfl⟩|⟨e1,e2,b2,ux,rfl⟩
   ·refine⟨i,_,hm,.inl ?_,fun _=>rfl,rfl⟩;have:=oZ (by intro i off h;simp[bH.rowAt]at h) hg;grind
   ·refine⟨i,_,hd,.inl ?_,fun _=>rfl,rfl⟩;grind [oZ,qU]
   ·refine⟨i,b2,ux,?_,fun JR=>by rw[yA]at JR;omega,rfl⟩;rw[f1 i e2]at hg;exact gj.1 hg
  ·rcases key i b' hb with⟨rfl,rfl⟩|⟨rfl,rfl⟩|⟨e1,e2,b2,ux,rfl⟩
   ·grind [rD,bH.rowAt]
   ·exact rD qU
   ·rw[f1 i e2];exact vg.2 (h.apart i b2 ux)
  ·rcases key i _ hb with⟨rfl,hb⟩|⟨rfl,hb⟩|⟨e1,e2,b2,ux,e⟩
   ·simp only[bH.box.injEq]at hb;subst hb;rcases KS _ _ hh with hh|hh
    ·exact zp _ (h.fO _ _ _ hm (yz hh).1)
    ·have:=AI hh;simp_all
   ·cases hb
   ·cases b2 with
    |box cs2=>simp only[gq,bH.box.injEq]at e;subst e;exact zp _ (h.fO _ _ _ ux (yz hh).1)
    |_=>simp[gq]at e
  ·rcases key i _ hb with⟨rfl,hb⟩|⟨rfl,hb⟩|⟨e1,e2,b2,ux,e⟩
   ·cases hb
   ·cases hb
   ·cases b2 with
    |loop st2=>simp_all[gq,bH.loop.injEq]
    |_=>simp[gq]at e
 exact⟨φ',{toav:=hM,size:=h.size,defers:=h.defers,mR:=h.mR,fr:=(fun t=>((h.fr t).kill d).mono (fun _ _ h=>h) fun i hi=>f1 i (wR hi).2),live:=fun t i hid=>zp _ (h.live t i (wR hid).1)}⟩
theorem uH{A:Type}{nt:Nat}{a:Act}{w:World}:∀{l:List (Nat×Nat)}{μ:Ro}{φ:Nat→aA}{f:Fr}{m:Mem}{k:Fr→Mem→A}{r:A},CM l f m k=r→Rel E.P E.aG nt w0 μ φ f m a w→∃f' m' φ',k f' m'=r∧Rel E.P E.aG nt w0 μ φ' f' m' a w
 |[],μ,φ,f,m,k,r,h,hR=>⟨f,m,φ,h,hR⟩
 |(id,j)::l,μ,φ,f,m,k,r,h,hR=>by
  unfold CM at h;split at h
  ·rename_i cs hm;split at h
   ·rename_i d len hj;split at h
    ·rename_i s et es hd;split at h
     ·exact uH h hR
     ·rename_i cJ;have cJ:d≠id:=fun e=>cJ (by simp_all);obtain⟨φ',j6⟩:=hR.cut hm hj hd cJ;exact uH h j6
    ·exact uH h hR
   ·exact uH h hR
  ·exact uH h hR
theorem KT{A:Type}{T:G4}{k:Fr→Mem→A}{r:A}(h:Ha E.P T f m k=r)(hR:Rel E.P E.aG nt w0 μ φ f m a w):∃f' m' μ' φ',k f' m'=r∧Rel E.P E.aG nt w0 μ' φ' f' m' a w:=by unfold Ha at h;obtain⟨_,_,_,h,hR⟩:=uH h hR;obtain⟨m1,φ1,h,hR⟩:=uG h hR;obtain⟨m',h,hR⟩:=AV h hR;obtain⟨m',h,hR⟩:=Fj h hR;obtain⟨f',m',μ',h,hR⟩:=uF h hR;grind
def UP:Ex→Exit
 |.normal=>.normal
 |.exit id=>.exit id
 |.ret=>.ret
theorem Rel.UQ(h:Rel E.P E.aG nt w0 μ φ f m a w):Rel E.P E.aG nt w0 μ φ f m a {w with drawn:=w.drawn+1}:={toav:=h.toav.drew,size:=h.size,defers:=h.defers,mR:=h.mR,fr:=h.fr,live:=h.live}
theorem RS{rd:Option Nat}(hE:ke E)(hY:uq E.P E.aG E.fn.ntmps E.yl w0){R:Type}{ops:Array Oper}{draw:Bool}{k:Ex→Fr→Mem→Option R}{r:R}(h:fB E (.region id ops draw) f m k=some r){Q:Exit→Act→World→Prop}(hR:Rel E.P E.aG E.fn.ntmps w0 μ φ f m a w)(hQ:∀f' m' μ' φ' a' w',k .normal f' m'=some r→Rel E.P E.aG E.fn.ntmps w0 μ' φ' f' m' a' w'→Q .normal a' w'):(Code.region id ops draw).wpIn (FR rd) 0 E.P Q a w:=by
 simp only[fB]at h;cases draw with
 |false=>
  simp only[cQ,S3]at h;refine wpIn_region ?_;have hmz:∀x∈(List.range ops.size).zip ops.toList,ops[x.1]?=some x.2:=fun x hx=>by have:=(tA (l:=ops.toList) (i:=x.1) (o:=x.2)).1 (by omega);simp_all
  have:=iS (rd:=rd) hE hY _ (.inl rfl) h hmz (by intro x hx g hg;cases hg) (fun h=>by omega) μ φ a w Q [] hR (by intro g hg;cases hg) fun f' m' μ' φ' a' w' hk j6 _ _=>hQ f' m' μ' φ' a' w' hk j6;simp_all[akl,List.map_fst_zip]
 |true=>
  simp only[IS]at h;split at h
  ·split at h
   ·rename_i hc;simp only[OF]at hc;exact wpIn_region_any hE.mixed (Nr hE hY hc.1.1 hc.1.2 hc.2 h hR.UQ hQ)
   ·cases h
  split at h
  ·rename_i hi;refine wpIn_region_any hE.mixed ?_;split at h
   ·rename_i wa;exact Fc hE hY (.inl rfl) (fun _ o ho=>(Bool.and_eq_true_iff.1 (ajO.1 wa o (akE.2 ho))).1) hi h hR.UQ hQ
   ·exact Fc hE hY (.inr rfl) (fun h=>by omega) hi h hR.UQ hQ
  ·cases h
end
theorem Zf{g:FuncId}{fn:Func}(hf:P.funcs[g]?=some fn)(aay:(fn.name== "runtime.NumGoroutine")=false)(hb:fn.body=some c){args:Array Value}{w:World}:(callFunc g args).run P w=.ok (.enter g args) w:=yE hf aay hb
theorem RT{nt:Nat}{w0:bx}{a:Act}{t:Nat}:bO nt w0 a (t+nt)=w0.sv (t+nt):=by unfold bO;rw[No (by omega)]
def Ci(c:Code):Prop:=∀{E:Env}{w0:bx}{rd:Option Nat}(_:ke E)(_:uq E.P E.aG E.fn.ntmps E.yl w0)(_:E.rdb=false→rd=none){R:Type}{f:Fr}{m:Mem}{k:Ex→Fr→Mem→Option R}{r:R},fB E c f m k=some r→∀{μ:Ro}{φ:Nat→aA}{a:Act}{w:World}{Q:Exit→Act→World→Prop},Rel E.P E.aG E.fn.ntmps w0 μ φ f m a w→(∀e f' m' μ' φ' a' w',k e f' m'=some r→Rel E.P E.aG E.fn.ntmps w0 μ' φ' f' m' a' w'→Q (UP e) a' w')→c.wpIn (FR rd) 0 E.P Q a w
theorem UR{as b:Code}(ihA:Ci as)(ihB:Ci b){E:Env}(hE:ke E){w2:bx}{lid l ntI:Nat}{ps:Array Nat}{rc:Loop}{fid:Nat}(hrc:w2.rc lid=some (l,rc))(pM:rc.params=ps)(has:rc.assign=as)(hb:rc.body=b)(oD:rc.tmps.size=E.fn.ntmps)(hsv:∀t,t<E.fn.ntmps→w2.sv (t+ntI)=rc.tmps.getD t undef):uq E.P E.aG ntI (fun _ nt _ id args F m k=>bif Nat.beq id lid then roundOf (fB {E with fid:=fid,yl:=BS,rdb:=true} as) (fB {E with fid:=fid,yl:=BS,rdb:=true} b) lid E.fn.ntmps ps.toList nt args F m k else none) w2:=by
 intro R site id args F m k r hy μ φ ρ w xs hM hF hρ hl hr IB g hg;dsimp only at hy;cases hid:Nat.beq id lid with
 |false=>rw[hid]at hy;cases hy
 |true=>
  rw[hid]at hy;have hid:=AI hid;subst hid;simp only[cond_true]at hy;unfold roundOf at hy;split at hy
  ·rename_i Tu;split at hy
   ·rename_i MA;obtain⟨g',rc',l1,l2,l3⟩:=hM.CO id _ Tu;rw[hrc]at l2;simp only[cN,aab]at l2;obtain⟨rfl,rfl⟩:=l2;rw[l1]at hg;simp only[cN]at hg;subst hg;have JT:xs.size=(Mw.ready.obj rc).params.size:=by
     have:ps.toList.length=ps.size:=by simp
     show xs.size=rc.params.size;rw[pM];omega
    refine⟨_,_,_,_,run_yield l3 JT,?_⟩;have hE':ke {E with fid:=fid,yl:=BS,rdb:=true}:=⟨hE.mixed,hE.lp,hE.ctx,hE.own,hE.inl,hE.rng⟩;have aaK:=HJ (P:=E.P) (μ:=μ) (φ:=φ) ps.toList args xs.toList (wL ntI F) rc.tmps oD (by omega) (fun t ht=>by have:=hF.fr (t+ntI);rw[hρ _ (by omega),hsv t ht]at this;exact this) (fun i v x hv hx=>hr i v x hv (by simpa using hx));have hR3:Rel E.P E.aG E.fn.ntmps {w2 with sv:=fun t=>ρ (t-E.fn.ntmps),dA:=μ,mR:=fun _=>none} μ φ (O0 E.fn.ntmps (Ei ps.toList args (wL ntI F)) F) m {tmps:=((Mw.ready.obj rc).params.zip xs).foldl (fun tmps(t,a)=>tmps.setIfInBounds t a) (Mw.ready.obj rc).tmps,defers:=[]} w:=by
     have e:((Mw.ready.obj rc).params.zip xs).foldl (fun tmps(t,a)=>tmps.setIfInBounds t a) (Mw.ready.obj rc).tmps=(ps.toList.zip xs.toList).foldl (fun tmps(x:Nat×Value)=>tmps.setIfInBounds x.1 x.2) rc.tmps:=by rw[UM];show(rc.params.toList.zip xs.toList).foldl _ rc.tmps=_;rw[pM]
     rw[e];refine{toav:=hM.wQ rfl rfl (fun _ _ h=>h) (fun _ _ _=>rfl),size:=aaK.1,defers:=.nil _ _ _,mR:=fun _ _ h=>(by cases h),fr:=fun t=>?_,live:=fun t id hid=>?_}
     ·unfold O0 bO;by_cases ht:t<E.fn.ntmps
      ·rw[show Nat.blt t E.fn.ntmps=true by simp_all,GW ht];exact aaK.2 t ht
      ·rw[show Nat.blt t E.fn.ntmps=false by rw[←aj9,akb];omega,No ht];exact hF.fr _
     ·unfold O0 at hid;cases e:Nat.blt t E.fn.ntmps with
      |true=>
       rw[e]at hid;rcases Fe _ _ _ _ hid with h|h
       ·exact IB id h
       ·exact hF.live _ id h
      |false=>rw[e]at hid;exact hF.live _ id hid
    refine roundIn_of_wpIn trivial ?_;show(Mw.ready.obj rc).assign.wpIn (FR (some l)) 0 E.P _ _ _;have ha':(Mw.ready.obj rc).assign=as:=has;rw[ha'];refine ihA (rd:=some l) hE' (AA _ _ _ _) (fun h=>by cases h) hy hR3 fun e f1 m1 μ1 φ1 a1 w1 Ry Nj=>?_;split at Ry
    ·rename_i hm1;obtain⟨g1,rc1,p1,p2,p3⟩:=Nj.CO id _ hm1;have p2:w2.rc id=some (g1,rc1):=p2;rw[hrc]at p2;simp only[cN,aab]at p2;obtain⟨rfl,rfl⟩:=p2;refine⟨_,run_beginRound p3 rfl,?_⟩;have jG:(Mw.ready.obj rc).body=b:=hb;refine Eq.mpr (congrArg (fun c:Code=>c.wpIn (FR (some l)) 0 E.P _ a1 _) jG) ?_;have vh:=Nj.toav.turn (st':=.busy) hm1 p1 hrc;have ahs:Rel E.P E.aG E.fn.ntmps {w2 with sv:=fun t=>ρ (t-E.fn.ntmps),dA:=μ,mR:=fun _=>none} μ1 φ1 f1 (ao m1 id (.loop .busy)) a1 (w1.putObj l (.loop {Mw.ready.obj rc with state:=.busy})):=
      {toav:=vh,size:=Nj.size,defers:=Nj.defers,mR:=Nj.mR,fr:=Nj.fr,live:=fun t j hj=>by
        by_cases e:j=id
        ·subst e;simp
        ·rw[aq e];exact Nj.live t j hj}
     refine ihB (rd:=some l) hE' (AA _ _ _ _) (fun h=>by cases h) Ry ahs fun e f2 m2 μ2 φ2 a2 w2' Rz Hy=>?_;split at Rz
     ·rename_i cK;obtain⟨g2,rc2,q1,q2,q3⟩:=Hy.CO id _ cK;have q2:w2.rc id=some (g2,rc2):=q2;rw[hrc]at q2;simp only[cN,aab]at q2;obtain⟨rfl,rfl⟩:=q2;have hle:KF μ μ2:=Hy.dA;have hFp:bS E.P μ2 φ2 m2 (wL E.fn.ntmps f2) ρ:=by refine⟨fun t=>?_,fun t id hid=>Hy.live _ id hid⟩;have:=Hy.fr (t+E.fn.ntmps);simp_all[RT,wL]
      have fin:∀(st:Mw)(v:Bool),k (.pv (.bool v)) (wL E.fn.ntmps f2) (ao m2 id (.loop st))=some r→∃v' f' m' y μ' φ',k v' f' m'=some r∧Ending.returned (.bool v)=.returned y∧KF μ μ'∧av E.P E.aG w2 μ' φ' m' (w2'.putObj l (.loop (st.obj rc)))∧bS E.P μ' φ' m' f' ρ∧af E.P μ' φ' v' y∧∀id,v'.has id=true→(m' id).isSome=true:=by
       intro st v hk;have hM2:=Hy.toav.turn (st':=st) cK q1 hrc;refine⟨_,_,_,_,μ2,φ2,hk,rfl,hle,hM2.wQ rfl rfl (fun b o hb=>hle b o (hM.dA b o hb)) (fun _ _ _=>rfl),⟨hFp.fr,fun t j hj=>?_⟩,.pv .bool,fun id hid=>by cases hid⟩;by_cases e:j=id
       ·subst e;simp
       ·rw[aq e];exact hFp.live t j hj
      cases e with
      |normal=>exact⟨_,_,run_endRound none q3,fin .ready true Rz⟩
      |exit j=>exact⟨_,_,run_endRound (some (.exit j)) q3,fin (.done (.exit j)) false Rz⟩
      |ret=>exact⟨_,_,run_endRound (some .ret) q3,fin (.done .ret) false Rz⟩
     ·cases Rz
    ·cases Ry
   ·cases hy
  ·cases hy
theorem Zg{μ:Ro}{φ:Nat→aA}{m:Mem}{v:V}{g:FuncId}{caps:List V}{y:Value}(h:abm v=some (g,caps))(hv:af P μ φ v y)(hl:∀id,v.has id=true→(m id).isSome=true):∃xs,y=.func (.func g) #[] xs∧caps.length=xs.size∧(∀(i:Nat)v x,caps[i]?=some v→xs[i]?=some x→af P μ φ v x)∧∀id,b8 id caps=true→(m id).isSome=true:=by
 unfold abm at h;split at h
 ·rename_i g0 c0;cases e:Nat.blt g0 D4 with
  |false=>rw[e]at h;cases h
  |true=>
  rw[e]at h;simp only[cond_true,cN,aab]at h;obtain⟨rfl,rfl⟩:=h;cases hv with
  | @fn _ _ xs h1 h2=>grind [ry,id,V.has]
 ·rename_i g0 c0;cases e:Nat.blt g0 D4 with
  |false=>rw[e]at h;cases h
  |true=>
  rw[e]at h;simp only[cond_true,cN,aab]at h;obtain⟨rfl,rfl⟩:=h;cases hv with
  |pv hv=>cases hv with
   | @fn _ _ xs h1 h2=>
    refine⟨xs,ry e,by simpa using h1,fun i v x hv hx=>?_,fun id hid=>?_⟩
    ·simp only[IN,adr]at hv;obtain⟨q,hq,rfl⟩:=hv;exact .pv (h2 i q x hq hx)
    ·obtain⟨v,hv,hh⟩:=cy.1 hid;obtain⟨q,_,rfl⟩:=ajy.1 hv;cases hh
 ·cases h
theorem I0{g:Operand}{ps:Array Tmp}{as b:Code}(ihA:Ci as)(ihB:Ci b):Ci (.rangeFunc g ps as b):=by
 intro E w0 rd hE hY pB R f m k r h μ φ a w Q hR hQ;simp only[fB]at h;split at h
 ·cases h
 rename_i hrb;have pB:=pB (by simpa using hrb);subst pB;split at h;rotate_left
 ·cases h
 rename_i p0 pr JQ;generalize ai9:cu E (some p0)=lid at h;obtain⟨f1,m1,_,h,Tu,zj,aht⟩:=dZ h;obtain⟨hm0,rfl,rfl⟩:=zj rfl;refine wpIn_rangeFunc fun fn _=>?_;obtain⟨rec,qL⟩:∃rec:Loop,rec={state:=.ready,pending:=none,fn,tmps:=a.tmps,params:=ps,assign:=as,body:=b,defers:=w.heap.size}:=⟨_,rfl⟩;obtain⟨wD,hwD⟩:∃wD,wD=w.alloc (.deferred (some [])):=⟨_,rfl⟩;obtain⟨W1,hW1⟩:∃W1,W1=wD.alloc (.loop rec):=⟨_,rfl⟩;obtain⟨l,hl⟩:∃l,l=wD.heap.size:=⟨_,rfl⟩;have hl':l=w.heap.size+1:=by rw[hl,hwD];simp
 obtain⟨μD,abP⟩:∃μD,μD=C7 μ w (.deferred (some [])):=⟨_,rfl⟩;have Zh:KF μ μD:=abP▸KP hR.toav _;have hMD:av E.P E.aG w0 μD φ m wD:=abP▸hwD▸hR.toav.Zb _;have hD:μD w.heap.size=some (.deferred (some [])):=by rw[abP];simp[C7]
 obtain⟨w1,M5⟩:∃w1:bx,w1={w0 with dA:=μD,rc:=fun i=>if i=lid then some (l,rec)else w0.rc i}:=⟨_,rfl⟩;have aec:av E.P E.aG w1 μD φ m wD:=M5▸hMD.wQ rfl rfl (fun _ _ h=>h) (fun id st hid=>No fun e=>by simp_all);have Hl:bO E.fn.ntmps w1 a=bO E.fn.ntmps w0 a:=by subst M5;rfl
 have hFD:bS E.P μD φ m f1 (bO E.fn.ntmps w0 a):=⟨fun t=>(hR.fr t).za Zh,hR.live⟩;have aed:w1.rc lid=some (l,rec):=by simp_all
 have T3:W1.heap[l]?=some (.loop rec):=by grind [heap_alloc_new]
 have MP:Mw.ready.obj rec=rec:=by subst qL;rfl
 have mr:lz E.P w1 μD φ m wD W1 lid (.loop .ready) (Dz (some l) 0 0 0):=by
  rw[hW1];refine lz.alloc aec (by rw[hl]) (fun φ' hp _=>⟨l,rec,by rw[hp],?_⟩) (by simp[bH.names]) fun st uf=>?_
  ·simp_all
  simp_all
 obtain⟨φ1,ahu,vh,DB⟩:=aht E.P E.aG w1 μD φ wD W1 (bO E.fn.ntmps w0 a) (Dz (some l) 0 0 0) aec hFD mr;have Nj:Rel E.P E.aG E.fn.ntmps w1 μD φ1 f1 (ao m lid (.loop .ready)) a W1:={toav:=vh,size:=hR.size,defers:=(by have:=hR.defers.mono Zh;subst M5;omega),mR:=(by subst M5;exact fun b o hb=>Zh b o (hR.dA b o (hR.mR b o hb))),fr:=fun t=>by rw[Hl];exact DB.fr t,live:=DB.live};have RM:=an Nj g;split at h;rotate_left
 ·cases h
 rename_i gid caps qI;obtain⟨xs,hgv,hlen,lC,ahv⟩:=Zg qI RM.1 RM.2
 ·clear RM;obtain⟨fnI,cI,f1,f2,f3,zq⟩:=hE.rng _ _ _ _ _ _ _ _ _ h;have hyl:af E.P μD φ1 (.yl lid) (.func (.yield l) #[] #[]):=.yl (by rw[ahu]);have hC:=zq w1 μD φ1 (bO E.fn.ntmps w0 a) W1 (#[.func (.yield l) #[] #[]]++xs) vh DB (by simp;omega) (fun i v x hv hx=>by
    grind) (fun id hid=>by
    simp only[b8,ajt]at hid;rcases hid with hid|hid
    ·have:=AI hid;subst this;simp
    ·exact ahv id hid) (by
   refine fun R site id args F m k r hy=>UR (fid:=site*4096+E.fid%4096) ihA ihB hE (w2:={w1 with sv:=fun t=>bO E.fn.ntmps w0 a (t-fnI.ntmps)}) (rc:=rec) (l:=l) (lid:=lid) (ps:=ps) aed (by subst qL;rfl) (by subst qL;rfl) (by subst qL;rfl) (by subst qL;exact hR.size) (fun t ht=>by grind [bO,Nat.add_sub_cancel,rn]) R site id args F m k r hy)
  refine⟨l,[{target:=.collected w.heap.size,args:= #[]}],W1,{target:=.fn (.func gid) xs,args:= #[.func (.yield l) #[] #[]]},W1,gid,#[.func (.yield l) #[] #[]]++xs,W1,?_,?_,?_,?_,?_,?_⟩
  ·have:=run_enterLoop_outer (P:=E.P) (w:=w) fn a.tmps ps as b;rw[hl',hW1,hwD,qL];exact this
  ·simp only[resolve,hgv];simp[go_sem]
  ·exact fun _ _=>trivial
  ·grind [invoke,Zf]
  ·decide
  ·refine FR.Pj (hC.mono ?_);rintro e w' ⟨v,f',m',y,μ',φ',hk,rfl,T0,hF',_,_⟩;have aee:KF μD μ':=by have:=T0.dA;subst M5;omega
   have hD':μ' w.heap.size=some (.deferred (some [])):=aee _ _ hD;have main:∀st,m' lid=some (.loop st)→st≠.busy→∃w4,(Instr.endLoop l).run E.P w'=.ok (st.obj rec).pending w4∧Rel E.P E.aG E.fn.ntmps w0 μ' φ' (eN lid f') (bg (bD lid m') lid) {a with defers:=[{target:=.collected w.heap.size,args:= #[]}]++a.defers} w4:=by
    intro st uf Pb;obtain⟨g',rc',p1,p2,p3⟩:=T0.CO lid st uf;rw[aed]at p2;simp only[cN,aab]at p2;obtain⟨rfl,rfl⟩:=p2;have B2:=T0.own lid _ _ uf (.inl p1);have hMf:=T0.forget lid;have DS:∀id b,bg (bD lid m') lid id=some b→¬b.owns (φ' id) l:=fun id b' hid e=>by obtain⟨cJ,b2,ux,rfl⟩:=fC hid;exact cJ (T0.inj id lid b2 _ l ux uf (gj.1 e) (.inl p1))
    have hM4:=hMf.other (.loop {st.obj rec with state:=.exhausted}) B2.1 (B2.2 rfl) DS;have hM5:av E.P E.aG w0 μ' φ' (bg (bD lid m') lid) (w'.putObj l (.loop {st.obj rec with state:=.exhausted})):=hM4.wQ (by subst M5;rfl) (by subst M5;rfl) (fun b o hb=>aee b o (Zh b o (hR.dA b o hb))) (fun id st hid=>by
      have cJ:id≠lid:=fun e=>by subst e;simp at hid
      subst M5;exact(No cJ).symm)
    refine⟨_,run_endLoop p3 (by cases st<;>simp_all[Mw.obj]),{toav:=hM5,size:=hR.size,defers:=?_,mR:=hR.mR,fr:=?_,live:=?_}⟩
    ·obtain⟨Ds,e,hnd,hDs⟩:=hR.defers;have bT:∀b o,μ b=some o→b<w.heap.size:=fun b o hb=>(abi.1 (hR.ro b o hb)).1;refine⟨w.heap.size::Ds,by simp[e],alq.2 ⟨fun hd=>?_,hnd⟩,fun D hd=>?_⟩
     ·grind
     ·rcases aih.1 hd with rfl|hd
      ·refine⟨hR.below.size,?_,hD'⟩;cases ho:w0.mR w.heap.size with
       |none=>rfl
       |some o=>have:=bT _ _ (hR.dA _ _ (hR.mR _ _ ho));omega
      grind
    ·exact(hF'.forget lid).fr
    ·exact(hF'.forget lid).live
   dsimp only at hk;split at hk
   ·rename_i uf;obtain⟨w4,e1,e2⟩:=main .ready uf (by simp);exact⟨none,w4,e1,hQ .normal _ _ _ _ _ _ hk e2⟩
   ·rename_i j uf;obtain⟨w4,e1,e2⟩:=main (.done j) uf (by simp);refine⟨some j.code,w4,e1,?_⟩;cases j with
    |ret=>exact wpIn_ret (hQ .ret _ _ _ _ _ _ hk e2)
    |exit id=>exact wpIn_exit (hQ (.exit id) _ _ _ _ _ _ hk e2)
   ·cases hk
theorem US:∀(c:Code),Ci c:=by
 intro c;induction c with
 |skip=>intro E w0 rd hE hY pB R f m k r h μ φ a w Q hR hQ;simp only[fB]at h;exact wpIn_skip (hQ .normal _ _ _ _ _ _ h hR)
 |region id ops draw=>intro E w0 rd hE hY pB R f m k r h μ φ a w Q hR hQ;exact RS hE hY h hR (hQ .normal)
 |seq x y ihx ihy=>
  intro E w0 rd hE hY pB R f m k r h μ φ a w Q hR hQ;simp only[fB]at h;refine wpIn_seq (ihx hE hY pB h hR fun e f' m' μ' φ' a' w' hk j6=>?_);cases e with
  |normal=>exact ihy hE hY pB hk j6 hQ
  |exit id=>exact hQ (.exit id) _ _ _ _ _ _ hk j6
  |ret=>exact hQ .ret _ _ _ _ _ _ hk j6
 |cond c x y ihx ihy=>
  intro E w0 rd hE hY pB R f m k r h μ φ a w Q hR hQ;simp only[fB]at h;split at h
  ·rename_i t b hb;have hv:a.eval (.tmp t)=.bool b:=by have:=(an hR (.tmp t)).1;grind [rK]
   have jG:f t=.pv (.bool b):=(EW hb).2;have hle:we (gp f t (.pv (.bool b))) f:=fun s=>by
    simp only[gp];cases e:Nat.beq s t with
    |true=>simp_all
    |false=>simp
   cases b with
   |true=>simp only[IS]at h;exact wpIn_cond_true hv (ihx hE hY pB h (hR.weaken hle) hQ)
   |false=>simp only[cQ,S3]at h;exact wpIn_cond_false hv (ihy hE hY pB h (hR.weaken hle) hQ)
  ·cases h
 |block id b ih=>
  intro E w0 rd hE hY pB R f m k r h μ φ a w Q hR hQ;simp only[fB]at h;refine wpIn_block (ih hE hY pB h hR fun e f' m' μ' φ' a' w' hk j6=>?_);cases e with
  |normal=>exact hQ .normal _ _ _ _ _ _ hk j6
  |exit j=>
   simp only[Ex.TH]at hk;simp only[UP,Exit.inBlock];split at hk
   ·rename_i hj;rw[GW hj];exact hQ .normal _ _ _ _ _ _ hk j6
   ·rename_i hj;rw[No hj];exact hQ (.exit j) _ _ _ _ _ _ hk j6
  |ret=>exact hQ .ret _ _ _ _ _ _ hk j6
 |loop b ih=>
  intro E w0 rd hE hY pB R f m k r h μ φ a w Q hR hQ;simp only[fB]at h;split at h
  ·rename_i T _;obtain⟨f,m,μ,φ,h,hR⟩:=KT h hR;obtain⟨s,hs,s1,s2,s3,s4⟩:=Fi h;obtain⟨n0,hs⟩:=hE.lp _ _ _ _ _ hs;refine HK (fun n a w=>∃s μ φ,Rel E.P E.aG E.fn.ntmps w0 μ φ (MM T s) (Eh T s) a w∧cA (fun s rec=>fB E b (MM T s) (Eh T s) (Ex.Kk (fun f m=>Ha E.P T f m fun f m=>enc T f m rec) k)) n s=some r) ?_ n0 a w ⟨s,μ,φ,hR.dec s1 s2 s3 s4,hs⟩;rintro n a w ⟨s,μ,φ,hR,hs⟩;cases n with
   |zero=>simp[cA]at hs
   |succ n=>
    refine⟨n,rfl,?_⟩;simp only[cA]at hs;refine ih hE hY pB hs hR fun e f' m' μ' φ' a' w' hk j6=>?_;cases e with
    |normal=>obtain⟨f',m',μ',φ',hk,j6⟩:=KT hk j6;obtain⟨s',hs',t1,t2,t3,t4⟩:=Fi hk;exact⟨s',μ',φ',j6.dec t1 t2 t3 t4,hs'⟩
    |exit j=>exact hQ (.exit j) _ _ _ _ _ _ hk j6
    |ret=>exact hQ .ret _ _ _ _ _ _ hk j6
  ·refine HK (fun n a w=>∃f m μ φ,Rel E.P E.aG E.fn.ntmps w0 μ φ f m a w∧Ki (fun f m rec=>fB E b f m (Ex.Kk rec k)) n f m=some r) ?_ E.u a w ⟨f,m,μ,φ,hR,h⟩;rintro n a w ⟨f,m,μ,φ,hR,hs⟩;cases n with
   |zero=>simp[Ki]at hs
   |succ n=>
    refine⟨n,rfl,?_⟩;simp only[Ki]at hs;refine ih hE hY pB hs hR fun e f' m' μ' φ' a' w' hk j6=>?_;cases e with
    |normal=>exact⟨f',m',μ',φ',j6,hk⟩
    |exit j=>exact hQ (.exit j) _ _ _ _ _ _ hk j6
    |ret=>exact hQ .ret _ _ _ _ _ _ hk j6
 |exit id=>intro E w0 rd hE hY pB R f m k r h μ φ a w Q hR hQ;simp only[fB]at h;exact wpIn_exit (hQ (.exit id) _ _ _ _ _ _ h hR)
 |label l=>intro E w0 rd hE hY pB R f m k r h μ φ a w Q hR hQ;simp only[fB]at h;exact wpIn_label (hQ .normal _ _ _ _ _ _ h hR)
 |ret=>intro E w0 rd hE hY pB R f m k r h μ φ a w Q hR hQ;simp only[fB]at h;exact wpIn_ret (hQ .ret _ _ _ _ _ _ h hR)
 |scope b ih=>intro E w0 rd hE hY pB R f m k r h μ φ a w Q hR hQ;simp only[fB]at h;exact RR (ih hE hY pB h hR fun e f' m' μ' φ' a' w' hk j6=>by cases e<;>exact hQ _ _ _ _ _ _ _ hk j6)
 |rangeFunc g ps as b ihA ihB=>exact I0 ihA ihB
 |_=>intro E w0 rd hE hY pB R f m k r h;simp[fB]at h
def Obj.abQ:Obj→Bool
 |.cells .. =>true
 |.map .. =>true
 |_=>false
def Ps(μ μ':Ro):Prop:=∀b o,μ b=some o→Obj.abQ o=true→μ' b=some o
theorem Ps.trans{a b c:Ro}(h:Ps a b)(k:Ps b c):Ps a c:=fun x o hx ho=>k x o (h x o hx ho) ho
section
variable {P:Program} {G:Nat→Option (List PV)} {w0:bx} {μ μ':Ro} {φ:Nat→aA} {m:Mem} {w w':World}
variable{x:Value}
theorem Fk(h:Ps μ μ'){b o:Nat}(hx:cellAt μ b o=some x):cellAt μ' b o=some x:=by
 unfold cellAt at*;split at hx
 ·rename_i c t fz hb;rw[h _ _ hb rfl];omega
 ·cases hx
theorem ai.off(h:Ps μ μ'){p:PV}(hp:ai P μ p x):ai P μ' p x:=by
 induction hp with
 |int h=>exact .int h
 |bool=>exact .bool
 |str h=>exact .str h
 |agg h1 _ h3 ih=>exact .agg h1 ih h3
 |aP h1 _ ih=>exact .aP h1 ih
 |q8=>exact .q8
 |rp X h1 _ h3 ih=>exact .rp X (fun i p hi=>Fk h (h1 i p hi)) ih h3
 |ly=>exact .ly
 |Gw h=>exact .Gw h
 |rs X h1 h2 h3 h4 _ h6 ih=>exact .rs X h1 h2 h3 (fun i e j p hi hj=>Fk h (h4 i e j p hi hj)) ih h6
 |uU=>exact .uU
 |rm h1 h2 h3 h4 h5 _ _ ih1 ih2=>exact .rm (h _ _ h1 rfl) h2 h3 h4 h5 ih1 ih2
 |Dx=>exact .Dx
 |fn h1 _ ih=>exact .fn h1 ih
 |TP=>exact .TP
 |YB=>exact .YB
 |bad=>exact .bad
theorem y9.off(h:Ps μ μ'){g:Nat}{cs:List PV}(hv:y9 P μ g cs):y9 P μ' g cs:=⟨hv.rep.off h,let⟨c,T,z,h1,h2⟩:=hv.size;⟨c,T,z,h _ _ h1 rfl,h2⟩⟩
theorem af.off(h:Ps μ μ'){v:V}{x:Value}(hv:af P μ φ v x):af P μ' φ v x:=by
 induction hv with
 |pv hp=>exact .pv (hp.off h)
 |iq=>exact .iq
 |op hg=>exact .op hg
 |oe hg=>exact .oe hg
 |sK hg=>exact .sK hg
 |os hg=>exact .os hg
 |rq hg=>exact .rq hg
 |fL hg hl ha hc hc'=>exact .fL hg hl ha hc hc'
 |IC hg=>exact .IC hg
 |wI hg=>exact .wI hg
 |Ar hg hs=>exact .Ar hg hs
 |om hg=>exact .om hg
 |yl hg=>exact .yl hg
 |it hg=>exact .it hg
 |fn h1 _ ih=>exact .fn h1 ih
 |agg h1 _ h3 ih=>exact .agg h1 ih h3
 |aP h1 _ ih=>exact .aP h1 ih
 |top=>exact .top
theorem aH.off(h:Ps μ μ'){id sz:Nat}{et:TypeId}{es:List PV}(ha:aH P μ φ w id sz et es)(hw:∀g,(φ id).g=some g→w'.heap[g]?=w.heap[g]?):aH P μ' φ w' id sz et es:=by
 obtain⟨a1,a2,a3,a4,a5,a6,a7⟩:=ha;refine⟨a1,a2,a3,a4,a5,a6,?_⟩;cases hg:(φ id).g with
 |none=>rw[hg]at a7;omega
 |some g=>rw[hg]at a7;obtain⟨c,T,c1,c2,c3,c4,c5⟩:=a7;exact⟨c,T,by rw[hw g hg];omega,c2,c3,fun i e j p x h1 h2 h3=>(c4 i e j p x h1 h2 h3).off h,c5⟩
theorem eC.off(hh:Ps μ μ'){R:CP}{s:Nat}{rs:List PV}{x:Value}(h:eC P μ R w s rs x)(hw:∀g,R.g=some g→w'.heap[g]?=w.heap[g]?):eC P μ' R w' s rs x:=
 let⟨⟨et,hA⟩,hV⟩:=h
 ⟨⟨et,hA.off hh hw⟩,hV.off hh⟩
theorem dX.off(hh:Ps μ μ'){R:CP}{p:PV}{x:Value}(h:dX P μ R w p x)(hw:p.isRow=true→∀g,R.g=some g→w'.heap[g]?=w.heap[g]?):dX P μ' R w' p x:=by
 unfold dX at*;split at h
 ·exact eC.off hh h (hw rfl)
 ·exact ai.off hh h
theorem aX.off(hh:Ps μ μ'){id sz:Nat}{et:TypeId}{es:List PV}(h:aX P μ φ w id sz et es)(hw:∀g,(bH.nest sz et es).owns (φ id) g→w'.heap[g]?=w.heap[g]?):aX P μ' φ w' id sz et es:=by
 obtain⟨a1,a2,a3,a4,a5,a6,a7⟩:=h;refine⟨a1,a2,a3,a4,a5,a6,?_⟩;cases hg:(φ id).g with
 |none=>rw[hg]at a7;omega
 |some g=>rw[hg]at a7;obtain⟨c,T,c1,c2,c3,c4,c5⟩:=a7;exact⟨c,T,by rw[hw g (.inl hg)];omega,c2,c3,fun i e j p x h1 h2 h3=>(c4 i e j p x h1 h2 h3).off hh fun hr g' cP=>hw g' (.inr ⟨i,j,by rw[dt h1 h2];omega,cP⟩),c5⟩
theorem eC.Pt{R:CP}{s g:Nat}{rs:List PV}(h:eC P μ R w s rs x)(hg:R.g=some g):∃c T z,w.heap[g]?=some (.cells c T z):=by obtain⟨⟨et,_,_,_,_,_,_,a7⟩,_⟩:=h;have cP:R.up.g=some g:=hg;grind
theorem gG.UT{id g i off:Nat}{b:bH}(h:gG P μ φ w id b)(hr:b.rowAt i off=true)(hg:((φ id).row i off).g=some g):∃c T z,w.heap[g]?=some (.cells c T z):=by
 rcases kj hr with⟨sz,et,es,e,s,rs,rfl,he,hp⟩|⟨kt,e0,es,k,s,rs,rfl,rfl,he⟩
 ·have hN:aX P μ φ w id sz et es:=h;have hgg:∃g0,(φ id).g=some g0:=by
   cases hq:(φ id).g with
   |some g0=>simp
   |none=>have a7:=hN.2.2.2.2.2.2;simp_all
  obtain⟨g0,MQ⟩:=hgg;obtain⟨c,_,x,_,_,c3,_⟩:=hN.cell MQ he hp;exact eC.Pt (show eC P μ _ w s rs x from c3) hg
 ·obtain⟨g0,en,clock,kk,MQ,hh,hs,hk,hc,yq,hv⟩:=h;have hi:i<en.size:=by grind
  have h3:=(hv i k _ en[i] he (IT hi)).2;exact eC.Pt (P:=P) (μ:=μ) (R:=(φ id).row i 0) (s:=s) (rs:=rs) (x:=en[i].val) ⟨⟨_,h3.1⟩,h3.2⟩ hg
theorem gG.off(h:Ps μ μ')(vT:∀b o,μ b=some o→w.heap[b]?=some o){id:Nat}{b:bH}(hb:gG P μ φ w id b)(hw:∀g,b.owns (φ id) g→w'.heap[g]?=w.heap[g]?):gG P μ' φ w' id b:=by
 cases b with
 |nest sz et es=>exact aX.off h hb hw
 |fa kt e0 es=>
  obtain⟨g,en,clock,kk,hg,hh,hs,hk,hc,yq,hv⟩:=hb;refine⟨g,en,clock,kk,hg,by rw[hw g (.inl hg)];omega,hs,hk,hc,yq,fun i k v e h1 h2=>⟨(hv i k v e h1 h2).1.off h,?_⟩⟩;have h3:=(hv i k v e h1 h2).2;split at h3
  ·exact⟨h3.1.off h fun g' cP=>hw g' (.inr ⟨i,0,by rw[kh h1];rfl,cP⟩),h3.2.off h⟩
  ·exact h3.off h
 |box cs=>obtain⟨g,c,T,hg,hh,hs,hv,h1,Ep⟩:=hb;exact⟨g,c,T,hg,by rw[hw g (.inl hg)];omega,hs,fun i v x hi hx=>(hv i v x hi hx).off h,h1,Ep⟩
 |arr sz et es=>exact aH.off h hb fun g hg=>hw g (.inl hg)
 |qT sz et es=>refine⟨aH.off h hb.1 fun g hg=>hw g (.inl hg),fun g hg=>?_⟩;obtain⟨o,ho⟩:=ajv.1 (hb.2 g hg);obtain⟨_,_,_,_,_,_,a7⟩:=hb.1;rw[hg]at a7;obtain⟨c,_,c1,_⟩:=a7;have:=vT g o ho;rw[c1]at this;cases this;rw[h _ _ ho rfl];rfl
 |map kt es=>obtain⟨g,en,clock,kk,hg,hh,hs,hk,hc,yq,hv⟩:=hb;exact⟨g,en,clock,kk,hg,by rw[hw g (.inl hg)];omega,hs,hk,hc,yq,fun i k v e h1 h2=>⟨(hv i k v e h1 h2).1.off h,(hv i k v e h1 h2).2.off h⟩⟩
 |iter t es cur=>obtain⟨g,mg,en,clock,seen,hg,hh,JR,yq,Ep,hv,hcu⟩:=hb;exact⟨g,mg,en,clock,seen,hg,by rw[hw g (.inl hg)];omega,h _ _ JR rfl,yq,Ep,fun i k v e h1 h2=>⟨(hv i k v e h1 h2).1.off h,(hv i k v e h1 h2).2.off h⟩,fun k v hc=>let⟨i,e,h1,h2,h3,h4⟩:=hcu k v hc;⟨i,e,h1,h2,h3.off h,h4.off h⟩⟩
 |loop st=>obtain⟨g,rc,hg,hh⟩:=hb;exact⟨g,rc,hg,by rw[hw g (.inl hg)];omega⟩
def C8(μ:Ro)(D:Nat):Ro:=fun b=>if b=D then none else μ b
theorem Pu{D:Nat}(hD:μ D=some (.deferred (some []))):Ps μ (C8 μ D):=by intro b o hb ho;unfold C8;rw[No fun e=>by subst e;rw[hD]at hb;cases hb;cases ho];omega
theorem av.shut(hM:av P G w0 μ φ m w){D:Nat}(hB:w0.heap.size≤D)(hk:w0.dA D=none)(hD:μ D=some (.deferred (some []))):av P G w0 (C8 μ D) φ m (w.putObj D (.deferred none)):=by
 have hc:=Pu hD;have hh:=hM.ro _ _ hD;have GG:∀k,k≠D→(w.putObj D (.deferred none)).heap[k]?=w.heap[k]?:=fun k hk=>World.putObj_heap_other hk;have cJ:∀id b g,m id=some b→b.owns (φ id) g→g≠D:=fun id b g hm hg e=>by
  subst e;have hR:=hM.dx id b hm;rcases hg with hg|⟨i,off,hr,hg⟩
  rotate_left
  ·obtain⟨c,T,z,h2⟩:=hR.UT hr hg;rw[hh]at h2;cases h2
  cases b with
  |nest sz et es=>obtain⟨_,_,_,_,_,_,a7⟩:=hR;simp_all
  |fa kt e0 es=>obtain⟨g',en,clock,kk,cP,h2,_⟩:=hR;simp_all
  |box cs=>obtain⟨g',c,T,cP,h2,_⟩:=hR;simp_all
  |arr sz et es=>obtain⟨_,_,_,_,_,_,a7⟩:=hR;simp_all
  |qT sz et es=>obtain⟨⟨_,_,_,_,_,_,a7⟩,_⟩:=hR;simp_all
  |map kt es=>obtain⟨g',en,clock,kk,cP,h2,_⟩:=hR;simp_all
  |loop st=>obtain⟨g',rc,cP,h2⟩:=hR;simp_all
  |iter t es cur=>obtain⟨g',mg,en,clock,seen,cP,h2,_⟩:=hR;simp_all
 refine⟨hM.below.trans ((lD.putObj w D _).mono hB),fun b o hb=>?_,fun g cs hg=>(hM.aG g cs hg).off hc,fun id b hm=>(hM.dx id b hm).off hc hM.ro fun g hg=>GG g (cJ id b g hm hg),fun id b g hm hg=>?_,hM.inj,hM.apart,hM.fO,fun b o hb bT=>?_,fun b o hb=>?_,fun id st hm=>?_⟩
 ·unfold C8 at hb;split at hb
  ·cases hb
  ·rename_i e;rw[GG b e];exact hM.ro b o hb
 ·obtain⟨h1,h2⟩:=hM.own id b g hm hg;refine⟨h1,fun TY=>?_⟩;unfold C8;simp_all
 ·unfold C8 at hb;split at hb
  ·omega
  ·exact hM.base b o hb bT
 ·unfold C8;rw[No fun e=>by simp_all];exact hM.dA b o hb
 ·obtain⟨g,rc,h1,h2,h3⟩:=hM.CO id st hm;grind
end
section
variable {E:Env} {w0:bx}
theorem AW{R:Ending→World→Prop}{f:Fr}{m:Mem}{φ:Nat→aA}{fn:Func}{tmps:Array Value}:∀(Ds:List Nat){μ:Ro}{w:World},Ds.Nodup→(∀D∈Ds,w0.heap.size≤D∧w0.dA D=none∧μ D=some (.deferred (some [])))→Rel E.P E.aG E.fn.ntmps w0 μ φ f m {tmps,defers:=[]} w→(∀μ' w',Rel E.P E.aG E.fn.ntmps w0 μ' φ f m {tmps,defers:=[]} w'→∃v,(results fn tmps).run E.P w'=.ok v w'∧R (.returned v) w')→LeavesInM (FR none) 0 E.P fn tmps R (Ds.map fun D=>{target:=.collected D,args:= #[]}) .returning w
 |[],μ,w,_,_,hR,KU=>KU μ w hR
 |D::Ds,μ,w,hn,hD,hR,KU=>by obtain⟨h1,h2,h3⟩:=hD D (by simp);obtain⟨n1,n2⟩:=alq.1 hn;have hM:=hR.toav.shut h1 h2 h3;refine⟨by simp,.inl ⟨D,_,rfl,run_takeDeferred (hR.ro _ _ h3),?_⟩⟩;refine AW Ds n2 (fun D' hd'=>?_) {toav:=hM,size:=hR.size,defers:=.nil _ _ _,mR:=hR.mR,fr:=fun t=>(hR.fr t).off (Pu h3),live:=hR.live} KU;obtain⟨a1,a2,a3⟩:=hD D' (by simp[hd']);refine⟨a1,a2,?_⟩;unfold C8;grind
theorem tn(hE:ke E)(hY:uq E.P E.aG E.fn.ntmps E.yl w0)(hko:∀b o,w0.dA b=some o→w0.mR b=some o){g:FuncId}{c:Code}(hf:E.P.funcs[g]?=some E.fn)(hb:E.fn.body=some c){xs:Array Value}{R:Ending→World→Prop}{S:Type}{f:Fr}{m:Mem}{k:Ex→Fr→Mem→Option S}{r:S}(h:fB E c f m k=some r){μ:Ro}{φ:Nat→aA}{w:World}(hR:Rel E.P E.aG E.fn.ntmps w0 μ φ f m {tmps:=xs++Array.replicate (E.fn.ntmps-xs.size) undef,defers:=[]} w)(KU:∀e f' m' μ' φ' tmps w',k e f' m'=some r→Rel E.P E.aG E.fn.ntmps w0 μ' φ' f' m' {tmps,defers:=[]} w'→(∀id,e≠.exit id)∧∃v,(results E.fn tmps).run E.P w'=.ok v w'∧R (.returned v) w'):Calls E.P g xs w R:=by
 refine(callsIn_wide (n:=0)).1 (callsIn_of_wp_marks (F:=FR none) hf hb trivial ?_);refine US c hE hY (fun _=>rfl) h hR fun e f' m' μ' φ' a' w' hk j6=>?_;obtain⟨Ds,e1,e2,e3⟩:=j6.defers;have Hy:Rel E.P E.aG E.fn.ntmps w0 μ' φ' f' m' {tmps:=a'.tmps,defers:=[]} w':={toav:=j6.toav,size:=j6.size,defers:=.nil _ _ _,mR:=j6.mR,fr:=j6.fr,live:=j6.live};have key:(∀id,e≠.exit id)→LeavesInM (FR none) 0 E.P E.fn a'.tmps R a'.defers .returning w':=fun _=>by
  rw[e1];refine AW Ds e2 (fun D hd=>?_) Hy fun μ2 w2 hR3=>(KU e f' m' μ2 φ' a'.tmps w2 hk hR3).2;obtain⟨a1,a2,a3⟩:=e3 D hd;refine⟨a1,?_,a3⟩;cases hq:w0.dA D with
  |none=>rfl
  |some o=>simp_all
 have cJ:=(KU e f' m' μ' φ' a'.tmps w' hk Hy).1;cases e with
 |normal=>exact key cJ
 |ret=>exact key cJ
 |exit id=>simp_all
end
end Go.Ab
