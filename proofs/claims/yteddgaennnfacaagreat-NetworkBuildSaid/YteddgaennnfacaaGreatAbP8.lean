import Derived.Test.YteddgaennnfacaaGreatAbP7
import Derived.RangeFuncIn
import Derived.Scope
set_option linter.all false
namespace Go.Ab
open Go.RowKit (Below)
section
variable {P:Program} {G:Nat→Option (List PV)} {w0:bE} {μ:Ro} {φ:Nat→aI} {m:Mem} {w:World}
theorem lL.putObj(w:World)(g:Nat)(o:Obj):lL g w (w.putObj g o):=⟨⟨rfl,rfl,rfl,by simp,fun k hk=>World.putObj_heap_other (by omega)⟩,fun _=>alz _⟩
theorem aA.Ae(h:aA P G w0 μ φ m w){w1:bE}(hw:w1.w=w0.w)(Nb:w1.mu=w0.mu)(hk:∀b o,w1.dK b=some o→μ b=some o)(U8:∀id st,m id=some (.loop st)→w1.rc id=w0.rc id):aA P G w1 μ φ m w:=by obtain⟨a0,b0,c0,d0,e0⟩:=w0;obtain⟨a1,b1,c1,d1,e1⟩:=w1;simp only at hw Nb;subst hw;subst Nb;refine⟨h.below,h.ro,h.aM,h.dJ,h.own,h.inj,h.apart,h.fT,h.base,hk,fun id st hid=>?_⟩;obtain⟨g,rc,h1,h2,h3⟩:=h.Gd id st hid;simp_all
def Gy(μ:Ro)(w:World)(o:Obj):Ro:=fun b=>if b=w.heap.size then some o else μ b
theorem N2(hM:aA P G w0 μ φ m w)(o:Obj):NS μ (Gy μ w o):=by intro b o' hb;have:=(alm.1 (hM.ro b o' hb)).1;unfold Gy;grind
theorem aA.abK(hM:aA P G w0 μ φ m w)(o:Obj):aA P G w0 (Gy μ w o) φ m (w.alloc o):=by
 have hle:=N2 hM o;have hold:∀k,k<w.heap.size→(w.alloc o).heap[k]?=w.heap[k]?:=fun k hk=>lL.heap_alloc w o k hk;have pT:w0.heap.size≤w.heap.size:=hM.below.size;refine⟨hM.below.alloc hM.below.size o,fun b o' hb=>?_,fun g cs hg=>(hM.aM g cs hg).mono hle,fun id b hid=>?_,fun id b g hid hg=>?_,hM.inj,hM.apart,hM.fT,fun b o' hb bQ=>?_,fun b o' hb=>hle b o' (hM.dK b o' hb),fun id st hid=>?_⟩
 ·unfold Gy at hb;split at hb
  ·grind [heap_alloc_new]
  ·have:=hM.ro b o' hb;grind
 ·have hR:=hM.dJ id b hid;exact hR.cz (fun _ _=>rfl) rfl hle (fun g hg=>hold g (hR.HP hg))
 ·obtain⟨h1,h2⟩:=hM.own id b g hid hg;refine⟨h1,fun Xk=>?_⟩;have:=(hM.dJ id b hid).HP hg;unfold Gy;grind
 ·unfold Gy at hb;rw[acB (by omega)]at hb;exact hM.base b o' hb bQ
 ·obtain⟨g,rc,h1,h2,h3⟩:=hM.Gd id st hid;grind
theorem aA.other(hM:aA P G w0 μ φ m w){g:Nat}(o:Obj)(hg:w0.heap.size≤g)(hμ:μ g=none)(zT:∀id b,m id=some b→¬b.owns (φ id) g):aA P G w0 μ φ m (w.putObj g o):=by
 have J0:∀k,k≠g→(w.putObj g o).heap[k]?=w.heap[k]?:=fun k hk=>World.putObj_heap_other hk;refine⟨hM.below.trans ((lL.putObj w g o).mono hg),fun b o' hb=>?_,hM.aM,fun id b hid=>?_,hM.own,hM.inj,hM.apart,hM.fT,hM.base,hM.dK,fun id st hid=>?_⟩
 ·rw[J0 b fun e=>by simp_all];exact hM.ro b o' hb
 ·have hR:=hM.dJ id b hid;exact hR.cz (fun _ _=>rfl) rfl (fun _ _ h=>h) (fun g' dn=>J0 g' fun e=>by simp_all)
 ·obtain⟨g',rc,h1,h2,h3⟩:=hM.Gd id st hid;exact⟨g',rc,h1,h2,by rw[J0 g' fun e=>by subst e;exact zT id _ hid (.inl h1)];omega⟩
theorem aA.turn(hM:aA P G w0 μ φ m w){id g:Nat}{st st':PJ}{rc:Loop}(hm:m id=some (.loop st))(hg:(φ id).g=some g)(U8:w0.rc id=some (g,rc)):aA P G w0 μ φ (aw m id (.loop st')) (w.putObj g (.loop (st'.obj rc))):=by have bQ:=(hM.dJ id _ hm).HP (.inl hg);have Xp:(w.putObj g (.loop (st'.obj rc))).heap[g]?=some (.loop (st'.obj rc)):=World.putObj_heap_same bQ;exact hM.write hm rfl hg (lL.putObj w g _) (by simp) (fun k hk=>World.putObj_heap_other hk) ⟨g,rc,hg,Xp⟩ rfl (by simp[bK.names]) fun s hs=>by simp_all
end
section
variable {P:Program} {μ:Ro} {φ:Nat→aI}
theorem K1{nt:Nat}:∀(ps:List Nat)(args:List V)(xs:List Value)(f:Fr)(tmps:Array Value),tmps.size=nt→args.length=xs.length→(∀t,t<nt→an P μ φ (f t) (tmps.getD t undef))→(∀(i:Nat)v x,args[i]?=some v→xs[i]?=some x→an P μ φ v x)→((ps.zip xs).foldl (fun tmps(x:Nat×Value)=>tmps.setIfInBounds x.1 x.2) tmps).size=nt∧∀t,t<nt→an P μ φ (HE ps args f t) (((ps.zip xs).foldl (fun tmps(x:Nat×Value)=>tmps.setIfInBounds x.1 x.2) tmps).getD t undef)
 |[],args,xs,f,tmps,hs,_,hf,_=>by cases args<;>exact⟨hs,hf⟩
 |p::ps,[],xs,f,tmps,hs,hl,hf,_=>by have:xs=[]:=alv (by simpa using hl.symm);subst this;exact⟨hs,hf⟩
 |p::ps,v::args,[],f,tmps,hs,hl,hf,_=>by simp at hl
 |p::ps,v::args,x::xs,f,tmps,hs,hl,hf,hr=>by
  simp only[anS,ans,HE];refine K1 ps args xs (gy f p v) (tmps.setIfInBounds p x) (by simpa using hs) (by simpa using hl) (fun t ht=>?_) (fun i u y hu hy=>hr (i+1) u y (by simpa using hu) (by simpa using hy));by_cases e:t=p
  ·subst e;rw[CK];have:(tmps.setIfInBounds t x).getD t undef=x:=by simp_all
   rw[this];exact hr 0 v x rfl rfl
  ·rw[tV e];have:(tmps.setIfInBounds p x).getD t undef=tmps.getD t undef:=by rw[alD,alD,amI,acB (fun h=>e h.symm)]
   rw[this];exact hf t ht
theorem IB{id:Nat}:∀(ps:List Nat)(args:List V)(f:Fr)(t:Nat),(HE ps args f t).has id=true→cu id args=true∨(f t).has id=true
 |[],args,f,t,h=>by cases args<;>exact .inr h
 |p::ps,[],f,t,h=>.inr h
 |p::ps,v::args,f,t,h=>by
  simp only[HE]at h;rcases IB ps args _ t h with h|h
  ·exact .inl (by simp[cu,h])
  ·by_cases e:t=p
   ·subst e;rw[CK]at h;exact .inl (by simp[cu,h])
   ·rw[tV e]at h;exact .inr h
theorem X8(ps:Array Nat)(xs:Array Value)(tmps:Array Value):(ps.zip xs).foldl (fun tmps(t,a)=>tmps.setIfInBounds t a) tmps=(ps.toList.zip xs.toList).foldl (fun tmps(x:Nat×Value)=>tmps.setIfInBounds x.1 x.2) tmps:=by rw[←Array.foldl_toList,Array.toList_zip]
end
variable{P:Program}{c:Code}{Q:Exit→Act→World→Prop}
theorem K2{F:Fence}{nn:Nat}(I:Nat→Act→World→Prop)(round:∀n a w,I n a w→∃n',n=n'+1∧c.wpIn F nn P (Exit.then (I n') Q) a w):∀n a w,I n a w→(Code.loop c).wpIn F nn P Q a w:=by
 intro n a w hI b k cs zw hb hr;have key:∀n a w,I n a w→∃e a' w',Q e a' w'∧ArrivesIn (Machine.fenced P F) P (lone (b.atR a (.code c::.inLoop c::k)) cs w) b k cs e a' w':=by
  intro n;induction n with
  |zero=>grind
  |succ n ih=>
   intro a w h;obtain⟨n',hn,D3⟩:=round _ a w h;have hn:n=n':=by omega
   subst hn;obtain⟨e,a₁,w₁,hq,IC⟩:=D3 b (.inLoop c::k) cs zw hb hr;cases e with
   |normal=>obtain⟨e₂,a₂,w₂,agx,abL⟩:=ih a₁ w₁ hq;exact⟨e₂,a₂,w₂,agx,.of_steps (StepsIn.trans IC (.one (fenced_calm hb hr rfl) stepR_inLoop)) abL⟩
   |_=>exact⟨_,a₁,w₁,hq,.pass (x:=.inLoop c) rfl (fun _ _=>.inl (by simp)) IC⟩
 obtain⟨e,a',w',hq,IC⟩:=key n a w hI;exact⟨e,a',w',hq,.of_steps (.one (fenced_calm hb hr rfl) stepR_loop) IC⟩
theorem U9{rd:Option Nat}{n:Nat}{a:Act}{w:World}(h:c.wpIn (FR rd) n P (Exit.noGoto Q) a w):(Code.scope c).wpIn (FR rd) n P Q a w:=by
 intro b k cs zw hb hr;obtain⟨e,a₁,w₁,hq,IC⟩:=h b (.inScope c::k) cs zw hb hr;have s1:StepsIn (Machine.fenced P (FR rd)) P (lone (b.atR a (.code (.scope c)::k)) cs w) (lone (b.atR a (.code c::.inScope c::k)) cs w):=.one (fenced_calm hb hr rfl) (step_lone_go (by rfl));have s2:∀a w,StepsIn (Machine.fenced P (FR rd)) P (lone (b.atR a (.inScope c::k)) cs w) (lone (b.atR a k) cs w):=fun a w=>.one (fenced_calm hb hr rfl) (step_lone_go (by rfl));cases e with
 |normal=>exact⟨.normal,a₁,w₁,hq,s1.trans (StepsIn.trans IC (s2 _ _))⟩
 |exit id=>exact⟨.exit id,a₁,w₁,hq,fun k' hk=>s1.trans (IC.1 k' (by simp[exitTo,hk])),fun hr hk=>let⟨k₁,h1,h2⟩:=IC.2 hr (by simp[exitTo,hk]);⟨k₁,h1,s1.trans h2⟩⟩
 |goto l=>exact hq.elim
 |ret=>exact⟨_,a₁,w₁,hq,.of_steps s1 IC⟩
 |panic ch=>exact⟨_,a₁,w₁,hq,.of_steps s1 IC⟩
 |outgrown=>exact⟨_,a₁,w₁,hq,.of_steps s1 IC⟩
mutual
theorem SF:∀{v u:V},v.same u=true→v=u
 |.op i o,u,h=>by cases u<;>simp only[V.same,ale,IN]at h;rw[acA h.1,acA h.2]
 |.oe i a o,u,h=>by cases u<;>simp only[V.same,ale,IN]at h;rw[acA h.1.1,acA h.1.2,acA h.2]
 |.os i,u,h=>by cases u<;>simp only[V.same,IN]at h;rw[acA h]
 |.om i,u,h=>by cases u<;>simp only[V.same,IN]at h;rw[acA h]
 |.yl i,u,h=>by cases u<;>simp only[V.same,IN]at h;rw[acA h]
 |.it i,u,h=>by cases u<;>simp only[V.same,IN]at h;rw[acA h]
 |.fO,u,h=>by cases u<;>simp only[V.same,IN]at h;rfl
 |.fn f cs,u,h=>by cases u<;>simp only[V.same,ale,IN]at h;rw[acA h.1,N3 h.2]
 |.pv p,u,h=>by
  cases u<;>try (cases p<;>simp[V.same]at h;done)
  rename_i q;cases p<;>cases q<;>first|rfl|(simp[V.same]at h;done)|(simp only[V.same,ale,AT]at h;rw[h.1,h.2])
 |.fS _ _ _,u,h=>by cases u<;>simp[V.same]at h
 |.agg _,u,h=>by cases u<;>simp[V.same]at h
 |.aG _,u,h=>by cases u<;>simp[V.same]at h
 |.top,u,h=>by cases u<;>simp[V.same]at h
theorem N3:∀{vs us:List V},Kn vs us=true→vs=us
 |[],us,h=>by
  cases us with
  |nil=>rfl
  |cons _ _=>simp[Kn]at h
 |v::vs,us,h=>by
  cases us with
  |nil=>simp[Kn]at h
  |cons u us=>simp only[Kn,ale]at h;rw[SF h.1,N3 h.2]
end
variable{R:Type}
theorem SG{T:Type}:∀{kh:List Sh}{vs:List V}{t:T}{k:Sa kh T→Option R}{r:R},kj kh vs t k=some r→∃x,k x=some r∧vr kh x=(vs,t)∧vs.length=kh.length∧∀M,(∀sh∈kh,sh.within M=true)→kK M vs=true:=by
 intro kh;induction kh with
 |nil=>
  intro vs t k r h;cases vs with
  |nil=>exact⟨t,h,rfl,rfl,fun _ _=>rfl⟩
  |cons v vs=>simp[kj]at h
 |cons sh kh ih=>
  intro vs t k r h;cases vs with
  |nil=>cases sh<;>simp[kj]at h
  |cons v vs=>
   have push:∀{M},v.within M=true→kK M vs=true→kK M (v::vs)=true:=fun h1 h2=>by simp[kK,h1,h2]
   cases sh with
   |own u=>
    simp only[kj]at h;split at h
    ·rename_i hs;obtain⟨x,x1,x2,x3,x4⟩:=ih h;have:=SF hs;subst this;refine⟨x,x1,by simp only[vr];rw[x2],by simp[x3],fun M hM=>push ?_ (x4 M fun s hs=>hM s (by simp[hs]))⟩;exact hM (.own u) (by simp)
    ·cases h
   |int q=>
    cases v<;>try (simp[kj]at h;done)
    rename_i p;cases p<;>try (simp[kj]at h;done)
    simp only[kj]at h;split at h
    ·rename_i hq;subst hq;obtain⟨x,x1,x2,x3,x4⟩:=ih h;exact⟨_,x1,by simp only[vr];rw[x2],by simp[x3],fun M hM=>push rfl (x4 M fun s hs=>hM s (by simp[hs]))⟩
    ·cases h
   |row id off=>
    cases v<;>try (simp[kj]at h;done)
    rename_i vq i yr;simp only[kj]at h;split at h
    ·rename_i hq;obtain⟨rfl,rfl⟩:=hq;obtain⟨x,x1,x2,x3,x4⟩:=ih h;exact⟨_,x1,by simp_all[vr,ali],by simp[x3],fun M hM=>push (hM (.row vq yr) (by simp)) (x4 M fun s hs=>hM s (by simp[hs]))⟩
    ·cases h
   |raw=>
    cases v<;>try (simp[kj]at h;done)
    simp only[kj]at h;obtain⟨x,x1,x2,x3,x4⟩:=ih h;exact⟨_,x1,by simp only[vr];rw[x2],by simp[x3],fun M hM=>push rfl (x4 M fun s hs=>hM s (by simp[hs]))⟩
   |bool=>
    cases v<;>try (simp[kj]at h;done)
    rename_i p;cases p<;>try (simp[kj]at h;done)
    simp only[kj]at h;obtain⟨x,x1,x2,x3,x4⟩:=ih h;exact⟨_,x1,by simp only[vr];rw[x2],by simp[x3],fun M hM=>push rfl (x4 M fun s hs=>hM s (by simp[hs]))⟩
   |str=>
    cases v<;>try (simp[kj]at h;done)
    rename_i p;cases p<;>try (simp[kj]at h;done)
    simp only[kj]at h;obtain⟨x,x1,x2,x3,x4⟩:=ih h;exact⟨_,x1,by simp only[vr];rw[x2],by simp[x3],fun M hM=>push rfl (x4 M fun s hs=>hM s (by simp[hs]))⟩
   |rp n=>
    cases v<;>try (simp[kj]at h;done)
    rename_i p;cases p<;>try (simp[kj]at h;done)
    rename_i cs;simp only[kj]at h;split at h
    ·rename_i hq;obtain⟨x,x1,x2,x3,x4⟩:=ih h;have he:aQ n (.agg cs)=cs:=by
      apply alL;intro j;by_cases hj:j<n
      ·have hl:j<(aQ n (.agg cs)).length:=by rw[bw];omega
       rw[AI hl];obtain⟨_,h6⟩:=qu (AI hl);simp_all[cell,PV.cells,List.getD]
      simp_all[ams,bw]
     exact⟨_,x1,by simp only[vr];rw[x2,he],by simp[x3],fun M hM=>push rfl (x4 M fun s hs=>hM s (by simp[hs]))⟩
    ·cases h
   |fs s=>
    cases v<;>try (simp[kj]at h;done)
    rename_i p;simp only[kj]at h;obtain⟨ls,hls,h⟩:=M1.1 h;obtain⟨x,x1,x2,x3,x4⟩:=ih h;exact⟨_,x1,by grind [vr,Su],by simp[x3],fun M hM=>push rfl (x4 M fun s hs=>hM s (by simp[hs]))⟩
   |rs sz=>
    cases v<;>try (simp[kj]at h;done)
    rename_i p;cases p<;>try (simp[kj]at h;done)
    simp only[kj]at h;split at h
    ·rename_i hq;subst hq;obtain⟨x,x1,x2,x3,x4⟩:=ih h;exact⟨_,x1,by simp only[vr];rw[x2],by simp[x3],fun M hM=>push rfl (x4 M fun s hs=>hM s (by simp[hs]))⟩
    ·cases h
theorem CX:∀{l:List (Nat×Option bK)}{id:Nat}{b:bK},Hq l id=some b→∃x∈l,x.1=id∧x.2=some b
 |[],_,_,h=>by simp[Hq]at h
 |(d,b')::r,id,b,h=>by
  simp only[Hq]at h;cases e:Nat.beq id d with
  |true=>rw[e]at h;exact⟨(d,b'),by simp,(acA e).symm,h⟩
  |false=>rw[e]at h;obtain⟨x,hx,h1,h2⟩:=CX h;exact⟨x,by simp[hx],h1,h2⟩
theorem Ef:∀{l:List (Nat×Option bK)}{id:Nat},(∀x∈l,x.2.isSome=true)→(∃x∈l,x.1=id)→(Hq l id).isSome=true
 |[],_,_,⟨x,hx,_⟩=>by cases hx
 |(d,b')::r,id,h,⟨x,hx,he⟩=>by
  simp only[Hq];cases e:Nat.beq id d with
  |true=>simp_all
  |false=>
   rcases alq.1 hx with rfl|hx
   ·simp_all
   ·exact Ef (fun y hy=>h y (by simp[hy])) ⟨x,hx,he⟩
theorem abM{m:Mem}:∀{bs:List (Nat×G8)}{k:M8 bs→Option R}{r:R},xA m bs k=some r→∃x,k x=some r∧(gV bs x).map (·.1)=bs.map (·.1)∧(∀y∈gV bs x,∃b,y.2=some b∧m y.1=some b)∧∀M,(∀y∈bs,y.2.within M=true)→∀y∈gV bs x,∀b,y.2=some b→b.within M=true:=by
 intro bs;induction bs with
 |nil=>intro k r h;exact⟨(),h,rfl,by simp[gV],by simp[gV]⟩
 |cons y bs ih=>
  intro k r h;obtain⟨id,sh⟩:=y;cases sh with
  |box cs=>
   simp only[xA]at h;split at h
   ·rename_i vs hm;obtain⟨t,t1,t2,t3,t4⟩:=ih h;obtain⟨x,x1,x2,x3,x4⟩:=SG t1;refine⟨x,x1,by simp only[gV,x2];simp[t2],fun y hy=>?_,fun M hM y hy b hb=>?_⟩
    ·simp only[gV,x2]at hy;grind
    ·simp only[gV,x2]at hy;rcases alq.1 hy with rfl|hy
     ·simp only[By]at hb;subst hb;simp only[bK.within];refine x4 M fun s hs=>?_;have:=hM (id,.box cs) (by simp);grind [G8.within,List.all_eq_true]
     grind
   ·cases h
  |arr sz et=>
   simp only[xA]at h;split at h
   ·rename_i JK JL es hm;split at h
    ·rename_i he;obtain⟨rfl,rfl⟩:=he;obtain⟨t,t1,t2,t3,t4⟩:=ih h;refine⟨(es,t),t1,by simp only[gV];simp[t2],fun y hy=>?_,fun M hM y hy b hb=>?_⟩
     ·simp only[gV]at hy;grind
     ·simp only[gV]at hy;rcases alq.1 hy with rfl|hy
      ·simp only[By]at hb;subst hb;rfl
      grind
    ·cases h
   ·cases h
  |tC sz et=>
   simp only[xA]at h;split at h
   ·rename_i JK JL es hm;split at h
    ·rename_i he;obtain⟨rfl,rfl⟩:=he;obtain⟨t,t1,t2,t3,t4⟩:=ih h;refine⟨(es,t),t1,by simp only[gV];simp[t2],fun y hy=>?_,fun M hM y hy b hb=>?_⟩
     ·simp only[gV]at hy;grind
     ·simp only[gV]at hy;rcases alq.1 hy with rfl|hy
      ·simp only[By]at hb;subst hb;rfl
      grind
    ·cases h
   ·cases h
  |nest sz et=>
   simp only[xA]at h;split at h
   ·rename_i JK JL es hm;split at h
    ·rename_i he;obtain⟨rfl,rfl⟩:=he;obtain⟨t,t1,t2,t3,t4⟩:=ih h;refine⟨(es,t),t1,by simp only[gV];simp[t2],fun y hy=>?_,fun M hM y hy b hb=>?_⟩
     ·simp only[gV]at hy;grind
     ·simp only[gV]at hy;rcases alq.1 hy with rfl|hy
      ·simp only[By]at hb;subst hb;rfl
      grind
    ·cases h
   ·cases h
  |fu kt et=>
   simp only[xA]at h;split at h
   ·rename_i zR JL es hm;split at h
    ·rename_i he;obtain⟨rfl,rfl⟩:=he;obtain⟨t,t1,t2,t3,t4⟩:=ih h;refine⟨(es,t),t1,by simp only[gV];simp[t2],fun y hy=>?_,fun M hM y hy b hb=>?_⟩
     ·simp only[gV]at hy;grind
     ·simp only[gV]at hy;rcases alq.1 hy with rfl|hy
      ·simp only[By]at hb;subst hb;rfl
      grind
    ·cases h
   ·cases h
  |map kt=>
   simp only[xA]at h;split at h
   ·rename_i zR es hm;split at h
    ·rename_i he;subst he;obtain⟨t,t1,t2,t3,t4⟩:=ih h;refine⟨(es,t),t1,by simp only[gV];simp[t2],fun y hy=>?_,fun M hM y hy b hb=>?_⟩
     ·simp only[gV]at hy;grind
     ·simp only[gV]at hy;rcases alq.1 hy with rfl|hy
      ·simp only[By]at hb;subst hb;rfl
      grind
    ·cases h
   ·cases h
  |iter ty=>
   simp only[xA]at h;split at h
   ·rename_i t' es hm;split at h
    ·rename_i he;subst he;obtain⟨t,t1,t2,t3,t4⟩:=ih h;refine⟨(es,t),t1,by simp only[gV];simp[t2],fun y hy=>?_,fun M hM y hy b hb=>?_⟩
     ·simp only[gV]at hy;grind
     ·simp only[gV]at hy;rcases alq.1 hy with rfl|hy
      ·simp only[By]at hb;subst hb;rfl
      grind
    ·cases h
   ·cases h
  |loop=>
   simp only[xA]at h;split at h
   ·rename_i hm;obtain⟨t,t1,t2,t3,t4⟩:=ih h;refine⟨t,t1,by simp only[gV];simp[t2],fun y hy=>?_,fun M hM y hy b hb=>?_⟩
    ·simp only[gV]at hy;grind
    ·simp only[gV]at hy;rcases alq.1 hy with rfl|hy
     ·simp only[By]at hb;subst hb;rfl
     grind
   ·cases h
  |busy=>
   simp only[xA]at h;split at h
   ·rename_i hm;obtain⟨t,t1,t2,t3,t4⟩:=ih h;refine⟨t,t1,by simp only[gV];simp[t2],fun y hy=>?_,fun M hM y hy b hb=>?_⟩
    ·simp only[gV]at hy;grind
    ·simp only[gV]at hy;rcases alq.1 hy with rfl|hy
     ·simp only[By]at hb;subst hb;rfl
     grind
   ·cases h
mutual
theorem ID{M:List Nat}{id:Nat}:∀(v:V),v.within M=true→v.has id=true→id∈M
 |.agg cs,h,hh=>rE cs (by simpa only[V.within]using h) (by simpa only[V.has]using hh)
 |.aG cs,h,hh=>rE cs (by simpa only[V.within]using h) (by simpa only[V.has]using hh)
 |.fn _ cs,h,hh=>rE cs (by simpa only[V.within]using h) (by simpa only[V.has]using hh)
 |.os j,h,hh=>by have:=acA hh;subst this;simpa[V.within]using h
 |.fS j _ _,h,hh=>by have:=acA hh;subst this;simpa[V.within]using h
 |.oe j _ _,h,hh=>by have:=acA hh;subst this;simpa[V.within]using h
 |.om j,h,hh=>by have:=acA hh;subst this;simpa[V.within]using h
 |.zU j _ _,h,hh=>by have:=acA hh;subst this;simpa[V.within]using h
 |.DJ j _ _ _ _ _,h,hh=>by have:=acA hh;subst this;simpa[V.within]using h
 |.op j _,h,hh=>by have:=acA hh;subst this;simpa[V.within]using h
 |.it j,h,hh=>by have:=acA hh;subst this;simpa[V.within]using h
 |.yl j,h,hh=>by have:=acA hh;subst this;simpa[V.within]using h
 |.pv _,_,hh=>by cases hh
 |.fO,_,hh=>by cases hh
 |.top,_,hh=>by cases hh
theorem rE{M:List Nat}{id:Nat}:∀(cs:List V),kK M cs=true→cu id cs=true→id∈M
 |[],_,hh=>by cases hh
 |v::r,h,hh=>by
  simp only[kK,ale]at h;simp only[cu,aly]at hh;rcases hh with hh|hh
  ·exact ID v h.1 hh
  ·exact rE r h.2 hh
end
theorem X9{f:Fr}:∀(bY:List (Nat×Sh))(t:Nat),P0 (tO bY (bY.map fun(x:Nat×Sh)=>f x.1)) t=f t∨P0 (tO bY (bY.map fun(x:Nat×Sh)=>f x.1)) t=.top
 |[],t=>.inr rfl
 |(d,s)::r,t=>by
  simp only[alu,tO,P0,gy];cases e:Nat.beq t d with
  |true=>simp_all
  |false=>exact X9 r t
theorem IE{f:Fr}{M:List Nat}:∀(bY:List (Nat×Sh)),kK M (bY.map fun(x:Nat×Sh)=>f x.1)=true→∀t,(P0 (tO bY (bY.map fun(x:Nat×Sh)=>f x.1)) t).within M=true
 |[],_,t=>rfl
 |(d,s)::r,h,t=>by
  simp only[alu,kK,ale]at h;simp only[alu,tO,P0,gy];cases e:Nat.beq t d with
  |true=>simp_all
  |false=>exact IE r h.2 t
theorem Ya{T:Kj}{f:Fr}{m:Mem}{k:T.ty→Option R}{r:R}(h:enc T f m k=some r):∃x,k x=some r∧zH (P6 T x) f∧(∀id b,HD T x id=some b→m id=some b)∧(∀t id,(P6 T x t).has id=true→(HD T x id).isSome=true)∧∀j cs id,HD T x j=some (.box cs)→cu id cs=true→(HD T x id).isSome=true:=by
 unfold enc at h;split at h
 ·rename_i gT;obtain⟨t,t1,t2,t3,t4⟩:=abM h;obtain⟨x,x1,x2,x3,x4⟩:=SG t1;simp only[Kj.ok,ale,al1]at gT;have pV:∀id,id∈T.CE.map (·.1)→(HD T x id).isSome=true:=fun id hid=>by
   unfold HD;rw[x2];refine Ef (fun y hy=>?_) ?_
   ·grind
   grind
  refine⟨x,x1,fun s=>?_,fun id b hb=>?_,fun s id hid=>pV id ?_,fun j cs id hj hh=>pV id ?_⟩
  ·simp_all[P6,X9]
  ·unfold HD at hb;grind [CX]
  ·have hw:=x4 (T.CE.map (·.1)) fun s hs=>by simp only[Kj.kh,alC]at hs;grind
   have:=IE (M:=T.CE.map (·.1)) T.bY hw s;unfold P6 at hid;grind [ID]
  ·unfold HD at hj;rw[x2]at hj;obtain⟨y,hy,h1,h2⟩:=CX hj;have:=t4 (T.CE.map (·.1)) (fun z hz=>gT.2 z hz) y hy _ h2;grind [rE,bK.within]
 ·cases h
section
variable {E:Env} {w0:bE}
variable{nt:Nat}{μ:Ro}{φ:Nat→aI}{f:Fr}{m:Mem}{a:Act}{w:World}
theorem Rel.dec{f':Fr}{m':Mem}(h:Rel E.P E.aM nt w0 μ φ f m a w)(hf:zH f' f)(hm:∀id b,m' id=some b→m id=some b)(hl:∀t id,(f' t).has id=true→(m' id).isSome=true)(hb:∀j cs id,m' j=some (.box cs)→cu id cs=true→(m' id).isSome=true):Rel E.P E.aM nt w0 μ φ f' m' a w:={below:=h.below,ro:=h.ro,aM:=h.aM,dJ:=fun id b hb=>h.dJ id b (hm id b hb),own:=fun id b g hb hg=>h.own id b g (hm id b hb) hg,inj:=fun Xb id2 b1 b2 g h1 h2=>h.inj Xb id2 b1 b2 g (hm _ _ h1) (hm _ _ h2),apart:=fun id b hb=>h.apart id b (hm id b hb),fT:=hb,base:=h.base,dK:=h.dK,Gd:=fun id st hid=>h.Gd id st (hm _ _ hid),size:=h.size,defers:=h.defers,nC:=h.nC,fr:=(h.weaken hf).fr,live:=hl}
theorem Rel.set(h:Rel E.P E.aM nt w0 μ φ f m a w){t:Nat}{p:PV}(hp:ao E.P μ p (bY nt w0 a t)):Rel E.P E.aM nt w0 μ φ (gy f t (.pv p)) m a w:=
 {toaA:=h.toaA,size:=h.size,defers:=h.defers,nC:=h.nC,fr:=fun s=>by
   by_cases e:s=t
   ·subst e;rw[CK];exact .pv hp
   ·rw[tV e];exact h.fr s,
  live:=fun s id hid=>by
   by_cases e:s=t
   ·simp_all
   ·rw[tV e]at hid;exact h.live s id hid}
theorem Rel.freeze{nt:Nat}{μ:Ro}{φ:Nat→aI}{f:Fr}{m:Mem}{a:Act}{w:World}(h:Rel E.P E.aM nt w0 μ φ f m a w){id sz:Nat}{et:TypeId}{es:List PV}(hm:m id=some (.arr sz et es)):Rel E.P E.aM nt w0 (sJ μ w (φ id).g) φ f (aw m id (.tC sz et es)) a w:=
 {toaA:=h.toaA.freeze hm,size:=h.size,defers:=h.defers.mono (mG h.toaA _),nC:=h.nC,fr:=fun s=>(h.fr s).Ck (mG h.toaA _),live:=fun s i hid=>by
   by_cases e:i=id
   ·simp_all
   ·rw[ax e];exact h.live s i hid}
theorem xQ{A:Type}{nt:Nat}{a:Act}{w:World}:∀{l:List (Nat×Nat)}{μ:Ro}{φ:Nat→aI}{f:Fr}{m:Mem}{k:Fr→Mem→A}{r:A},F9 l f m k=r→Rel E.P E.aM nt w0 μ φ f m a w→∃f' m' μ',k f' m'=r∧Rel E.P E.aM nt w0 μ' φ f' m' a w
 |[],μ,φ,f,m,k,r,h,hR=>⟨f,m,μ,h,hR⟩
 |(t,sz)::l,μ,φ,f,m,k,r,h,hR=>by
  unfold F9 at h;split at h
  ·rename_i id hf;have hx:an E.P μ φ (.os id) (bY nt w0 a t):=hf▸hR.fr t;split at h
   ·rename_i s et es hm;have hF:=hR.freeze hm;have hA:=hF.toaA.arr (.inr (bW m id _));have hp:ao E.P (sJ μ w (φ id).g) (.rs s es) (bY nt w0 a t):=hA.full hF.toaA (hx.Ck (mG hR.toaA _)) (fun _ _ h=>h) (fun g hg=>by simp[sJ,hg]);exact xQ h (hF.set hp)
   ·rename_i s et es hm;have hB:gM E.P μ φ w id (.tC s et es):=hR.dJ id _ hm;have hp:ao E.P μ (.rs s es) (bY nt w0 a t):=(hR.toaA.arr (.inr hm)).full hR.toaA hx (fun _ _ h=>h) (fun g hg=>by obtain⟨o,ho⟩:=alK.1 (hB.2 g hg);rw[ho,hR.ro _ _ ho]);exact xQ h (hR.set hp)
   ·exact xQ h hR
  ·rename_i hf;have hx:an E.P μ φ .fO (bY nt w0 a t):=hf▸hR.fr t;have hp:ao E.P μ (.rs sz []) (bY nt w0 a t):=by generalize bY nt w0 a t=y at hx;cases hx;exact .lA
   exact xQ h (hR.set hp)
  ·exact xQ h hR
variable{id:Nat}
theorem N4{u:V}:∀(cs:List V)(j:Nat),cu id (cs.set j u)=true→cu id cs=true∨u.has id=true:=by
 intro cs j h;obtain⟨v,hv,hh⟩:=cN.1 h;rcases List.mem_or_eq_of_mem_set hv with h1|h1
 ·exact .inl (cN.2 ⟨v,h1,hh⟩)
 simp_all
theorem Rel.Yb(h:Rel E.P E.aM nt w0 μ φ f m a w){j:Nat}{cs:List V}{u:V}(hm:m id=some (.box cs))(hj:cs[j]?=some .fO)(hu:an E.P μ φ u (.slice none 0 0))(hl:∀i,u.has i=true→(m i).isSome=true):Rel E.P E.aM nt w0 μ φ f (aw m id (.box (cs.set j u))) a w:=by
 have key:∀i b,aw m id (.box (cs.set j u)) i=some b→(i=id∧b=.box (cs.set j u))∨m i=some b:=fun i b hb=>by
  by_cases e:i=id
  ·simp_all
  simp_all[ax]
 have Cw:∀i,(m i).isSome=true→(aw m id (.box (cs.set j u)) i).isSome=true:=fun i hi=>by
  by_cases e:i=id
  ·simp_all
  ·rw[ax e];omega
 have back:∀i b,aw m id (.box (cs.set j u)) i=some b→∃b',m i=some b'∧(b.jV=true→b'.jV=true)∧b.rowAt=b'.rowAt:=fun i b hb=>by
  rcases key i b hb with⟨rfl,rfl⟩|hb
  ·exact⟨_,hm,fun _=>rfl,rfl⟩
  simp_all
 exact
 {below:=h.below,ro:=h.ro,aM:=h.aM,dJ:=fun i b hb=>by
   rcases key i b hb with⟨rfl,rfl⟩|hb
   ·obtain⟨g,c,T,c1,c2,c3,c4,c5,c6⟩:=h.dJ _ _ hm;refine⟨g,c,T,c1,c2,by simpa using c3,fun i v x hv hx=>?_,c5,by simpa using c6⟩;rw[al2]at hv;split at hv
    ·rename_i e;subst e;split at hv
     ·simp only[By]at hv;subst hv;have:=c4 j .fO x hj hx;cases this;omega
     ·cases hv
    ·exact c4 i v x hv hx
   ·exact h.dJ i b hb,
  own:=fun i b g hb hg=>by obtain⟨b',je,Nb,zw⟩:=back i b hb;obtain⟨o1,o2⟩:=h.own i b' g je (by simp_all[bK.owns]);simp_all,
  inj:=fun Xb id2 b1 b2 g h1 h2 g1 g2=>by obtain⟨b1',h1',_,r1⟩:=back Xb b1 h1;obtain⟨b2',h2',_,r2⟩:=back id2 b2 h2;exact h.inj Xb id2 b1' b2' g h1' h2' (by simp_all[bK.owns]) (by simp_all[bK.owns]),
  apart:=fun i b hb=>by obtain⟨b',je,_,zw⟩:=back i b hb;have:=h.apart i b' je;unfold bK.apart at this⊢;rw[zw];omega,
  fT:=fun i ND vq hi hid=>by
   rcases key i _ hi with⟨rfl,he⟩|hi
   ·simp only[bK.box.injEq]at he;subst he;rcases N4 _ _ hid with hid|hid
    ·exact Cw _ (h.fT _ _ _ hm hid)
    simp_all
   ·exact Cw _ (h.fT _ _ _ hi hid),
  base:=h.base,dK:=h.dK,
  Gd:=fun i st hi=>by
   rcases key i _ hi with⟨_,he⟩|hi
   ·cases he
   ·exact h.Gd i st hi,
  size:=h.size,defers:=h.defers,nC:=h.nC,fr:=h.fr,
  live:=fun t i hid=>Cw _ (h.live t i hid)}
variable{et:TypeId}
theorem Rel.ad4(h:Rel E.P E.aM nt w0 μ φ f m a w){W2:Nat}(hn:m W2=none)(ez:0<aV E.P et):∃φ',(φ' W2).g=none∧Rel E.P E.aM nt w0 μ φ' f (aw m W2 (.arr (aV E.P et) et [])) a w:=by
 have hf:fresh false W2 (.arr (aV E.P et) et []) f m (fun f m _=>some (f,m))=some (f,aw m W2 (.arr (aV E.P et) et [])):=by simp[fresh,hn]
 obtain⟨f1,m1,_,hk,_,_,zG⟩:=cv hf;simp only[By,akj]at hk;obtain⟨rfl,rfl⟩:=hk;obtain⟨φ',a1,a2,a3⟩:=zG E.P E.aM w0 μ φ w w (bY nt w0 a) (G0 none 0 0 (aV E.P et)) h.toaA ⟨h.fr,h.live⟩ ⟨lL.refl _ _,h.toaA.ro,fun _ _ _ _ _=>rfl,by simp,fun φ' hp _=>by refine⟨by rw[hp];rfl,by rw[hp],rfl,ez,by simp,by rw[hp];simp[maxLen],?_⟩;simp_all,by simp[bK.names],fun st h=>by cases h⟩;exact⟨φ',by rw[a1],{toaA:=a2,size:=h.size,defers:=h.defers,nC:=h.nC,fr:=a3.fr,live:=a3.live}⟩
theorem xR{A:Type}{nt:Nat}{a:Act}{w:World}:∀{l:List (Nat×Nat×Nat×TypeId)}{μ:Ro}{φ:Nat→aI}{f:Fr}{m:Mem}{k:Mem→A}{r:A},Ga E.P l m k=r→Rel E.P E.aM nt w0 μ φ f m a w→∃m' φ',k m'=r∧Rel E.P E.aM nt w0 μ φ' f m' a w
 |[],μ,φ,f,m,k,r,h,hR=>⟨m,φ,h,hR⟩
 |(id,j,W2,et)::l,μ,φ,f,m,k,r,h,hR=>by
  unfold Ga at h;split at h
  ·rename_i cs hm;split at h
   ·rename_i hj;split at h
    ·rename_i hn;split at h
     ·rename_i ez;obtain⟨φ',g0,kn⟩:=hR.ad4 hn ez;have cC:id≠W2:=fun e=>by simp_all
      exact xR h (kn.Yb (by rw[ax cC];omega) hj (.vt g0) fun i hi=>by have:=acA hi;subst this;simp)
     ·exact xR h hR
    ·exact xR h hR
   ·exact xR h hR
  ·exact xR h hR
theorem Eg{A:Type}{nt:Nat}{a:Act}{w:World}:∀{l:List (Nat×Nat×Nat)}{μ:Ro}{φ:Nat→aI}{f:Fr}{m:Mem}{k:Mem→A}{r:A},Ko l m k=r→Rel E.P E.aM nt w0 μ φ f m a w→∃m',k m'=r∧Rel E.P E.aM nt w0 μ φ f m' a w
 |[],μ,φ,f,m,k,r,h,hR=>⟨m,h,hR⟩
 |(id,j,sz)::l,μ,φ,f,m,k,r,h,hR=>by
  unfold Ko at h;split at h
  ·rename_i cs hm;split at h
   ·rename_i hj;exact Eg h (hR.Yb hm hj (.pv .lA) (fun i hi=>by cases hi))
   ·exact Eg h hR
  ·exact Eg h hR
theorem jd{T:Type}{l:List T}{n i:Nat}{e:T}(h:(l.take n)[i]?=some e):l[i]?=some e∧i<n:=by grind
theorem Rel.abN(h:Rel E.P E.aM nt w0 μ φ f m a w){s:Nat}{es:List PV}(hm:m id=some (.arr s et es)):Rel E.P E.aM nt w0 μ φ f (aw m id (.nest s et es)) a w:=by
 have hA:aN E.P μ φ w id s et es:=h.dJ id _ hm;have key:∀i b,aw m id (.nest s et es) i=some b→(i=id∧b=.nest s et es)∨m i=some b:=fun i b hb=>by
  by_cases e:i=id
  ·simp_all
  simp_all[ax]
 have Cw:∀i,(m i).isSome=true→(aw m id (.nest s et es) i).isSome=true:=fun i hi=>by
  by_cases e:i=id
  ·simp_all
  ·rw[ax e];omega
 have hN:bd E.P μ φ w id s et es:=by
  obtain⟨h1,h2,h3,h4,h5,h6,h7⟩:=hA;refine⟨h1,h2,h3,h4,h5,h6,?_⟩;cases hg:(φ id).g with
  |none=>rw[hg]at h7;omega
  |some g=>rw[hg]at h7;obtain⟨c,T,c1,c2,c3,c4,c5⟩:=h7;exact⟨c,T,c1,c2,c3,fun i e j p x he hp hx=>.pure (c4 i e j p x he hp hx),c5⟩
 have zT:∀i off,(bK.nest s et es).rowAt i off=true→False:=fun i off hr=>by
  rcases kx hr with⟨_,_,_,e,s',rs,hb,he,hp⟩|⟨_,_,_,_,_,_,hb,_⟩
  ·cases hb;obtain⟨h1,h2,h3,h4,h5,h6,h7⟩:=hA;cases hg:(φ id).g with
   |none=>simp_all
   |some g=>
    rw[hg]at h7;obtain⟨c,T,c1,c2,c3,c4,c5⟩:=h7;have hi:i<es.length:=(OF.1 he).1;have hj:off<s:=by grind
    have bQ:i*s+off<c.size:=by have:(i+1)*s≤(φ id).cap*s:=alo _ (by omega);grind
    exact Bool.noConfusion (ao.Hc (c4 i e off _ _ he hp (ald bQ)))
  ·cases hb
 have Va:∀i off,(bK.arr s et es).rowAt i off=true→False:=tD;have hM:aA E.P E.aM w0 μ φ (aw m id (.nest s et es)) w:=by
  refine h.toaA.Sv (fun _ k=>k) (fun j b' hb=>?_) (fun j b' g hb hg=>?_) (fun j b' hb=>?_) (fun j cs i hb hh=>?_) (fun j st hb=>?_)
  ·rcases key j b' hb with⟨rfl,rfl⟩|hb
   ·exact hN
   ·exact h.dJ j b' hb
  ·rcases key j b' hb with⟨rfl,rfl⟩|hb
   ·exact⟨j,_,hm,.inl (qw zT hg),fun _=>rfl,rfl⟩
   grind
  ·rcases key j b' hb with⟨rfl,rfl⟩|hb
   ·exact tW zT
   ·exact h.apart j b' hb
  ·rcases key j _ hb with⟨_,hb⟩|hb
   ·cases hb
   ·exact Cw _ (h.fT j cs i hb hh)
  grind
 exact{toaA:=hM,size:=h.size,defers:=h.defers,nC:=h.nC,fr:=h.fr,live:=fun t i hid=>Cw _ (h.live t i hid)}
theorem IF{A:Type}{nt:Nat}{a:Act}{w:World}:∀{l:List Nat}{μ:Ro}{φ:Nat→aI}{f:Fr}{m:Mem}{k:Mem→A}{r:A},Nv l m k=r→Rel E.P E.aM nt w0 μ φ f m a w→∃m',k m'=r∧Rel E.P E.aM nt w0 μ φ f m' a w
 |[],μ,φ,f,m,k,r,h,hR=>⟨m,h,hR⟩
 |id::l,μ,φ,f,m,k,r,h,hR=>by
  unfold Nv at h;split at h
  ·rename_i s et es hm;exact IF h (hR.abN hm)
  ·exact IF h hR
theorem Rel.cut(h:Rel E.P E.aM nt w0 μ φ f m a w){j d len s:Nat}{cs:List V}{es:List PV}(hm:m id=some (.box cs))(hj:cs[j]?=some (.fS d 0 len))(hd:m d=some (.arr s et es))(cC:d≠id):∃φ',Rel E.P E.aM nt w0 μ φ' (fa d f) (aw (aw (bx (bI d m) d) d (.arr s et (es.take len))) id (.box ((cs.map (vA d)).set j (.os d)))) a w:=by
 obtain⟨m',WL⟩:∃m',m'=aw (aw (bx (bI d m) d) d (.arr s et (es.take len))) id (.box ((cs.map (vA d)).set j (.os d))):=⟨_,rfl⟩;rw[←WL];obtain⟨g0,c,T,c1,c2,c3,c4,c5,c6⟩:=h.dJ _ _ hm;have hA:aN E.P μ φ w d s et es:=h.dJ d _ hd;have rz:j<cs.length:=(OF.1 hj).1;have hx:=c4 j _ _ hj (ald (by omega));obtain⟨φ',f1,f2,f3,f4⟩:∃φ':Nat→aI,(∀i,i≠d→φ' i=φ i)∧(φ' d).g=(φ d).g∧aN E.P μ φ' w d s et (es.take len)∧an E.P μ φ' (.os d) c[j]:=by
  obtain⟨h1,h2,h3,h4,h5,h6,h7⟩:=hA;generalize c[j]=x at hx;cases hx with
  |tQ hg=>refine⟨φ,fun _ _=>rfl,rfl,?_,.vt hg⟩;rw[hg]at h7;obtain⟨rfl,h7⟩:=h7;refine⟨h1,h2,h3,h4,by simp,h6,?_⟩;simp_all
  | @fS _ _ _ cap g ad hg hl ha hc hc'=>
   rw[hg]at h7;obtain⟨q,Tq,q1,q2,q3,q4,q5⟩:=h7;have hlen:(es.take len).length=len:=by simp_all
   have had:ad=⟨g,0,none⟩:=by simp_all
   subst had;refine⟨fun i=>if i=d then{φ d with cap:=cap,len:=len}else φ i,fun i hi=>acB hi,by simp,⟨by simp[hlen],by simpa using h2,h3,h4,fun i e he=>h5 i e (jd he).1,by simp;omega,?_⟩,?_⟩
   ·simp only[IT,hg];refine⟨q,Tq,q1,alH (alo _ (by omega)) q2,by omega,fun i e j p x he hp hx=>q4 i e j p x (jd he).1 hp hx,fun i x hi hx=>q5 i x (Nat.lt_of_lt_of_le hi (alo _ (by omega))) hx⟩
   ·have:=an.os (P:=E.P) (μ:=μ) (φ:=fun i=>if i=d then{φ d with cap:=cap,len:=len}else φ i) (id:=d) (g:=g) (by simp[hg]);simpa using this
 have key:∀i b,m' i=some b→(i=id∧b=.box ((cs.map (vA d)).set j (.os d)))∨(i=d∧b=.arr s et (es.take len))∨(i≠id∧i≠d∧∃b',m i=some b'∧b=gz d b'):=fun i b hb=>by
  rw[WL]at hb;by_cases e:i=id
  ·simp_all
  ·rw[ax e]at hb;by_cases e':i=d
   ·simp_all
   simp_all[ax,fK]
 have Cw:∀i,(m i).isSome=true→(m' i).isSome=true:=fun i hi=>by
  rw[WL];by_cases e:i=id
  ·simp_all
  ·rw[ax e];by_cases e':i=d
   ·simp_all
   simp_all[ax,wz]
 have ad5:∀{i:Nat}{b':bK},(gz d b').names i=true→i≠d:=fun{i b'}hn=>by cases b'<;>simp only[gz,bK.names]at hn<;>first|cases hn|exact(BM hn).2
 have hM:aA E.P E.aM w0 μ φ' m' w:=by
  refine h.toaA.Sv (fun _ k=>k) (fun i b' hb=>?_) (fun i b' g hb hg=>?_) (fun i b' hb=>?_) (fun i ND i' hb hh=>?_) (fun i st hb=>?_)
  ·rcases key i b' hb with⟨rfl,rfl⟩|⟨rfl,rfl⟩|⟨e1,e2,b2,vE,rfl⟩
   ·refine⟨g0,c,T,by grind,c2,by simpa using c3,fun n v x hv LX=>?_,c5,by grind⟩;rw[al2]at hv;split at hv
    ·simp_all
    ·simp only[IS,alg]at hv;obtain⟨v',Xo,rfl⟩:=hv;exact((c4 n v' x Xo LX).kill d).mono (fun _ _ h=>h) fun i hi=>f1 i (Af hi).2
   ·exact f3
   ·exact(h.dJ i b2 vE).kill.cz (fun k hk=>f1 k (ad5 hk)) (f1 i e2) (fun _ _ h=>h) (fun _ _=>rfl)
  ·rcases key i b' hb with⟨rfl,rfl⟩|⟨rfl,rfl⟩|⟨e1,e2,b2,vE,rfl⟩
   ·refine⟨i,_,hm,.inl ?_,fun _=>rfl,rfl⟩;have:=qw (by intro i off h;simp[bK.rowAt]at h) hg;grind
   ·refine⟨i,_,hd,.inl ?_,fun _=>rfl,rfl⟩;grind [qw,tD]
   ·refine⟨i,b2,vE,?_,fun Nb=>by rw[BN]at Nb;omega,rfl⟩;rw[f1 i e2]at hg;exact gu.1 hg
  ·rcases key i b' hb with⟨rfl,rfl⟩|⟨rfl,rfl⟩|⟨e1,e2,b2,vE,rfl⟩
   ·grind [tW,bK.rowAt]
   ·exact tW tD
   ·rw[f1 i e2];exact yz.2 (h.apart i b2 vE)
  ·rcases key i _ hb with⟨rfl,hb⟩|⟨rfl,hb⟩|⟨e1,e2,b2,vE,e⟩
   ·simp only[bK.box.injEq]at hb;subst hb;rcases N4 _ _ hh with hh|hh
    ·exact Cw _ (h.fT _ _ _ hm (BM hh).1)
    ·have:=acA hh;simp_all
   ·cases hb
   ·cases b2 with
    |box cs2=>simp only[gz,bK.box.injEq]at e;subst e;exact Cw _ (h.fT _ _ _ vE (BM hh).1)
    |_=>simp[gz]at e
  ·rcases key i _ hb with⟨rfl,hb⟩|⟨rfl,hb⟩|⟨e1,e2,b2,vE,e⟩
   ·cases hb
   ·cases hb
   ·cases b2 with
    |loop st2=>simp_all[gz,bK.loop.injEq]
    |_=>simp[gz]at e
 exact⟨φ',{toaA:=hM,size:=h.size,defers:=h.defers,nC:=h.nC,fr:=(fun t=>((h.fr t).kill d).mono (fun _ _ h=>h) fun i hi=>f1 i (Af hi).2),live:=fun t i hid=>Cw _ (h.live t i (Af hid).1)}⟩
theorem xS{A:Type}{nt:Nat}{a:Act}{w:World}:∀{l:List (Nat×Nat)}{μ:Ro}{φ:Nat→aI}{f:Fr}{m:Mem}{k:Fr→Mem→A}{r:A},Gb l f m k=r→Rel E.P E.aM nt w0 μ φ f m a w→∃f' m' φ',k f' m'=r∧Rel E.P E.aM nt w0 μ φ' f' m' a w
 |[],μ,φ,f,m,k,r,h,hR=>⟨f,m,φ,h,hR⟩
 |(id,j)::l,μ,φ,f,m,k,r,h,hR=>by
  unfold Gb at h;split at h
  ·rename_i cs hm;split at h
   ·rename_i d len hj;split at h
    ·rename_i s et es hd;split at h
     ·exact xS h hR
     ·rename_i cC;have cC:d≠id:=fun e=>cC (by simp_all);obtain⟨φ',kn⟩:=hR.cut hm hj hd cC;exact xS h kn
    ·exact xS h hR
   ·exact xS h hR
  ·exact xS h hR
theorem N5{A:Type}{T:Kj}{k:Fr→Mem→A}{r:A}(h:Kp E.P T f m k=r)(hR:Rel E.P E.aM nt w0 μ φ f m a w):∃f' m' μ' φ',k f' m'=r∧Rel E.P E.aM nt w0 μ' φ' f' m' a w:=by unfold Kp at h;obtain⟨_,_,_,h,hR⟩:=xS h hR;obtain⟨m1,φ1,h,hR⟩:=xR h hR;obtain⟨m',h,hR⟩:=Eg h hR;obtain⟨m',h,hR⟩:=IF h hR;obtain⟨f',m',μ',h,hR⟩:=xQ h hR;grind
def Yc:Ex→Exit
 |.normal=>.normal
 |.exit id=>.exit id
 |.ret=>.ret
theorem Rel.Yd(h:Rel E.P E.aM nt w0 μ φ f m a w):Rel E.P E.aM nt w0 μ φ f m a {w with drawn:=w.drawn+1}:={toaA:=h.toaA.drew,size:=h.size,defers:=h.defers,nC:=h.nC,fr:=h.fr,live:=h.live}
theorem Vb{rd:Option Nat}(hE:ku E)(hY:xC E.P E.aM E.fn.ntmps E.yl w0){R:Type}{ops:Array Oper}{draw:Bool}{k:Ex→Fr→Mem→Option R}{r:R}(h:fJ E (.region id ops draw) f m k=some r){Q:Exit→Act→World→Prop}(hR:Rel E.P E.aM E.fn.ntmps w0 μ φ f m a w)(hQ:∀f' m' μ' φ' a' w',k .normal f' m'=some r→Rel E.P E.aM E.fn.ntmps w0 μ' φ' f' m' a' w'→Q .normal a' w'):(Code.region id ops draw).wpIn (FR rd) 0 E.P Q a w:=by
 simp only[fJ]at h;cases draw with
 |false=>
  simp only[IN,Wi]at h;refine wpIn_region ?_;have hmz:∀x∈(List.range ops.size).zip ops.toList,ops[x.1]?=some x.2:=fun x hx=>by have:=(wG (l:=ops.toList) (i:=x.1) (o:=x.2)).1 (by omega);simp_all
  have:=iX (rd:=rd) hE hY _ (.inl rfl) h hmz (by intro x hx g hg;cases hg) (fun h=>by omega) μ φ a w Q [] hR (by intro g hg;cases hg) fun f' m' μ' φ' a' w' hk kn _ _=>hQ f' m' μ' φ' a' w' hk kn;simp_all[alO,List.map_fst_zip]
 |true=>
  simp only[IT]at h;split at h
  ·split at h
   ·rename_i hc;simp only[ale]at hc;exact wpIn_region_any hE.mixed (QF hE hY hc.1.1 hc.1.2 hc.2 h hR.Yd hQ)
   ·cases h
  split at h
  ·rename_i hi;refine wpIn_region_any hE.mixed ?_;split at h
   ·rename_i vu;exact IA hE hY (.inl rfl) (fun _ o ho=>(Bool.and_eq_true_iff.1 (al1.1 vu o (amT.2 ho))).1) hi h hR.Yd hQ
   ·exact IA hE hY (.inr rfl) (fun h=>by omega) hi h hR.Yd hQ
  ·cases h
end
theorem abO{g:FuncId}{fn:Func}(hf:P.funcs[g]?=some fn)(ac2:(fn.name== "runtime.NumGoroutine")=false)(hb:fn.body=some c){args:Array Value}{w:World}:(callFunc g args).run P w=.ok (.enter g args) w:=BR hf ac2 hb
theorem Vc{nt:Nat}{w0:bE}{a:Act}{t:Nat}:bY nt w0 a (t+nt)=w0.sv (t+nt):=by unfold bY;rw[acB (by omega)]
def Fl(c:Code):Prop:=∀{E:Env}{w0:bE}{rd:Option Nat}(_:ku E)(_:xC E.P E.aM E.fn.ntmps E.yl w0)(_:E.rdb=false→rd=none){R:Type}{f:Fr}{m:Mem}{k:Ex→Fr→Mem→Option R}{r:R},fJ E c f m k=some r→∀{μ:Ro}{φ:Nat→aI}{a:Act}{w:World}{Q:Exit→Act→World→Prop},Rel E.P E.aM E.fn.ntmps w0 μ φ f m a w→(∀e f' m' μ' φ' a' w',k e f' m'=some r→Rel E.P E.aM E.fn.ntmps w0 μ' φ' f' m' a' w'→Q (Yc e) a' w')→c.wpIn (FR rd) 0 E.P Q a w
theorem Ye{as b:Code}(ihA:Fl as)(ihB:Fl b){E:Env}(hE:ku E){w2:bE}{lid l ntI:Nat}{ps:Array Nat}{rc:Loop}{fid:Nat}(U8:w2.rc lid=some (l,rc))(rT:rc.params=ps)(has:rc.assign=as)(hb:rc.body=b)(pT:rc.tmps.size=E.fn.ntmps)(hsv:∀t,t<E.fn.ntmps→w2.sv (t+ntI)=rc.tmps.getD t undef):xC E.P E.aM ntI (fun _ nt _ id args F m k=>bif Nat.beq id lid then roundOf (fJ {E with fid:=fid,yl:=EV,rdb:=true} as) (fJ {E with fid:=fid,yl:=EV,rdb:=true} b) lid E.fn.ntmps ps.toList nt args F m k else none) w2:=by
 intro R site id args F m k r hy μ φ ρ w xs hM hF hρ hl hr LQ g hg;dsimp only at hy;cases hid:Nat.beq id lid with
 |false=>rw[hid]at hy;cases hy
 |true=>
  rw[hid]at hy;have hid:=acA hid;subst hid;simp only[cond_true]at hy;unfold roundOf at hy;split at hy
  ·rename_i SH;split at hy
   ·rename_i Sr;obtain⟨g',rc',l1,l2,l3⟩:=hM.Gd id _ SH;rw[U8]at l2;simp only[By,akj]at l2;obtain⟨rfl,rfl⟩:=l2;rw[l1]at hg;simp only[By]at hg;subst hg;have HV:xs.size=(PJ.ready.obj rc).params.size:=by
     have:ps.toList.length=ps.size:=by simp
     show xs.size=rc.params.size;rw[rT];omega
    refine⟨_,_,_,_,run_yield l3 HV,?_⟩;have hE':ku {E with fid:=fid,yl:=EV,rdb:=true}:=⟨hE.mixed,hE.lp,hE.ctx,hE.own,hE.inl,hE.rng⟩;have adg:=K1 (P:=E.P) (μ:=μ) (φ:=φ) ps.toList args xs.toList (zX ntI F) rc.tmps pT (by omega) (fun t ht=>by have:=hF.fr (t+ntI);rw[hρ _ (by omega),hsv t ht]at this;exact this) (fun i v x hv hx=>hr i v x hv (by simpa using hx));have hR3:Rel E.P E.aM E.fn.ntmps {w2 with sv:=fun t=>ρ (t-E.fn.ntmps),dK:=μ,nC:=fun _=>none} μ φ (Sb E.fn.ntmps (HE ps.toList args (zX ntI F)) F) m {tmps:=((PJ.ready.obj rc).params.zip xs).foldl (fun tmps(t,a)=>tmps.setIfInBounds t a) (PJ.ready.obj rc).tmps,defers:=[]} w:=by
     have e:((PJ.ready.obj rc).params.zip xs).foldl (fun tmps(t,a)=>tmps.setIfInBounds t a) (PJ.ready.obj rc).tmps=(ps.toList.zip xs.toList).foldl (fun tmps(x:Nat×Value)=>tmps.setIfInBounds x.1 x.2) rc.tmps:=by rw[X8];show(rc.params.toList.zip xs.toList).foldl _ rc.tmps=_;rw[rT]
     rw[e];refine{toaA:=hM.Ae rfl rfl (fun _ _ h=>h) (fun _ _ _=>rfl),size:=adg.1,defers:=.nil _ _ _,nC:=fun _ _ h=>(by cases h),fr:=fun t=>?_,live:=fun t id hid=>?_}
     ·unfold Sb bY;by_cases ht:t<E.fn.ntmps
      ·rw[show Nat.blt t E.fn.ntmps=true by simp_all,T0 ht];exact adg.2 t ht
      ·rw[show Nat.blt t E.fn.ntmps=false by rw[←amf,amt];omega,acB ht];exact hF.fr _
     ·unfold Sb at hid;cases e:Nat.blt t E.fn.ntmps with
      |true=>
       rw[e]at hid;rcases IB _ _ _ _ hid with h|h
       ·exact LQ id h
       ·exact hF.live _ id h
      |false=>rw[e]at hid;exact hF.live _ id hid
    refine roundIn_of_wpIn trivial ?_;show(PJ.ready.obj rc).assign.wpIn (FR (some l)) 0 E.P _ _ _;have ha':(PJ.ready.obj rc).assign=as:=has;rw[ha'];refine ihA (rd:=some l) hE' (DT _ _ _ _) (fun h=>by cases h) hy hR3 fun e f1 m1 μ1 φ1 a1 w1 Qo QA=>?_;split at Qo
    ·rename_i hm1;obtain⟨g1,rc1,p1,p2,p3⟩:=QA.Gd id _ hm1;have p2:w2.rc id=some (g1,rc1):=p2;rw[U8]at p2;simp only[By,akj]at p2;obtain⟨rfl,rfl⟩:=p2;refine⟨_,run_beginRound p3 rfl,?_⟩;have je:(PJ.ready.obj rc).body=b:=hb;refine Eq.mpr (congrArg (fun c:Code=>c.wpIn (FR (some l)) 0 E.P _ a1 _) je) ?_;have yA:=QA.toaA.turn (st':=.busy) hm1 p1 U8;have ajL:Rel E.P E.aM E.fn.ntmps {w2 with sv:=fun t=>ρ (t-E.fn.ntmps),dK:=μ,nC:=fun _=>none} μ1 φ1 f1 (aw m1 id (.loop .busy)) a1 (w1.putObj l (.loop {PJ.ready.obj rc with state:=.busy})):=
      {toaA:=yA,size:=QA.size,defers:=QA.defers,nC:=QA.nC,fr:=QA.fr,live:=fun t j hj=>by
        by_cases e:j=id
        ·subst e;simp
        ·rw[ax e];exact QA.live t j hj}
     refine ihB (rd:=some l) hE' (DT _ _ _ _) (fun h=>by cases h) Qo ajL fun e f2 m2 μ2 φ2 a2 w2' L5 KN=>?_;split at L5
     ·rename_i cS;obtain⟨g2,rc2,q1,q2,q3⟩:=KN.Gd id _ cS;have q2:w2.rc id=some (g2,rc2):=q2;rw[U8]at q2;simp only[By,akj]at q2;obtain⟨rfl,rfl⟩:=q2;have hle:NS μ μ2:=KN.dK;have hFp:cg E.P μ2 φ2 m2 (zX E.fn.ntmps f2) ρ:=by refine⟨fun t=>?_,fun t id hid=>KN.live _ id hid⟩;have:=KN.fr (t+E.fn.ntmps);simp_all[Vc,zX]
      have fin:∀(st:PJ)(v:Bool),k (.pv (.bool v)) (zX E.fn.ntmps f2) (aw m2 id (.loop st))=some r→∃v' f' m' y μ' φ',k v' f' m'=some r∧Ending.returned (.bool v)=.returned y∧NS μ μ'∧aA E.P E.aM w2 μ' φ' m' (w2'.putObj l (.loop (st.obj rc)))∧cg E.P μ' φ' m' f' ρ∧an E.P μ' φ' v' y∧∀id,v'.has id=true→(m' id).isSome=true:=by
       intro st v hk;have hM2:=KN.toaA.turn (st':=st) cS q1 U8;refine⟨_,_,_,_,μ2,φ2,hk,rfl,hle,hM2.Ae rfl rfl (fun b o hb=>hle b o (hM.dK b o hb)) (fun _ _ _=>rfl),⟨hFp.fr,fun t j hj=>?_⟩,.pv .bool,fun id hid=>by cases hid⟩;by_cases e:j=id
       ·subst e;simp
       ·rw[ax e];exact hFp.live t j hj
      cases e with
      |normal=>exact⟨_,_,run_endRound none q3,fin .ready true L5⟩
      |exit j=>exact⟨_,_,run_endRound (some (.exit j)) q3,fin (.done (.exit j)) false L5⟩
      |ret=>exact⟨_,_,run_endRound (some .ret) q3,fin (.done .ret) false L5⟩
     ·cases L5
    ·cases Qo
   ·cases hy
  ·cases hy
theorem abP{μ:Ro}{φ:Nat→aI}{m:Mem}{v:V}{g:FuncId}{caps:List V}{y:Value}(h:adD v=some (g,caps))(hv:an P μ φ v y)(hl:∀id,v.has id=true→(m id).isSome=true):∃xs,y=.func (.func g) #[] xs∧caps.length=xs.size∧(∀(i:Nat)v x,caps[i]?=some v→xs[i]?=some x→an P μ φ v x)∧∀id,cu id caps=true→(m id).isSome=true:=by
 unfold adD at h;split at h
 ·rename_i g0 c0;cases e:Nat.blt g0 Hr with
  |false=>rw[e]at h;cases h
  |true=>
  rw[e]at h;simp only[cond_true,By,akj]at h;obtain⟨rfl,rfl⟩:=h;cases hv with
  | @fn _ _ xs h1 h2=>grind [tR,id,V.has]
 ·rename_i g0 c0;cases e:Nat.blt g0 Hr with
  |false=>rw[e]at h;cases h
  |true=>
  rw[e]at h;simp only[cond_true,By,akj]at h;obtain⟨rfl,rfl⟩:=h;cases hv with
  |pv hv=>cases hv with
   | @fn _ _ xs h1 h2=>
    refine⟨xs,tR e,by simpa using h1,fun i v x hv hx=>?_,fun id hid=>?_⟩
    ·simp only[IS,alg]at hv;obtain⟨q,hq,rfl⟩:=hv;exact .pv (h2 i q x hq hx)
    ·obtain⟨v,hv,hh⟩:=cN.1 hid;obtain⟨q,_,rfl⟩:=alC.1 hv;cases hh
 ·cases h
theorem Mg{g:Operand}{ps:Array Tmp}{as b:Code}(ihA:Fl as)(ihB:Fl b):Fl (.rangeFunc g ps as b):=by
 intro E w0 rd hE hY D3 R f m k r h μ φ a w Q hR hQ;simp only[fJ]at h;split at h
 ·cases h
 rename_i hrb;have D3:=D3 (by simpa using hrb);subst D3;split at h;rotate_left
 ·cases h
 rename_i p0 pr Na;generalize ak7:cH E (some p0)=lid at h;obtain⟨f1,m1,_,h,SH,Ai,ajM⟩:=cv h;obtain⟨hm0,rfl,rfl⟩:=Ai rfl;refine wpIn_rangeFunc fun fn _=>?_;obtain⟨rec,N6⟩:∃rec:Loop,rec={state:=.ready,pending:=none,fn,tmps:=a.tmps,params:=ps,assign:=as,body:=b,defers:=w.heap.size}:=⟨_,rfl⟩;obtain⟨wD,hwD⟩:∃wD,wD=w.alloc (.deferred (some [])):=⟨_,rfl⟩;obtain⟨W1,hW1⟩:∃W1,W1=wD.alloc (.loop rec):=⟨_,rfl⟩;obtain⟨l,hl⟩:∃l,l=wD.heap.size:=⟨_,rfl⟩;have Xc:l=w.heap.size+1:=by rw[hl,hwD];simp
 obtain⟨μD,ad6⟩:∃μD,μD=Gy μ w (.deferred (some [])):=⟨_,rfl⟩;have abQ:NS μ μD:=ad6▸N2 hR.toaA _;have hMD:aA E.P E.aM w0 μD φ m wD:=ad6▸hwD▸hR.toaA.abK _;have hD:μD w.heap.size=some (.deferred (some [])):=by rw[ad6];simp[Gy]
 obtain⟨w1,UQ⟩:∃w1:bE,w1={w0 with dK:=μD,rc:=fun i=>if i=lid then some (l,rec)else w0.rc i}:=⟨_,rfl⟩;have agy:aA E.P E.aM w1 μD φ m wD:=UQ▸hMD.Ae rfl rfl (fun _ _ h=>h) (fun id st hid=>acB fun e=>by simp_all);have JW:bY E.fn.ntmps w1 a=bY E.fn.ntmps w0 a:=by subst UQ;rfl
 have hFD:cg E.P μD φ m f1 (bY E.fn.ntmps w0 a):=⟨fun t=>(hR.fr t).Ck abQ,hR.live⟩;have agz:w1.rc lid=some (l,rec):=by simp_all
 have Xp:W1.heap[l]?=some (.loop rec):=by grind [heap_alloc_new]
 have PK:PJ.ready.obj rec=rec:=by subst N6;rfl
 have mJ:lB E.P w1 μD φ m wD W1 lid (.loop .ready) (G0 (some l) 0 0 0):=by
  rw[hW1];refine lB.alloc agy (by rw[hl]) (fun φ' hp _=>⟨l,rec,by rw[hp],?_⟩) (by simp[bK.names]) fun st nO=>?_
  ·simp_all
  simp_all
 obtain⟨φ1,ajN,yA,G3⟩:=ajM E.P E.aM w1 μD φ wD W1 (bY E.fn.ntmps w0 a) (G0 (some l) 0 0 0) agy hFD mJ;have QA:Rel E.P E.aM E.fn.ntmps w1 μD φ1 f1 (aw m lid (.loop .ready)) a W1:={toaA:=yA,size:=hR.size,defers:=(by have:=hR.defers.mono abQ;subst UQ;omega),nC:=(by subst UQ;exact fun b o hb=>abQ b o (hR.dK b o (hR.nC b o hb))),fr:=fun t=>by rw[JW];exact G3.fr t,live:=G3.live};have U2:=av QA g;split at h;rotate_left
 ·cases h
 rename_i gid caps sU;obtain⟨xs,hgv,hlen,gL,ajO⟩:=abP sU U2.1 U2.2
 ·clear U2;obtain⟨fnI,cI,f1,f2,f3,sM⟩:=hE.rng _ _ _ _ _ _ _ _ _ h;have hyl:an E.P μD φ1 (.yl lid) (.func (.yield l) #[] #[]):=.yl (by rw[ajN]);have hC:=sM w1 μD φ1 (bY E.fn.ntmps w0 a) W1 (#[.func (.yield l) #[] #[]]++xs) yA G3 (by simp;omega) (fun i v x hv hx=>by
    grind) (fun id hid=>by
    simp only[cu,aly]at hid;rcases hid with hid|hid
    ·have:=acA hid;subst this;simp
    ·exact ajO id hid) (by
   refine fun R site id args F m k r hy=>Ye (fid:=site*4096+E.fid%4096) ihA ihB hE (w2:={w1 with sv:=fun t=>bY E.fn.ntmps w0 a (t-fnI.ntmps)}) (rc:=rec) (l:=l) (lid:=lid) (ps:=ps) agz (by subst N6;rfl) (by subst N6;rfl) (by subst N6;rfl) (by subst N6;exact hR.size) (fun t ht=>by grind [bY,Nat.add_sub_cancel,tP]) R site id args F m k r hy)
  refine⟨l,[{target:=.collected w.heap.size,args:= #[]}],W1,{target:=.fn (.func gid) xs,args:= #[.func (.yield l) #[] #[]]},W1,gid,#[.func (.yield l) #[] #[]]++xs,W1,?_,?_,?_,?_,?_,?_⟩
  ·have:=run_enterLoop_outer (P:=E.P) (w:=w) fn a.tmps ps as b;rw[Xc,hW1,hwD,N6];exact this
  ·simp only[resolve,hgv];simp[go_sem]
  ·exact fun _ _=>trivial
  ·grind [invoke,abO]
  ·decide
  ·refine FR.Sy (hC.mono ?_);rintro e w' ⟨v,f',m',y,μ',φ',hk,rfl,Xm,hF',_,_⟩;have agA:NS μD μ':=by have:=Xm.dK;subst UQ;omega
   have hD':μ' w.heap.size=some (.deferred (some [])):=agA _ _ hD;have main:∀st,m' lid=some (.loop st)→st≠.busy→∃w4,(Instr.endLoop l).run E.P w'=.ok (st.obj rec).pending w4∧Rel E.P E.aM E.fn.ntmps w0 μ' φ' (fa lid f') (bx (bI lid m') lid) {a with defers:=[{target:=.collected w.heap.size,args:= #[]}]++a.defers} w4:=by
    intro st nO hnb;obtain⟨g',rc',p1,p2,p3⟩:=Xm.Gd lid st nO;rw[agz]at p2;simp only[By,akj]at p2;obtain⟨rfl,rfl⟩:=p2;have E5:=Xm.own lid _ _ nO (.inl p1);have hMf:=Xm.forget lid;have zT:∀id b,bx (bI lid m') lid id=some b→¬b.owns (φ' id) l:=fun id b' hid e=>by obtain⟨cC,b2,vE,rfl⟩:=fK hid;exact cC (Xm.inj id lid b2 _ l vE nO (gu.1 e) (.inl p1))
    have hM4:=hMf.other (.loop {st.obj rec with state:=.exhausted}) E5.1 (E5.2 rfl) zT;have hM5:aA E.P E.aM w0 μ' φ' (bx (bI lid m') lid) (w'.putObj l (.loop {st.obj rec with state:=.exhausted})):=hM4.Ae (by subst UQ;rfl) (by subst UQ;rfl) (fun b o hb=>agA b o (abQ b o (hR.dK b o hb))) (fun id st hid=>by
      have cC:id≠lid:=fun e=>by subst e;simp at hid
      subst UQ;exact(acB cC).symm)
    refine⟨_,run_endLoop p3 (by cases st<;>simp_all[PJ.obj]),{toaA:=hM5,size:=hR.size,defers:=?_,nC:=hR.nC,fr:=?_,live:=?_}⟩
    ·obtain⟨Ds,e,hnd,hDs⟩:=hR.defers;have bQ:∀b o,μ b=some o→b<w.heap.size:=fun b o hb=>(alm.1 (hR.ro b o hb)).1;refine⟨w.heap.size::Ds,by simp[e],amJ.2 ⟨fun hd=>?_,hnd⟩,fun D hd=>?_⟩
     ·grind
     ·rcases alq.1 hd with rfl|hd
      ·refine⟨hR.below.size,?_,hD'⟩;cases ho:w0.nC w.heap.size with
       |none=>rfl
       |some o=>have:=bQ _ _ (hR.dK _ _ (hR.nC _ _ ho));omega
      grind
    ·exact(hF'.forget lid).fr
    ·exact(hF'.forget lid).live
   dsimp only at hk;split at hk
   ·rename_i nO;obtain⟨w4,e1,e2⟩:=main .ready nO (by simp);exact⟨none,w4,e1,hQ .normal _ _ _ _ _ _ hk e2⟩
   ·rename_i j nO;obtain⟨w4,e1,e2⟩:=main (.done j) nO (by simp);refine⟨some j.code,w4,e1,?_⟩;cases j with
    |ret=>exact wpIn_ret (hQ .ret _ _ _ _ _ _ hk e2)
    |exit id=>exact wpIn_exit (hQ (.exit id) _ _ _ _ _ _ hk e2)
   ·cases hk
theorem Yf:∀(c:Code),Fl c:=by
 intro c;induction c with
 |skip=>intro E w0 rd hE hY D3 R f m k r h μ φ a w Q hR hQ;simp only[fJ]at h;exact wpIn_skip (hQ .normal _ _ _ _ _ _ h hR)
 |region id ops draw=>intro E w0 rd hE hY D3 R f m k r h μ φ a w Q hR hQ;exact Vb hE hY h hR (hQ .normal)
 |seq x y ihx ihy=>
  intro E w0 rd hE hY D3 R f m k r h μ φ a w Q hR hQ;simp only[fJ]at h;refine wpIn_seq (ihx hE hY D3 h hR fun e f' m' μ' φ' a' w' hk kn=>?_);cases e with
  |normal=>exact ihy hE hY D3 hk kn hQ
  |exit id=>exact hQ (.exit id) _ _ _ _ _ _ hk kn
  |ret=>exact hQ .ret _ _ _ _ _ _ hk kn
 |cond c x y ihx ihy=>
  intro E w0 rd hE hY D3 R f m k r h μ φ a w Q hR hQ;simp only[fJ]at h;split at h
  ·rename_i t b hb;have hv:a.eval (.tmp t)=.bool b:=by have:=(av hR (.tmp t)).1;grind [ue]
   have je:f t=.pv (.bool b):=(Ii hb).2;have hle:zH (gy f t (.pv (.bool b))) f:=fun s=>by
    simp only[gy];cases e:Nat.beq s t with
    |true=>simp_all
    |false=>simp
   cases b with
   |true=>simp only[IT]at h;exact wpIn_cond_true hv (ihx hE hY D3 h (hR.weaken hle) hQ)
   |false=>simp only[IN,Wi]at h;exact wpIn_cond_false hv (ihy hE hY D3 h (hR.weaken hle) hQ)
  ·cases h
 |block id b ih=>
  intro E w0 rd hE hY D3 R f m k r h μ φ a w Q hR hQ;simp only[fJ]at h;refine wpIn_block (ih hE hY D3 h hR fun e f' m' μ' φ' a' w' hk kn=>?_);cases e with
  |normal=>exact hQ .normal _ _ _ _ _ _ hk kn
  |exit j=>
   simp only[Ex.W3]at hk;simp only[Yc,Exit.inBlock];split at hk
   ·rename_i hj;rw[T0 hj];exact hQ .normal _ _ _ _ _ _ hk kn
   ·rename_i hj;rw[acB hj];exact hQ (.exit j) _ _ _ _ _ _ hk kn
  |ret=>exact hQ .ret _ _ _ _ _ _ hk kn
 |loop b ih=>
  intro E w0 rd hE hY D3 R f m k r h μ φ a w Q hR hQ;simp only[fJ]at h;split at h
  ·rename_i T _;obtain⟨f,m,μ,φ,h,hR⟩:=N5 h hR;obtain⟨s,hs,s1,s2,s3,s4⟩:=Ya h;obtain⟨n0,hs⟩:=hE.lp _ _ _ _ _ hs;refine K2 (fun n a w=>∃s μ φ,Rel E.P E.aM E.fn.ntmps w0 μ φ (P6 T s) (HD T s) a w∧dQ (fun s rec=>fJ E b (P6 T s) (HD T s) (Ex.Nx (fun f m=>Kp E.P T f m fun f m=>enc T f m rec) k)) n s=some r) ?_ n0 a w ⟨s,μ,φ,hR.dec s1 s2 s3 s4,hs⟩;rintro n a w ⟨s,μ,φ,hR,hs⟩;cases n with
   |zero=>simp[dQ]at hs
   |succ n=>
    refine⟨n,rfl,?_⟩;simp only[dQ]at hs;refine ih hE hY D3 hs hR fun e f' m' μ' φ' a' w' hk kn=>?_;cases e with
    |normal=>obtain⟨f',m',μ',φ',hk,kn⟩:=N5 hk kn;obtain⟨s',hs',t1,t2,t3,t4⟩:=Ya hk;exact⟨s',μ',φ',kn.dec t1 t2 t3 t4,hs'⟩
    |exit j=>exact hQ (.exit j) _ _ _ _ _ _ hk kn
    |ret=>exact hQ .ret _ _ _ _ _ _ hk kn
  ·refine K2 (fun n a w=>∃f m μ φ,Rel E.P E.aM E.fn.ntmps w0 μ φ f m a w∧Nu (fun f m rec=>fJ E b f m (Ex.Nx rec k)) n f m=some r) ?_ E.u a w ⟨f,m,μ,φ,hR,h⟩;rintro n a w ⟨f,m,μ,φ,hR,hs⟩;cases n with
   |zero=>simp[Nu]at hs
   |succ n=>
    refine⟨n,rfl,?_⟩;simp only[Nu]at hs;refine ih hE hY D3 hs hR fun e f' m' μ' φ' a' w' hk kn=>?_;cases e with
    |normal=>exact⟨f',m',μ',φ',kn,hk⟩
    |exit j=>exact hQ (.exit j) _ _ _ _ _ _ hk kn
    |ret=>exact hQ .ret _ _ _ _ _ _ hk kn
 |exit id=>intro E w0 rd hE hY D3 R f m k r h μ φ a w Q hR hQ;simp only[fJ]at h;exact wpIn_exit (hQ (.exit id) _ _ _ _ _ _ h hR)
 |label l=>intro E w0 rd hE hY D3 R f m k r h μ φ a w Q hR hQ;simp only[fJ]at h;exact wpIn_label (hQ .normal _ _ _ _ _ _ h hR)
 |ret=>intro E w0 rd hE hY D3 R f m k r h μ φ a w Q hR hQ;simp only[fJ]at h;exact wpIn_ret (hQ .ret _ _ _ _ _ _ h hR)
 |scope b ih=>intro E w0 rd hE hY D3 R f m k r h μ φ a w Q hR hQ;simp only[fJ]at h;exact U9 (ih hE hY D3 h hR fun e f' m' μ' φ' a' w' hk kn=>by cases e<;>exact hQ _ _ _ _ _ _ _ hk kn)
 |rangeFunc g ps as b ihA ihB=>exact Mg ihA ihB
 |_=>intro E w0 rd hE hY D3 R f m k r h;simp[fJ]at h
def Obj.ad7:Obj→Bool
 |.cells .. =>true
 |.map .. =>true
 |_=>false
def SI(μ μ':Ro):Prop:=∀b o,μ b=some o→Obj.ad7 o=true→μ' b=some o
theorem SI.trans{a b c:Ro}(h:SI a b)(k:SI b c):SI a c:=fun x o hx ho=>k x o (h x o hx ho) ho
section
variable {P:Program} {G:Nat→Option (List PV)} {w0:bE} {μ μ':Ro} {φ:Nat→aI} {m:Mem} {w w':World}
variable{x:Value}
theorem IG(h:SI μ μ'){b o:Nat}(hx:cellAt μ b o=some x):cellAt μ' b o=some x:=by
 unfold cellAt at*;split at hx
 ·rename_i c t fz hb;rw[h _ _ hb rfl];omega
 ·cases hx
theorem ao.off(h:SI μ μ'){p:PV}(hp:ao P μ p x):ao P μ' p x:=by
 induction hp with
 |int h=>exact .int h
 |bool=>exact .bool
 |str h=>exact .str h
 |agg h1 _ h3 ih=>exact .agg h1 ih h3
 |aG h1 _ ih=>exact .aG h1 ih
 |tJ=>exact .tJ
 |rp X h1 _ h3 ih=>exact .rp X (fun i p hi=>IG h (h1 i p hi)) ih h3
 |lA=>exact .lA
 |M9 h=>exact .M9 h
 |rs X h1 h2 h3 h4 _ h6 ih=>exact .rs X h1 h2 h3 (fun i e j p hi hj=>IG h (h4 i e j p hi hj)) ih h6
 |rr=>exact .rr
 |rm h1 h2 h3 h4 h5 _ _ ih1 ih2=>exact .rm (h _ _ h1 rfl) h2 h3 h4 h5 ih1 ih2
 |GY=>exact .GY
 |fn h1 _ ih=>exact .fn h1 ih
 |Xa=>exact .Xa
 |abl=>exact .abl
 |bad=>exact .bad
theorem Cj.off(h:SI μ μ'){g:Nat}{cs:List PV}(hv:Cj P μ g cs):Cj P μ' g cs:=⟨hv.rep.off h,let⟨c,T,z,h1,h2⟩:=hv.size;⟨c,T,z,h _ _ h1 rfl,h2⟩⟩
theorem an.off(h:SI μ μ'){v:V}{x:Value}(hv:an P μ φ v x):an P μ' φ v x:=by
 induction hv with
 |pv hp=>exact .pv (hp.off h)
 |fO=>exact .fO
 |op hg=>exact .op hg
 |oe hg=>exact .oe hg
 |vt hg=>exact .vt hg
 |os hg=>exact .os hg
 |tQ hg=>exact .tQ hg
 |fS hg hl ha hc hc'=>exact .fS hg hl ha hc hc'
 |LR hg=>exact .LR hg
 |zU hg=>exact .zU hg
 |DJ hg hs=>exact .DJ hg hs
 |om hg=>exact .om hg
 |yl hg=>exact .yl hg
 |it hg=>exact .it hg
 |fn h1 _ ih=>exact .fn h1 ih
 |agg h1 _ h3 ih=>exact .agg h1 ih h3
 |aG h1 _ ih=>exact .aG h1 ih
 |top=>exact .top
theorem aN.off(h:SI μ μ'){id sz:Nat}{et:TypeId}{es:List PV}(ha:aN P μ φ w id sz et es)(hw:∀g,(φ id).g=some g→w'.heap[g]?=w.heap[g]?):aN P μ' φ w' id sz et es:=by
 obtain⟨a1,a2,a3,a4,a5,a6,a7⟩:=ha;refine⟨a1,a2,a3,a4,a5,a6,?_⟩;cases hg:(φ id).g with
 |none=>rw[hg]at a7;omega
 |some g=>rw[hg]at a7;obtain⟨c,T,c1,c2,c3,c4,c5⟩:=a7;exact⟨c,T,by rw[hw g hg];omega,c2,c3,fun i e j p x h1 h2 h3=>(c4 i e j p x h1 h2 h3).off h,c5⟩
theorem eQ.off(hh:SI μ μ'){R:Ge}{s:Nat}{rs:List PV}{x:Value}(h:eQ P μ R w s rs x)(hw:∀g,R.g=some g→w'.heap[g]?=w.heap[g]?):eQ P μ' R w' s rs x:=
 let⟨⟨et,hA⟩,hV⟩:=h
 ⟨⟨et,hA.off hh hw⟩,hV.off hh⟩
theorem ep.off(hh:SI μ μ'){R:Ge}{p:PV}{x:Value}(h:ep P μ R w p x)(hw:p.isRow=true→∀g,R.g=some g→w'.heap[g]?=w.heap[g]?):ep P μ' R w' p x:=by
 unfold ep at*;split at h
 ·exact eQ.off hh h (hw rfl)
 ·exact ao.off hh h
theorem bd.off(hh:SI μ μ'){id sz:Nat}{et:TypeId}{es:List PV}(h:bd P μ φ w id sz et es)(hw:∀g,(bK.nest sz et es).owns (φ id) g→w'.heap[g]?=w.heap[g]?):bd P μ' φ w' id sz et es:=by
 obtain⟨a1,a2,a3,a4,a5,a6,a7⟩:=h;refine⟨a1,a2,a3,a4,a5,a6,?_⟩;cases hg:(φ id).g with
 |none=>rw[hg]at a7;omega
 |some g=>rw[hg]at a7;obtain⟨c,T,c1,c2,c3,c4,c5⟩:=a7;exact⟨c,T,by rw[hw g (.inl hg)];omega,c2,c3,fun i e j p x h1 h2 h3=>(c4 i e j p x h1 h2 h3).off hh fun hr g' dn=>hw g' (.inr ⟨i,j,by rw[dG h1 h2];omega,dn⟩),c5⟩
theorem eQ.SJ{R:Ge}{s g:Nat}{rs:List PV}(h:eQ P μ R w s rs x)(hg:R.g=some g):∃c T z,w.heap[g]?=some (.cells c T z):=by obtain⟨⟨et,_,_,_,_,_,_,a7⟩,_⟩:=h;have dn:R.up.g=some g:=hg;grind
theorem gM.Yg{id g i off:Nat}{b:bK}(h:gM P μ φ w id b)(hr:b.rowAt i off=true)(hg:((φ id).row i off).g=some g):∃c T z,w.heap[g]?=some (.cells c T z):=by
 rcases kx hr with⟨sz,et,es,e,s,rs,rfl,he,hp⟩|⟨kt,e0,es,k,s,rs,rfl,rfl,he⟩
 ·have hN:bd P μ φ w id sz et es:=h;have hgg:∃g0,(φ id).g=some g0:=by
   cases hq:(φ id).g with
   |some g0=>simp
   |none=>have a7:=hN.2.2.2.2.2.2;simp_all
  obtain⟨g0,P9⟩:=hgg;obtain⟨c,_,x,_,_,c3,_⟩:=hN.cell P9 he hp;exact eQ.SJ (show eQ P μ _ w s rs x from c3) hg
 ·obtain⟨g0,en,clock,kk,P9,hh,hs,hk,hc,BG,hv⟩:=h;have hi:i<en.size:=by grind
  have h3:=(hv i k _ en[i] he (ald hi)).2;exact eQ.SJ (P:=P) (μ:=μ) (R:=(φ id).row i 0) (s:=s) (rs:=rs) (x:=en[i].val) ⟨⟨_,h3.1⟩,h3.2⟩ hg
theorem gM.off(h:SI μ μ')(zw:∀b o,μ b=some o→w.heap[b]?=some o){id:Nat}{b:bK}(hb:gM P μ φ w id b)(hw:∀g,b.owns (φ id) g→w'.heap[g]?=w.heap[g]?):gM P μ' φ w' id b:=by
 cases b with
 |nest sz et es=>exact bd.off h hb hw
 |fu kt e0 es=>
  obtain⟨g,en,clock,kk,hg,hh,hs,hk,hc,BG,hv⟩:=hb;refine⟨g,en,clock,kk,hg,by rw[hw g (.inl hg)];omega,hs,hk,hc,BG,fun i k v e h1 h2=>⟨(hv i k v e h1 h2).1.off h,?_⟩⟩;have h3:=(hv i k v e h1 h2).2;split at h3
  ·exact⟨h3.1.off h fun g' dn=>hw g' (.inr ⟨i,0,by rw[kv h1];rfl,dn⟩),h3.2.off h⟩
  ·exact h3.off h
 |box cs=>obtain⟨g,c,T,hg,hh,hs,hv,h1,JS⟩:=hb;exact⟨g,c,T,hg,by rw[hw g (.inl hg)];omega,hs,fun i v x hi hx=>(hv i v x hi hx).off h,h1,JS⟩
 |arr sz et es=>exact aN.off h hb fun g hg=>hw g (.inl hg)
 |tC sz et es=>refine⟨aN.off h hb.1 fun g hg=>hw g (.inl hg),fun g hg=>?_⟩;obtain⟨o,ho⟩:=alK.1 (hb.2 g hg);obtain⟨_,_,_,_,_,_,a7⟩:=hb.1;rw[hg]at a7;obtain⟨c,_,c1,_⟩:=a7;have:=zw g o ho;rw[c1]at this;cases this;rw[h _ _ ho rfl];rfl
 |map kt es=>obtain⟨g,en,clock,kk,hg,hh,hs,hk,hc,BG,hv⟩:=hb;exact⟨g,en,clock,kk,hg,by rw[hw g (.inl hg)];omega,hs,hk,hc,BG,fun i k v e h1 h2=>⟨(hv i k v e h1 h2).1.off h,(hv i k v e h1 h2).2.off h⟩⟩
 |iter t es cur=>obtain⟨g,mg,en,clock,seen,hg,hh,Nb,BG,JS,hv,hcu⟩:=hb;exact⟨g,mg,en,clock,seen,hg,by rw[hw g (.inl hg)];omega,h _ _ Nb rfl,BG,JS,fun i k v e h1 h2=>⟨(hv i k v e h1 h2).1.off h,(hv i k v e h1 h2).2.off h⟩,fun k v hc=>let⟨i,e,h1,h2,h3,h4⟩:=hcu k v hc;⟨i,e,h1,h2,h3.off h,h4.off h⟩⟩
 |loop st=>obtain⟨g,rc,hg,hh⟩:=hb;exact⟨g,rc,hg,by rw[hw g (.inl hg)];omega⟩
def Gz(μ:Ro)(D:Nat):Ro:=fun b=>if b=D then none else μ b
theorem SK{D:Nat}(hD:μ D=some (.deferred (some []))):SI μ (Gz μ D):=by intro b o hb ho;unfold Gz;rw[acB fun e=>by subst e;rw[hD]at hb;cases hb;cases ho];omega
theorem aA.shut(hM:aA P G w0 μ φ m w){D:Nat}(hB:w0.heap.size≤D)(hk:w0.dK D=none)(hD:μ D=some (.deferred (some []))):aA P G w0 (Gz μ D) φ m (w.putObj D (.deferred none)):=by
 have hc:=SK hD;have hh:=hM.ro _ _ hD;have J0:∀k,k≠D→(w.putObj D (.deferred none)).heap[k]?=w.heap[k]?:=fun k hk=>World.putObj_heap_other hk;have cC:∀id b g,m id=some b→b.owns (φ id) g→g≠D:=fun id b g hm hg e=>by
  subst e;have hR:=hM.dJ id b hm;rcases hg with hg|⟨i,off,hr,hg⟩
  rotate_left
  ·obtain⟨c,T,z,h2⟩:=hR.Yg hr hg;rw[hh]at h2;cases h2
  cases b with
  |nest sz et es=>obtain⟨_,_,_,_,_,_,a7⟩:=hR;simp_all
  |fu kt e0 es=>obtain⟨g',en,clock,kk,dn,h2,_⟩:=hR;simp_all
  |box cs=>obtain⟨g',c,T,dn,h2,_⟩:=hR;simp_all
  |arr sz et es=>obtain⟨_,_,_,_,_,_,a7⟩:=hR;simp_all
  |tC sz et es=>obtain⟨⟨_,_,_,_,_,_,a7⟩,_⟩:=hR;simp_all
  |map kt es=>obtain⟨g',en,clock,kk,dn,h2,_⟩:=hR;simp_all
  |loop st=>obtain⟨g',rc,dn,h2⟩:=hR;simp_all
  |iter t es cur=>obtain⟨g',mg,en,clock,seen,dn,h2,_⟩:=hR;simp_all
 refine⟨hM.below.trans ((lL.putObj w D _).mono hB),fun b o hb=>?_,fun g cs hg=>(hM.aM g cs hg).off hc,fun id b hm=>(hM.dJ id b hm).off hc hM.ro fun g hg=>J0 g (cC id b g hm hg),fun id b g hm hg=>?_,hM.inj,hM.apart,hM.fT,fun b o hb bQ=>?_,fun b o hb=>?_,fun id st hm=>?_⟩
 ·unfold Gz at hb;split at hb
  ·cases hb
  ·rename_i e;rw[J0 b e];exact hM.ro b o hb
 ·obtain⟨h1,h2⟩:=hM.own id b g hm hg;refine⟨h1,fun Xk=>?_⟩;unfold Gz;simp_all
 ·unfold Gz at hb;split at hb
  ·omega
  ·exact hM.base b o hb bQ
 ·unfold Gz;rw[acB fun e=>by simp_all];exact hM.dK b o hb
 ·obtain⟨g,rc,h1,h2,h3⟩:=hM.Gd id st hm;grind
end
section
variable {E:Env} {w0:bE}
theorem Eh{R:Ending→World→Prop}{f:Fr}{m:Mem}{φ:Nat→aI}{fn:Func}{tmps:Array Value}:∀(Ds:List Nat){μ:Ro}{w:World},Ds.Nodup→(∀D∈Ds,w0.heap.size≤D∧w0.dK D=none∧μ D=some (.deferred (some [])))→Rel E.P E.aM E.fn.ntmps w0 μ φ f m {tmps,defers:=[]} w→(∀μ' w',Rel E.P E.aM E.fn.ntmps w0 μ' φ f m {tmps,defers:=[]} w'→∃v,(results fn tmps).run E.P w'=.ok v w'∧R (.returned v) w')→LeavesInM (FR none) 0 E.P fn tmps R (Ds.map fun D=>{target:=.collected D,args:= #[]}) .returning w
 |[],μ,w,_,_,hR,zI=>zI μ w hR
 |D::Ds,μ,w,hn,hD,hR,zI=>by obtain⟨h1,h2,h3⟩:=hD D (by simp);obtain⟨n1,n2⟩:=amJ.1 hn;have hM:=hR.toaA.shut h1 h2 h3;refine⟨by simp,.inl ⟨D,_,rfl,run_takeDeferred (hR.ro _ _ h3),?_⟩⟩;refine Eh Ds n2 (fun D' hd'=>?_) {toaA:=hM,size:=hR.size,defers:=.nil _ _ _,nC:=hR.nC,fr:=fun t=>(hR.fr t).off (SK h3),live:=hR.live} zI;obtain⟨a1,a2,a3⟩:=hD D' (by simp[hd']);refine⟨a1,a2,?_⟩;unfold Gz;grind
theorem wv(hE:ku E)(hY:xC E.P E.aM E.fn.ntmps E.yl w0)(hko:∀b o,w0.dK b=some o→w0.nC b=some o){g:FuncId}{c:Code}(hf:E.P.funcs[g]?=some E.fn)(hb:E.fn.body=some c){xs:Array Value}{R:Ending→World→Prop}{S:Type}{f:Fr}{m:Mem}{k:Ex→Fr→Mem→Option S}{r:S}(h:fJ E c f m k=some r){μ:Ro}{φ:Nat→aI}{w:World}(hR:Rel E.P E.aM E.fn.ntmps w0 μ φ f m {tmps:=xs++Array.replicate (E.fn.ntmps-xs.size) undef,defers:=[]} w)(zI:∀e f' m' μ' φ' tmps w',k e f' m'=some r→Rel E.P E.aM E.fn.ntmps w0 μ' φ' f' m' {tmps,defers:=[]} w'→(∀id,e≠.exit id)∧∃v,(results E.fn tmps).run E.P w'=.ok v w'∧R (.returned v) w'):Calls E.P g xs w R:=by
 refine(callsIn_wide (n:=0)).1 (callsIn_of_wp_marks (F:=FR none) hf hb trivial ?_);refine Yf c hE hY (fun _=>rfl) h hR fun e f' m' μ' φ' a' w' hk kn=>?_;obtain⟨Ds,e1,e2,e3⟩:=kn.defers;have KN:Rel E.P E.aM E.fn.ntmps w0 μ' φ' f' m' {tmps:=a'.tmps,defers:=[]} w':={toaA:=kn.toaA,size:=kn.size,defers:=.nil _ _ _,nC:=kn.nC,fr:=kn.fr,live:=kn.live};have key:(∀id,e≠.exit id)→LeavesInM (FR none) 0 E.P E.fn a'.tmps R a'.defers .returning w':=fun _=>by
  rw[e1];refine Eh Ds e2 (fun D hd=>?_) KN fun μ2 w2 hR3=>(zI e f' m' μ2 φ' a'.tmps w2 hk hR3).2;obtain⟨a1,a2,a3⟩:=e3 D hd;refine⟨a1,?_,a3⟩;cases hq:w0.dK D with
  |none=>rfl
  |some o=>simp_all
 have cC:=(zI e f' m' μ' φ' a'.tmps w' hk KN).1;cases e with
 |normal=>exact key cC
 |ret=>exact key cC
 |exit id=>simp_all
end
end Go.Ab
