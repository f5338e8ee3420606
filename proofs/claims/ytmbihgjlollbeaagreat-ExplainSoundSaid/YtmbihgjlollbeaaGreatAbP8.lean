import Derived.Test.YtmbihgjlollbeaaGreatAbP7
import Derived.RangeFuncIn
import Derived.Scope
set_option linter.all false
namespace Go.Ab
open Go.RowKit (Below)
section
variable {P:Program} {G:Nat→Option (List PV)} {w0:bA} {μ:Ro} {φ:Nat→aA} {m:Mem} {w:World}
theorem lM.putObj(w:World)(g:Nat)(o:Obj):lM g w (w.putObj g o):=⟨⟨rfl,rfl,rfl,by simp,fun k hk=>World.putObj_heap_other (by omega)⟩,fun _=>akk _⟩
theorem av.xx(h:av P G w0 μ φ m w){w1:bA}(hw:w1.w=w0.w)(Kv:w1.mu=w0.mu)(hk:∀b o,w1.dC b=some o→μ b=some o)(hrc:∀id st,m id=some (.loop st)→w1.rc id=w0.rc id):av P G w1 μ φ m w:=by obtain⟨a0,b0,c0,d0,e0⟩:=w0;obtain⟨a1,b1,c1,d1,e1⟩:=w1;simp only at hw Kv;subst hw;subst Kv;refine⟨h.below,h.ro,h.aG,h.dy,h.own,h.inj,h.apart,h.fT,h.base,hk,fun id st hid=>?_⟩;obtain⟨g,rc,h1,h2,h3⟩:=h.C5 id st hid;simp_all
def Dp(μ:Ro)(w:World)(o:Obj):Ro:=fun b=>if b=w.heap.size then some o else μ b
theorem Lu(hM:av P G w0 μ φ m w)(o:Obj):Lh μ (Dp μ w o):=by intro b o' hb;have:=(abq.1 (hM.ro b o' hb)).1;unfold Dp;grind
theorem av.aac(hM:av P G w0 μ φ m w)(o:Obj):av P G w0 (Dp μ w o) φ m (w.alloc o):=by
 have hle:=Lu hM o;have hold:∀k,k<w.heap.size→(w.alloc o).heap[k]?=w.heap[k]?:=fun k hk=>lM.heap_alloc w o k hk;have oP:w0.heap.size≤w.heap.size:=hM.below.size;refine⟨hM.below.alloc hM.below.size o,fun b o' hb=>?_,fun g cs hg=>(hM.aG g cs hg).mono hle,fun id b hid=>?_,fun id b g hid hg=>?_,hM.inj,hM.apart,hM.fT,fun b o' hb bZ=>?_,fun b o' hb=>hle b o' (hM.dC b o' hb),fun id st hid=>?_⟩
 ·unfold Dp at hb;split at hb
  ·grind [heap_alloc_new]
  ·have:=hM.ro b o' hb;grind
 ·have hR:=hM.dy id b hid;exact hR.cj (fun _ _=>rfl) rfl hle (fun g hg=>hold g (hR.EV hg))
 ·obtain⟨h1,h2⟩:=hM.own id b g hid hg;refine⟨h1,fun U6=>?_⟩;have:=(hM.dy id b hid).EV hg;unfold Dp;grind
 ·unfold Dp at hb;rw[IS (by omega)]at hb;exact hM.base b o' hb bZ
 ·obtain⟨g,rc,h1,h2,h3⟩:=hM.C5 id st hid;grind
theorem av.other(hM:av P G w0 μ φ m w){g:Nat}(o:Obj)(hg:w0.heap.size≤g)(hμ:μ g=none)(Ee:∀id b,m id=some b→¬b.owns (φ id) g):av P G w0 μ φ m (w.putObj g o):=by
 have DU:∀k,k≠g→(w.putObj g o).heap[k]?=w.heap[k]?:=fun k hk=>World.putObj_heap_other hk;refine⟨hM.below.trans ((lM.putObj w g o).mono hg),fun b o' hb=>?_,hM.aG,fun id b hid=>?_,hM.own,hM.inj,hM.apart,hM.fT,hM.base,hM.dC,fun id st hid=>?_⟩
 ·rw[DU b fun e=>by simp_all];exact hM.ro b o' hb
 ·have hR:=hM.dy id b hid;exact hR.cj (fun _ _=>rfl) rfl (fun _ _ h=>h) (fun g' cS=>DU g' fun e=>by simp_all)
 ·obtain⟨g',rc,h1,h2,h3⟩:=hM.C5 id st hid;exact⟨g',rc,h1,h2,by rw[DU g' fun e=>by subst e;exact Ee id _ hid (.inl h1)];omega⟩
theorem av.turn(hM:av P G w0 μ φ m w){id g:Nat}{st st':M8}{rc:Loop}(hm:m id=some (.loop st))(hg:(φ id).g=some g)(hrc:w0.rc id=some (g,rc)):av P G w0 μ φ (ao m id (.loop st')) (w.putObj g (.loop (st'.obj rc))):=by have bZ:=(hM.dy id _ hm).EV (.inl hg);have Vb:(w.putObj g (.loop (st'.obj rc))).heap[g]?=some (.loop (st'.obj rc)):=World.putObj_heap_same bZ;exact hM.write hm rfl hg (lM.putObj w g _) (by simp) (fun k hk=>World.putObj_heap_other hk) ⟨g,rc,hg,Vb⟩ rfl (by simp[bH.names]) fun s hs=>by simp_all
end
section
variable {P:Program} {μ:Ro} {φ:Nat→aA}
theorem H7{nt:Nat}:∀(ps:List Nat)(args:List V)(xs:List Value)(f:Fr)(tmps:Array Value),tmps.size=nt→args.length=xs.length→(∀t,t<nt→af P μ φ (f t) (tmps.getD t undef))→(∀(i:Nat)v x,args[i]?=some v→xs[i]?=some x→af P μ φ v x)→((ps.zip xs).foldl (fun tmps(x:Nat×Value)=>tmps.setIfInBounds x.1 x.2) tmps).size=nt∧∀t,t<nt→af P μ φ (EI ps args f t) (((ps.zip xs).foldl (fun tmps(x:Nat×Value)=>tmps.setIfInBounds x.1 x.2) tmps).getD t undef)
 |[],args,xs,f,tmps,hs,_,hf,_=>by cases args<;>exact⟨hs,hf⟩
 |p::ps,[],xs,f,tmps,hs,hl,hf,_=>by have:xs=[]:=akg (by simpa using hl.symm);subst this;exact⟨hs,hf⟩
 |p::ps,v::args,[],f,tmps,hs,hl,hf,_=>by simp at hl
 |p::ps,v::args,x::xs,f,tmps,hs,hl,hf,hr=>by
  simp only[amv,amn,EI];refine H7 ps args xs (gu f p v) (tmps.setIfInBounds p x) (by simpa using hs) (by simpa using hl) (fun t ht=>?_) (fun i u y hu hy=>hr (i+1) u y (by simpa using hu) (by simpa using hy));by_cases e:t=p
  ·subst e;rw[Aj];have:(tmps.setIfInBounds t x).getD t undef=x:=by simp_all
   rw[this];exact hr 0 v x rfl rfl
  ·rw[se e];have:(tmps.setIfInBounds p x).getD t undef=tmps.getD t undef:=by rw[akl,akl,alo,IS (fun h=>e h.symm)]
   rw[this];exact hf t ht
theorem FG{id:Nat}:∀(ps:List Nat)(args:List V)(f:Fr)(t:Nat),(EI ps args f t).has id=true→b8 id args=true∨(f t).has id=true
 |[],args,f,t,h=>by cases args<;>exact .inr h
 |p::ps,[],f,t,h=>.inr h
 |p::ps,v::args,f,t,h=>by
  simp only[EI]at h;rcases FG ps args _ t h with h|h
  ·exact .inl (by simp[b8,h])
  ·by_cases e:t=p
   ·subst e;rw[Aj]at h;exact .inl (by simp[b8,h])
   ·rw[se e]at h;exact .inr h
theorem VW(ps:Array Nat)(xs:Array Value)(tmps:Array Value):(ps.zip xs).foldl (fun tmps(t,a)=>tmps.setIfInBounds t a) tmps=(ps.toList.zip xs.toList).foldl (fun tmps(x:Nat×Value)=>tmps.setIfInBounds x.1 x.2) tmps:=by rw[←Array.foldl_toList,Array.toList_zip]
end
variable{P:Program}{c:Code}{Q:Exit→Act→World→Prop}
theorem H8{F:Fence}{nn:Nat}(I:Nat→Act→World→Prop)(round:∀n a w,I n a w→∃n',n=n'+1∧c.wpIn F nn P (Exit.then (I n') Q) a w):∀n a w,I n a w→(Code.loop c).wpIn F nn P Q a w:=by
 intro n a w hI b k cs wA hb hr;have key:∀n a w,I n a w→∃e a' w',Q e a' w'∧ArrivesIn (Machine.fenced P F) P (lone (b.atR a (.code c::.inLoop c::k)) cs w) b k cs e a' w':=by
  intro n;induction n with
  |zero=>grind
  |succ n ih=>
   intro a w h;obtain⟨n',hn,pP⟩:=round _ a w h;have hn:n=n':=by omega
   subst hn;obtain⟨e,a₁,w₁,hq,FH⟩:=pP b (.inLoop c::k) cs wA hb hr;cases e with
   |normal=>obtain⟨e₂,a₂,w₂,afl,aad⟩:=ih a₁ w₁ hq;exact⟨e₂,a₂,w₂,afl,.of_steps (StepsIn.trans FH (.one (fenced_calm hb hr rfl) stepR_inLoop)) aad⟩
   |_=>exact⟨_,a₁,w₁,hq,.pass (x:=.inLoop c) rfl (fun _ _=>.inl (by simp)) FH⟩
 obtain⟨e,a',w',hq,FH⟩:=key n a w hI;exact⟨e,a',w',hq,.of_steps (.one (fenced_calm hb hr rfl) stepR_loop) FH⟩
theorem SX{rd:Option Nat}{n:Nat}{a:Act}{w:World}(h:c.wpIn (FR rd) n P (Exit.noGoto Q) a w):(Code.scope c).wpIn (FR rd) n P Q a w:=by
 intro b k cs wA hb hr;obtain⟨e,a₁,w₁,hq,FH⟩:=h b (.inScope c::k) cs wA hb hr;have s1:StepsIn (Machine.fenced P (FR rd)) P (lone (b.atR a (.code (.scope c)::k)) cs w) (lone (b.atR a (.code c::.inScope c::k)) cs w):=.one (fenced_calm hb hr rfl) (step_lone_go (by rfl));have s2:∀a w,StepsIn (Machine.fenced P (FR rd)) P (lone (b.atR a (.inScope c::k)) cs w) (lone (b.atR a k) cs w):=fun a w=>.one (fenced_calm hb hr rfl) (step_lone_go (by rfl));cases e with
 |normal=>exact⟨.normal,a₁,w₁,hq,s1.trans (StepsIn.trans FH (s2 _ _))⟩
 |exit id=>exact⟨.exit id,a₁,w₁,hq,fun k' hk=>s1.trans (FH.1 k' (by simp[exitTo,hk])),fun hr hk=>let⟨k₁,h1,h2⟩:=FH.2 hr (by simp[exitTo,hk]);⟨k₁,h1,s1.trans h2⟩⟩
 |goto l=>exact hq.elim
 |ret=>exact⟨_,a₁,w₁,hq,.of_steps s1 FH⟩
 |panic ch=>exact⟨_,a₁,w₁,hq,.of_steps s1 FH⟩
 |outgrown=>exact⟨_,a₁,w₁,hq,.of_steps s1 FH⟩
mutual
theorem Qk:∀{v u:V},v.same u=true→v=u
 |.op i o,u,h=>by cases u<;>simp only[V.same,No,cQ]at h;rw[IN h.1,IN h.2]
 |.oe i a o,u,h=>by cases u<;>simp only[V.same,No,cQ]at h;rw[IN h.1.1,IN h.1.2,IN h.2]
 |.os i,u,h=>by cases u<;>simp only[V.same,cQ]at h;rw[IN h]
 |.om i,u,h=>by cases u<;>simp only[V.same,cQ]at h;rw[IN h]
 |.yl i,u,h=>by cases u<;>simp only[V.same,cQ]at h;rw[IN h]
 |.it i,u,h=>by cases u<;>simp only[V.same,cQ]at h;rw[IN h]
 |.iy,u,h=>by cases u<;>simp only[V.same,cQ]at h;rfl
 |.fn f cs,u,h=>by cases u<;>simp only[V.same,No,cQ]at h;rw[IN h.1,Lv h.2]
 |.pv p,u,h=>by
  cases u<;>try (cases p<;>simp[V.same]at h;done)
  rename_i q;cases p<;>cases q<;>first|rfl|(simp[V.same]at h;done)|(simp only[V.same,No,AT]at h;rw[h.1,h.2])
 |.fR _ _ _,u,h=>by cases u<;>simp[V.same]at h
 |.agg _,u,h=>by cases u<;>simp[V.same]at h
 |.aO _,u,h=>by cases u<;>simp[V.same]at h
 |.top,u,h=>by cases u<;>simp[V.same]at h
theorem Lv:∀{vs us:List V},Hw vs us=true→vs=us
 |[],us,h=>by
  cases us with
  |nil=>rfl
  |cons _ _=>simp[Hw]at h
 |v::vs,us,h=>by
  cases us with
  |nil=>simp[Hw]at h
  |cons u us=>simp only[Hw,No]at h;rw[Qk h.1,Lv h.2]
end
variable{R:Type}
theorem Ql{T:Type}:∀{kh:List Sh}{vs:List V}{t:T}{k:PU kh T→Option R}{r:R},kj kh vs t k=some r→∃x,k x=some r∧tn kh x=(vs,t)∧vs.length=kh.length∧∀M,(∀sh∈kh,sh.within M=true)→kS M vs=true:=by
 intro kh;induction kh with
 |nil=>
  intro vs t k r h;cases vs with
  |nil=>exact⟨t,h,rfl,rfl,fun _ _=>rfl⟩
  |cons v vs=>simp[kj]at h
 |cons sh kh ih=>
  intro vs t k r h;cases vs with
  |nil=>cases sh<;>simp[kj]at h
  |cons v vs=>
   have push:∀{M},v.within M=true→kS M vs=true→kS M (v::vs)=true:=fun h1 h2=>by simp[kS,h1,h2]
   cases sh with
   |own u=>
    simp only[kj]at h;split at h
    ·rename_i hs;obtain⟨x,x1,x2,x3,x4⟩:=ih h;have:=Qk hs;subst this;refine⟨x,x1,by simp only[tn];rw[x2],by simp[x3],fun M hM=>push ?_ (x4 M fun s hs=>hM s (by simp[hs]))⟩;exact hM (.own u) (by simp)
    ·cases h
   |int q=>
    cases v<;>try (simp[kj]at h;done)
    rename_i p;cases p<;>try (simp[kj]at h;done)
    simp only[kj]at h;split at h
    ·rename_i hq;subst hq;obtain⟨x,x1,x2,x3,x4⟩:=ih h;exact⟨_,x1,by simp only[tn];rw[x2],by simp[x3],fun M hM=>push rfl (x4 M fun s hs=>hM s (by simp[hs]))⟩
    ·cases h
   |row id off=>
    cases v<;>try (simp[kj]at h;done)
    rename_i tl i vz;simp only[kj]at h;split at h
    ·rename_i hq;obtain⟨rfl,rfl⟩:=hq;obtain⟨x,x1,x2,x3,x4⟩:=ih h;exact⟨_,x1,by simp_all[tn,akc],by simp[x3],fun M hM=>push (hM (.row tl vz) (by simp)) (x4 M fun s hs=>hM s (by simp[hs]))⟩
    ·cases h
   |raw=>
    cases v<;>try (simp[kj]at h;done)
    simp only[kj]at h;obtain⟨x,x1,x2,x3,x4⟩:=ih h;exact⟨_,x1,by simp only[tn];rw[x2],by simp[x3],fun M hM=>push rfl (x4 M fun s hs=>hM s (by simp[hs]))⟩
   |bool=>
    cases v<;>try (simp[kj]at h;done)
    rename_i p;cases p<;>try (simp[kj]at h;done)
    simp only[kj]at h;obtain⟨x,x1,x2,x3,x4⟩:=ih h;exact⟨_,x1,by simp only[tn];rw[x2],by simp[x3],fun M hM=>push rfl (x4 M fun s hs=>hM s (by simp[hs]))⟩
   |str=>
    cases v<;>try (simp[kj]at h;done)
    rename_i p;cases p<;>try (simp[kj]at h;done)
    simp only[kj]at h;obtain⟨x,x1,x2,x3,x4⟩:=ih h;exact⟨_,x1,by simp only[tn];rw[x2],by simp[x3],fun M hM=>push rfl (x4 M fun s hs=>hM s (by simp[hs]))⟩
   |rp n=>
    cases v<;>try (simp[kj]at h;done)
    rename_i p;cases p<;>try (simp[kj]at h;done)
    rename_i cs;simp only[kj]at h;split at h
    ·rename_i hq;obtain⟨x,x1,x2,x3,x4⟩:=ih h;have he:aC n (.agg cs)=cs:=by
      apply aks;intro j;by_cases hj:j<n
      ·have hl:j<(aC n (.agg cs)).length:=by rw[aW];omega
       rw[cN hl];obtain⟨_,h6⟩:=pw (cN hl);simp_all[cell,PV.cells,List.getD]
      simp_all[alv,aW]
     exact⟨_,x1,by simp only[tn];rw[x2,he],by simp[x3],fun M hM=>push rfl (x4 M fun s hs=>hM s (by simp[hs]))⟩
    ·cases h
   |fs s=>
    cases v<;>try (simp[kj]at h;done)
    rename_i p;simp only[kj]at h;obtain⟨ls,hls,h⟩:=cT.1 h;obtain⟨x,x1,x2,x3,x4⟩:=ih h;exact⟨_,x1,by grind [tn,P9],by simp[x3],fun M hM=>push rfl (x4 M fun s hs=>hM s (by simp[hs]))⟩
   |rs sz=>
    cases v<;>try (simp[kj]at h;done)
    rename_i p;cases p<;>try (simp[kj]at h;done)
    simp only[kj]at h;split at h
    ·rename_i hq;subst hq;obtain⟨x,x1,x2,x3,x4⟩:=ih h;exact⟨_,x1,by simp only[tn];rw[x2],by simp[x3],fun M hM=>push rfl (x4 M fun s hs=>hM s (by simp[hs]))⟩
    ·cases h
theorem Ay:∀{l:List (Nat×Option bH)}{id:Nat}{b:bH},Et l id=some b→∃x∈l,x.1=id∧x.2=some b
 |[],_,_,h=>by simp[Et]at h
 |(d,b')::r,id,b,h=>by
  simp only[Et]at h;cases e:Nat.beq id d with
  |true=>rw[e]at h;exact⟨(d,b'),by simp,(IN e).symm,h⟩
  |false=>rw[e]at h;obtain⟨x,hx,h1,h2⟩:=Ay h;exact⟨x,by simp[hx],h1,h2⟩
theorem Bn:∀{l:List (Nat×Option bH)}{id:Nat},(∀x∈l,x.2.isSome=true)→(∃x∈l,x.1=id)→(Et l id).isSome=true
 |[],_,_,⟨x,hx,_⟩=>by cases hx
 |(d,b')::r,id,h,⟨x,hx,he⟩=>by
  simp only[Et];cases e:Nat.beq id d with
  |true=>simp_all
  |false=>
   rcases ake.1 hx with rfl|hx
   ·simp_all
   ·exact Bn (fun y hy=>h y (by simp[hy])) ⟨x,hx,he⟩
theorem aae{m:Mem}:∀{bs:List (Nat×DO)}{k:Ks bs→Option R}{r:R},uI m bs k=some r→∃x,k x=some r∧(dJ bs x).map (·.1)=bs.map (·.1)∧(∀y∈dJ bs x,∃b,y.2=some b∧m y.1=some b)∧∀M,(∀y∈bs,y.2.within M=true)→∀y∈dJ bs x,∀b,y.2=some b→b.within M=true:=by
 intro bs;induction bs with
 |nil=>intro k r h;exact⟨(),h,rfl,by simp[dJ],by simp[dJ]⟩
 |cons y bs ih=>
  intro k r h;obtain⟨id,sh⟩:=y;cases sh with
  |box cs=>
   simp only[uI]at h;split at h
   ·rename_i vs hm;obtain⟨t,t1,t2,t3,t4⟩:=ih h;obtain⟨x,x1,x2,x3,x4⟩:=Ql t1;refine⟨x,x1,by simp only[dJ,x2];simp[t2],fun y hy=>?_,fun M hM y hy b hb=>?_⟩
    ·simp only[dJ,x2]at hy;grind
    ·simp only[dJ,x2]at hy;rcases ake.1 hy with rfl|hy
     ·simp only[cO]at hb;subst hb;simp only[bH.within];refine x4 M fun s hs=>?_;have:=hM (id,.box cs) (by simp);grind [DO.within,List.all_eq_true]
     grind
   ·cases h
  |arr sz et=>
   simp only[uI]at h;split at h
   ·rename_i GW GX es hm;split at h
    ·rename_i he;obtain⟨rfl,rfl⟩:=he;obtain⟨t,t1,t2,t3,t4⟩:=ih h;refine⟨(es,t),t1,by simp only[dJ];simp[t2],fun y hy=>?_,fun M hM y hy b hb=>?_⟩
     ·simp only[dJ]at hy;grind
     ·simp only[dJ]at hy;rcases ake.1 hy with rfl|hy
      ·simp only[cO]at hb;subst hb;rfl
      grind
    ·cases h
   ·cases h
  |rD sz et=>
   simp only[uI]at h;split at h
   ·rename_i GW GX es hm;split at h
    ·rename_i he;obtain⟨rfl,rfl⟩:=he;obtain⟨t,t1,t2,t3,t4⟩:=ih h;refine⟨(es,t),t1,by simp only[dJ];simp[t2],fun y hy=>?_,fun M hM y hy b hb=>?_⟩
     ·simp only[dJ]at hy;grind
     ·simp only[dJ]at hy;rcases ake.1 hy with rfl|hy
      ·simp only[cO]at hb;subst hb;rfl
      grind
    ·cases h
   ·cases h
  |nest sz et=>
   simp only[uI]at h;split at h
   ·rename_i GW GX es hm;split at h
    ·rename_i he;obtain⟨rfl,rfl⟩:=he;obtain⟨t,t1,t2,t3,t4⟩:=ih h;refine⟨(es,t),t1,by simp only[dJ];simp[t2],fun y hy=>?_,fun M hM y hy b hb=>?_⟩
     ·simp only[dJ]at hy;grind
     ·simp only[dJ]at hy;rcases ake.1 hy with rfl|hy
      ·simp only[cO]at hb;subst hb;rfl
      grind
    ·cases h
   ·cases h
  |fh kt et=>
   simp only[uI]at h;split at h
   ·rename_i xh GX es hm;split at h
    ·rename_i he;obtain⟨rfl,rfl⟩:=he;obtain⟨t,t1,t2,t3,t4⟩:=ih h;refine⟨(es,t),t1,by simp only[dJ];simp[t2],fun y hy=>?_,fun M hM y hy b hb=>?_⟩
     ·simp only[dJ]at hy;grind
     ·simp only[dJ]at hy;rcases ake.1 hy with rfl|hy
      ·simp only[cO]at hb;subst hb;rfl
      grind
    ·cases h
   ·cases h
  |map kt=>
   simp only[uI]at h;split at h
   ·rename_i xh es hm;split at h
    ·rename_i he;subst he;obtain⟨t,t1,t2,t3,t4⟩:=ih h;refine⟨(es,t),t1,by simp only[dJ];simp[t2],fun y hy=>?_,fun M hM y hy b hb=>?_⟩
     ·simp only[dJ]at hy;grind
     ·simp only[dJ]at hy;rcases ake.1 hy with rfl|hy
      ·simp only[cO]at hb;subst hb;rfl
      grind
    ·cases h
   ·cases h
  |iter ty=>
   simp only[uI]at h;split at h
   ·rename_i t' es hm;split at h
    ·rename_i he;subst he;obtain⟨t,t1,t2,t3,t4⟩:=ih h;refine⟨(es,t),t1,by simp only[dJ];simp[t2],fun y hy=>?_,fun M hM y hy b hb=>?_⟩
     ·simp only[dJ]at hy;grind
     ·simp only[dJ]at hy;rcases ake.1 hy with rfl|hy
      ·simp only[cO]at hb;subst hb;rfl
      grind
    ·cases h
   ·cases h
  |loop=>
   simp only[uI]at h;split at h
   ·rename_i hm;obtain⟨t,t1,t2,t3,t4⟩:=ih h;refine⟨t,t1,by simp only[dJ];simp[t2],fun y hy=>?_,fun M hM y hy b hb=>?_⟩
    ·simp only[dJ]at hy;grind
    ·simp only[dJ]at hy;rcases ake.1 hy with rfl|hy
     ·simp only[cO]at hb;subst hb;rfl
     grind
   ·cases h
  |busy=>
   simp only[uI]at h;split at h
   ·rename_i hm;obtain⟨t,t1,t2,t3,t4⟩:=ih h;refine⟨t,t1,by simp only[dJ];simp[t2],fun y hy=>?_,fun M hM y hy b hb=>?_⟩
    ·simp only[dJ]at hy;grind
    ·simp only[dJ]at hy;rcases ake.1 hy with rfl|hy
     ·simp only[cO]at hb;subst hb;rfl
     grind
   ·cases h
mutual
theorem FI{M:List Nat}{id:Nat}:∀(v:V),v.within M=true→v.has id=true→id∈M
 |.agg cs,h,hh=>pT cs (by simpa only[V.within]using h) (by simpa only[V.has]using hh)
 |.aO cs,h,hh=>pT cs (by simpa only[V.within]using h) (by simpa only[V.has]using hh)
 |.fn _ cs,h,hh=>pT cs (by simpa only[V.within]using h) (by simpa only[V.has]using hh)
 |.os j,h,hh=>by have:=IN hh;subst this;simpa[V.within]using h
 |.fR j _ _,h,hh=>by have:=IN hh;subst this;simpa[V.within]using h
 |.oe j _ _,h,hh=>by have:=IN hh;subst this;simpa[V.within]using h
 |.om j,h,hh=>by have:=IN hh;subst this;simpa[V.within]using h
 |.xn j _ _,h,hh=>by have:=IN hh;subst this;simpa[V.within]using h
 |.AX j _ _ _ _ _,h,hh=>by have:=IN hh;subst this;simpa[V.within]using h
 |.op j _,h,hh=>by have:=IN hh;subst this;simpa[V.within]using h
 |.it j,h,hh=>by have:=IN hh;subst this;simpa[V.within]using h
 |.yl j,h,hh=>by have:=IN hh;subst this;simpa[V.within]using h
 |.pv _,_,hh=>by cases hh
 |.iy,_,hh=>by cases hh
 |.top,_,hh=>by cases hh
theorem pT{M:List Nat}{id:Nat}:∀(cs:List V),kS M cs=true→b8 id cs=true→id∈M
 |[],_,hh=>by cases hh
 |v::r,h,hh=>by
  simp only[kS,No]at h;simp only[b8,akp]at hh;rcases hh with hh|hh
  ·exact FI v h.1 hh
  ·exact pT r h.2 hh
end
theorem VX{f:Fr}:∀(bM:List (Nat×Sh))(t:Nat),Nl (rW bM (bM.map fun(x:Nat×Sh)=>f x.1)) t=f t∨Nl (rW bM (bM.map fun(x:Nat×Sh)=>f x.1)) t=.top
 |[],t=>.inr rfl
 |(d,s)::r,t=>by
  simp only[akn,rW,Nl,gu];cases e:Nat.beq t d with
  |true=>simp_all
  |false=>exact VX r t
theorem FJ{f:Fr}{M:List Nat}:∀(bM:List (Nat×Sh)),kS M (bM.map fun(x:Nat×Sh)=>f x.1)=true→∀t,(Nl (rW bM (bM.map fun(x:Nat×Sh)=>f x.1)) t).within M=true
 |[],_,t=>rfl
 |(d,s)::r,h,t=>by
  simp only[akn,kS,No]at h;simp only[akn,rW,Nl,gu];cases e:Nat.beq t d with
  |true=>simp_all
  |false=>exact FJ r h.2 t
theorem FK{T:Hs}{f:Fr}{m:Mem}{k:T.ty→Option R}{r:R}(h:enc T f m k=some r):∃x,k x=some r∧wH (Nt T x) f∧(∀id b,EH T x id=some b→m id=some b)∧(∀t id,(Nt T x t).has id=true→(EH T x id).isSome=true)∧∀j cs id,EH T x j=some (.box cs)→b8 id cs=true→(EH T x id).isSome=true:=by
 unfold enc at h;split at h
 ·rename_i tt;obtain⟨t,t1,t2,t3,t4⟩:=aae h;obtain⟨x,x1,x2,x3,x4⟩:=Ql t1;simp only[Hs.ok,No,akJ]at tt;have qk:∀id,id∈T.Ad.map (·.1)→(EH T x id).isSome=true:=fun id hid=>by
   unfold EH;rw[x2];refine Bn (fun y hy=>?_) ?_
   ·grind
   grind
  refine⟨x,x1,fun s=>?_,fun id b hb=>?_,fun s id hid=>qk id ?_,fun j cs id hj hh=>qk id ?_⟩
  ·simp_all[Nt,VX]
  ·unfold EH at hb;grind [Ay]
  ·have hw:=x4 (T.Ad.map (·.1)) fun s hs=>by simp only[Hs.kh,akt]at hs;grind
   have:=FJ (M:=T.Ad.map (·.1)) T.bM hw s;unfold Nt at hid;grind [FI]
  ·unfold EH at hj;rw[x2]at hj;obtain⟨y,hy,h1,h2⟩:=Ay hj;have:=t4 (T.Ad.map (·.1)) (fun z hz=>tt.2 z hz) y hy _ h2;grind [pT,bH.within]
 ·cases h
section
variable {E:Env} {w0:bA}
variable{nt:Nat}{μ:Ro}{φ:Nat→aA}{f:Fr}{m:Mem}{a:Act}{w:World}
theorem Rel.dec{f':Fr}{m':Mem}(h:Rel E.P E.aG nt w0 μ φ f m a w)(hf:wH f' f)(hm:∀id b,m' id=some b→m id=some b)(hl:∀t id,(f' t).has id=true→(m' id).isSome=true)(hb:∀j cs id,m' j=some (.box cs)→b8 id cs=true→(m' id).isSome=true):Rel E.P E.aG nt w0 μ φ f' m' a w:={below:=h.below,ro:=h.ro,aG:=h.aG,dy:=fun id b hb=>h.dy id b (hm id b hb),own:=fun id b g hb hg=>h.own id b g (hm id b hb) hg,inj:=fun UY id2 b1 b2 g h1 h2=>h.inj UY id2 b1 b2 g (hm _ _ h1) (hm _ _ h2),apart:=fun id b hb=>h.apart id b (hm id b hb),fT:=hb,base:=h.base,dC:=h.dC,C5:=fun id st hid=>h.C5 id st (hm _ _ hid),size:=h.size,defers:=h.defers,nf:=h.nf,fr:=(h.weaken hf).fr,live:=hl}
theorem Rel.set(h:Rel E.P E.aG nt w0 μ φ f m a w){t:Nat}{p:PV}(hp:ah E.P μ p (bM nt w0 a t)):Rel E.P E.aG nt w0 μ φ (gu f t (.pv p)) m a w:=
 {toav:=h.toav,size:=h.size,defers:=h.defers,nf:=h.nf,fr:=fun s=>by
   by_cases e:s=t
   ·subst e;rw[Aj];exact .pv hp
   ·rw[se e];exact h.fr s,
  live:=fun s id hid=>by
   by_cases e:s=t
   ·simp_all
   ·rw[se e]at hid;exact h.live s id hid}
theorem Rel.freeze{nt:Nat}{μ:Ro}{φ:Nat→aA}{f:Fr}{m:Mem}{a:Act}{w:World}(h:Rel E.P E.aG nt w0 μ φ f m a w){id sz:Nat}{et:TypeId}{es:List PV}(hm:m id=some (.arr sz et es)):Rel E.P E.aG nt w0 (qM μ w (φ id).g) φ f (ao m id (.rD sz et es)) a w:=
 {toav:=h.toav.freeze hm,size:=h.size,defers:=h.defers.mono (mG h.toav _),nf:=h.nf,fr:=fun s=>(h.fr s).zD (mG h.toav _),live:=fun s i hid=>by
   by_cases e:i=id
   ·simp_all
   ·rw[aq e];exact h.live s i hid}
theorem uY{A:Type}{nt:Nat}{a:Act}{w:World}:∀{l:List (Nat×Nat)}{μ:Ro}{φ:Nat→aA}{f:Fr}{m:Mem}{k:Fr→Mem→A}{r:A},C1 l f m k=r→Rel E.P E.aG nt w0 μ φ f m a w→∃f' m' μ',k f' m'=r∧Rel E.P E.aG nt w0 μ' φ f' m' a w
 |[],μ,φ,f,m,k,r,h,hR=>⟨f,m,μ,h,hR⟩
 |(t,sz)::l,μ,φ,f,m,k,r,h,hR=>by
  unfold C1 at h;split at h
  ·rename_i id hf;have hx:af E.P μ φ (.os id) (bM nt w0 a t):=hf▸hR.fr t;split at h
   ·rename_i s et es hm;have hF:=hR.freeze hm;have hA:=hF.toav.arr (.inr (bL m id _));have hp:ah E.P (qM μ w (φ id).g) (.rs s es) (bM nt w0 a t):=hA.full hF.toav (hx.zD (mG hR.toav _)) (fun _ _ h=>h) (fun g hg=>by simp[qM,hg]);exact uY h (hF.set hp)
   ·rename_i s et es hm;have hB:gM E.P μ φ w id (.rD s et es):=hR.dy id _ hm;have hp:ah E.P μ (.rs s es) (bM nt w0 a t):=(hR.toav.arr (.inr hm)).full hR.toav hx (fun _ _ h=>h) (fun g hg=>by obtain⟨o,ho⟩:=akq.1 (hB.2 g hg);rw[ho,hR.ro _ _ ho]);exact uY h (hR.set hp)
   ·exact uY h hR
  ·rename_i hf;have hx:af E.P μ φ .iy (bM nt w0 a t):=hf▸hR.fr t;have hp:ah E.P μ (.rs sz []) (bM nt w0 a t):=by generalize bM nt w0 a t=y at hx;cases hx;exact .lG
   exact uY h (hR.set hp)
  ·exact uY h hR
variable{id:Nat}
theorem Lw{u:V}:∀(cs:List V)(j:Nat),b8 id (cs.set j u)=true→b8 id cs=true∨u.has id=true:=by
 intro cs j h;obtain⟨v,hv,hh⟩:=cz.1 h;rcases List.mem_or_eq_of_mem_set hv with h1|h1
 ·exact .inl (cz.2 ⟨v,h1,hh⟩)
 simp_all
theorem Rel.VY(h:Rel E.P E.aG nt w0 μ φ f m a w){j:Nat}{cs:List V}{u:V}(hm:m id=some (.box cs))(hj:cs[j]?=some .iy)(hu:af E.P μ φ u (.slice none 0 0))(hl:∀i,u.has i=true→(m i).isSome=true):Rel E.P E.aG nt w0 μ φ f (ao m id (.box (cs.set j u))) a w:=by
 have key:∀i b,ao m id (.box (cs.set j u)) i=some b→(i=id∧b=.box (cs.set j u))∨m i=some b:=fun i b hb=>by
  by_cases e:i=id
  ·simp_all
  simp_all[aq]
 have zS:∀i,(m i).isSome=true→(ao m id (.box (cs.set j u)) i).isSome=true:=fun i hi=>by
  by_cases e:i=id
  ·simp_all
  ·rw[aq e];omega
 have back:∀i b,ao m id (.box (cs.set j u)) i=some b→∃b',m i=some b'∧(b.jR=true→b'.jR=true)∧b.rowAt=b'.rowAt:=fun i b hb=>by
  rcases key i b hb with⟨rfl,rfl⟩|hb
  ·exact⟨_,hm,fun _=>rfl,rfl⟩
  simp_all
 exact
 {below:=h.below,ro:=h.ro,aG:=h.aG,dy:=fun i b hb=>by
   rcases key i b hb with⟨rfl,rfl⟩|hb
   ·obtain⟨g,c,T,c1,c2,c3,c4,c5,c6⟩:=h.dy _ _ hm;refine⟨g,c,T,c1,c2,by simpa using c3,fun i v x hv hx=>?_,c5,by simpa using c6⟩;rw[akQ]at hv;split at hv
    ·rename_i e;subst e;split at hv
     ·simp only[cO]at hv;subst hv;have:=c4 j .iy x hj hx;cases this;omega
     ·cases hv
    ·exact c4 i v x hv hx
   ·exact h.dy i b hb,
  own:=fun i b g hb hg=>by obtain⟨b',jc,Kv,wA⟩:=back i b hb;obtain⟨o1,o2⟩:=h.own i b' g jc (by simp_all[bH.owns]);simp_all,
  inj:=fun UY id2 b1 b2 g h1 h2 g1 g2=>by obtain⟨b1',h1',_,r1⟩:=back UY b1 h1;obtain⟨b2',ZW,_,r2⟩:=back id2 b2 h2;exact h.inj UY id2 b1' b2' g h1' ZW (by simp_all[bH.owns]) (by simp_all[bH.owns]),
  apart:=fun i b hb=>by obtain⟨b',jc,_,wA⟩:=back i b hb;have:=h.apart i b' jc;unfold bH.apart at this⊢;rw[wA];omega,
  fT:=fun i Nz tl hi hid=>by
   rcases key i _ hi with⟨rfl,he⟩|hi
   ·simp only[bH.box.injEq]at he;subst he;rcases Lw _ _ hid with hid|hid
    ·exact zS _ (h.fT _ _ _ hm hid)
    simp_all
   ·exact zS _ (h.fT _ _ _ hi hid),
  base:=h.base,dC:=h.dC,
  C5:=fun i st hi=>by
   rcases key i _ hi with⟨_,he⟩|hi
   ·cases he
   ·exact h.C5 i st hi,
  size:=h.size,defers:=h.defers,nf:=h.nf,fr:=h.fr,
  live:=fun t i hid=>zS _ (h.live t i hid)}
variable{et:TypeId}
theorem Rel.ac7(h:Rel E.P E.aG nt w0 μ φ f m a w){UM:Nat}(hn:m UM=none)(fl:0<aN E.P et):∃φ',(φ' UM).g=none∧Rel E.P E.aG nt w0 μ φ' f (ao m UM (.arr (aN E.P et) et [])) a w:=by
 have hf:fresh false UM (.arr (aN E.P et) et []) f m (fun f m _=>some (f,m))=some (f,ao m UM (.arr (aN E.P et) et [])):=by simp[fresh,hn]
 obtain⟨f1,m1,_,hk,_,_,wF⟩:=ef hf;simp only[cO,Ua]at hk;obtain⟨rfl,rfl⟩:=hk;obtain⟨φ',a1,a2,a3⟩:=wF E.P E.aG w0 μ φ w w (bM nt w0 a) (DQ none 0 0 (aN E.P et)) h.toav ⟨h.fr,h.live⟩ ⟨lM.refl _ _,h.toav.ro,fun _ _ _ _ _=>rfl,by simp,fun φ' hp _=>by refine⟨by rw[hp];rfl,by rw[hp],rfl,fl,by simp,by rw[hp];simp[maxLen],?_⟩;simp_all,by simp[bH.names],fun st h=>by cases h⟩;exact⟨φ',by rw[a1],{toav:=a2,size:=h.size,defers:=h.defers,nf:=h.nf,fr:=a3.fr,live:=a3.live}⟩
theorem uZ{A:Type}{nt:Nat}{a:Act}{w:World}:∀{l:List (Nat×Nat×Nat×TypeId)}{μ:Ro}{φ:Nat→aA}{f:Fr}{m:Mem}{k:Mem→A}{r:A},C2 E.P l m k=r→Rel E.P E.aG nt w0 μ φ f m a w→∃m' φ',k m'=r∧Rel E.P E.aG nt w0 μ φ' f m' a w
 |[],μ,φ,f,m,k,r,h,hR=>⟨m,φ,h,hR⟩
 |(id,j,UM,et)::l,μ,φ,f,m,k,r,h,hR=>by
  unfold C2 at h;split at h
  ·rename_i cs hm;split at h
   ·rename_i hj;split at h
    ·rename_i hn;split at h
     ·rename_i fl;obtain⟨φ',g0,kn⟩:=hR.ac7 hn fl;have cK:id≠UM:=fun e=>by simp_all
      exact uZ h (kn.VY (by rw[aq cK];omega) hj (.tp g0) fun i hi=>by have:=IN hi;subst this;simp)
     ·exact uZ h hR
    ·exact uZ h hR
   ·exact uZ h hR
  ·exact uZ h hR
theorem Bo{A:Type}{nt:Nat}{a:Act}{w:World}:∀{l:List (Nat×Nat×Nat)}{μ:Ro}{φ:Nat→aA}{f:Fr}{m:Mem}{k:Mem→A}{r:A},Hx l m k=r→Rel E.P E.aG nt w0 μ φ f m a w→∃m',k m'=r∧Rel E.P E.aG nt w0 μ φ f m' a w
 |[],μ,φ,f,m,k,r,h,hR=>⟨m,h,hR⟩
 |(id,j,sz)::l,μ,φ,f,m,k,r,h,hR=>by
  unfold Hx at h;split at h
  ·rename_i cs hm;split at h
   ·rename_i hj;exact Bo h (hR.VY hm hj (.pv .lG) (fun i hi=>by cases hi))
   ·exact Bo h hR
  ·exact Bo h hR
theorem jb{T:Type}{l:List T}{n i:Nat}{e:T}(h:(l.take n)[i]?=some e):l[i]?=some e∧i<n:=by grind
theorem Rel.aaf(h:Rel E.P E.aG nt w0 μ φ f m a w){s:Nat}{es:List PV}(hm:m id=some (.arr s et es)):Rel E.P E.aG nt w0 μ φ f (ao m id (.nest s et es)) a w:=by
 have hA:aH E.P μ φ w id s et es:=h.dy id _ hm;have key:∀i b,ao m id (.nest s et es) i=some b→(i=id∧b=.nest s et es)∨m i=some b:=fun i b hb=>by
  by_cases e:i=id
  ·simp_all
  simp_all[aq]
 have zS:∀i,(m i).isSome=true→(ao m id (.nest s et es) i).isSome=true:=fun i hi=>by
  by_cases e:i=id
  ·simp_all
  ·rw[aq e];omega
 have hN:aX E.P μ φ w id s et es:=by
  obtain⟨h1,h2,h3,h4,h5,h6,h7⟩:=hA;refine⟨h1,h2,h3,h4,h5,h6,?_⟩;cases hg:(φ id).g with
  |none=>rw[hg]at h7;omega
  |some g=>rw[hg]at h7;obtain⟨c,T,c1,c2,c3,c4,c5⟩:=h7;exact⟨c,T,c1,c2,c3,fun i e j p x he hp hx=>.pure (c4 i e j p x he hp hx),c5⟩
 have Ee:∀i off,(bH.nest s et es).rowAt i off=true→False:=fun i off hr=>by
  rcases kx hr with⟨_,_,_,e,s',rs,hb,he,hp⟩|⟨_,_,_,_,_,_,hb,_⟩
  ·cases hb;obtain⟨h1,h2,h3,h4,h5,h6,h7⟩:=hA;cases hg:(φ id).g with
   |none=>simp_all
   |some g=>
    rw[hg]at h7;obtain⟨c,T,c1,c2,c3,c4,c5⟩:=h7;have hi:i<es.length:=(By.1 he).1;have hj:off<s:=by grind
    have bZ:i*s+off<c.size:=by have:(i+1)*s≤(φ id).cap*s:=ahw _ (by omega);grind
    exact Bool.noConfusion (ah.Ea (c4 i e off _ _ he hp (OF bZ)))
  ·cases hb
 have aj3:∀i off,(bH.arr s et es).rowAt i off=true→False:=rE;have hM:av E.P E.aG w0 μ φ (ao m id (.nest s et es)) w:=by
  refine h.toav.Qa (fun _ k=>k) (fun j b' hb=>?_) (fun j b' g hb hg=>?_) (fun j b' hb=>?_) (fun j cs i hb hh=>?_) (fun j st hb=>?_)
  ·rcases key j b' hb with⟨rfl,rfl⟩|hb
   ·exact hN
   ·exact h.dy j b' hb
  ·rcases key j b' hb with⟨rfl,rfl⟩|hb
   ·exact⟨j,_,hm,.inl (pA Ee hg),fun _=>rfl,rfl⟩
   grind
  ·rcases key j b' hb with⟨rfl,rfl⟩|hb
   ·exact sf Ee
   ·exact h.apart j b' hb
  ·rcases key j _ hb with⟨_,hb⟩|hb
   ·cases hb
   ·exact zS _ (h.fT j cs i hb hh)
  grind
 exact{toav:=hM,size:=h.size,defers:=h.defers,nf:=h.nf,fr:=h.fr,live:=fun t i hid=>zS _ (h.live t i hid)}
theorem FL{A:Type}{nt:Nat}{a:Act}{w:World}:∀{l:List Nat}{μ:Ro}{φ:Nat→aA}{f:Fr}{m:Mem}{k:Mem→A}{r:A},KW l m k=r→Rel E.P E.aG nt w0 μ φ f m a w→∃m',k m'=r∧Rel E.P E.aG nt w0 μ φ f m' a w
 |[],μ,φ,f,m,k,r,h,hR=>⟨m,h,hR⟩
 |id::l,μ,φ,f,m,k,r,h,hR=>by
  unfold KW at h;split at h
  ·rename_i s et es hm;exact FL h (hR.aaf hm)
  ·exact FL h hR
theorem Rel.cut(h:Rel E.P E.aG nt w0 μ φ f m a w){j d len s:Nat}{cs:List V}{es:List PV}(hm:m id=some (.box cs))(hj:cs[j]?=some (.fR d 0 len))(hd:m d=some (.arr s et es))(cK:d≠id):∃φ',Rel E.P E.aG nt w0 μ φ' (eS d f) (ao (ao (bh (bE d m) d) d (.arr s et (es.take len))) id (.box ((cs.map (tz d)).set j (.os d)))) a w:=by
 obtain⟨m',hm'⟩:∃m',m'=ao (ao (bh (bE d m) d) d (.arr s et (es.take len))) id (.box ((cs.map (tz d)).set j (.os d))):=⟨_,rfl⟩;rw[←hm'];obtain⟨g0,c,T,c1,c2,c3,c4,c5,c6⟩:=h.dy _ _ hm;have hA:aH E.P μ φ w d s et es:=h.dy d _ hd;have Am:j<cs.length:=(By.1 hj).1;have hx:=c4 j _ _ hj (OF (by omega));obtain⟨φ',f1,f2,f3,f4⟩:∃φ':Nat→aA,(∀i,i≠d→φ' i=φ i)∧(φ' d).g=(φ d).g∧aH E.P μ φ' w d s et (es.take len)∧af E.P μ φ' (.os d) c[j]:=by
  obtain⟨h1,h2,h3,h4,h5,h6,h7⟩:=hA;generalize c[j]=x at hx;cases hx with
  |rY hg=>refine⟨φ,fun _ _=>rfl,rfl,?_,.tp hg⟩;rw[hg]at h7;obtain⟨rfl,h7⟩:=h7;refine⟨h1,h2,h3,h4,by simp,h6,?_⟩;simp_all
  | @fR _ _ _ cap g ad hg hl ha hc hc'=>
   rw[hg]at h7;obtain⟨q,Tq,q1,q2,q3,q4,q5⟩:=h7;have hlen:(es.take len).length=len:=by simp_all
   have had:ad=⟨g,0,none⟩:=by simp_all
   subst had;refine⟨fun i=>if i=d then{φ d with cap:=cap,len:=len}else φ i,fun i hi=>IS hi,by simp,⟨by simp[hlen],by simpa using h2,h3,h4,fun i e he=>h5 i e (jb he).1,by simp;omega,?_⟩,?_⟩
   ·simp only[Ko,hg];refine⟨q,Tq,q1,akT (ahw _ (by omega)) q2,by omega,fun i e j p x he hp hx=>q4 i e j p x (jb he).1 hp hx,fun i x hi hx=>q5 i x (Nat.lt_of_lt_of_le hi (ahw _ (by omega))) hx⟩
   ·have:=af.os (P:=E.P) (μ:=μ) (φ:=fun i=>if i=d then{φ d with cap:=cap,len:=len}else φ i) (id:=d) (g:=g) (by simp[hg]);simpa using this
 have key:∀i b,m' i=some b→(i=id∧b=.box ((cs.map (tz d)).set j (.os d)))∨(i=d∧b=.arr s et (es.take len))∨(i≠id∧i≠d∧∃b',m i=some b'∧b=gv d b'):=fun i b hb=>by
  rw[hm']at hb;by_cases e:i=id
  ·simp_all
  ·rw[aq e]at hb;by_cases e':i=d
   ·simp_all
   simp_all[aq,fJ]
 have zS:∀i,(m i).isSome=true→(m' i).isSome=true:=fun i hi=>by
  rw[hm'];by_cases e:i=id
  ·simp_all
  ·rw[aq e];by_cases e':i=d
   ·simp_all
   simp_all[aq,tS]
 have ac8:∀{i:Nat}{b':bH},(gv d b').names i=true→i≠d:=fun{i b'}hn=>by cases b'<;>simp only[gv,bH.names]at hn<;>first|cases hn|exact(yY hn).2
 have hM:av E.P E.aG w0 μ φ' m' w:=by
  refine h.toav.Qa (fun _ k=>k) (fun i b' hb=>?_) (fun i b' g hb hg=>?_) (fun i b' hb=>?_) (fun i Nz i' hb hh=>?_) (fun i st hb=>?_)
  ·rcases key i b' hb with⟨rfl,rfl⟩|⟨rfl,rfl⟩|⟨e1,e2,b2,uQ,rfl⟩
   ·refine⟨g0,c,T,by grind,c2,by simpa using c3,fun n v x hv Jf=>?_,c5,by grind⟩;rw[akQ]at hv;split at hv
    ·simp_all
    ·simp only[IT,acG]at hv;obtain⟨v',Va,rfl⟩:=hv;exact((c4 n v' x Va Jf).kill d).mono (fun _ _ h=>h) fun i hi=>f1 i (xy hi).2
   ·exact f3
   ·exact(h.dy i b2 uQ).kill.cj (fun k hk=>f1 k (ac8 hk)) (f1 i e2) (fun _ _ h=>h) (fun _ _=>rfl)
  ·rcases key i b' hb with⟨rfl,rfl⟩|⟨rfl,rfl⟩|⟨e1,e2,b2,uQ,rfl⟩
   ·refine⟨i,_,hm,.inl ?_,fun _=>rfl,rfl⟩;have:=pA (by intro i off h;simp[bH.rowAt]at h) hg;grind
   ·refine⟨i,_,hd,.inl ?_,fun _=>rfl,rfl⟩;grind [pA,rE]
   ·refine⟨i,b2,uQ,?_,fun Kv=>by rw[yZ]at Kv;omega,rfl⟩;rw[f1 i e2]at hg;exact gp.1 hg
  ·rcases key i b' hb with⟨rfl,rfl⟩|⟨rfl,rfl⟩|⟨e1,e2,b2,uQ,rfl⟩
   ·grind [sf,bH.rowAt]
   ·exact sf rE
   ·rw[f1 i e2];exact vE.2 (h.apart i b2 uQ)
  ·rcases key i _ hb with⟨rfl,hb⟩|⟨rfl,hb⟩|⟨e1,e2,b2,uQ,e⟩
   ·simp only[bH.box.injEq]at hb;subst hb;rcases Lw _ _ hh with hh|hh
    ·exact zS _ (h.fT _ _ _ hm (yY hh).1)
    ·have:=IN hh;simp_all
   ·cases hb
   ·cases b2 with
    |box cs2=>simp only[gv,bH.box.injEq]at e;subst e;exact zS _ (h.fT _ _ _ uQ (yY hh).1)
    |_=>simp[gv]at e
  ·rcases key i _ hb with⟨rfl,hb⟩|⟨rfl,hb⟩|⟨e1,e2,b2,uQ,e⟩
   ·cases hb
   ·cases hb
   ·cases b2 with
    |loop st2=>simp_all[gv,bH.loop.injEq]
    |_=>simp[gv]at e
 exact⟨φ',{toav:=hM,size:=h.size,defers:=h.defers,nf:=h.nf,fr:=(fun t=>((h.fr t).kill d).mono (fun _ _ h=>h) fun i hi=>f1 i (xy hi).2),live:=fun t i hid=>zS _ (h.live t i (xy hid).1)}⟩
theorem va{A:Type}{nt:Nat}{a:Act}{w:World}:∀{l:List (Nat×Nat)}{μ:Ro}{φ:Nat→aA}{f:Fr}{m:Mem}{k:Fr→Mem→A}{r:A},C3 l f m k=r→Rel E.P E.aG nt w0 μ φ f m a w→∃f' m' φ',k f' m'=r∧Rel E.P E.aG nt w0 μ φ' f' m' a w
 |[],μ,φ,f,m,k,r,h,hR=>⟨f,m,φ,h,hR⟩
 |(id,j)::l,μ,φ,f,m,k,r,h,hR=>by
  unfold C3 at h;split at h
  ·rename_i cs hm;split at h
   ·rename_i d len hj;split at h
    ·rename_i s et es hd;split at h
     ·exact va h hR
     ·rename_i cK;have cK:d≠id:=fun e=>cK (by simp_all);obtain⟨φ',kn⟩:=hR.cut hm hj hd cK;exact va h kn
    ·exact va h hR
   ·exact va h hR
  ·exact va h hR
theorem Lx{A:Type}{T:Hs}{k:Fr→Mem→A}{r:A}(h:Hy E.P T f m k=r)(hR:Rel E.P E.aG nt w0 μ φ f m a w):∃f' m' μ' φ',k f' m'=r∧Rel E.P E.aG nt w0 μ' φ' f' m' a w:=by unfold Hy at h;obtain⟨_,_,_,h,hR⟩:=va h hR;obtain⟨m1,φ1,h,hR⟩:=uZ h hR;obtain⟨m',h,hR⟩:=Bo h hR;obtain⟨m',h,hR⟩:=FL h hR;obtain⟨f',m',μ',h,hR⟩:=uY h hR;grind
def VZ:Ex→Exit
 |.normal=>.normal
 |.exit id=>.exit id
 |.ret=>.ret
theorem Rel.V0(h:Rel E.P E.aG nt w0 μ φ f m a w):Rel E.P E.aG nt w0 μ φ f m a {w with drawn:=w.drawn+1}:={toav:=h.toav.drew,size:=h.size,defers:=h.defers,nf:=h.nf,fr:=h.fr,live:=h.live}
theorem SY{rd:Option Nat}(hE:ku E)(hY:uL E.P E.aG E.fn.ntmps E.yl w0){R:Type}{ops:Array Oper}{draw:Bool}{k:Ex→Fr→Mem→Option R}{r:R}(h:fI E (.region id ops draw) f m k=some r){Q:Exit→Act→World→Prop}(hR:Rel E.P E.aG E.fn.ntmps w0 μ φ f m a w)(hQ:∀f' m' μ' φ' a' w',k .normal f' m'=some r→Rel E.P E.aG E.fn.ntmps w0 μ' φ' f' m' a' w'→Q .normal a' w'):(Code.region id ops draw).wpIn (FR rd) 0 E.P Q a w:=by
 simp only[fI]at h;cases draw with
 |false=>
  simp only[cQ,abp]at h;refine wpIn_region ?_;have hmz:∀x∈(List.range ops.size).zip ops.toList,ops[x.1]?=some x.2:=fun x hx=>by have:=(tX (l:=ops.toList) (i:=x.1) (o:=x.2)).1 (by omega);simp_all
  have:=iV (rd:=rd) hE hY _ (.inl rfl) h hmz (by intro x hx g hg;cases hg) (fun h=>by omega) μ φ a w Q [] hR (by intro g hg;cases hg) fun f' m' μ' φ' a' w' hk kn _ _=>hQ f' m' μ' φ' a' w' hk kn;simp_all[akP,List.map_fst_zip]
 |true=>
  simp only[Ko]at h;split at h
  ·split at h
   ·rename_i hc;simp only[No]at hc;exact wpIn_region_any hE.mixed (N5 hE hY hc.1.1 hc.1.2 hc.2 h hR.V0 hQ)
   ·cases h
  split at h
  ·rename_i hi;refine wpIn_region_any hE.mixed ?_;split at h
   ·rename_i zu;exact FF hE hY (.inl rfl) (fun _ o ho=>(Bool.and_eq_true_iff.1 (akJ.1 zu o (alx.2 ho))).1) hi h hR.V0 hQ
   ·exact FF hE hY (.inr rfl) (fun h=>by omega) hi h hR.V0 hQ
  ·cases h
end
theorem aag{g:FuncId}{fn:Func}(hf:P.funcs[g]?=some fn)(abP:(fn.name== "runtime.NumGoroutine")=false)(hb:fn.body=some c){args:Array Value}{w:World}:(callFunc g args).run P w=.ok (.enter g args) w:=za hf abP hb
theorem SZ{nt:Nat}{w0:bA}{a:Act}{t:Nat}:bM nt w0 a (t+nt)=w0.sv (t+nt):=by unfold bM;rw[IS (by omega)]
def Cx(c:Code):Prop:=∀{E:Env}{w0:bA}{rd:Option Nat}(_:ku E)(_:uL E.P E.aG E.fn.ntmps E.yl w0)(_:E.rdb=false→rd=none){R:Type}{f:Fr}{m:Mem}{k:Ex→Fr→Mem→Option R}{r:R},fI E c f m k=some r→∀{μ:Ro}{φ:Nat→aA}{a:Act}{w:World}{Q:Exit→Act→World→Prop},Rel E.P E.aG E.fn.ntmps w0 μ φ f m a w→(∀e f' m' μ' φ' a' w',k e f' m'=some r→Rel E.P E.aG E.fn.ntmps w0 μ' φ' f' m' a' w'→Q (VZ e) a' w')→c.wpIn (FR rd) 0 E.P Q a w
theorem V1{as b:Code}(ihA:Cx as)(ihB:Cx b){E:Env}(hE:ku E){w2:bA}{lid l ntI:Nat}{ps:Array Nat}{rc:Loop}{fid:Nat}(hrc:w2.rc lid=some (l,rc))(qe:rc.params=ps)(has:rc.assign=as)(hb:rc.body=b)(oP:rc.tmps.size=E.fn.ntmps)(hsv:∀t,t<E.fn.ntmps→w2.sv (t+ntI)=rc.tmps.getD t undef):uL E.P E.aG ntI (fun _ nt _ id args F m k=>bif Nat.beq id lid then roundOf (fI {E with fid:=fid,yl:=B8,rdb:=true} as) (fI {E with fid:=fid,yl:=B8,rdb:=true} b) lid E.fn.ntmps ps.toList nt args F m k else none) w2:=by
 intro R site id args F m k r hy μ φ ρ w xs hM hF hρ hl hr Ja g hg;dsimp only at hy;cases hid:Nat.beq id lid with
 |false=>rw[hid]at hy;cases hy
 |true=>
  rw[hid]at hy;have hid:=IN hid;subst hid;simp only[cond_true]at hy;unfold roundOf at hy;split at hy
  ·rename_i Uy;split at hy
   ·rename_i Nc;obtain⟨g',rc',l1,l2,l3⟩:=hM.C5 id _ Uy;rw[hrc]at l2;simp only[cO,Ua]at l2;obtain⟨rfl,rfl⟩:=l2;rw[l1]at hg;simp only[cO]at hg;subst hg;have Kw:xs.size=(M8.ready.obj rc).params.size:=by
     have:ps.toList.length=ps.size:=by simp
     show xs.size=rc.params.size;rw[qe];omega
    refine⟨_,_,_,_,run_yield l3 Kw,?_⟩;have hE':ku {E with fid:=fid,yl:=B8,rdb:=true}:=⟨hE.mixed,hE.lp,hE.ctx,hE.own,hE.inl,hE.rng⟩;have ab1:=H7 (P:=E.P) (μ:=μ) (φ:=φ) ps.toList args xs.toList (xq ntI F) rc.tmps oP (by omega) (fun t ht=>by have:=hF.fr (t+ntI);rw[hρ _ (by omega),hsv t ht]at this;exact this) (fun i v x hv hx=>hr i v x hv (by simpa using hx));have hR3:Rel E.P E.aG E.fn.ntmps {w2 with sv:=fun t=>ρ (t-E.fn.ntmps),dC:=μ,nf:=fun _=>none} μ φ (PW E.fn.ntmps (EI ps.toList args (xq ntI F)) F) m {tmps:=((M8.ready.obj rc).params.zip xs).foldl (fun tmps(t,a)=>tmps.setIfInBounds t a) (M8.ready.obj rc).tmps,defers:=[]} w:=by
     have e:((M8.ready.obj rc).params.zip xs).foldl (fun tmps(t,a)=>tmps.setIfInBounds t a) (M8.ready.obj rc).tmps=(ps.toList.zip xs.toList).foldl (fun tmps(x:Nat×Value)=>tmps.setIfInBounds x.1 x.2) rc.tmps:=by rw[VW];show(rc.params.toList.zip xs.toList).foldl _ rc.tmps=_;rw[qe]
     rw[e];refine{toav:=hM.xx rfl rfl (fun _ _ h=>h) (fun _ _ _=>rfl),size:=ab1.1,defers:=.nil _ _ _,nf:=fun _ _ h=>(by cases h),fr:=fun t=>?_,live:=fun t id hid=>?_}
     ·unfold PW bM;by_cases ht:t<E.fn.ntmps
      ·rw[show Nat.blt t E.fn.ntmps=true by simp_all,AI ht];exact ab1.2 t ht
      ·rw[show Nat.blt t E.fn.ntmps=false by rw[←ak3,ak6];omega,IS ht];exact hF.fr _
     ·unfold PW at hid;cases e:Nat.blt t E.fn.ntmps with
      |true=>
       rw[e]at hid;rcases FG _ _ _ _ hid with h|h
       ·exact Ja id h
       ·exact hF.live _ id h
      |false=>rw[e]at hid;exact hF.live _ id hid
    refine roundIn_of_wpIn trivial ?_;show(M8.ready.obj rc).assign.wpIn (FR (some l)) 0 E.P _ _ _;have ha':(M8.ready.obj rc).assign=as:=has;rw[ha'];refine ihA (rd:=some l) hE' (A6 _ _ _ _) (fun h=>by cases h) hy hR3 fun e f1 m1 μ1 φ1 a1 w1 SE NZ=>?_;split at SE
    ·rename_i hm1;obtain⟨g1,rc1,p1,p2,p3⟩:=NZ.C5 id _ hm1;have p2:w2.rc id=some (g1,rc1):=p2;rw[hrc]at p2;simp only[cO,Ua]at p2;obtain⟨rfl,rfl⟩:=p2;refine⟨_,run_beginRound p3 rfl,?_⟩;have jc:(M8.ready.obj rc).body=b:=hb;refine Eq.mpr (congrArg (fun c:Code=>c.wpIn (FR (some l)) 0 E.P _ a1 _) jc) ?_;have vF:=NZ.toav.turn (st':=.busy) hm1 p1 hrc;have air:Rel E.P E.aG E.fn.ntmps {w2 with sv:=fun t=>ρ (t-E.fn.ntmps),dC:=μ,nf:=fun _=>none} μ1 φ1 f1 (ao m1 id (.loop .busy)) a1 (w1.putObj l (.loop {M8.ready.obj rc with state:=.busy})):=
      {toav:=vF,size:=NZ.size,defers:=NZ.defers,nf:=NZ.nf,fr:=NZ.fr,live:=fun t j hj=>by
        by_cases e:j=id
        ·subst e;simp
        ·rw[aq e];exact NZ.live t j hj}
     refine ihB (rd:=some l) hE' (A6 _ _ _ _) (fun h=>by cases h) SE air fun e f2 m2 μ2 φ2 a2 w2' SF HV=>?_;split at SF
     ·rename_i cL;obtain⟨g2,rc2,q1,q2,q3⟩:=HV.C5 id _ cL;have q2:w2.rc id=some (g2,rc2):=q2;rw[hrc]at q2;simp only[cO,Ua]at q2;obtain⟨rfl,rfl⟩:=q2;have hle:Lh μ μ2:=HV.dC;have hFp:bR E.P μ2 φ2 m2 (xq E.fn.ntmps f2) ρ:=by refine⟨fun t=>?_,fun t id hid=>HV.live _ id hid⟩;have:=HV.fr (t+E.fn.ntmps);simp_all[SZ,xq]
      have fin:∀(st:M8)(v:Bool),k (.pv (.bool v)) (xq E.fn.ntmps f2) (ao m2 id (.loop st))=some r→∃v' f' m' y μ' φ',k v' f' m'=some r∧Ending.returned (.bool v)=.returned y∧Lh μ μ'∧av E.P E.aG w2 μ' φ' m' (w2'.putObj l (.loop (st.obj rc)))∧bR E.P μ' φ' m' f' ρ∧af E.P μ' φ' v' y∧∀id,v'.has id=true→(m' id).isSome=true:=by
       intro st v hk;have hM2:=HV.toav.turn (st':=st) cL q1 hrc;refine⟨_,_,_,_,μ2,φ2,hk,rfl,hle,hM2.xx rfl rfl (fun b o hb=>hle b o (hM.dC b o hb)) (fun _ _ _=>rfl),⟨hFp.fr,fun t j hj=>?_⟩,.pv .bool,fun id hid=>by cases hid⟩;by_cases e:j=id
       ·subst e;simp
       ·rw[aq e];exact hFp.live t j hj
      cases e with
      |normal=>exact⟨_,_,run_endRound none q3,fin .ready true SF⟩
      |exit j=>exact⟨_,_,run_endRound (some (.exit j)) q3,fin (.done (.exit j)) false SF⟩
      |ret=>exact⟨_,_,run_endRound (some .ret) q3,fin (.done .ret) false SF⟩
     ·cases SF
    ·cases SE
   ·cases hy
  ·cases hy
theorem aah{μ:Ro}{φ:Nat→aA}{m:Mem}{v:V}{g:FuncId}{caps:List V}{y:Value}(h:acJ v=some (g,caps))(hv:af P μ φ v y)(hl:∀id,v.has id=true→(m id).isSome=true):∃xs,y=.func (.func g) #[] xs∧caps.length=xs.size∧(∀(i:Nat)v x,caps[i]?=some v→xs[i]?=some x→af P μ φ v x)∧∀id,b8 id caps=true→(m id).isSome=true:=by
 unfold acJ at h;split at h
 ·rename_i g0 c0;cases e:Nat.blt g0 Eu with
  |false=>rw[e]at h;cases h
  |true=>
  rw[e]at h;simp only[cond_true,cO,Ua]at h;obtain⟨rfl,rfl⟩:=h;cases hv with
  | @fn _ _ xs h1 h2=>grind [sa,id,V.has]
 ·rename_i g0 c0;cases e:Nat.blt g0 Eu with
  |false=>rw[e]at h;cases h
  |true=>
  rw[e]at h;simp only[cond_true,cO,Ua]at h;obtain⟨rfl,rfl⟩:=h;cases hv with
  |pv hv=>cases hv with
   | @fn _ _ xs h1 h2=>
    refine⟨xs,sa e,by simpa using h1,fun i v x hv hx=>?_,fun id hid=>?_⟩
    ·simp only[IT,acG]at hv;obtain⟨q,hq,rfl⟩:=hv;exact .pv (h2 i q x hq hx)
    ·obtain⟨v,hv,hh⟩:=cz.1 hid;obtain⟨q,_,rfl⟩:=akt.1 hv;cases hh
 ·cases h
theorem Jv{g:Operand}{ps:Array Tmp}{as b:Code}(ihA:Cx as)(ihB:Cx b):Cx (.rangeFunc g ps as b):=by
 intro E w0 rd hE hY pP R f m k r h μ φ a w Q hR hQ;simp only[fI]at h;split at h
 ·cases h
 rename_i hrb;have pP:=pP (by simpa using hrb);subst pP;split at h;rotate_left
 ·cases h
 rename_i p0 pr Kt;generalize aj4:cw E (some p0)=lid at h;obtain⟨f1,m1,_,h,Uy,zN,ais⟩:=ef h;obtain⟨hm0,rfl,rfl⟩:=zN rfl;refine wpIn_rangeFunc fun fn _=>?_;obtain⟨rec,q7⟩:∃rec:Loop,rec={state:=.ready,pending:=none,fn,tmps:=a.tmps,params:=ps,assign:=as,body:=b,defers:=w.heap.size}:=⟨_,rfl⟩;obtain⟨wD,hwD⟩:∃wD,wD=w.alloc (.deferred (some [])):=⟨_,rfl⟩;obtain⟨W1,hW1⟩:∃W1,W1=wD.alloc (.loop rec):=⟨_,rfl⟩;obtain⟨l,hl⟩:∃l,l=wD.heap.size:=⟨_,rfl⟩;have hl':l=w.heap.size+1:=by rw[hl,hwD];simp
 obtain⟨μD,ac9⟩:∃μD,μD=Dp μ w (.deferred (some [])):=⟨_,rfl⟩;have aai:Lh μ μD:=ac9▸Lu hR.toav _;have hMD:av E.P E.aG w0 μD φ m wD:=ac9▸hwD▸hR.toav.aac _;have hD:μD w.heap.size=some (.deferred (some [])):=by rw[ac9];simp[Dp]
 obtain⟨w1,NM⟩:∃w1:bA,w1={w0 with dC:=μD,rc:=fun i=>if i=lid then some (l,rec)else w0.rc i}:=⟨_,rfl⟩;have afm:av E.P E.aG w1 μD φ m wD:=NM▸hMD.xx rfl rfl (fun _ _ h=>h) (fun id st hid=>IS fun e=>by simp_all);have HJ:bM E.fn.ntmps w1 a=bM E.fn.ntmps w0 a:=by subst NM;rfl
 have hFD:bR E.P μD φ m f1 (bM E.fn.ntmps w0 a):=⟨fun t=>(hR.fr t).zD aai,hR.live⟩;have afn:w1.rc lid=some (l,rec):=by simp_all
 have Vb:W1.heap[l]?=some (.loop rec):=by grind [heap_alloc_new]
 have Ku:M8.ready.obj rec=rec:=by subst q7;rfl
 have mJ:lH E.P w1 μD φ m wD W1 lid (.loop .ready) (DQ (some l) 0 0 0):=by
  rw[hW1];refine lH.alloc afm (by rw[hl]) (fun φ' hp _=>⟨l,rec,by rw[hp],?_⟩) (by simp[bH.names]) fun st vp=>?_
  ·simp_all
  simp_all
 obtain⟨φ1,ait,vF,DS⟩:=ais E.P E.aG w1 μD φ wD W1 (bM E.fn.ntmps w0 a) (DQ (some l) 0 0 0) afm hFD mJ;have NZ:Rel E.P E.aG E.fn.ntmps w1 μD φ1 f1 (ao m lid (.loop .ready)) a W1:={toav:=vF,size:=hR.size,defers:=(by have:=hR.defers.mono aai;subst NM;omega),nf:=(by subst NM;exact fun b o hb=>aai b o (hR.dC b o (hR.nf b o hb))),fr:=fun t=>by rw[HJ];exact DS.fr t,live:=DS.live};have SQ:=al NZ g;split at h;rotate_left
 ·cases h
 rename_i gid caps qW;obtain⟨xs,hgv,hlen,lL,aiu⟩:=aah qW SQ.1 SQ.2
 ·clear SQ;obtain⟨fnI,cI,f1,f2,f3,zT⟩:=hE.rng _ _ _ _ _ _ _ _ _ h;have hyl:af E.P μD φ1 (.yl lid) (.func (.yield l) #[] #[]):=.yl (by rw[ait]);have hC:=zT w1 μD φ1 (bM E.fn.ntmps w0 a) W1 (#[.func (.yield l) #[] #[]]++xs) vF DS (by simp;omega) (fun i v x hv hx=>by
    grind) (fun id hid=>by
    simp only[b8,akp]at hid;rcases hid with hid|hid
    ·have:=IN hid;subst this;simp
    ·exact aiu id hid) (by
   refine fun R site id args F m k r hy=>V1 (fid:=site*4096+E.fid%4096) ihA ihB hE (w2:={w1 with sv:=fun t=>bM E.fn.ntmps w0 a (t-fnI.ntmps)}) (rc:=rec) (l:=l) (lid:=lid) (ps:=ps) afn (by subst q7;rfl) (by subst q7;rfl) (by subst q7;rfl) (by subst q7;exact hR.size) (fun t ht=>by grind [bM,Nat.add_sub_cancel,rX]) R site id args F m k r hy)
  refine⟨l,[{target:=.collected w.heap.size,args:= #[]}],W1,{target:=.fn (.func gid) xs,args:= #[.func (.yield l) #[] #[]]},W1,gid,#[.func (.yield l) #[] #[]]++xs,W1,?_,?_,?_,?_,?_,?_⟩
  ·have:=run_enterLoop_outer (P:=E.P) (w:=w) fn a.tmps ps as b;rw[hl',hW1,hwD,q7];exact this
  ·simp only[resolve,hgv];simp[go_sem]
  ·exact fun _ _=>trivial
  ·grind [invoke,aag]
  ·decide
  ·refine FR.Qd (hC.mono ?_);rintro e w' ⟨v,f',m',y,μ',φ',hk,rfl,U8,hF',_,_⟩;have afo:Lh μD μ':=by have:=U8.dC;subst NM;omega
   have hD':μ' w.heap.size=some (.deferred (some [])):=afo _ _ hD;have main:∀st,m' lid=some (.loop st)→st≠.busy→∃w4,(Instr.endLoop l).run E.P w'=.ok (st.obj rec).pending w4∧Rel E.P E.aG E.fn.ntmps w0 μ' φ' (eS lid f') (bh (bE lid m') lid) {a with defers:=[{target:=.collected w.heap.size,args:= #[]}]++a.defers} w4:=by
    intro st vp hnb;obtain⟨g',rc',p1,p2,p3⟩:=U8.C5 lid st vp;rw[afn]at p2;simp only[cO,Ua]at p2;obtain⟨rfl,rfl⟩:=p2;have Ci:=U8.own lid _ _ vp (.inl p1);have hMf:=U8.forget lid;have Ee:∀id b,bh (bE lid m') lid id=some b→¬b.owns (φ' id) l:=fun id b' hid e=>by obtain⟨cK,b2,uQ,rfl⟩:=fJ hid;exact cK (U8.inj id lid b2 _ l uQ vp (gp.1 e) (.inl p1))
    have hM4:=hMf.other (.loop {st.obj rec with state:=.exhausted}) Ci.1 (Ci.2 rfl) Ee;have hM5:av E.P E.aG w0 μ' φ' (bh (bE lid m') lid) (w'.putObj l (.loop {st.obj rec with state:=.exhausted})):=hM4.xx (by subst NM;rfl) (by subst NM;rfl) (fun b o hb=>afo b o (aai b o (hR.dC b o hb))) (fun id st hid=>by
      have cK:id≠lid:=fun e=>by subst e;simp at hid
      subst NM;exact(IS cK).symm)
    refine⟨_,run_endLoop p3 (by cases st<;>simp_all[M8.obj]),{toav:=hM5,size:=hR.size,defers:=?_,nf:=hR.nf,fr:=?_,live:=?_}⟩
    ·obtain⟨Ds,e,hnd,hDs⟩:=hR.defers;have bZ:∀b o,μ b=some o→b<w.heap.size:=fun b o hb=>(abq.1 (hR.ro b o hb)).1;refine⟨w.heap.size::Ds,by simp[e],amm.2 ⟨fun hd=>?_,hnd⟩,fun D hd=>?_⟩
     ·grind
     ·rcases ake.1 hd with rfl|hd
      ·refine⟨hR.below.size,?_,hD'⟩;cases ho:w0.nf w.heap.size with
       |none=>rfl
       |some o=>have:=bZ _ _ (hR.dC _ _ (hR.nf _ _ ho));omega
      grind
    ·exact(hF'.forget lid).fr
    ·exact(hF'.forget lid).live
   dsimp only at hk;split at hk
   ·rename_i vp;obtain⟨w4,e1,e2⟩:=main .ready vp (by simp);exact⟨none,w4,e1,hQ .normal _ _ _ _ _ _ hk e2⟩
   ·rename_i j vp;obtain⟨w4,e1,e2⟩:=main (.done j) vp (by simp);refine⟨some j.code,w4,e1,?_⟩;cases j with
    |ret=>exact wpIn_ret (hQ .ret _ _ _ _ _ _ hk e2)
    |exit id=>exact wpIn_exit (hQ (.exit id) _ _ _ _ _ _ hk e2)
   ·cases hk
theorem V2:∀(c:Code),Cx c:=by
 intro c;induction c with
 |skip=>intro E w0 rd hE hY pP R f m k r h μ φ a w Q hR hQ;simp only[fI]at h;exact wpIn_skip (hQ .normal _ _ _ _ _ _ h hR)
 |region id ops draw=>intro E w0 rd hE hY pP R f m k r h μ φ a w Q hR hQ;exact SY hE hY h hR (hQ .normal)
 |seq x y ihx ihy=>
  intro E w0 rd hE hY pP R f m k r h μ φ a w Q hR hQ;simp only[fI]at h;refine wpIn_seq (ihx hE hY pP h hR fun e f' m' μ' φ' a' w' hk kn=>?_);cases e with
  |normal=>exact ihy hE hY pP hk kn hQ
  |exit id=>exact hQ (.exit id) _ _ _ _ _ _ hk kn
  |ret=>exact hQ .ret _ _ _ _ _ _ hk kn
 |cond c x y ihx ihy=>
  intro E w0 rd hE hY pP R f m k r h μ φ a w Q hR hQ;simp only[fI]at h;split at h
  ·rename_i t b hb;have hv:a.eval (.tmp t)=.bool b:=by have:=(al hR (.tmp t)).1;grind [so]
   have jc:f t=.pv (.bool b):=(Fl hb).2;have hle:wH (gu f t (.pv (.bool b))) f:=fun s=>by
    simp only[gu];cases e:Nat.beq s t with
    |true=>simp_all
    |false=>simp
   cases b with
   |true=>simp only[Ko]at h;exact wpIn_cond_true hv (ihx hE hY pP h (hR.weaken hle) hQ)
   |false=>simp only[cQ,abp]at h;exact wpIn_cond_false hv (ihy hE hY pP h (hR.weaken hle) hQ)
  ·cases h
 |block id b ih=>
  intro E w0 rd hE hY pP R f m k r h μ φ a w Q hR hQ;simp only[fI]at h;refine wpIn_block (ih hE hY pP h hR fun e f' m' μ' φ' a' w' hk kn=>?_);cases e with
  |normal=>exact hQ .normal _ _ _ _ _ _ hk kn
  |exit j=>
   simp only[Ex.UN]at hk;simp only[VZ,Exit.inBlock];split at hk
   ·rename_i hj;rw[AI hj];exact hQ .normal _ _ _ _ _ _ hk kn
   ·rename_i hj;rw[IS hj];exact hQ (.exit j) _ _ _ _ _ _ hk kn
  |ret=>exact hQ .ret _ _ _ _ _ _ hk kn
 |loop b ih=>
  intro E w0 rd hE hY pP R f m k r h μ φ a w Q hR hQ;simp only[fI]at h;split at h
  ·rename_i T _;obtain⟨f,m,μ,φ,h,hR⟩:=Lx h hR;obtain⟨s,hs,s1,s2,s3,s4⟩:=FK h;obtain⟨n0,hs⟩:=hE.lp _ _ _ _ _ hs;refine H8 (fun n a w=>∃s μ φ,Rel E.P E.aG E.fn.ntmps w0 μ φ (Nt T s) (EH T s) a w∧cg (fun s rec=>fI E b (Nt T s) (EH T s) (Ex.KX (fun f m=>Hy E.P T f m fun f m=>enc T f m rec) k)) n s=some r) ?_ n0 a w ⟨s,μ,φ,hR.dec s1 s2 s3 s4,hs⟩;rintro n a w ⟨s,μ,φ,hR,hs⟩;cases n with
   |zero=>simp[cg]at hs
   |succ n=>
    refine⟨n,rfl,?_⟩;simp only[cg]at hs;refine ih hE hY pP hs hR fun e f' m' μ' φ' a' w' hk kn=>?_;cases e with
    |normal=>obtain⟨f',m',μ',φ',hk,kn⟩:=Lx hk kn;obtain⟨s',hs',t1,t2,t3,t4⟩:=FK hk;exact⟨s',μ',φ',kn.dec t1 t2 t3 t4,hs'⟩
    |exit j=>exact hQ (.exit j) _ _ _ _ _ _ hk kn
    |ret=>exact hQ .ret _ _ _ _ _ _ hk kn
  ·refine H8 (fun n a w=>∃f m μ φ,Rel E.P E.aG E.fn.ntmps w0 μ φ f m a w∧KV (fun f m rec=>fI E b f m (Ex.KX rec k)) n f m=some r) ?_ E.u a w ⟨f,m,μ,φ,hR,h⟩;rintro n a w ⟨f,m,μ,φ,hR,hs⟩;cases n with
   |zero=>simp[KV]at hs
   |succ n=>
    refine⟨n,rfl,?_⟩;simp only[KV]at hs;refine ih hE hY pP hs hR fun e f' m' μ' φ' a' w' hk kn=>?_;cases e with
    |normal=>exact⟨f',m',μ',φ',kn,hk⟩
    |exit j=>exact hQ (.exit j) _ _ _ _ _ _ hk kn
    |ret=>exact hQ .ret _ _ _ _ _ _ hk kn
 |exit id=>intro E w0 rd hE hY pP R f m k r h μ φ a w Q hR hQ;simp only[fI]at h;exact wpIn_exit (hQ (.exit id) _ _ _ _ _ _ h hR)
 |label l=>intro E w0 rd hE hY pP R f m k r h μ φ a w Q hR hQ;simp only[fI]at h;exact wpIn_label (hQ .normal _ _ _ _ _ _ h hR)
 |ret=>intro E w0 rd hE hY pP R f m k r h μ φ a w Q hR hQ;simp only[fI]at h;exact wpIn_ret (hQ .ret _ _ _ _ _ _ h hR)
 |scope b ih=>intro E w0 rd hE hY pP R f m k r h μ φ a w Q hR hQ;simp only[fI]at h;exact SX (ih hE hY pP h hR fun e f' m' μ' φ' a' w' hk kn=>by cases e<;>exact hQ _ _ _ _ _ _ _ hk kn)
 |rangeFunc g ps as b ihA ihB=>exact Jv ihA ihB
 |_=>intro E w0 rd hE hY pP R f m k r h;simp[fI]at h
def Obj.ada:Obj→Bool
 |.cells .. =>true
 |.map .. =>true
 |_=>false
def Qm(μ μ':Ro):Prop:=∀b o,μ b=some o→Obj.ada o=true→μ' b=some o
theorem Qm.trans{a b c:Ro}(h:Qm a b)(k:Qm b c):Qm a c:=fun x o hx ho=>k x o (h x o hx ho) ho
section
variable {P:Program} {G:Nat→Option (List PV)} {w0:bA} {μ μ':Ro} {φ:Nat→aA} {m:Mem} {w w':World}
variable{x:Value}
theorem FM(h:Qm μ μ'){b o:Nat}(hx:cellAt μ b o=some x):cellAt μ' b o=some x:=by
 unfold cellAt at*;split at hx
 ·rename_i c t fz hb;rw[h _ _ hb rfl];omega
 ·cases hx
theorem ah.off(h:Qm μ μ'){p:PV}(hp:ah P μ p x):ah P μ' p x:=by
 induction hp with
 |int h=>exact .int h
 |bool=>exact .bool
 |str h=>exact .str h
 |agg h1 _ h3 ih=>exact .agg h1 ih h3
 |aO h1 _ ih=>exact .aO h1 ih
 |rQ=>exact .rQ
 |rp X h1 _ h3 ih=>exact .rp X (fun i p hi=>FM h (h1 i p hi)) ih h3
 |lG=>exact .lG
 |G2 h=>exact .G2 h
 |rs X h1 h2 h3 h4 _ h6 ih=>exact .rs X h1 h2 h3 (fun i e j p hi hj=>FM h (h4 i e j p hi hj)) ih h6
 |vq=>exact .vq
 |rm h1 h2 h3 h4 h5 _ _ ih1 ih2=>exact .rm (h _ _ h1 rfl) h2 h3 h4 h5 ih1 ih2
 |DN=>exact .DN
 |fn h1 _ ih=>exact .fn h1 ih
 |UX=>exact .UX
 |ZG=>exact .ZG
 |bad=>exact .bad
theorem zC.off(h:Qm μ μ'){g:Nat}{cs:List PV}(hv:zC P μ g cs):zC P μ' g cs:=⟨hv.rep.off h,let⟨c,T,z,h1,h2⟩:=hv.size;⟨c,T,z,h _ _ h1 rfl,h2⟩⟩
theorem af.off(h:Qm μ μ'){v:V}{x:Value}(hv:af P μ φ v x):af P μ' φ v x:=by
 induction hv with
 |pv hp=>exact .pv (hp.off h)
 |iy=>exact .iy
 |op hg=>exact .op hg
 |oe hg=>exact .oe hg
 |tp hg=>exact .tp hg
 |os hg=>exact .os hg
 |rY hg=>exact .rY hg
 |fR hg hl ha hc hc'=>exact .fR hg hl ha hc hc'
 |Jb hg=>exact .Jb hg
 |xn hg=>exact .xn hg
 |AX hg hs=>exact .AX hg hs
 |om hg=>exact .om hg
 |yl hg=>exact .yl hg
 |it hg=>exact .it hg
 |fn h1 _ ih=>exact .fn h1 ih
 |agg h1 _ h3 ih=>exact .agg h1 ih h3
 |aO h1 _ ih=>exact .aO h1 ih
 |top=>exact .top
theorem aH.off(h:Qm μ μ'){id sz:Nat}{et:TypeId}{es:List PV}(ha:aH P μ φ w id sz et es)(hw:∀g,(φ id).g=some g→w'.heap[g]?=w.heap[g]?):aH P μ' φ w' id sz et es:=by
 obtain⟨a1,a2,a3,a4,a5,a6,a7⟩:=ha;refine⟨a1,a2,a3,a4,a5,a6,?_⟩;cases hg:(φ id).g with
 |none=>rw[hg]at a7;omega
 |some g=>rw[hg]at a7;obtain⟨c,T,c1,c2,c3,c4,c5⟩:=a7;exact⟨c,T,by rw[hw g hg];omega,c2,c3,fun i e j p x h1 h2 h3=>(c4 i e j p x h1 h2 h3).off h,c5⟩
theorem eF.off(hh:Qm μ μ'){R:C6}{s:Nat}{rs:List PV}{x:Value}(h:eF P μ R w s rs x)(hw:∀g,R.g=some g→w'.heap[g]?=w.heap[g]?):eF P μ' R w' s rs x:=
 let⟨⟨et,hA⟩,hV⟩:=h
 ⟨⟨et,hA.off hh hw⟩,hV.off hh⟩
theorem ec.off(hh:Qm μ μ'){R:C6}{p:PV}{x:Value}(h:ec P μ R w p x)(hw:p.isRow=true→∀g,R.g=some g→w'.heap[g]?=w.heap[g]?):ec P μ' R w' p x:=by
 unfold ec at*;split at h
 ·exact eF.off hh h (hw rfl)
 ·exact ah.off hh h
theorem aX.off(hh:Qm μ μ'){id sz:Nat}{et:TypeId}{es:List PV}(h:aX P μ φ w id sz et es)(hw:∀g,(bH.nest sz et es).owns (φ id) g→w'.heap[g]?=w.heap[g]?):aX P μ' φ w' id sz et es:=by
 obtain⟨a1,a2,a3,a4,a5,a6,a7⟩:=h;refine⟨a1,a2,a3,a4,a5,a6,?_⟩;cases hg:(φ id).g with
 |none=>rw[hg]at a7;omega
 |some g=>rw[hg]at a7;obtain⟨c,T,c1,c2,c3,c4,c5⟩:=a7;exact⟨c,T,by rw[hw g (.inl hg)];omega,c2,c3,fun i e j p x h1 h2 h3=>(c4 i e j p x h1 h2 h3).off hh fun hr g' cS=>hw g' (.inr ⟨i,j,by rw[du h1 h2];omega,cS⟩),c5⟩
theorem eF.Qn{R:C6}{s g:Nat}{rs:List PV}(h:eF P μ R w s rs x)(hg:R.g=some g):∃c T z,w.heap[g]?=some (.cells c T z):=by obtain⟨⟨et,_,_,_,_,_,_,a7⟩,_⟩:=h;have cS:R.up.g=some g:=hg;grind
theorem gM.V3{id g i off:Nat}{b:bH}(h:gM P μ φ w id b)(hr:b.rowAt i off=true)(hg:((φ id).row i off).g=some g):∃c T z,w.heap[g]?=some (.cells c T z):=by
 rcases kx hr with⟨sz,et,es,e,s,rs,rfl,he,hp⟩|⟨kt,e0,es,k,s,rs,rfl,rfl,he⟩
 ·have hN:aX P μ φ w id sz et es:=h;have hgg:∃g0,(φ id).g=some g0:=by
   cases hq:(φ id).g with
   |some g0=>simp
   |none=>have a7:=hN.2.2.2.2.2.2;simp_all
  obtain⟨g0,Nx⟩:=hgg;obtain⟨c,_,x,_,_,c3,_⟩:=hN.cell Nx he hp;exact eF.Qn (show eF P μ _ w s rs x from c3) hg
 ·obtain⟨g0,en,clock,kk,Nx,hh,hs,hk,hc,yS,hv⟩:=h;have hi:i<en.size:=by grind
  have h3:=(hv i k _ en[i] he (OF hi)).2;exact eF.Qn (P:=P) (μ:=μ) (R:=(φ id).row i 0) (s:=s) (rs:=rs) (x:=en[i].val) ⟨⟨_,h3.1⟩,h3.2⟩ hg
theorem gM.off(h:Qm μ μ')(wA:∀b o,μ b=some o→w.heap[b]?=some o){id:Nat}{b:bH}(hb:gM P μ φ w id b)(hw:∀g,b.owns (φ id) g→w'.heap[g]?=w.heap[g]?):gM P μ' φ w' id b:=by
 cases b with
 |nest sz et es=>exact aX.off h hb hw
 |fh kt e0 es=>
  obtain⟨g,en,clock,kk,hg,hh,hs,hk,hc,yS,hv⟩:=hb;refine⟨g,en,clock,kk,hg,by rw[hw g (.inl hg)];omega,hs,hk,hc,yS,fun i k v e h1 h2=>⟨(hv i k v e h1 h2).1.off h,?_⟩⟩;have h3:=(hv i k v e h1 h2).2;split at h3
  ·exact⟨h3.1.off h fun g' cS=>hw g' (.inr ⟨i,0,by rw[kv h1];rfl,cS⟩),h3.2.off h⟩
  ·exact h3.off h
 |box cs=>obtain⟨g,c,T,hg,hh,hs,hv,h1,EP⟩:=hb;exact⟨g,c,T,hg,by rw[hw g (.inl hg)];omega,hs,fun i v x hi hx=>(hv i v x hi hx).off h,h1,EP⟩
 |arr sz et es=>exact aH.off h hb fun g hg=>hw g (.inl hg)
 |rD sz et es=>refine⟨aH.off h hb.1 fun g hg=>hw g (.inl hg),fun g hg=>?_⟩;obtain⟨o,ho⟩:=akq.1 (hb.2 g hg);obtain⟨_,_,_,_,_,_,a7⟩:=hb.1;rw[hg]at a7;obtain⟨c,_,c1,_⟩:=a7;have:=wA g o ho;rw[c1]at this;cases this;rw[h _ _ ho rfl];rfl
 |map kt es=>obtain⟨g,en,clock,kk,hg,hh,hs,hk,hc,yS,hv⟩:=hb;exact⟨g,en,clock,kk,hg,by rw[hw g (.inl hg)];omega,hs,hk,hc,yS,fun i k v e h1 h2=>⟨(hv i k v e h1 h2).1.off h,(hv i k v e h1 h2).2.off h⟩⟩
 |iter t es cur=>obtain⟨g,mg,en,clock,seen,hg,hh,Kv,yS,EP,hv,hcu⟩:=hb;exact⟨g,mg,en,clock,seen,hg,by rw[hw g (.inl hg)];omega,h _ _ Kv rfl,yS,EP,fun i k v e h1 h2=>⟨(hv i k v e h1 h2).1.off h,(hv i k v e h1 h2).2.off h⟩,fun k v hc=>let⟨i,e,h1,h2,h3,h4⟩:=hcu k v hc;⟨i,e,h1,h2,h3.off h,h4.off h⟩⟩
 |loop st=>obtain⟨g,rc,hg,hh⟩:=hb;exact⟨g,rc,hg,by rw[hw g (.inl hg)];omega⟩
def Dq(μ:Ro)(D:Nat):Ro:=fun b=>if b=D then none else μ b
theorem Qo{D:Nat}(hD:μ D=some (.deferred (some []))):Qm μ (Dq μ D):=by intro b o hb ho;unfold Dq;rw[IS fun e=>by subst e;rw[hD]at hb;cases hb;cases ho];omega
theorem av.shut(hM:av P G w0 μ φ m w){D:Nat}(hB:w0.heap.size≤D)(hk:w0.dC D=none)(hD:μ D=some (.deferred (some []))):av P G w0 (Dq μ D) φ m (w.putObj D (.deferred none)):=by
 have hc:=Qo hD;have hh:=hM.ro _ _ hD;have DU:∀k,k≠D→(w.putObj D (.deferred none)).heap[k]?=w.heap[k]?:=fun k hk=>World.putObj_heap_other hk;have cK:∀id b g,m id=some b→b.owns (φ id) g→g≠D:=fun id b g hm hg e=>by
  subst e;have hR:=hM.dy id b hm;rcases hg with hg|⟨i,off,hr,hg⟩
  rotate_left
  ·obtain⟨c,T,z,h2⟩:=hR.V3 hr hg;rw[hh]at h2;cases h2
  cases b with
  |nest sz et es=>obtain⟨_,_,_,_,_,_,a7⟩:=hR;simp_all
  |fh kt e0 es=>obtain⟨g',en,clock,kk,cS,h2,_⟩:=hR;simp_all
  |box cs=>obtain⟨g',c,T,cS,h2,_⟩:=hR;simp_all
  |arr sz et es=>obtain⟨_,_,_,_,_,_,a7⟩:=hR;simp_all
  |rD sz et es=>obtain⟨⟨_,_,_,_,_,_,a7⟩,_⟩:=hR;simp_all
  |map kt es=>obtain⟨g',en,clock,kk,cS,h2,_⟩:=hR;simp_all
  |loop st=>obtain⟨g',rc,cS,h2⟩:=hR;simp_all
  |iter t es cur=>obtain⟨g',mg,en,clock,seen,cS,h2,_⟩:=hR;simp_all
 refine⟨hM.below.trans ((lM.putObj w D _).mono hB),fun b o hb=>?_,fun g cs hg=>(hM.aG g cs hg).off hc,fun id b hm=>(hM.dy id b hm).off hc hM.ro fun g hg=>DU g (cK id b g hm hg),fun id b g hm hg=>?_,hM.inj,hM.apart,hM.fT,fun b o hb bZ=>?_,fun b o hb=>?_,fun id st hm=>?_⟩
 ·unfold Dq at hb;split at hb
  ·cases hb
  ·rename_i e;rw[DU b e];exact hM.ro b o hb
 ·obtain⟨h1,h2⟩:=hM.own id b g hm hg;refine⟨h1,fun U6=>?_⟩;unfold Dq;simp_all
 ·unfold Dq at hb;split at hb
  ·omega
  ·exact hM.base b o hb bZ
 ·unfold Dq;rw[IS fun e=>by simp_all];exact hM.dC b o hb
 ·obtain⟨g,rc,h1,h2,h3⟩:=hM.C5 id st hm;grind
end
section
variable {E:Env} {w0:bA}
theorem Bp{R:Ending→World→Prop}{f:Fr}{m:Mem}{φ:Nat→aA}{fn:Func}{tmps:Array Value}:∀(Ds:List Nat){μ:Ro}{w:World},Ds.Nodup→(∀D∈Ds,w0.heap.size≤D∧w0.dC D=none∧μ D=some (.deferred (some [])))→Rel E.P E.aG E.fn.ntmps w0 μ φ f m {tmps,defers:=[]} w→(∀μ' w',Rel E.P E.aG E.fn.ntmps w0 μ' φ f m {tmps,defers:=[]} w'→∃v,(results fn tmps).run E.P w'=.ok v w'∧R (.returned v) w')→LeavesInM (FR none) 0 E.P fn tmps R (Ds.map fun D=>{target:=.collected D,args:= #[]}) .returning w
 |[],μ,w,_,_,hR,Ly=>Ly μ w hR
 |D::Ds,μ,w,hn,hD,hR,Ly=>by obtain⟨h1,h2,h3⟩:=hD D (by simp);obtain⟨n1,n2⟩:=amm.1 hn;have hM:=hR.toav.shut h1 h2 h3;refine⟨by simp,.inl ⟨D,_,rfl,run_takeDeferred (hR.ro _ _ h3),?_⟩⟩;refine Bp Ds n2 (fun D' hd'=>?_) {toav:=hM,size:=hR.size,defers:=.nil _ _ _,nf:=hR.nf,fr:=fun t=>(hR.fr t).off (Qo h3),live:=hR.live} Ly;obtain⟨a1,a2,a3⟩:=hD D' (by simp[hd']);refine⟨a1,a2,?_⟩;unfold Dq;grind
theorem tP(hE:ku E)(hY:uL E.P E.aG E.fn.ntmps E.yl w0)(hko:∀b o,w0.dC b=some o→w0.nf b=some o){g:FuncId}{c:Code}(hf:E.P.funcs[g]?=some E.fn)(hb:E.fn.body=some c){xs:Array Value}{R:Ending→World→Prop}{S:Type}{f:Fr}{m:Mem}{k:Ex→Fr→Mem→Option S}{r:S}(h:fI E c f m k=some r){μ:Ro}{φ:Nat→aA}{w:World}(hR:Rel E.P E.aG E.fn.ntmps w0 μ φ f m {tmps:=xs++Array.replicate (E.fn.ntmps-xs.size) undef,defers:=[]} w)(Ly:∀e f' m' μ' φ' tmps w',k e f' m'=some r→Rel E.P E.aG E.fn.ntmps w0 μ' φ' f' m' {tmps,defers:=[]} w'→(∀id,e≠.exit id)∧∃v,(results E.fn tmps).run E.P w'=.ok v w'∧R (.returned v) w'):Calls E.P g xs w R:=by
 refine(callsIn_wide (n:=0)).1 (callsIn_of_wp_marks (F:=FR none) hf hb trivial ?_);refine V2 c hE hY (fun _=>rfl) h hR fun e f' m' μ' φ' a' w' hk kn=>?_;obtain⟨Ds,e1,e2,e3⟩:=kn.defers;have HV:Rel E.P E.aG E.fn.ntmps w0 μ' φ' f' m' {tmps:=a'.tmps,defers:=[]} w':={toav:=kn.toav,size:=kn.size,defers:=.nil _ _ _,nf:=kn.nf,fr:=kn.fr,live:=kn.live};have key:(∀id,e≠.exit id)→LeavesInM (FR none) 0 E.P E.fn a'.tmps R a'.defers .returning w':=fun _=>by
  rw[e1];refine Bp Ds e2 (fun D hd=>?_) HV fun μ2 w2 hR3=>(Ly e f' m' μ2 φ' a'.tmps w2 hk hR3).2;obtain⟨a1,a2,a3⟩:=e3 D hd;refine⟨a1,?_,a3⟩;cases hq:w0.dC D with
  |none=>rfl
  |some o=>simp_all
 have cK:=(Ly e f' m' μ' φ' a'.tmps w' hk HV).1;cases e with
 |normal=>exact key cK
 |ret=>exact key cK
 |exit id=>simp_all
end
end Go.Ab
