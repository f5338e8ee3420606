import Derived.Test.YtmbihgjlollbeaaGreatAbP7
import Derived.RangeFuncIn
import Derived.Scope
set_option linter.all false
namespace Go.Ab
open Go.RowKit (Below)
section
variable {P:Program} {G:Nat→Option (List PV)} {w0:bO} {μ:Ro} {φ:Nat→aP} {m:Mem} {w:World}
theorem nC.putObj(w:World)(g:Nat)(o:Obj):nC g w (w.putObj g o):=⟨⟨rfl,rfl,rfl,by simp,fun k hk=>World.putObj_heap_other (by omega)⟩,fun _=>aso _⟩
theorem aL.CF(h:aL P G w0 μ φ m w){w1:bO}(hw:w1.w=w0.w)(QA:w1.mu=w0.mu)(hk:∀b o,w1.dX b=some o→μ b=some o)(hrc:∀id st,m id=some (.loop st)→w1.rc id=w0.rc id):aL P G w1 μ φ m w:=by obtain⟨a0,b0,c0,d0,e0⟩:=w0;obtain⟨a1,b1,c1,d1,e1⟩:=w1;simp only at hw QA;subst hw;subst QA;refine⟨h.below,h.ro,h.aW,h.dW,h.own,h.inj,h.apart,h.gy,h.base,hk,fun id st hid=>?_⟩;obtain⟨g,rc,h1,h2,h3⟩:=h.Jb id st hid;simp_all
def Jt(μ:Ro)(w:World)(o:Obj):Ro:=fun b=>if b=w.heap.size then some o else μ b
theorem RD(hM:aL P G w0 μ φ m w)(o:Obj):Rr μ (Jt μ w o):=by intro b o' hb;have:=(are.1 (hM.ro b o' hb)).1;unfold Jt;grind
theorem aL.agO(hM:aL P G w0 μ φ m w)(o:Obj):aL P G w0 (Jt μ w o) φ m (w.alloc o):=by
 have hle:=RD hM o;have hold:∀k,k<w.heap.size→(w.alloc o).heap[k]?=w.heap[k]?:=fun k hk=>nC.heap_alloc w o k hk;have rS:w0.heap.size≤w.heap.size:=hM.below.size;refine⟨hM.below.alloc hM.below.size o,fun b o' hb=>?_,fun g cs hg=>(hM.aW g cs hg).mono hle,fun id b hid=>?_,fun id b g hid hg=>?_,hM.inj,hM.apart,hM.gy,fun b o' hb cd=>?_,fun b o' hb=>hle b o' (hM.dX b o' hb),fun id st hid=>?_⟩
 ·unfold Jt at hb;split at hb
  ·grind [heap_alloc_new]
  ·have:=hM.ro b o' hb;grind
 ·have hR:=hM.dW id b hid;exact hR.cF (fun _ _=>rfl) rfl hle (fun g hg=>hold g (hR.KP hg))
 ·obtain⟨h1,h2⟩:=hM.own id b g hid hg;refine⟨h1,fun ab1=>?_⟩;have:=(hM.dW id b hid).KP hg;unfold Jt;grind
 ·unfold Jt at hb;rw[IT (by omega)]at hb;exact hM.base b o' hb cd
 ·obtain⟨g,rc,h1,h2,h3⟩:=hM.Jb id st hid;grind
theorem aL.other(hM:aL P G w0 μ φ m w){g:Nat}(o:Obj)(hg:w0.heap.size≤g)(hμ:μ g=none)(Ib:∀id b,m id=some b→¬b.owns (φ id) g):aL P G w0 μ φ m (w.putObj g o):=by
 have Np:∀k,k≠g→(w.putObj g o).heap[k]?=w.heap[k]?:=fun k hk=>World.putObj_heap_other hk;refine⟨hM.below.trans ((nC.putObj w g o).mono hg),fun b o' hb=>?_,hM.aW,fun id b hid=>?_,hM.own,hM.inj,hM.apart,hM.gy,hM.base,hM.dX,fun id st hid=>?_⟩
 ·rw[Np b fun e=>by simp_all];exact hM.ro b o' hb
 ·have hR:=hM.dW id b hid;exact hR.cF (fun _ _=>rfl) rfl (fun _ _ h=>h) (fun g' dr=>Np g' fun e=>by simp_all)
 ·obtain⟨g',rc,h1,h2,h3⟩:=hM.Jb id st hid;exact⟨g',rc,h1,h2,by rw[Np g' fun e=>by subst e;exact Ib id _ hid (.inl h1)];omega⟩
theorem aL.turn(hM:aL P G w0 μ φ m w){id g:Nat}{st st':Ty}{rc:Loop}(hm:m id=some (.loop st))(hg:(φ id).g=some g)(hrc:w0.rc id=some (g,rc)):aL P G w0 μ φ (aD m id (.loop st')) (w.putObj g (.loop (st'.obj rc))):=by have cd:=(hM.dW id _ hm).KP (.inl hg);have ab4:(w.putObj g (.loop (st'.obj rc))).heap[g]?=some (.loop (st'.obj rc)):=World.putObj_heap_same cd;exact hM.write hm rfl hg (nC.putObj w g _) (by simp) (fun k hk=>World.putObj_heap_other hk) ⟨g,rc,hg,ab4⟩ rfl (by simp[bW.names]) fun s hs=>by simp_all
end
section
variable {P:Program} {μ:Ro} {φ:Nat→aP}
theorem Oo{nt:Nat}:∀(ps:List Nat)(args:List V)(xs:List Value)(f:Fr)(tmps:Array Value),tmps.size=nt→args.length=xs.length→(∀t,t<nt→au P μ φ (f t) (tmps.getD t undef))→(∀(i:Nat)v x,args[i]?=some v→xs[i]?=some x→au P μ φ v x)→((ps.zip xs).foldl (fun tmps(x:Nat×Value)=>tmps.setIfInBounds x.1 x.2) tmps).size=nt∧∀t,t<nt→au P μ φ (KE ps args f t) (((ps.zip xs).foldl (fun tmps(x:Nat×Value)=>tmps.setIfInBounds x.1 x.2) tmps).getD t undef)
 |[],args,xs,f,tmps,hs,_,hf,_=>by cases args<;>exact⟨hs,hf⟩
 |p::ps,[],xs,f,tmps,hs,hl,hf,_=>by have:xs=[]:=ash (by simpa using hl.symm);subst this;exact⟨hs,hf⟩
 |p::ps,v::args,[],f,tmps,hs,hl,hf,_=>by simp at hl
 |p::ps,v::args,x::xs,f,tmps,hs,hl,hf,hr=>by
  simp only[auI,auw,KE];refine Oo ps args xs (ig f p v) (tmps.setIfInBounds p x) (by simpa using hs) (by simpa using hl) (fun t ht=>?_) (fun i u y hu hy=>hr (i+1) u y (by simpa using hu) (by simpa using hy));by_cases e:t=p
  ·subst e;rw[FD];have:(tmps.setIfInBounds t x).getD t undef=x:=by simp_all
   rw[this];exact hr 0 v x rfl rfl
  ·rw[wa e];have:(tmps.setIfInBounds p x).getD t undef=tmps.getD t undef:=by rw[asp,asp,atu,IT (fun h=>e h.symm)]
   rw[this];exact hf t ht
theorem Lz{id:Nat}:∀(ps:List Nat)(args:List V)(f:Fr)(t:Nat),(KE ps args f t).has id=true→cA id args=true∨(f t).has id=true
 |[],args,f,t,h=>by cases args<;>exact .inr h
 |p::ps,[],f,t,h=>.inr h
 |p::ps,v::args,f,t,h=>by
  simp only[KE]at h;rcases Lz ps args _ t h with h|h
  ·exact .inl (by simp[cA,h])
  ·by_cases e:t=p
   ·subst e;rw[FD]at h;exact .inl (by simp[cA,h])
   ·rw[wa e]at h;exact .inr h
theorem acK(ps:Array Nat)(xs:Array Value)(tmps:Array Value):(ps.zip xs).foldl (fun tmps(t,a)=>tmps.setIfInBounds t a) tmps=(ps.toList.zip xs.toList).foldl (fun tmps(x:Nat×Value)=>tmps.setIfInBounds x.1 x.2) tmps:=by rw[←Array.foldl_toList,Array.toList_zip]
end
variable{P:Program}{c:Code}{Q:Exit→Act→World→Prop}
theorem Oq{F:Fence}{nn:Nat}(I:Nat→Act→World→Prop)(round:∀n a w,I n a w→∃n',n=n'+1∧c.wpIn F nn P (Exit.then (I n') Q) a w):∀n a w,I n a w→(Code.loop c).wpIn F nn P Q a w:=by
 intro n a w hI b k cs B0 hb hr;have key:∀n a w,I n a w→∃e a' w',Q e a' w'∧ArrivesIn (Machine.fenced P F) P (lone (b.atR a (.code c::.inLoop c::k)) cs w) b k cs e a' w':=by
  intro n;induction n with
  |zero=>grind
  |succ n ih=>
   intro a w h;obtain⟨n',hn,kO⟩:=round _ a w h;have hn:n=n':=by omega
   subst hn;obtain⟨e,a₁,w₁,hq,LA⟩:=kO b (.inLoop c::k) cs B0 hb hr;cases e with
   |normal=>obtain⟨e₂,a₂,w₂,amX,agP⟩:=ih a₁ w₁ hq;exact⟨e₂,a₂,w₂,amX,.of_steps (StepsIn.trans LA (.one (fenced_calm hb hr rfl) stepR_inLoop)) agP⟩
   |_=>exact⟨_,a₁,w₁,hq,.pass (x:=.inLoop c) rfl (fun _ _=>.inl (by simp)) LA⟩
 obtain⟨e,a',w',hq,LA⟩:=key n a w hI;exact⟨e,a',w',hq,.of_steps (.one (fenced_calm hb hr rfl) stepR_loop) LA⟩
theorem aaf{rd:Option Nat}{n:Nat}{a:Act}{w:World}(h:c.wpIn (FR rd) n P (Exit.noGoto Q) a w):(Code.scope c).wpIn (FR rd) n P Q a w:=by
 intro b k cs B0 hb hr;obtain⟨e,a₁,w₁,hq,LA⟩:=h b (.inScope c::k) cs B0 hb hr;have s1:StepsIn (Machine.fenced P (FR rd)) P (lone (b.atR a (.code (.scope c)::k)) cs w) (lone (b.atR a (.code c::.inScope c::k)) cs w):=.one (fenced_calm hb hr rfl) (step_lone_go (by rfl));have s2:∀a w,StepsIn (Machine.fenced P (FR rd)) P (lone (b.atR a (.inScope c::k)) cs w) (lone (b.atR a k) cs w):=fun a w=>.one (fenced_calm hb hr rfl) (step_lone_go (by rfl));cases e with
 |normal=>exact⟨.normal,a₁,w₁,hq,s1.trans (StepsIn.trans LA (s2 _ _))⟩
 |exit id=>exact⟨.exit id,a₁,w₁,hq,fun k' hk=>s1.trans (LA.1 k' (by simp[exitTo,hk])),fun hr hk=>let⟨k₁,h1,h2⟩:=LA.2 hr (by simp[exitTo,hk]);⟨k₁,h1,s1.trans h2⟩⟩
 |goto l=>exact hq.elim
 |ret=>exact⟨_,a₁,w₁,hq,.of_steps s1 LA⟩
 |panic ch=>exact⟨_,a₁,w₁,hq,.of_steps s1 LA⟩
 |outgrown=>exact⟨_,a₁,w₁,hq,.of_steps s1 LA⟩
mutual
theorem Wx:∀{v u:V},v.same u=true→v=u
 |.op i o,u,h=>by cases u<;>simp only[V.same,ao9,cQ]at h;rw[OF h.1,OF h.2]
 |.oe i a o,u,h=>by cases u<;>simp only[V.same,ao9,cQ]at h;rw[OF h.1.1,OF h.1.2,OF h.2]
 |.os i,u,h=>by cases u<;>simp only[V.same,cQ]at h;rw[OF h]
 |.om i,u,h=>by cases u<;>simp only[V.same,cQ]at h;rw[OF h]
 |.yl i,u,h=>by cases u<;>simp only[V.same,cQ]at h;rw[OF h]
 |.it i,u,h=>by cases u<;>simp only[V.same,cQ]at h;rw[OF h]
 |.jB,u,h=>by cases u<;>simp only[V.same,cQ]at h;rfl
 |.fn f cs,u,h=>by cases u<;>simp only[V.same,ao9,cQ]at h;rw[OF h.1,RE h.2]
 |.pv p,u,h=>by
  cases u<;>try (cases p<;>simp[V.same]at h;done)
  rename_i q;cases p<;>cases q<;>first|rfl|(simp[V.same]at h;done)|(simp only[V.same,ao9,cT]at h;rw[h.1,h.2])
 |.gw _ _ _,u,h=>by cases u<;>simp[V.same]at h
 |.agg _,u,h=>by cases u<;>simp[V.same]at h
 |.aG _,u,h=>by cases u<;>simp[V.same]at h
 |.top,u,h=>by cases u<;>simp[V.same]at h
theorem RE:∀{vs us:List V},NL vs us=true→vs=us
 |[],us,h=>by
  cases us with
  |nil=>rfl
  |cons _ _=>simp[NL]at h
 |v::vs,us,h=>by
  cases us with
  |nil=>simp[NL]at h
  |cons u us=>simp only[NL,ao9]at h;rw[Wx h.1,RE h.2]
end
variable{R:Type}
theorem Wy{T:Type}:∀{l0:List Sh}{vs:List V}{t:T}{k:V7 l0 T→Option R}{r:R},l5 l0 vs t k=some r→∃x,k x=some r∧yf l0 x=(vs,t)∧vs.length=l0.length∧∀M,(∀sh∈l0,sh.within M=true)→mL M vs=true:=by
 intro l0;induction l0 with
 |nil=>
  intro vs t k r h;cases vs with
  |nil=>exact⟨t,h,rfl,rfl,fun _ _=>rfl⟩
  |cons v vs=>simp[l5]at h
 |cons sh l0 ih=>
  intro vs t k r h;cases vs with
  |nil=>cases sh<;>simp[l5]at h
  |cons v vs=>
   have push:∀{M},v.within M=true→mL M vs=true→mL M (v::vs)=true:=fun h1 h2=>by simp[mL,h1,h2]
   cases sh with
   |own u=>
    simp only[l5]at h;split at h
    ·rename_i hs;obtain⟨x,x1,x2,x3,x4⟩:=ih h;have:=Wx hs;subst this;refine⟨x,x1,by simp only[yf];rw[x2],by simp[x3],fun M hM=>push ?_ (x4 M fun s hs=>hM s (by simp[hs]))⟩;exact hM (.own u) (by simp)
    ·cases h
   |int q=>
    cases v<;>try (simp[l5]at h;done)
    rename_i p;cases p<;>try (simp[l5]at h;done)
    simp only[l5]at h;split at h
    ·rename_i hq;subst hq;obtain⟨x,x1,x2,x3,x4⟩:=ih h;exact⟨_,x1,by simp only[yf];rw[x2],by simp[x3],fun M hM=>push rfl (x4 M fun s hs=>hM s (by simp[hs]))⟩
    ·cases h
   |row id off=>
    cases v<;>try (simp[l5]at h;done)
    rename_i ye i AW;simp only[l5]at h;split at h
    ·rename_i hq;obtain⟨rfl,rfl⟩:=hq;obtain⟨x,x1,x2,x3,x4⟩:=ih h;exact⟨_,x1,by simp_all[yf,asc],by simp[x3],fun M hM=>push (hM (.row ye AW) (by simp)) (x4 M fun s hs=>hM s (by simp[hs]))⟩
    ·cases h
   |raw=>
    cases v<;>try (simp[l5]at h;done)
    simp only[l5]at h;obtain⟨x,x1,x2,x3,x4⟩:=ih h;exact⟨_,x1,by simp only[yf];rw[x2],by simp[x3],fun M hM=>push rfl (x4 M fun s hs=>hM s (by simp[hs]))⟩
   |bool=>
    cases v<;>try (simp[l5]at h;done)
    rename_i p;cases p<;>try (simp[l5]at h;done)
    simp only[l5]at h;obtain⟨x,x1,x2,x3,x4⟩:=ih h;exact⟨_,x1,by simp only[yf];rw[x2],by simp[x3],fun M hM=>push rfl (x4 M fun s hs=>hM s (by simp[hs]))⟩
   |str=>
    cases v<;>try (simp[l5]at h;done)
    rename_i p;cases p<;>try (simp[l5]at h;done)
    simp only[l5]at h;obtain⟨x,x1,x2,x3,x4⟩:=ih h;exact⟨_,x1,by simp only[yf];rw[x2],by simp[x3],fun M hM=>push rfl (x4 M fun s hs=>hM s (by simp[hs]))⟩
   |rp n=>
    cases v<;>try (simp[l5]at h;done)
    rename_i p;cases p<;>try (simp[l5]at h;done)
    rename_i cs;simp only[l5]at h;split at h
    ·rename_i hq;obtain⟨x,x1,x2,x3,x4⟩:=ih h;have he:aQ n (.agg cs)=cs:=by
      apply asw;intro j;by_cases hj:j<n
      ·have hl:j<(aQ n (.agg cs)).length:=by rw[bt];omega
       rw[cN hl];obtain⟨_,h6⟩:=sx (cN hl);simp_all[cell,PV.cells,List.getD]
      simp_all[atA,bt]
     exact⟨_,x1,by simp only[yf];rw[x2,he],by simp[x3],fun M hM=>push rfl (x4 M fun s hs=>hM s (by simp[hs]))⟩
    ·cases h
   |fs s=>
    cases v<;>try (simp[l5]at h;done)
    rename_i p;simp only[l5]at h;obtain⟨ls,hls,h⟩:=By.1 h;obtain⟨x,x1,x2,x3,x4⟩:=ih h;exact⟨_,x1,by grind [yf,Wm],by simp[x3],fun M hM=>push rfl (x4 M fun s hs=>hM s (by simp[hs]))⟩
   |rs sz=>
    cases v<;>try (simp[l5]at h;done)
    rename_i p;cases p<;>try (simp[l5]at h;done)
    simp only[l5]at h;split at h
    ·rename_i hq;subst hq;obtain⟨x,x1,x2,x3,x4⟩:=ih h;exact⟨_,x1,by simp only[yf];rw[x2],by simp[x3],fun M hM=>push rfl (x4 M fun s hs=>hM s (by simp[hs]))⟩
    ·cases h
theorem FQ:∀{l:List (Nat×Option bW)}{id:Nat}{b:bW},Kq l id=some b→∃x∈l,x.1=id∧x.2=some b
 |[],_,_,h=>by simp[Kq]at h
 |(d,b')::r,id,b,h=>by
  simp only[Kq]at h;cases e:Nat.beq id d with
  |true=>rw[e]at h;exact⟨(d,b'),by simp,(OF e).symm,h⟩
  |false=>rw[e]at h;obtain⟨x,hx,h1,h2⟩:=FQ h;exact⟨x,by simp[hx],h1,h2⟩
theorem G4:∀{l:List (Nat×Option bW)}{id:Nat},(∀x∈l,x.2.isSome=true)→(∃x∈l,x.1=id)→(Kq l id).isSome=true
 |[],_,_,⟨x,hx,_⟩=>by cases hx
 |(d,b')::r,id,h,⟨x,hx,he⟩=>by
  simp only[Kq];cases e:Nat.beq id d with
  |true=>simp_all
  |false=>
   rcases asg.1 hx with rfl|hx
   ·simp_all
   ·exact G4 (fun y hy=>h y (by simp[hy])) ⟨x,hx,he⟩
theorem agQ{m:Mem}:∀{bs:List (Nat×GB)}{k:Qx bs→Option R}{r:R},zZ m bs k=some r→∃x,k x=some r∧(iU bs x).map (·.1)=bs.map (·.1)∧(∀y∈iU bs x,∃b,y.2=some b∧m y.1=some b)∧∀M,(∀y∈bs,y.2.within M=true)→∀y∈iU bs x,∀b,y.2=some b→b.within M=true:=by
 intro bs;induction bs with
 |nil=>intro k r h;exact⟨(),h,rfl,by simp[iU],by simp[iU]⟩
 |cons y bs ih=>
  intro k r h;obtain⟨id,sh⟩:=y;cases sh with
  |box cs=>
   simp only[zZ]at h;split at h
   ·rename_i vs hm;obtain⟨t,t1,t2,t3,t4⟩:=ih h;obtain⟨x,x1,x2,x3,x4⟩:=Wy t1;refine⟨x,x1,by simp only[iU,x2];simp[t2],fun y hy=>?_,fun M hM y hy b hb=>?_⟩
    ·simp only[iU,x2]at hy;grind
    ·simp only[iU,x2]at hy;rcases asg.1 hy with rfl|hy
     ·simp only[cO]at hb;subst hb;simp only[bW.within];refine x4 M fun s hs=>?_;have:=hM (id,.box cs) (by simp);grind [GB.within,List.all_eq_true]
     grind
   ·cases h
  |arr sz et=>
   simp only[zZ]at h;split at h
   ·rename_i M4 M5 es hm;split at h
    ·rename_i he;obtain⟨rfl,rfl⟩:=he;obtain⟨t,t1,t2,t3,t4⟩:=ih h;refine⟨(es,t),t1,by simp only[iU];simp[t2],fun y hy=>?_,fun M hM y hy b hb=>?_⟩
     ·simp only[iU]at hy;grind
     ·simp only[iU]at hy;rcases asg.1 hy with rfl|hy
      ·simp only[cO]at hb;subst hb;rfl
      grind
    ·cases h
   ·cases h
  |vF sz et=>
   simp only[zZ]at h;split at h
   ·rename_i M4 M5 es hm;split at h
    ·rename_i he;obtain⟨rfl,rfl⟩:=he;obtain⟨t,t1,t2,t3,t4⟩:=ih h;refine⟨(es,t),t1,by simp only[iU];simp[t2],fun y hy=>?_,fun M hM y hy b hb=>?_⟩
     ·simp only[iU]at hy;grind
     ·simp only[iU]at hy;rcases asg.1 hy with rfl|hy
      ·simp only[cO]at hb;subst hb;rfl
      grind
    ·cases h
   ·cases h
  |nest sz et=>
   simp only[zZ]at h;split at h
   ·rename_i M4 M5 es hm;split at h
    ·rename_i he;obtain⟨rfl,rfl⟩:=he;obtain⟨t,t1,t2,t3,t4⟩:=ih h;refine⟨(es,t),t1,by simp only[iU];simp[t2],fun y hy=>?_,fun M hM y hy b hb=>?_⟩
     ·simp only[iU]at hy;grind
     ·simp only[iU]at hy;rcases asg.1 hy with rfl|hy
      ·simp only[cO]at hb;subst hb;rfl
      grind
    ·cases h
   ·cases h
  |fS kt et=>
   simp only[zZ]at h;split at h
   ·rename_i Ct M5 es hm;split at h
    ·rename_i he;obtain⟨rfl,rfl⟩:=he;obtain⟨t,t1,t2,t3,t4⟩:=ih h;refine⟨(es,t),t1,by simp only[iU];simp[t2],fun y hy=>?_,fun M hM y hy b hb=>?_⟩
     ·simp only[iU]at hy;grind
     ·simp only[iU]at hy;rcases asg.1 hy with rfl|hy
      ·simp only[cO]at hb;subst hb;rfl
      grind
    ·cases h
   ·cases h
  |map kt=>
   simp only[zZ]at h;split at h
   ·rename_i Ct es hm;split at h
    ·rename_i he;subst he;obtain⟨t,t1,t2,t3,t4⟩:=ih h;refine⟨(es,t),t1,by simp only[iU];simp[t2],fun y hy=>?_,fun M hM y hy b hb=>?_⟩
     ·simp only[iU]at hy;grind
     ·simp only[iU]at hy;rcases asg.1 hy with rfl|hy
      ·simp only[cO]at hb;subst hb;rfl
      grind
    ·cases h
   ·cases h
  |iter ty=>
   simp only[zZ]at h;split at h
   ·rename_i t' es hm;split at h
    ·rename_i he;subst he;obtain⟨t,t1,t2,t3,t4⟩:=ih h;refine⟨(es,t),t1,by simp only[iU];simp[t2],fun y hy=>?_,fun M hM y hy b hb=>?_⟩
     ·simp only[iU]at hy;grind
     ·simp only[iU]at hy;rcases asg.1 hy with rfl|hy
      ·simp only[cO]at hb;subst hb;rfl
      grind
    ·cases h
   ·cases h
  |loop=>
   simp only[zZ]at h;split at h
   ·rename_i hm;obtain⟨t,t1,t2,t3,t4⟩:=ih h;refine⟨t,t1,by simp only[iU];simp[t2],fun y hy=>?_,fun M hM y hy b hb=>?_⟩
    ·simp only[iU]at hy;grind
    ·simp only[iU]at hy;rcases asg.1 hy with rfl|hy
     ·simp only[cO]at hb;subst hb;rfl
     grind
   ·cases h
  |busy=>
   simp only[zZ]at h;split at h
   ·rename_i hm;obtain⟨t,t1,t2,t3,t4⟩:=ih h;refine⟨t,t1,by simp only[iU];simp[t2],fun y hy=>?_,fun M hM y hy b hb=>?_⟩
    ·simp only[iU]at hy;grind
    ·simp only[iU]at hy;rcases asg.1 hy with rfl|hy
     ·simp only[cO]at hb;subst hb;rfl
     grind
   ·cases h
mutual
theorem LB{M:List Nat}{id:Nat}:∀(v:V),v.within M=true→v.has id=true→id∈M
 |.agg cs,h,hh=>tG cs (by simpa only[V.within]using h) (by simpa only[V.has]using hh)
 |.aG cs,h,hh=>tG cs (by simpa only[V.within]using h) (by simpa only[V.has]using hh)
 |.fn _ cs,h,hh=>tG cs (by simpa only[V.within]using h) (by simpa only[V.has]using hh)
 |.os j,h,hh=>by have:=OF hh;subst this;simpa[V.within]using h
 |.gw j _ _,h,hh=>by have:=OF hh;subst this;simpa[V.within]using h
 |.oe j _ _,h,hh=>by have:=OF hh;subst this;simpa[V.within]using h
 |.om j,h,hh=>by have:=OF hh;subst this;simpa[V.within]using h
 |.Cx j _ _,h,hh=>by have:=OF hh;subst this;simpa[V.within]using h
 |.GC j _ _ _ _ _,h,hh=>by have:=OF hh;subst this;simpa[V.within]using h
 |.op j _,h,hh=>by have:=OF hh;subst this;simpa[V.within]using h
 |.it j,h,hh=>by have:=OF hh;subst this;simpa[V.within]using h
 |.yl j,h,hh=>by have:=OF hh;subst this;simpa[V.within]using h
 |.pv _,_,hh=>by cases hh
 |.jB,_,hh=>by cases hh
 |.top,_,hh=>by cases hh
theorem tG{M:List Nat}{id:Nat}:∀(cs:List V),mL M cs=true→cA id cs=true→id∈M
 |[],_,hh=>by cases hh
 |v::r,h,hh=>by
  simp only[mL,ao9]at h;simp only[cA,asu]at hh;rcases hh with hh|hh
  ·exact LB v h.1 hh
  ·exact tG r h.2 hh
end
theorem acL{f:Fr}:∀(ck:List (Nat×Sh))(t:Nat),TK (vT ck (ck.map fun(x:Nat×Sh)=>f x.1)) t=f t∨TK (vT ck (ck.map fun(x:Nat×Sh)=>f x.1)) t=.top
 |[],t=>.inr rfl
 |(d,s)::r,t=>by
  simp only[asn,vT,TK,ig];cases e:Nat.beq t d with
  |true=>simp_all
  |false=>exact acL r t
theorem LC{f:Fr}{M:List Nat}:∀(ck:List (Nat×Sh)),mL M (ck.map fun(x:Nat×Sh)=>f x.1)=true→∀t,(TK (vT ck (ck.map fun(x:Nat×Sh)=>f x.1)) t).within M=true
 |[],_,t=>rfl
 |(d,s)::r,h,t=>by
  simp only[asn,mL,ao9]at h;simp only[asn,vT,TK,ig];cases e:Nat.beq t d with
  |true=>simp_all
  |false=>exact LC r h.2 t
theorem LD{T:NH}{f:Fr}{m:Mem}{k:T.ty→Option R}{r:R}(h:enc T f m k=some r):∃x,k x=some r∧Cc (TQ T x) f∧(∀id b,KD T x id=some b→m id=some b)∧(∀t id,(TQ T x t).has id=true→(KD T x id).isSome=true)∧∀j cs id,KD T x j=some (.box cs)→cA id cs=true→(KD T x id).isSome=true:=by
 unfold enc at h;split at h
 ·rename_i uM;obtain⟨t,t1,t2,t3,t4⟩:=agQ h;obtain⟨x,x1,x2,x3,x4⟩:=Wy t1;simp only[NH.ok,ao9,asO]at uM;have kM:∀id,id∈T.Fx.map (·.1)→(KD T x id).isSome=true:=fun id hid=>by
   unfold KD;rw[x2];refine G4 (fun y hy=>?_) ?_
   ·grind
   grind
  refine⟨x,x1,fun s=>?_,fun id b hb=>?_,fun s id hid=>kM id ?_,fun j cs id hj hh=>kM id ?_⟩
  ·simp_all[TQ,acL]
  ·unfold KD at hb;grind [FQ]
  ·have hw:=x4 (T.Fx.map (·.1)) fun s hs=>by simp only[NH.l0,asx]at hs;grind
   have:=LC (M:=T.Fx.map (·.1)) T.ck hw s;unfold TQ at hid;grind [LB]
  ·unfold KD at hj;rw[x2]at hj;obtain⟨y,hy,h1,h2⟩:=FQ hj;have:=t4 (T.Fx.map (·.1)) (fun z hz=>uM.2 z hz) y hy _ h2;grind [tG,bW.within]
 ·cases h
section
variable {E:Env} {w0:bO}
variable{nt:Nat}{μ:Ro}{φ:Nat→aP}{f:Fr}{m:Mem}{a:Act}{w:World}
theorem Rel.dec{f':Fr}{m':Mem}(h:Rel E.P E.aW nt w0 μ φ f m a w)(hf:Cc f' f)(hm:∀id b,m' id=some b→m id=some b)(hl:∀t id,(f' t).has id=true→(m' id).isSome=true)(hb:∀j cs id,m' j=some (.box cs)→cA id cs=true→(m' id).isSome=true):Rel E.P E.aW nt w0 μ φ f' m' a w:={below:=h.below,ro:=h.ro,aW:=h.aW,dW:=fun id b hb=>h.dW id b (hm id b hb),own:=fun id b g hb hg=>h.own id b g (hm id b hb) hg,inj:=fun id1 id2 b1 b2 g h1 h2=>h.inj id1 id2 b1 b2 g (hm _ _ h1) (hm _ _ h2),apart:=fun id b hb=>h.apart id b (hm id b hb),gy:=hb,base:=h.base,dX:=h.dX,Jb:=fun id st hid=>h.Jb id st (hm _ _ hid),size:=h.size,defers:=h.defers,px:=h.px,fr:=(h.weaken hf).fr,live:=hl}
theorem Rel.set(h:Rel E.P E.aW nt w0 μ φ f m a w){t:Nat}{p:PV}(hp:av E.P μ p (ck nt w0 a t)):Rel E.P E.aW nt w0 μ φ (ig f t (.pv p)) m a w:=
 {toaL:=h.toaL,size:=h.size,defers:=h.defers,px:=h.px,fr:=fun s=>by
   by_cases e:s=t
   ·subst e;rw[FD];exact .pv hp
   ·rw[wa e];exact h.fr s,
  live:=fun s id hid=>by
   by_cases e:s=t
   ·simp_all
   ·rw[wa e]at hid;exact h.live s id hid}
theorem Rel.freeze{nt:Nat}{μ:Ro}{φ:Nat→aP}{f:Fr}{m:Mem}{a:Act}{w:World}(h:Rel E.P E.aW nt w0 μ φ f m a w){id sz:Nat}{et:TypeId}{es:List PV}(hm:m id=some (.arr sz et es)):Rel E.P E.aW nt w0 (uK μ w (φ id).g) φ f (aD m id (.vF sz et es)) a w:=
 {toaL:=h.toaL.freeze hm,size:=h.size,defers:=h.defers.mono (oH h.toaL _),px:=h.px,fr:=fun s=>(h.fr s).EZ (oH h.toaL _),live:=fun s i hid=>by
   by_cases e:i=id
   ·simp_all
   ·rw[aF e];exact h.live s i hid}
theorem Ap{A:Type}{nt:Nat}{a:Act}{w:World}:∀{l:List (Nat×Nat)}{μ:Ro}{φ:Nat→aP}{f:Fr}{m:Mem}{k:Fr→Mem→A}{r:A},I7 l f m k=r→Rel E.P E.aW nt w0 μ φ f m a w→∃f' m' μ',k f' m'=r∧Rel E.P E.aW nt w0 μ' φ f' m' a w
 |[],μ,φ,f,m,k,r,h,hR=>⟨f,m,μ,h,hR⟩
 |(t,sz)::l,μ,φ,f,m,k,r,h,hR=>by
  unfold I7 at h;split at h
  ·rename_i id hf;have hx:au E.P μ φ (.os id) (ck nt w0 a t):=hf▸hR.fr t;split at h
   ·rename_i s et es hm;have hF:=hR.freeze hm;have hA:=hF.toaL.arr (.inr (cj m id _));have hp:av E.P (uK μ w (φ id).g) (.rs s es) (ck nt w0 a t):=hA.full hF.toaL (hx.EZ (oH hR.toaL _)) (fun _ _ h=>h) (fun g hg=>by simp[uK,hg]);exact Ap h (hF.set hp)
   ·rename_i s et es hm;have hB:iH E.P μ φ w id (.vF s et es):=hR.dW id _ hm;have hp:av E.P μ (.rs s es) (ck nt w0 a t):=(hR.toaL.arr (.inr hm)).full hR.toaL hx (fun _ _ h=>h) (fun g hg=>by obtain⟨o,ho⟩:=asv.1 (hB.2 g hg);rw[ho,hR.ro _ _ ho]);exact Ap h (hR.set hp)
   ·exact Ap h hR
  ·rename_i hf;have hx:au E.P μ φ .jB (ck nt w0 a t):=hf▸hR.fr t;have hp:av E.P μ (.rs sz []) (ck nt w0 a t):=by generalize ck nt w0 a t=y at hx;cases hx;exact .nv
   exact Ap h (hR.set hp)
  ·exact Ap h hR
variable{id:Nat}
theorem RF{u:V}:∀(cs:List V)(j:Nat),cA id (cs.set j u)=true→cA id cs=true∨u.has id=true:=by
 intro cs j h;obtain⟨v,hv,hh⟩:=cV.1 h;rcases List.mem_or_eq_of_mem_set hv with h1|h1
 ·exact .inl (cV.2 ⟨v,h1,hh⟩)
 simp_all
theorem Rel.acM(h:Rel E.P E.aW nt w0 μ φ f m a w){j:Nat}{cs:List V}{u:V}(hm:m id=some (.box cs))(hj:cs[j]?=some .jB)(hu:au E.P μ φ u (.slice none 0 0))(hl:∀i,u.has i=true→(m i).isSome=true):Rel E.P E.aW nt w0 μ φ f (aD m id (.box (cs.set j u))) a w:=by
 have key:∀i b,aD m id (.box (cs.set j u)) i=some b→(i=id∧b=.box (cs.set j u))∨m i=some b:=fun i b hb=>by
  by_cases e:i=id
  ·simp_all
  simp_all[aF]
 have Fc:∀i,(m i).isSome=true→(aD m id (.box (cs.set j u)) i).isSome=true:=fun i hi=>by
  by_cases e:i=id
  ·simp_all
  ·rw[aF e];omega
 have back:∀i b,aD m id (.box (cs.set j u)) i=some b→∃b',m i=some b'∧(b.lK=true→b'.lK=true)∧b.rowAt=b'.rowAt:=fun i b hb=>by
  rcases key i b hb with⟨rfl,rfl⟩|hb
  ·exact⟨_,hm,fun _=>rfl,rfl⟩
  simp_all
 exact
 {below:=h.below,ro:=h.ro,aW:=h.aW,dW:=fun i b hb=>by
   rcases key i b hb with⟨rfl,rfl⟩|hb
   ·obtain⟨g,c,T,c1,c2,c3,c4,c5,c6⟩:=h.dW _ _ hm;refine⟨g,c,T,c1,c2,by simpa using c3,fun i v x hv hx=>?_,c5,by simpa using c6⟩;rw[asN]at hv;split at hv
    ·rename_i e;subst e;split at hv
     ·simp only[cO]at hv;subst hv;have:=c4 j .jB x hj hx;cases this;omega
     ·cases hv
    ·exact c4 i v x hv hx
   ·exact h.dW i b hb,
  own:=fun i b g hb hg=>by obtain⟨b',lf,QA,B0⟩:=back i b hb;obtain⟨o1,o2⟩:=h.own i b' g lf (by simp_all[bW.owns]);simp_all,
  inj:=fun id1 id2 b1 b2 g h1 h2 g1 g2=>by obtain⟨b1',h1',_,r1⟩:=back id1 b1 h1;obtain⟨b2',h2',_,r2⟩:=back id2 b2 h2;exact h.inj id1 id2 b1' b2' g h1' h2' (by simp_all[bW.owns]) (by simp_all[bW.owns]),
  apart:=fun i b hb=>by obtain⟨b',lf,_,B0⟩:=back i b hb;have:=h.apart i b' lf;unfold bW.apart at this⊢;rw[B0];omega,
  gy:=fun i TV ye hi hid=>by
   rcases key i _ hi with⟨rfl,he⟩|hi
   ·simp only[bW.box.injEq]at he;subst he;rcases RF _ _ hid with hid|hid
    ·exact Fc _ (h.gy _ _ _ hm hid)
    simp_all
   ·exact Fc _ (h.gy _ _ _ hi hid),
  base:=h.base,dX:=h.dX,
  Jb:=fun i st hi=>by
   rcases key i _ hi with⟨_,he⟩|hi
   ·cases he
   ·exact h.Jb i st hi,
  size:=h.size,defers:=h.defers,px:=h.px,fr:=h.fr,
  live:=fun t i hid=>Fc _ (h.live t i hid)}
variable{et:TypeId}
theorem Rel.ajc(h:Rel E.P E.aW nt w0 μ φ f m a w){nid:Nat}(hn:m nid=none)(eR:0<bj E.P et):∃φ',(φ' nid).g=none∧Rel E.P E.aW nt w0 μ φ' f (aD m nid (.arr (bj E.P et) et [])) a w:=by
 have hf:fresh false nid (.arr (bj E.P et) et []) f m (fun f m _=>some (f,m))=some (f,aD m nid (.arr (bj E.P et) et [])):=by simp[fresh,hn]
 obtain⟨f1,m1,_,hk,_,_,Ca⟩:=eL hf;simp only[cO,apa]at hk;obtain⟨rfl,rfl⟩:=hk;obtain⟨φ',a1,a2,a3⟩:=Ca E.P E.aW w0 μ φ w w (ck nt w0 a) (JR none 0 0 (bj E.P et)) h.toaL ⟨h.fr,h.live⟩ ⟨nC.refl _ _,h.toaL.ro,fun _ _ _ _ _=>rfl,by simp,fun φ' hp _=>by refine⟨by rw[hp];rfl,by rw[hp],rfl,eR,by simp,by rw[hp];simp[maxLen],?_⟩;simp_all,by simp[bW.names],fun st h=>by cases h⟩;exact⟨φ',by rw[a1],{toaL:=a2,size:=h.size,defers:=h.defers,px:=h.px,fr:=a3.fr,live:=a3.live}⟩
theorem Aq{A:Type}{nt:Nat}{a:Act}{w:World}:∀{l:List (Nat×Nat×Nat×TypeId)}{μ:Ro}{φ:Nat→aP}{f:Fr}{m:Mem}{k:Mem→A}{r:A},I8 E.P l m k=r→Rel E.P E.aW nt w0 μ φ f m a w→∃m' φ',k m'=r∧Rel E.P E.aW nt w0 μ φ' f m' a w
 |[],μ,φ,f,m,k,r,h,hR=>⟨m,φ,h,hR⟩
 |(id,j,nid,et)::l,μ,φ,f,m,k,r,h,hR=>by
  unfold I8 at h;split at h
  ·rename_i cs hm;split at h
   ·rename_i hj;split at h
    ·rename_i hn;split at h
     ·rename_i eR;obtain⟨φ',g0,l6⟩:=hR.ajc hn eR;have cU:id≠nid:=fun e=>by simp_all
      exact Aq h (l6.acM (by rw[aF cU];omega) hj (.yg g0) fun i hi=>by have:=OF hi;subst this;simp)
     ·exact Aq h hR
    ·exact Aq h hR
   ·exact Aq h hR
  ·exact Aq h hR
theorem G5{A:Type}{nt:Nat}{a:Act}{w:World}:∀{l:List (Nat×Nat×Nat)}{μ:Ro}{φ:Nat→aP}{f:Fr}{m:Mem}{k:Mem→A}{r:A},NM l m k=r→Rel E.P E.aW nt w0 μ φ f m a w→∃m',k m'=r∧Rel E.P E.aW nt w0 μ φ f m' a w
 |[],μ,φ,f,m,k,r,h,hR=>⟨m,h,hR⟩
 |(id,j,sz)::l,μ,φ,f,m,k,r,h,hR=>by
  unfold NM at h;split at h
  ·rename_i cs hm;split at h
   ·rename_i hj;exact G5 h (hR.acM hm hj (.pv .nv) (fun i hi=>by cases hi))
   ·exact G5 h hR
  ·exact G5 h hR
theorem j9{T:Type}{l:List T}{n i:Nat}{e:T}(h:(l.take n)[i]?=some e):l[i]?=some e∧i<n:=by grind
theorem Rel.agR(h:Rel E.P E.aW nt w0 μ φ f m a w){s:Nat}{es:List PV}(hm:m id=some (.arr s et es)):Rel E.P E.aW nt w0 μ φ f (aD m id (.nest s et es)) a w:=by
 have hA:aX E.P μ φ w id s et es:=h.dW id _ hm;have key:∀i b,aD m id (.nest s et es) i=some b→(i=id∧b=.nest s et es)∨m i=some b:=fun i b hb=>by
  by_cases e:i=id
  ·simp_all
  simp_all[aF]
 have Fc:∀i,(m i).isSome=true→(aD m id (.nest s et es) i).isSome=true:=fun i hi=>by
  by_cases e:i=id
  ·simp_all
  ·rw[aF e];omega
 have hN:bu E.P μ φ w id s et es:=by
  obtain⟨h1,h2,h3,h4,h5,h6,h7⟩:=hA;refine⟨h1,h2,h3,h4,h5,h6,?_⟩;cases hg:(φ id).g with
  |none=>rw[hg]at h7;omega
  |some g=>rw[hg]at h7;obtain⟨c,T,c1,c2,c3,c4,c5⟩:=h7;exact⟨c,T,c1,c2,c3,fun i e j p x he hp hx=>.pure (c4 i e j p x he hp hx),c5⟩
 have Ib:∀i off,(bW.nest s et es).rowAt i off=true→False:=fun i off hr=>by
  rcases me hr with⟨_,_,_,e,s',rs,hb,he,hp⟩|⟨_,_,_,_,_,_,hb,_⟩
  ·cases hb;obtain⟨h1,h2,h3,h4,h5,h6,h7⟩:=hA;cases hg:(φ id).g with
   |none=>simp_all
   |some g=>
    rw[hg]at h7;obtain⟨c,T,c1,c2,c3,c4,c5⟩:=h7;have hi:i<es.length:=(Qs.1 he).1;have hj:off<s:=by grind
    have cd:i*s+off<c.size:=by have:(i+1)*s≤(φ id).cap*s:=asd _ (by omega);grind
    exact Bool.noConfusion (av.J9 (c4 i e off _ _ he hp (ame cd)))
  ·cases hb
 have ar3:∀i off,(bW.arr s et es).rowAt i off=true→False:=vG;have hM:aL E.P E.aW w0 μ φ (aD m id (.nest s et es)) w:=by
  refine h.toaL.Wn (fun _ k=>k) (fun j b' hb=>?_) (fun j b' g hb hg=>?_) (fun j b' hb=>?_) (fun j cs i hb hh=>?_) (fun j st hb=>?_)
  ·rcases key j b' hb with⟨rfl,rfl⟩|hb
   ·exact hN
   ·exact h.dW j b' hb
  ·rcases key j b' hb with⟨rfl,rfl⟩|hb
   ·exact⟨j,_,hm,.inl (sB Ib hg),fun _=>rfl,rfl⟩
   grind
  ·rcases key j b' hb with⟨rfl,rfl⟩|hb
   ·exact wb Ib
   ·exact h.apart j b' hb
  ·rcases key j _ hb with⟨_,hb⟩|hb
   ·cases hb
   ·exact Fc _ (h.gy j cs i hb hh)
  grind
 exact{toaL:=hM,size:=h.size,defers:=h.defers,px:=h.px,fr:=h.fr,live:=fun t i hid=>Fc _ (h.live t i hid)}
theorem LF{A:Type}{nt:Nat}{a:Act}{w:World}:∀{l:List Nat}{μ:Ro}{φ:Nat→aP}{f:Fr}{m:Mem}{k:Mem→A}{r:A},Q4 l m k=r→Rel E.P E.aW nt w0 μ φ f m a w→∃m',k m'=r∧Rel E.P E.aW nt w0 μ φ f m' a w
 |[],μ,φ,f,m,k,r,h,hR=>⟨m,h,hR⟩
 |id::l,μ,φ,f,m,k,r,h,hR=>by
  unfold Q4 at h;split at h
  ·rename_i s et es hm;exact LF h (hR.agR hm)
  ·exact LF h hR
theorem Rel.cut(h:Rel E.P E.aW nt w0 μ φ f m a w){j d len s:Nat}{cs:List V}{es:List PV}(hm:m id=some (.box cs))(hj:cs[j]?=some (.gw d 0 len))(hd:m d=some (.arr s et es))(cU:d≠id):∃φ',Rel E.P E.aW nt w0 μ φ' (fC d f) (aD (aD (bF (bR d m) d) d (.arr s et (es.take len))) id (.box ((cs.map (yr d)).set j (.os d)))) a w:=by
 obtain⟨m',hm'⟩:∃m',m'=aD (aD (bF (bR d m) d) d (.arr s et (es.take len))) id (.box ((cs.map (yr d)).set j (.os d))):=⟨_,rfl⟩;rw[←hm'];obtain⟨g0,c,T,c1,c2,c3,c4,c5,c6⟩:=h.dW _ _ hm;have hA:aX E.P μ φ w d s et es:=h.dW d _ hd;have ze:j<cs.length:=(Qs.1 hj).1;have hx:=c4 j _ _ hj (ame (by omega));obtain⟨φ',f1,f2,f3,f4⟩:∃φ':Nat→aP,(∀i,i≠d→φ' i=φ i)∧(φ' d).g=(φ d).g∧aX E.P μ φ' w d s et (es.take len)∧au E.P μ φ' (.os d) c[j]:=by
  obtain⟨h1,h2,h3,h4,h5,h6,h7⟩:=hA;generalize c[j]=x at hx;cases hx with
  |vV hg=>refine⟨φ,fun _ _=>rfl,rfl,?_,.yg hg⟩;rw[hg]at h7;obtain⟨rfl,h7⟩:=h7;refine⟨h1,h2,h3,h4,by simp,h6,?_⟩;simp_all
  | @gw _ _ _ cap g ad hg hl ha hc hc'=>
   rw[hg]at h7;obtain⟨q,Tq,q1,q2,q3,q4,q5⟩:=h7;have hlen:(es.take len).length=len:=by simp_all
   have had:ad=⟨g,0,none⟩:=by simp_all
   subst had;refine⟨fun i=>if i=d then{φ d with cap:=cap,len:=len}else φ i,fun i hi=>IT hi,by simp,⟨by simp[hlen],by simpa using h2,h3,h4,fun i e he=>h5 i e (j9 he).1,by simp;omega,?_⟩,?_⟩
   ·simp only[BY,hg];refine⟨q,Tq,q1,asT (asd _ (by omega)) q2,by omega,fun i e j p x he hp hx=>q4 i e j p x (j9 he).1 hp hx,fun i x hi hx=>q5 i x (Nat.lt_of_lt_of_le hi (asd _ (by omega))) hx⟩
   ·have:=au.os (P:=E.P) (μ:=μ) (φ:=fun i=>if i=d then{φ d with cap:=cap,len:=len}else φ i) (id:=d) (g:=g) (by simp[hg]);simpa using this
 have key:∀i b,m' i=some b→(i=id∧b=.box ((cs.map (yr d)).set j (.os d)))∨(i=d∧b=.arr s et (es.take len))∨(i≠id∧i≠d∧∃b',m i=some b'∧b=ij d b'):=fun i b hb=>by
  rw[hm']at hb;by_cases e:i=id
  ·simp_all
  ·rw[aF e]at hb;by_cases e':i=d
   ·simp_all
   simp_all[aF,gj]
 have Fc:∀i,(m i).isSome=true→(m' i).isSome=true:=fun i hi=>by
  rw[hm'];by_cases e:i=id
  ·simp_all
  ·rw[aF e];by_cases e':i=d
   ·simp_all
   simp_all[aF,zb]
 have ajd:∀{i:Nat}{b':bW},(ij d b').names i=true→i≠d:=fun{i b'}hn=>by cases b'<;>simp only[ij,bW.names]at hn<;>first|cases hn|exact(Er hn).2
 have hM:aL E.P E.aW w0 μ φ' m' w:=by
  refine h.toaL.Wn (fun _ k=>k) (fun i b' hb=>?_) (fun i b' g hb hg=>?_) (fun i b' hb=>?_) (fun i TV i' hb hh=>?_) (fun i st hb=>?_)
  ·rcases key i b' hb with⟨rfl,rfl⟩|⟨rfl,rfl⟩|⟨e1,e2,b2,yj,rfl⟩
   ·refine⟨g0,c,T,by grind,c2,by simpa using c3,fun n v x hv Pq=>?_,c5,by grind⟩;rw[asN]at hv;split at hv
    ·simp_all
    ·simp only[AT,asa]at hv;obtain⟨v',hv',rfl⟩:=hv;exact((c4 n v' x hv' Pq).kill d).mono (fun _ _ h=>h) fun i hi=>f1 i (CG hi).2
   ·exact f3
   ·exact(h.dW i b2 yj).kill.cF (fun k hk=>f1 k (ajd hk)) (f1 i e2) (fun _ _ h=>h) (fun _ _=>rfl)
  ·rcases key i b' hb with⟨rfl,rfl⟩|⟨rfl,rfl⟩|⟨e1,e2,b2,yj,rfl⟩
   ·refine⟨i,_,hm,.inl ?_,fun _=>rfl,rfl⟩;have:=sB (by intro i off h;simp[bW.rowAt]at h) hg;grind
   ·refine⟨i,_,hd,.inl ?_,fun _=>rfl,rfl⟩;grind [sB,vG]
   ·refine⟨i,b2,yj,?_,fun QA=>by rw[Es]at QA;omega,rfl⟩;rw[f1 i e2]at hg;exact gZ.1 hg
  ·rcases key i b' hb with⟨rfl,rfl⟩|⟨rfl,rfl⟩|⟨e1,e2,b2,yj,rfl⟩
   ·grind [wb,bW.rowAt]
   ·exact wb vG
   ·rw[f1 i e2];exact A1.2 (h.apart i b2 yj)
  ·rcases key i _ hb with⟨rfl,hb⟩|⟨rfl,hb⟩|⟨e1,e2,b2,yj,e⟩
   ·simp only[bW.box.injEq]at hb;subst hb;rcases RF _ _ hh with hh|hh
    ·exact Fc _ (h.gy _ _ _ hm (Er hh).1)
    ·have:=OF hh;simp_all
   ·cases hb
   ·cases b2 with
    |box cs2=>simp only[ij,bW.box.injEq]at e;subst e;exact Fc _ (h.gy _ _ _ yj (Er hh).1)
    |_=>simp[ij]at e
  ·rcases key i _ hb with⟨rfl,hb⟩|⟨rfl,hb⟩|⟨e1,e2,b2,yj,e⟩
   ·cases hb
   ·cases hb
   ·cases b2 with
    |loop st2=>simp_all[ij,bW.loop.injEq]
    |_=>simp[ij]at e
 exact⟨φ',{toaL:=hM,size:=h.size,defers:=h.defers,px:=h.px,fr:=(fun t=>((h.fr t).kill d).mono (fun _ _ h=>h) fun i hi=>f1 i (CG hi).2),live:=fun t i hid=>Fc _ (h.live t i (CG hid).1)}⟩
theorem Ar{A:Type}{nt:Nat}{a:Act}{w:World}:∀{l:List (Nat×Nat)}{μ:Ro}{φ:Nat→aP}{f:Fr}{m:Mem}{k:Fr→Mem→A}{r:A},I9 l f m k=r→Rel E.P E.aW nt w0 μ φ f m a w→∃f' m' φ',k f' m'=r∧Rel E.P E.aW nt w0 μ φ' f' m' a w
 |[],μ,φ,f,m,k,r,h,hR=>⟨f,m,φ,h,hR⟩
 |(id,j)::l,μ,φ,f,m,k,r,h,hR=>by
  unfold I9 at h;split at h
  ·rename_i cs hm;split at h
   ·rename_i d len hj;split at h
    ·rename_i s et es hd;split at h
     ·exact Ar h hR
     ·rename_i cU;have cU:d≠id:=fun e=>cU (by simp_all);obtain⟨φ',l6⟩:=hR.cut hm hj hd cU;exact Ar h l6
    ·exact Ar h hR
   ·exact Ar h hR
  ·exact Ar h hR
theorem RG{A:Type}{T:NH}{k:Fr→Mem→A}{r:A}(h:NN E.P T f m k=r)(hR:Rel E.P E.aW nt w0 μ φ f m a w):∃f' m' μ' φ',k f' m'=r∧Rel E.P E.aW nt w0 μ' φ' f' m' a w:=by unfold NN at h;obtain⟨_,_,_,h,hR⟩:=Ar h hR;obtain⟨m1,φ1,h,hR⟩:=Aq h hR;obtain⟨m',h,hR⟩:=G5 h hR;obtain⟨m',h,hR⟩:=LF h hR;obtain⟨f',m',μ',h,hR⟩:=Ap h hR;grind
def acN:Ex→Exit
 |.normal=>.normal
 |.exit id=>.exit id
 |.ret=>.ret
theorem Rel.acO(h:Rel E.P E.aW nt w0 μ φ f m a w):Rel E.P E.aW nt w0 μ φ f m a {w with drawn:=w.drawn+1}:={toaL:=h.toaL.drew,size:=h.size,defers:=h.defers,px:=h.px,fr:=h.fr,live:=h.live}
theorem aag{rd:Option Nat}(hE:ma E)(hY:Ac E.P E.aW E.fn.ntmps E.yl w0){R:Type}{ops:Array Oper}{draw:Bool}{k:Ex→Fr→Mem→Option R}{r:R}(h:gi E (.region id ops draw) f m k=some r){Q:Exit→Act→World→Prop}(hR:Rel E.P E.aW E.fn.ntmps w0 μ φ f m a w)(hQ:∀f' m' μ' φ' a' w',k .normal f' m'=some r→Rel E.P E.aW E.fn.ntmps w0 μ' φ' f' m' a' w'→Q .normal a' w'):(Code.region id ops draw).wpIn (FR rd) 0 E.P Q a w:=by
 simp only[gi]at h;cases draw with
 |false=>
  simp only[cQ,IS]at h;refine wpIn_region ?_;have hmz:∀x∈(List.range ops.size).zip ops.toList,ops[x.1]?=some x.2:=fun x hx=>by have:=(zi (l:=ops.toList) (i:=x.1) (o:=x.2)).1 (by omega);simp_all
  have:=j2 (rd:=rd) hE hY _ (.inl rfl) h hmz (by intro x hx g hg;cases hg) (fun h=>by omega) μ φ a w Q [] hR (by intro g hg;cases hg) fun f' m' μ' φ' a' w' hk l6 _ _=>hQ f' m' μ' φ' a' w' hk l6;simp_all[atc,List.map_fst_zip]
 |true=>
  simp only[BY]at h;split at h
  ·split at h
   ·rename_i hc;simp only[ao9]at hc;exact wpIn_region_any hE.mixed (Uv hE hY hc.1.1 hc.1.2 hc.2 h hR.acO hQ)
   ·cases h
  split at h
  ·rename_i hi;refine wpIn_region_any hE.mixed ?_;split at h
   ·rename_i yn;exact Ly hE hY (.inl rfl) (fun _ o ho=>(Bool.and_eq_true_iff.1 (asO.1 yn o (atF.2 ho))).1) hi h hR.acO hQ
   ·exact Ly hE hY (.inr rfl) (fun h=>by omega) hi h hR.acO hQ
  ·cases h
end
theorem agS{g:FuncId}{fn:Func}(hf:P.funcs[g]?=some fn)(ah8:(fn.name== "runtime.NumGoroutine")=false)(hb:fn.body=some c){args:Array Value}{w:World}:(callFunc g args).run P w=.ok (.enter g args) w:=Ew hf ah8 hb
theorem aah{nt:Nat}{w0:bO}{a:Act}{t:Nat}:ck nt w0 a (t+nt)=w0.sv (t+nt):=by unfold ck;rw[IT (by omega)]
def Il(c:Code):Prop:=∀{E:Env}{w0:bO}{rd:Option Nat}(_:ma E)(_:Ac E.P E.aW E.fn.ntmps E.yl w0)(_:E.rdb=false→rd=none){R:Type}{f:Fr}{m:Mem}{k:Ex→Fr→Mem→Option R}{r:R},gi E c f m k=some r→∀{μ:Ro}{φ:Nat→aP}{a:Act}{w:World}{Q:Exit→Act→World→Prop},Rel E.P E.aW E.fn.ntmps w0 μ φ f m a w→(∀e f' m' μ' φ' a' w',k e f' m'=some r→Rel E.P E.aW E.fn.ntmps w0 μ' φ' f' m' a' w'→Q (acN e) a' w')→c.wpIn (FR rd) 0 E.P Q a w
theorem acP{as b:Code}(ihA:Il as)(ihB:Il b){E:Env}(hE:ma E){w2:bO}{lid l ntI:Nat}{ps:Array Nat}{rc:Loop}{fid:Nat}(hrc:w2.rc lid=some (l,rc))(tP:rc.params=ps)(has:rc.assign=as)(hb:rc.body=b)(rS:rc.tmps.size=E.fn.ntmps)(hsv:∀t,t<E.fn.ntmps→w2.sv (t+ntI)=rc.tmps.getD t undef):Ac E.P E.aW ntI (fun _ nt _ id args F m k=>bif Nat.beq id lid then roundOf (gi {E with fid:=fid,yl:=HS,rdb:=true} as) (gi {E with fid:=fid,yl:=HS,rdb:=true} b) lid E.fn.ntmps ps.toList nt args F m k else none) w2:=by
 intro R site id args F m k r hy μ φ ρ w xs hM hF hρ hl hr Pl g hg;dsimp only at hy;cases hid:Nat.beq id lid with
 |false=>rw[hid]at hy;cases hy
 |true=>
  rw[hid]at hy;have hid:=OF hid;subst hid;simp only[cond_true]at hy;unfold roundOf at hy;split at hy
  ·rename_i Wz;split at hy
   ·rename_i N6;obtain⟨g',rc',l1,l2,l3⟩:=hM.Jb id _ Wz;rw[hrc]at l2;simp only[cO,apa]at l2;obtain⟨rfl,rfl⟩:=l2;rw[l1]at hg;simp only[cO]at hg;subst hg;have QB:xs.size=(Ty.ready.obj rc).params.size:=by
     have:ps.toList.length=ps.size:=by simp
     show xs.size=rc.params.size;rw[tP];omega
    refine⟨_,_,_,_,run_yield l3 QB,?_⟩;have hE':ma {E with fid:=fid,yl:=HS,rdb:=true}:=⟨hE.mixed,hE.lp,hE.ctx,hE.own,hE.inl,hE.rng⟩;have ail:=Oo (P:=E.P) (μ:=μ) (φ:=φ) ps.toList args xs.toList (CA ntI F) rc.tmps rS (by omega) (fun t ht=>by have:=hF.fr (t+ntI);rw[hρ _ (by omega),hsv t ht]at this;exact this) (fun i v x hv hx=>hr i v x hv (by simpa using hx));have hR3:Rel E.P E.aW E.fn.ntmps {w2 with sv:=fun t=>ρ (t-E.fn.ntmps),dX:=μ,px:=fun _=>none} μ φ (V8 E.fn.ntmps (KE ps.toList args (CA ntI F)) F) m {tmps:=((Ty.ready.obj rc).params.zip xs).foldl (fun tmps(t,a)=>tmps.setIfInBounds t a) (Ty.ready.obj rc).tmps,defers:=[]} w:=by
     have e:((Ty.ready.obj rc).params.zip xs).foldl (fun tmps(t,a)=>tmps.setIfInBounds t a) (Ty.ready.obj rc).tmps=(ps.toList.zip xs.toList).foldl (fun tmps(x:Nat×Value)=>tmps.setIfInBounds x.1 x.2) rc.tmps:=by rw[acK];show(rc.params.toList.zip xs.toList).foldl _ rc.tmps=_;rw[tP]
     rw[e];refine{toaL:=hM.CF rfl rfl (fun _ _ h=>h) (fun _ _ _=>rfl),size:=ail.1,defers:=.nil _ _ _,px:=fun _ _ h=>(by cases h),fr:=fun t=>?_,live:=fun t id hid=>?_}
     ·unfold V8 ck;by_cases ht:t<E.fn.ntmps
      ·rw[show Nat.blt t E.fn.ntmps=true by simp_all,IN ht];exact ail.2 t ht
      ·rw[show Nat.blt t E.fn.ntmps=false by rw[←atf,ath];omega,IT ht];exact hF.fr _
     ·unfold V8 at hid;cases e:Nat.blt t E.fn.ntmps with
      |true=>
       rw[e]at hid;rcases Lz _ _ _ _ hid with h|h
       ·exact Pl id h
       ·exact hF.live _ id h
      |false=>rw[e]at hid;exact hF.live _ id hid
    refine roundIn_of_wpIn trivial ?_;show(Ty.ready.obj rc).assign.wpIn (FR (some l)) 0 E.P _ _ _;have ha':(Ty.ready.obj rc).assign=as:=has;rw[ha'];refine ihA (rd:=some l) hE' (GL _ _ _ _) (fun h=>by cases h) hy hR3 fun e f1 m1 μ1 φ1 a1 w1 ZZ Uq=>?_;split at ZZ
    ·rename_i hm1;obtain⟨g1,rc1,p1,p2,p3⟩:=Uq.Jb id _ hm1;have p2:w2.rc id=some (g1,rc1):=p2;rw[hrc]at p2;simp only[cO,apa]at p2;obtain⟨rfl,rfl⟩:=p2;refine⟨_,run_beginRound p3 rfl,?_⟩;have lf:(Ty.ready.obj rc).body=b:=hb;refine Eq.mpr (congrArg (fun c:Code=>c.wpIn (FR (some l)) 0 E.P _ a1 _) lf) ?_;have A2:=Uq.toaL.turn (st':=.busy) hm1 p1 hrc;have ap8:Rel E.P E.aW E.fn.ntmps {w2 with sv:=fun t=>ρ (t-E.fn.ntmps),dX:=μ,px:=fun _=>none} μ1 φ1 f1 (aD m1 id (.loop .busy)) a1 (w1.putObj l (.loop {Ty.ready.obj rc with state:=.busy})):=
      {toaL:=A2,size:=Uq.size,defers:=Uq.defers,px:=Uq.px,fr:=Uq.fr,live:=fun t j hj=>by
        by_cases e:j=id
        ·subst e;simp
        ·rw[aF e];exact Uq.live t j hj}
     refine ihB (rd:=some l) hE' (GL _ _ _ _) (fun h=>by cases h) ZZ ap8 fun e f2 m2 μ2 φ2 a2 w2' Ua Ob=>?_;split at Ua
     ·rename_i cZ;obtain⟨g2,rc2,q1,q2,q3⟩:=Ob.Jb id _ cZ;have q2:w2.rc id=some (g2,rc2):=q2;rw[hrc]at q2;simp only[cO,apa]at q2;obtain⟨rfl,rfl⟩:=q2;have hle:Rr μ μ2:=Ob.dX;have hFp:cp E.P μ2 φ2 m2 (CA E.fn.ntmps f2) ρ:=by refine⟨fun t=>?_,fun t id hid=>Ob.live _ id hid⟩;have:=Ob.fr (t+E.fn.ntmps);simp_all[aah,CA]
      have fin:∀(st:Ty)(v:Bool),k (.pv (.bool v)) (CA E.fn.ntmps f2) (aD m2 id (.loop st))=some r→∃v' f' m' y μ' φ',k v' f' m'=some r∧Ending.returned (.bool v)=.returned y∧Rr μ μ'∧aL E.P E.aW w2 μ' φ' m' (w2'.putObj l (.loop (st.obj rc)))∧cp E.P μ' φ' m' f' ρ∧au E.P μ' φ' v' y∧∀id,v'.has id=true→(m' id).isSome=true:=by
       intro st v hk;have hM2:=Ob.toaL.turn (st':=st) cZ q1 hrc;refine⟨_,_,_,_,μ2,φ2,hk,rfl,hle,hM2.CF rfl rfl (fun b o hb=>hle b o (hM.dX b o hb)) (fun _ _ _=>rfl),⟨hFp.fr,fun t j hj=>?_⟩,.pv .bool,fun id hid=>by cases hid⟩;by_cases e:j=id
       ·subst e;simp
       ·rw[aF e];exact hFp.live t j hj
      cases e with
      |normal=>exact⟨_,_,run_endRound none q3,fin .ready true Ua⟩
      |exit j=>exact⟨_,_,run_endRound (some (.exit j)) q3,fin (.done (.exit j)) false Ua⟩
      |ret=>exact⟨_,_,run_endRound (some .ret) q3,fin (.done .ret) false Ua⟩
     ·cases Ua
    ·cases ZZ
   ·cases hy
  ·cases hy
theorem agT{μ:Ro}{φ:Nat→aP}{m:Mem}{v:V}{g:FuncId}{caps:List V}{y:Value}(h:aiL v=some (g,caps))(hv:au P μ φ v y)(hl:∀id,v.has id=true→(m id).isSome=true):∃xs,y=.func (.func g) #[] xs∧caps.length=xs.size∧(∀(i:Nat)v x,caps[i]?=some v→xs[i]?=some x→au P μ φ v x)∧∀id,cA id caps=true→(m id).isSome=true:=by
 unfold aiL at h;split at h
 ·rename_i g0 c0;cases e:Nat.blt g0 Kr with
  |false=>rw[e]at h;cases h
  |true=>
  rw[e]at h;simp only[cond_true,cO,apa]at h;obtain⟨rfl,rfl⟩:=h;cases hv with
  | @fn _ _ xs h1 h2=>grind [vW,id,V.has]
 ·rename_i g0 c0;cases e:Nat.blt g0 Kr with
  |false=>rw[e]at h;cases h
  |true=>
  rw[e]at h;simp only[cond_true,cO,apa]at h;obtain⟨rfl,rfl⟩:=h;cases hv with
  |pv hv=>cases hv with
   | @fn _ _ xs h1 h2=>
    refine⟨xs,vW e,by simpa using h1,fun i v x hv hx=>?_,fun id hid=>?_⟩
    ·simp only[AT,asa]at hv;obtain⟨q,hq,rfl⟩:=hv;exact .pv (h2 i q x hq hx)
    ·obtain⟨v,hv,hh⟩:=cV.1 hid;obtain⟨q,_,rfl⟩:=asx.1 hv;cases hh
 ·cases h
theorem PF{g:Operand}{ps:Array Tmp}{as b:Code}(ihA:Il as)(ihB:Il b):Il (.rangeFunc g ps as b):=by
 intro E w0 rd hE hY kO R f m k r h μ φ a w Q hR hQ;simp only[gi]at h;split at h
 ·cases h
 rename_i hrb;have kO:=kO (by simpa using hrb);subst kO;split at h;rotate_left
 ·cases h
 rename_i p0 pr Qy;generalize ar4:cR E (some p0)=lid at h;obtain⟨f1,m1,_,h,Wz,E7,ap9⟩:=eL h;obtain⟨hm0,rfl,rfl⟩:=E7 rfl;refine wpIn_rangeFunc fun fn _=>?_;obtain⟨rec,iV⟩:∃rec:Loop,rec={state:=.ready,pending:=none,fn,tmps:=a.tmps,params:=ps,assign:=as,body:=b,defers:=w.heap.size}:=⟨_,rfl⟩;obtain⟨wD,hwD⟩:∃wD,wD=w.alloc (.deferred (some [])):=⟨_,rfl⟩;obtain⟨W1,hW1⟩:∃W1,W1=wD.alloc (.loop rec):=⟨_,rfl⟩;obtain⟨l,hl⟩:∃l,l=wD.heap.size:=⟨_,rfl⟩;have hl':l=w.heap.size+1:=by rw[hl,hwD];simp
 obtain⟨μD,aje⟩:∃μD,μD=Jt μ w (.deferred (some [])):=⟨_,rfl⟩;have agU:Rr μ μD:=aje▸RD hR.toaL _;have hMD:aL E.P E.aW w0 μD φ m wD:=aje▸hwD▸hR.toaL.agO _;have hD:μD w.heap.size=some (.deferred (some [])):=by rw[aje];simp[Jt]
 obtain⟨w1,Nl⟩:∃w1:bO,w1={w0 with dX:=μD,rc:=fun i=>if i=lid then some (l,rec)else w0.rc i}:=⟨_,rfl⟩;have amY:aL E.P E.aW w1 μD φ m wD:=Nl▸hMD.CF rfl rfl (fun _ _ h=>h) (fun id st hid=>IT fun e=>by simp_all);have NY:ck E.fn.ntmps w1 a=ck E.fn.ntmps w0 a:=by subst Nl;rfl
 have hFD:cp E.P μD φ m f1 (ck E.fn.ntmps w0 a):=⟨fun t=>(hR.fr t).EZ agU,hR.live⟩;have amZ:w1.rc lid=some (l,rec):=by simp_all
 have ab4:W1.heap[l]?=some (.loop rec):=by grind [heap_alloc_new]
 have Qz:Ty.ready.obj rec=rec:=by subst iV;rfl
 have oK:ny E.P w1 μD φ m wD W1 lid (.loop .ready) (JR (some l) 0 0 0):=by
  rw[hW1];refine ny.alloc amY (by rw[hl]) (fun φ' hp _=>⟨l,rec,by rw[hp],?_⟩) (by simp[bW.names]) fun st uJ=>?_
  ·simp_all
  simp_all
 obtain⟨φ1,aqa,A2,JU⟩:=ap9 E.P E.aW w1 μD φ wD W1 (ck E.fn.ntmps w0 a) (JR (some l) 0 0 0) amY hFD oK;have Uq:Rel E.P E.aW E.fn.ntmps w1 μD φ1 f1 (aD m lid (.loop .ready)) a W1:={toaL:=A2,size:=hR.size,defers:=(by have:=hR.defers.mono agU;subst Nl;omega),px:=(by subst Nl;exact fun b o hb=>agU b o (hR.dX b o (hR.px b o hb))),fr:=fun t=>by rw[NY];exact JU.fr t,live:=JU.live};have Z9:=aA Uq g;split at h;rotate_left
 ·cases h
 rename_i gid caps uV;obtain⟨xs,hgv,hlen,nB,aqb⟩:=agT uV Z9.1 Z9.2
 ·clear Z9;obtain⟨fnI,cI,f1,f2,f3,yz⟩:=hE.rng _ _ _ _ _ _ _ _ _ h;have hyl:au E.P μD φ1 (.yl lid) (.func (.yield l) #[] #[]):=.yl (by rw[aqa]);have hC:=yz w1 μD φ1 (ck E.fn.ntmps w0 a) W1 (#[.func (.yield l) #[] #[]]++xs) A2 JU (by simp;omega) (fun i v x hv hx=>by
    grind) (fun id hid=>by
    simp only[cA,asu]at hid;rcases hid with hid|hid
    ·have:=OF hid;subst this;simp
    ·exact aqb id hid) (by
   refine fun R site id args F m k r hy=>acP (fid:=site*4096+E.fid%4096) ihA ihB hE (w2:={w1 with sv:=fun t=>ck E.fn.ntmps w0 a (t-fnI.ntmps)}) (rc:=rec) (l:=l) (lid:=lid) (ps:=ps) amZ (by subst iV;rfl) (by subst iV;rfl) (by subst iV;rfl) (by subst iV;exact hR.size) (fun t ht=>by grind [ck,Nat.add_sub_cancel,vU]) R site id args F m k r hy)
  refine⟨l,[{target:=.collected w.heap.size,args:= #[]}],W1,{target:=.fn (.func gid) xs,args:= #[.func (.yield l) #[] #[]]},W1,gid,#[.func (.yield l) #[] #[]]++xs,W1,?_,?_,?_,?_,?_,?_⟩
  ·have:=run_enterLoop_outer (P:=E.P) (w:=w) fn a.tmps ps as b;rw[hl',hW1,hwD,iV];exact this
  ·simp only[resolve,hgv];simp[go_sem]
  ·exact fun _ _=>trivial
  ·grind [invoke,agS]
  ·decide
  ·refine FR.Wq (hC.mono ?_);rintro e w' ⟨v,f',m',y,μ',φ',hk,rfl,hM',hF',_,_⟩;have am0:Rr μD μ':=by have:=hM'.dX;subst Nl;omega
   have hD':μ' w.heap.size=some (.deferred (some [])):=am0 _ _ hD;have main:∀st,m' lid=some (.loop st)→st≠.busy→∃w4,(Instr.endLoop l).run E.P w'=.ok (st.obj rec).pending w4∧Rel E.P E.aW E.fn.ntmps w0 μ' φ' (fC lid f') (bF (bR lid m') lid) {a with defers:=[{target:=.collected w.heap.size,args:= #[]}]++a.defers} w4:=by
    intro st uJ Wj;obtain⟨g',rc',p1,p2,p3⟩:=hM'.Jb lid st uJ;rw[amZ]at p2;simp only[cO,apa]at p2;obtain⟨rfl,rfl⟩:=p2;have H2:=hM'.own lid _ _ uJ (.inl p1);have hMf:=hM'.forget lid;have Ib:∀id b,bF (bR lid m') lid id=some b→¬b.owns (φ' id) l:=fun id b' hid e=>by obtain⟨cU,b2,yj,rfl⟩:=gj hid;exact cU (hM'.inj id lid b2 _ l yj uJ (gZ.1 e) (.inl p1))
    have hM4:=hMf.other (.loop {st.obj rec with state:=.exhausted}) H2.1 (H2.2 rfl) Ib;have hM5:aL E.P E.aW w0 μ' φ' (bF (bR lid m') lid) (w'.putObj l (.loop {st.obj rec with state:=.exhausted})):=hM4.CF (by subst Nl;rfl) (by subst Nl;rfl) (fun b o hb=>am0 b o (agU b o (hR.dX b o hb))) (fun id st hid=>by
      have cU:id≠lid:=fun e=>by subst e;simp at hid
      subst Nl;exact(IT cU).symm)
    refine⟨_,run_endLoop p3 (by cases st<;>simp_all[Ty.obj]),{toaL:=hM5,size:=hR.size,defers:=?_,px:=hR.px,fr:=?_,live:=?_}⟩
    ·obtain⟨Ds,e,hnd,hDs⟩:=hR.defers;have cd:∀b o,μ b=some o→b<w.heap.size:=fun b o hb=>(are.1 (hR.ro b o hb)).1;refine⟨w.heap.size::Ds,by simp[e],auA.2 ⟨fun hd=>?_,hnd⟩,fun D hd=>?_⟩
     ·grind
     ·rcases asg.1 hd with rfl|hd
      ·refine⟨hR.below.size,?_,hD'⟩;cases ho:w0.px w.heap.size with
       |none=>rfl
       |some o=>have:=cd _ _ (hR.dX _ _ (hR.px _ _ ho));omega
      grind
    ·exact(hF'.forget lid).fr
    ·exact(hF'.forget lid).live
   dsimp only at hk;split at hk
   ·rename_i uJ;obtain⟨w4,e1,e2⟩:=main .ready uJ (by simp);exact⟨none,w4,e1,hQ .normal _ _ _ _ _ _ hk e2⟩
   ·rename_i j uJ;obtain⟨w4,e1,e2⟩:=main (.done j) uJ (by simp);refine⟨some j.code,w4,e1,?_⟩;cases j with
    |ret=>exact wpIn_ret (hQ .ret _ _ _ _ _ _ hk e2)
    |exit id=>exact wpIn_exit (hQ (.exit id) _ _ _ _ _ _ hk e2)
   ·cases hk
theorem acQ:∀(c:Code),Il c:=by
 intro c;induction c with
 |skip=>intro E w0 rd hE hY kO R f m k r h μ φ a w Q hR hQ;simp only[gi]at h;exact wpIn_skip (hQ .normal _ _ _ _ _ _ h hR)
 |region id ops draw=>intro E w0 rd hE hY kO R f m k r h μ φ a w Q hR hQ;exact aag hE hY h hR (hQ .normal)
 |seq x y ihx ihy=>
  intro E w0 rd hE hY kO R f m k r h μ φ a w Q hR hQ;simp only[gi]at h;refine wpIn_seq (ihx hE hY kO h hR fun e f' m' μ' φ' a' w' hk l6=>?_);cases e with
  |normal=>exact ihy hE hY kO hk l6 hQ
  |exit id=>exact hQ (.exit id) _ _ _ _ _ _ hk l6
  |ret=>exact hQ .ret _ _ _ _ _ _ hk l6
 |cond c x y ihx ihy=>
  intro E w0 rd hE hY kO R f m k r h μ φ a w Q hR hQ;simp only[gi]at h;split at h
  ·rename_i t b hb;have hv:a.eval (.tmp t)=.bool b:=by have:=(aA hR (.tmp t)).1;grind [wq]
   have lf:f t=.pv (.bool b):=(Lf hb).2;have hle:Cc (ig f t (.pv (.bool b))) f:=fun s=>by
    simp only[ig];cases e:Nat.beq s t with
    |true=>simp_all
    |false=>simp
   cases b with
   |true=>simp only[BY]at h;exact wpIn_cond_true hv (ihx hE hY kO h (hR.weaken hle) hQ)
   |false=>simp only[cQ,IS]at h;exact wpIn_cond_false hv (ihy hE hY kO h (hR.weaken hle) hQ)
  ·cases h
 |block id b ih=>
  intro E w0 rd hE hY kO R f m k r h μ φ a w Q hR hQ;simp only[gi]at h;refine wpIn_block (ih hE hY kO h hR fun e f' m' μ' φ' a' w' hk l6=>?_);cases e with
  |normal=>exact hQ .normal _ _ _ _ _ _ hk l6
  |exit j=>
   simp only[Ex.abP]at hk;simp only[acN,Exit.inBlock];split at hk
   ·rename_i hj;rw[IN hj];exact hQ .normal _ _ _ _ _ _ hk l6
   ·rename_i hj;rw[IT hj];exact hQ (.exit j) _ _ _ _ _ _ hk l6
  |ret=>exact hQ .ret _ _ _ _ _ _ hk l6
 |loop b ih=>
  intro E w0 rd hE hY kO R f m k r h μ φ a w Q hR hQ;simp only[gi]at h;split at h
  ·rename_i T _;obtain⟨f,m,μ,φ,h,hR⟩:=RG h hR;obtain⟨s,hs,s1,s2,s3,s4⟩:=LD h;obtain⟨n0,hs⟩:=hE.lp _ _ _ _ _ hs;refine Oq (fun n a w=>∃s μ φ,Rel E.P E.aW E.fn.ntmps w0 μ φ (TQ T s) (KD T s) a w∧cE (fun s rec=>gi E b (TQ T s) (KD T s) (Ex.Q5 (fun f m=>NN E.P T f m fun f m=>enc T f m rec) k)) n s=some r) ?_ n0 a w ⟨s,μ,φ,hR.dec s1 s2 s3 s4,hs⟩;rintro n a w ⟨s,μ,φ,hR,hs⟩;cases n with
   |zero=>simp[cE]at hs
   |succ n=>
    refine⟨n,rfl,?_⟩;simp only[cE]at hs;refine ih hE hY kO hs hR fun e f' m' μ' φ' a' w' hk l6=>?_;cases e with
    |normal=>obtain⟨f',m',μ',φ',hk,l6⟩:=RG hk l6;obtain⟨s',hs',t1,t2,t3,t4⟩:=LD hk;exact⟨s',μ',φ',l6.dec t1 t2 t3 t4,hs'⟩
    |exit j=>exact hQ (.exit j) _ _ _ _ _ _ hk l6
    |ret=>exact hQ .ret _ _ _ _ _ _ hk l6
  ·refine Oq (fun n a w=>∃f m μ φ,Rel E.P E.aW E.fn.ntmps w0 μ φ f m a w∧Q3 (fun f m rec=>gi E b f m (Ex.Q5 rec k)) n f m=some r) ?_ E.u a w ⟨f,m,μ,φ,hR,h⟩;rintro n a w ⟨f,m,μ,φ,hR,hs⟩;cases n with
   |zero=>simp[Q3]at hs
   |succ n=>
    refine⟨n,rfl,?_⟩;simp only[Q3]at hs;refine ih hE hY kO hs hR fun e f' m' μ' φ' a' w' hk l6=>?_;cases e with
    |normal=>exact⟨f',m',μ',φ',l6,hk⟩
    |exit j=>exact hQ (.exit j) _ _ _ _ _ _ hk l6
    |ret=>exact hQ .ret _ _ _ _ _ _ hk l6
 |exit id=>intro E w0 rd hE hY kO R f m k r h μ φ a w Q hR hQ;simp only[gi]at h;exact wpIn_exit (hQ (.exit id) _ _ _ _ _ _ h hR)
 |label l=>intro E w0 rd hE hY kO R f m k r h μ φ a w Q hR hQ;simp only[gi]at h;exact wpIn_label (hQ .normal _ _ _ _ _ _ h hR)
 |ret=>intro E w0 rd hE hY kO R f m k r h μ φ a w Q hR hQ;simp only[gi]at h;exact wpIn_ret (hQ .ret _ _ _ _ _ _ h hR)
 |scope b ih=>intro E w0 rd hE hY kO R f m k r h μ φ a w Q hR hQ;simp only[gi]at h;exact aaf (ih hE hY kO h hR fun e f' m' μ' φ' a' w' hk l6=>by cases e<;>exact hQ _ _ _ _ _ _ _ hk l6)
 |rangeFunc g ps as b ihA ihB=>exact PF ihA ihB
 |_=>intro E w0 rd hE hY kO R f m k r h;simp[gi]at h
def Obj.ajf:Obj→Bool
 |.cells .. =>true
 |.map .. =>true
 |_=>false
def WA(μ μ':Ro):Prop:=∀b o,μ b=some o→Obj.ajf o=true→μ' b=some o
theorem WA.trans{a b c:Ro}(h:WA a b)(k:WA b c):WA a c:=fun x o hx ho=>k x o (h x o hx ho) ho
section
variable {P:Program} {G:Nat→Option (List PV)} {w0:bO} {μ μ':Ro} {φ:Nat→aP} {m:Mem} {w w':World}
variable{x:Value}
theorem LG(h:WA μ μ'){b o:Nat}(hx:cellAt μ b o=some x):cellAt μ' b o=some x:=by
 unfold cellAt at*;split at hx
 ·rename_i c t fz hb;rw[h _ _ hb rfl];omega
 ·cases hx
theorem av.off(h:WA μ μ'){p:PV}(hp:av P μ p x):av P μ' p x:=by
 induction hp with
 |int h=>exact .int h
 |bool=>exact .bool
 |str h=>exact .str h
 |agg h1 _ h3 ih=>exact .agg h1 ih h3
 |aG h1 _ ih=>exact .aG h1 ih
 |vO=>exact .vO
 |rp X h1 _ h3 ih=>exact .rp X (fun i p hi=>LG h (h1 i p hi)) ih h3
 |nv=>exact .nv
 |Nc h=>exact .Nc h
 |rs X h1 h2 h3 h4 _ h6 ih=>exact .rs X h1 h2 h3 (fun i e j p hi hj=>LG h (h4 i e j p hi hj)) ih h6
 |AO=>exact .AO
 |rm h1 h2 h3 h4 h5 _ _ ih1 ih2=>exact .rm (h _ _ h1 rfl) h2 h3 h4 h5 ih1 ih2
 |JP=>exact .JP
 |fn h1 _ ih=>exact .fn h1 ih
 |abV=>exact .abV
 |agr=>exact .agr
 |bad=>exact .bad
theorem EY.off(h:WA μ μ'){g:Nat}{cs:List PV}(hv:EY P μ g cs):EY P μ' g cs:=⟨hv.rep.off h,let⟨c,T,z,h1,h2⟩:=hv.size;⟨c,T,z,h _ _ h1 rfl,h2⟩⟩
theorem au.off(h:WA μ μ'){v:V}{x:Value}(hv:au P μ φ v x):au P μ' φ v x:=by
 induction hv with
 |pv hp=>exact .pv (hp.off h)
 |jB=>exact .jB
 |op hg=>exact .op hg
 |oe hg=>exact .oe hg
 |yg hg=>exact .yg hg
 |os hg=>exact .os hg
 |vV hg=>exact .vV hg
 |gw hg hl ha hc hc'=>exact .gw hg hl ha hc hc'
 |Pm hg=>exact .Pm hg
 |Cx hg=>exact .Cx hg
 |GC hg hs=>exact .GC hg hs
 |om hg=>exact .om hg
 |yl hg=>exact .yl hg
 |it hg=>exact .it hg
 |fn h1 _ ih=>exact .fn h1 ih
 |agg h1 _ h3 ih=>exact .agg h1 ih h3
 |aG h1 _ ih=>exact .aG h1 ih
 |top=>exact .top
theorem aX.off(h:WA μ μ'){id sz:Nat}{et:TypeId}{es:List PV}(ha:aX P μ φ w id sz et es)(hw:∀g,(φ id).g=some g→w'.heap[g]?=w.heap[g]?):aX P μ' φ w' id sz et es:=by
 obtain⟨a1,a2,a3,a4,a5,a6,a7⟩:=ha;refine⟨a1,a2,a3,a4,a5,a6,?_⟩;cases hg:(φ id).g with
 |none=>rw[hg]at a7;omega
 |some g=>rw[hg]at a7;obtain⟨c,T,c1,c2,c3,c4,c5⟩:=a7;exact⟨c,T,by rw[hw g hg];omega,c2,c3,fun i e j p x h1 h2 h3=>(c4 i e j p x h1 h2 h3).off h,c5⟩
theorem fm.off(hh:WA μ μ'){R:Jc}{s:Nat}{rs:List PV}{x:Value}(h:fm P μ R w s rs x)(hw:∀g,R.g=some g→w'.heap[g]?=w.heap[g]?):fm P μ' R w' s rs x:=
 let⟨⟨et,hA⟩,hV⟩:=h
 ⟨⟨et,hA.off hh hw⟩,hV.off hh⟩
theorem eG.off(hh:WA μ μ'){R:Jc}{p:PV}{x:Value}(h:eG P μ R w p x)(hw:p.isRow=true→∀g,R.g=some g→w'.heap[g]?=w.heap[g]?):eG P μ' R w' p x:=by
 unfold eG at*;split at h
 ·exact fm.off hh h (hw rfl)
 ·exact av.off hh h
theorem bu.off(hh:WA μ μ'){id sz:Nat}{et:TypeId}{es:List PV}(h:bu P μ φ w id sz et es)(hw:∀g,(bW.nest sz et es).owns (φ id) g→w'.heap[g]?=w.heap[g]?):bu P μ' φ w' id sz et es:=by
 obtain⟨a1,a2,a3,a4,a5,a6,a7⟩:=h;refine⟨a1,a2,a3,a4,a5,a6,?_⟩;cases hg:(φ id).g with
 |none=>rw[hg]at a7;omega
 |some g=>rw[hg]at a7;obtain⟨c,T,c1,c2,c3,c4,c5⟩:=a7;exact⟨c,T,by rw[hw g (.inl hg)];omega,c2,c3,fun i e j p x h1 h2 h3=>(c4 i e j p x h1 h2 h3).off hh fun hr g' dr=>hw g' (.inr ⟨i,j,by rw[dR h1 h2];omega,dr⟩),c5⟩
theorem fm.WB{R:Jc}{s g:Nat}{rs:List PV}(h:fm P μ R w s rs x)(hg:R.g=some g):∃c T z,w.heap[g]?=some (.cells c T z):=by obtain⟨⟨et,_,_,_,_,_,_,a7⟩,_⟩:=h;have dr:R.up.g=some g:=hg;grind
theorem iH.acR{id g i off:Nat}{b:bW}(h:iH P μ φ w id b)(hr:b.rowAt i off=true)(hg:((φ id).row i off).g=some g):∃c T z,w.heap[g]?=some (.cells c T z):=by
 rcases me hr with⟨sz,et,es,e,s,rs,rfl,he,hp⟩|⟨kt,e0,es,k,s,rs,rfl,rfl,he⟩
 ·have hN:bu P μ φ w id sz et es:=h;have hgg:∃g0,(φ id).g=some g0:=by
   cases hq:(φ id).g with
   |some g0=>simp
   |none=>have a7:=hN.2.2.2.2.2.2;simp_all
  obtain⟨g0,TT⟩:=hgg;obtain⟨c,_,x,_,_,c3,_⟩:=hN.cell TT he hp;exact fm.WB (show fm P μ _ w s rs x from c3) hg
 ·obtain⟨g0,en,clock,kk,TT,hh,hs,hk,hc,Cu,hv⟩:=h;have hi:i<en.size:=by grind
  have h3:=(hv i k _ en[i] he (ame hi)).2;exact fm.WB (P:=P) (μ:=μ) (R:=(φ id).row i 0) (s:=s) (rs:=rs) (x:=en[i].val) ⟨⟨_,h3.1⟩,h3.2⟩ hg
theorem iH.off(h:WA μ μ')(B0:∀b o,μ b=some o→w.heap[b]?=some o){id:Nat}{b:bW}(hb:iH P μ φ w id b)(hw:∀g,b.owns (φ id) g→w'.heap[g]?=w.heap[g]?):iH P μ' φ w' id b:=by
 cases b with
 |nest sz et es=>exact bu.off h hb hw
 |fS kt e0 es=>
  obtain⟨g,en,clock,kk,hg,hh,hs,hk,hc,Cu,hv⟩:=hb;refine⟨g,en,clock,kk,hg,by rw[hw g (.inl hg)];omega,hs,hk,hc,Cu,fun i k v e h1 h2=>⟨(hv i k v e h1 h2).1.off h,?_⟩⟩;have h3:=(hv i k v e h1 h2).2;split at h3
  ·exact⟨h3.1.off h fun g' dr=>hw g' (.inr ⟨i,0,by rw[mc h1];rfl,dr⟩),h3.2.off h⟩
  ·exact h3.off h
 |box cs=>obtain⟨g,c,T,hg,hh,hs,hv,h1,JS⟩:=hb;exact⟨g,c,T,hg,by rw[hw g (.inl hg)];omega,hs,fun i v x hi hx=>(hv i v x hi hx).off h,h1,JS⟩
 |arr sz et es=>exact aX.off h hb fun g hg=>hw g (.inl hg)
 |vF sz et es=>refine⟨aX.off h hb.1 fun g hg=>hw g (.inl hg),fun g hg=>?_⟩;obtain⟨o,ho⟩:=asv.1 (hb.2 g hg);obtain⟨_,_,_,_,_,_,a7⟩:=hb.1;rw[hg]at a7;obtain⟨c,_,c1,_⟩:=a7;have:=B0 g o ho;rw[c1]at this;cases this;rw[h _ _ ho rfl];rfl
 |map kt es=>obtain⟨g,en,clock,kk,hg,hh,hs,hk,hc,Cu,hv⟩:=hb;exact⟨g,en,clock,kk,hg,by rw[hw g (.inl hg)];omega,hs,hk,hc,Cu,fun i k v e h1 h2=>⟨(hv i k v e h1 h2).1.off h,(hv i k v e h1 h2).2.off h⟩⟩
 |iter t es cur=>obtain⟨g,mg,en,clock,seen,hg,hh,QA,Cu,JS,hv,hcu⟩:=hb;exact⟨g,mg,en,clock,seen,hg,by rw[hw g (.inl hg)];omega,h _ _ QA rfl,Cu,JS,fun i k v e h1 h2=>⟨(hv i k v e h1 h2).1.off h,(hv i k v e h1 h2).2.off h⟩,fun k v hc=>let⟨i,e,h1,h2,h3,h4⟩:=hcu k v hc;⟨i,e,h1,h2,h3.off h,h4.off h⟩⟩
 |loop st=>obtain⟨g,rc,hg,hh⟩:=hb;exact⟨g,rc,hg,by rw[hw g (.inl hg)];omega⟩
def Ju(μ:Ro)(D:Nat):Ro:=fun b=>if b=D then none else μ b
theorem WC{D:Nat}(hD:μ D=some (.deferred (some []))):WA μ (Ju μ D):=by intro b o hb ho;unfold Ju;rw[IT fun e=>by subst e;rw[hD]at hb;cases hb;cases ho];omega
theorem aL.shut(hM:aL P G w0 μ φ m w){D:Nat}(hB:w0.heap.size≤D)(hk:w0.dX D=none)(hD:μ D=some (.deferred (some []))):aL P G w0 (Ju μ D) φ m (w.putObj D (.deferred none)):=by
 have hc:=WC hD;have hh:=hM.ro _ _ hD;have Np:∀k,k≠D→(w.putObj D (.deferred none)).heap[k]?=w.heap[k]?:=fun k hk=>World.putObj_heap_other hk;have cU:∀id b g,m id=some b→b.owns (φ id) g→g≠D:=fun id b g hm hg e=>by
  subst e;have hR:=hM.dW id b hm;rcases hg with hg|⟨i,off,hr,hg⟩
  rotate_left
  ·obtain⟨c,T,z,h2⟩:=hR.acR hr hg;rw[hh]at h2;cases h2
  cases b with
  |nest sz et es=>obtain⟨_,_,_,_,_,_,a7⟩:=hR;simp_all
  |fS kt e0 es=>obtain⟨g',en,clock,kk,dr,h2,_⟩:=hR;simp_all
  |box cs=>obtain⟨g',c,T,dr,h2,_⟩:=hR;simp_all
  |arr sz et es=>obtain⟨_,_,_,_,_,_,a7⟩:=hR;simp_all
  |vF sz et es=>obtain⟨⟨_,_,_,_,_,_,a7⟩,_⟩:=hR;simp_all
  |map kt es=>obtain⟨g',en,clock,kk,dr,h2,_⟩:=hR;simp_all
  |loop st=>obtain⟨g',rc,dr,h2⟩:=hR;simp_all
  |iter t es cur=>obtain⟨g',mg,en,clock,seen,dr,h2,_⟩:=hR;simp_all
 refine⟨hM.below.trans ((nC.putObj w D _).mono hB),fun b o hb=>?_,fun g cs hg=>(hM.aW g cs hg).off hc,fun id b hm=>(hM.dW id b hm).off hc hM.ro fun g hg=>Np g (cU id b g hm hg),fun id b g hm hg=>?_,hM.inj,hM.apart,hM.gy,fun b o hb cd=>?_,fun b o hb=>?_,fun id st hm=>?_⟩
 ·unfold Ju at hb;split at hb
  ·cases hb
  ·rename_i e;rw[Np b e];exact hM.ro b o hb
 ·obtain⟨h1,h2⟩:=hM.own id b g hm hg;refine⟨h1,fun ab1=>?_⟩;unfold Ju;simp_all
 ·unfold Ju at hb;split at hb
  ·omega
  ·exact hM.base b o hb cd
 ·unfold Ju;rw[IT fun e=>by simp_all];exact hM.dX b o hb
 ·obtain⟨g,rc,h1,h2,h3⟩:=hM.Jb id st hm;grind
end
section
variable {E:Env} {w0:bO}
theorem G6{R:Ending→World→Prop}{f:Fr}{m:Mem}{φ:Nat→aP}{fn:Func}{tmps:Array Value}:∀(Ds:List Nat){μ:Ro}{w:World},Ds.Nodup→(∀D∈Ds,w0.heap.size≤D∧w0.dX D=none∧μ D=some (.deferred (some [])))→Rel E.P E.aW E.fn.ntmps w0 μ φ f m {tmps,defers:=[]} w→(∀μ' w',Rel E.P E.aW E.fn.ntmps w0 μ' φ f m {tmps,defers:=[]} w'→∃v,(results fn tmps).run E.P w'=.ok v w'∧R (.returned v) w')→LeavesInM (FR none) 0 E.P fn tmps R (Ds.map fun D=>{target:=.collected D,args:= #[]}) .returning w
 |[],μ,w,_,_,hR,Nq=>Nq μ w hR
 |D::Ds,μ,w,hn,hD,hR,Nq=>by obtain⟨h1,h2,h3⟩:=hD D (by simp);obtain⟨n1,n2⟩:=auA.1 hn;have hM:=hR.toaL.shut h1 h2 h3;refine⟨by simp,.inl ⟨D,_,rfl,run_takeDeferred (hR.ro _ _ h3),?_⟩⟩;refine G6 Ds n2 (fun D' hd'=>?_) {toaL:=hM,size:=hR.size,defers:=.nil _ _ _,px:=hR.px,fr:=fun t=>(hR.fr t).off (WC h3),live:=hR.live} Nq;obtain⟨a1,a2,a3⟩:=hD D' (by simp[hd']);refine⟨a1,a2,?_⟩;unfold Ju;grind
theorem y8(hE:ma E)(hY:Ac E.P E.aW E.fn.ntmps E.yl w0)(hko:∀b o,w0.dX b=some o→w0.px b=some o){g:FuncId}{c:Code}(hf:E.P.funcs[g]?=some E.fn)(hb:E.fn.body=some c){xs:Array Value}{R:Ending→World→Prop}{S:Type}{f:Fr}{m:Mem}{k:Ex→Fr→Mem→Option S}{r:S}(h:gi E c f m k=some r){μ:Ro}{φ:Nat→aP}{w:World}(hR:Rel E.P E.aW E.fn.ntmps w0 μ φ f m {tmps:=xs++Array.replicate (E.fn.ntmps-xs.size) undef,defers:=[]} w)(Nq:∀e f' m' μ' φ' tmps w',k e f' m'=some r→Rel E.P E.aW E.fn.ntmps w0 μ' φ' f' m' {tmps,defers:=[]} w'→(∀id,e≠.exit id)∧∃v,(results E.fn tmps).run E.P w'=.ok v w'∧R (.returned v) w'):Calls E.P g xs w R:=by
 refine(callsIn_wide (n:=0)).1 (callsIn_of_wp_marks (F:=FR none) hf hb trivial ?_);refine acQ c hE hY (fun _=>rfl) h hR fun e f' m' μ' φ' a' w' hk l6=>?_;obtain⟨Ds,e1,e2,e3⟩:=l6.defers;have Ob:Rel E.P E.aW E.fn.ntmps w0 μ' φ' f' m' {tmps:=a'.tmps,defers:=[]} w':={toaL:=l6.toaL,size:=l6.size,defers:=.nil _ _ _,px:=l6.px,fr:=l6.fr,live:=l6.live};have key:(∀id,e≠.exit id)→LeavesInM (FR none) 0 E.P E.fn a'.tmps R a'.defers .returning w':=fun _=>by
  rw[e1];refine G6 Ds e2 (fun D hd=>?_) Ob fun μ2 w2 hR3=>(Nq e f' m' μ2 φ' a'.tmps w2 hk hR3).2;obtain⟨a1,a2,a3⟩:=e3 D hd;refine⟨a1,?_,a3⟩;cases hq:w0.dX D with
  |none=>rfl
  |some o=>simp_all
 have cU:=(Nq e f' m' μ' φ' a'.tmps w' hk Ob).1;cases e with
 |normal=>exact key cU
 |ret=>exact key cU
 |exit id=>simp_all
end
end Go.Ab
