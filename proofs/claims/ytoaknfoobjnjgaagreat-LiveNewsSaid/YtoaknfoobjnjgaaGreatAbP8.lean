import Derived.Test.YtoaknfoobjnjgaaGreatAbP7
import Derived.RangeFuncIn
import Derived.Scope
set_option linter.all false
namespace Go.Ab
open Go.RowKit (Below)
section
variable {P:Program} {G:Nat→Option (List PV)} {w0:bu} {μ:Ro} {φ:Nat→aH} {m:Mem} {w:World}
theorem lh.putObj(w:World)(g:Nat)(o:Obj):lh g w (w.putObj g o):=⟨⟨rfl,rfl,rfl,by simp,fun k hk=>World.putObj_heap_other (by omega)⟩,fun _=>aoa _⟩
theorem aA.AS(h:aA P G w0 μ φ m w){w1:bu}(hw:w1.w=w0.w)(Oz:w1.mu=w0.mu)(hk:∀b o,w1.dC b=some o→μ b=some o)(Sa:∀id st,m id=some (.loop st)→w1.rc id=w0.rc id)(hh:w1.hid=w0.hid:=by first|rfl|(subst_vars;rfl)):aA P G w1 μ φ m w:=by obtain⟨a0,b0,c0,d0,e0,f0,g0⟩:=w0;obtain⟨a1,b1,c1,d1,e1,f1,g1⟩:=w1;simp only at hw Oz hh;subst hw;subst Oz;subst hh;refine⟨h.below,h.ro,h.az,h.dB,h.own,h.inj,h.apart,h.fI,h.base,hk,fun id st hid=>?_,h.hid⟩;obtain⟨g,rc,h1,h2,h3⟩:=h.Ft id st hid;simp_all
def EL(μ:Ro)(w:World)(o:Obj):Ro:=fun b=>if b=w.heap.size then some o else μ b
theorem Ps(hM:aA P G w0 μ φ m w)(o:Obj):Pe μ (EL μ w o):=by intro b o' hb;have:=(T0.1 (hM.ro b o' hb)).1;unfold EL;grind
theorem aA.adP(hM:aA P G w0 μ φ m w)(o:Obj):aA P G w0 (EL μ w o) φ m (w.alloc o):=by
 have hle:=Ps hM o;have hold:∀k,k<w.heap.size→(w.alloc o).heap[k]?=w.heap[k]?:=fun k hk=>lh.heap_alloc w o k hk;have ou:w0.heap.size≤w.heap.size:=hM.below.size;refine⟨hM.below.alloc hM.below.size o,fun b o' hb=>?_,fun g cs hg=>(hM.az g cs hg).mono hle,fun id b hid=>?_,fun id b g hid hg=>?_,hM.inj,hM.apart,hM.fI,fun b o' hb bF=>?_,fun b o' hb=>hle b o' (hM.dC b o' hb),fun id st hid=>?_,fun k o' h=>(by obtain⟨h1,h2,h3,h4⟩:=hM.hid k o' h;have bF:=(T0.1 h1).1;exact⟨by rw[hold k bF];exact h1,h2,by unfold EL;rw[QU (by omega)];exact h3,h4⟩)⟩
 ·unfold EL at hb;split at hb
  ·grind [heap_alloc_new]
  ·have:=hM.ro b o' hb;grind
 ·have hR:=hM.dB id b hid;exact hR.cv (fun _ _=>rfl) rfl hle (fun g hg=>hold g (hR.HE hg))
 ·obtain⟨h1,h2⟩:=hM.own id b g hid hg;refine⟨h1,fun Zl=>?_⟩;have:=(hM.dB id b hid).HE hg;unfold EL;grind
 ·unfold EL at hb;rw[QU (by omega)]at hb;exact hM.base b o' hb bF
 ·obtain⟨g,rc,h1,h2,h3⟩:=hM.Ft id st hid;grind
theorem aA.other(hM:aA P G w0 μ φ m w){g:Nat}(o:Obj)(hg:w0.heap.size≤g)(hμ:μ g=none)(A1:∀id b,m id=some b→¬b.owns (φ id) g)(hh:w0.hid g=none):aA P G w0 μ φ m (w.putObj g o):=by
 have Ax:∀k,k≠g→(w.putObj g o).heap[k]?=w.heap[k]?:=fun k hk=>World.putObj_heap_other hk;refine⟨hM.below.trans ((lh.putObj w g o).mono hg),fun b o' hb=>?_,hM.az,fun id b hid=>?_,hM.own,hM.inj,hM.apart,hM.fI,hM.base,hM.dC,fun id st hid=>?_,fun k o' h=>⟨(Ax k fun e=>by subst e;rw[hh]at h;cases h).trans (hM.hid k o' h).1,(hM.hid k o' h).2⟩⟩
 ·rw[Ax b fun e=>by simp_all];exact hM.ro b o' hb
 ·have hR:=hM.dB id b hid;exact hR.cv (fun _ _=>rfl) rfl (fun _ _ h=>h) (fun g' cL=>Ax g' fun e=>by simp_all)
 ·obtain⟨g',rc,h1,h2,h3⟩:=hM.Ft id st hid;exact⟨g',rc,h1,h2,by rw[Ax g' fun e=>by subst e;exact A1 id _ hid (.inl h1)];omega⟩
theorem aA.turn(hM:aA P G w0 μ φ m w){id g:Nat}{st st':Q9}{rc:Loop}(hm:m id=some (.loop st))(hg:(φ id).g=some g)(Sa:w0.rc id=some (g,rc)):aA P G w0 μ φ (aw m id (.loop st')) (w.putObj g (.loop (st'.obj rc))):=by have bF:=(hM.dB id _ hm).HE (.inl hg);have Zo:(w.putObj g (.loop (st'.obj rc))).heap[g]?=some (.loop (st'.obj rc)):=World.putObj_heap_same bF;exact hM.write hm rfl hg (lh.putObj w g _) (by simp) (fun k hk=>World.putObj_heap_other hk) ⟨g,rc,hg,Zo⟩ rfl (by simp[bL.names]) fun s hs=>by simp_all
end
section
variable {P:Program} {μ:Ro} {φ:Nat→aH}
theorem LZ{nt:Nat}:∀(ps:List Nat)(args:List V)(xs:List Value)(f:Fr)(tmps:Array Value),tmps.size=nt→args.length=xs.length→(∀t,t<nt→an P μ φ (f t) (tmps.getD t undef))→(∀(i:Nat)v x,args[i]?=some v→xs[i]?=some x→an P μ φ v x)→((ps.zip xs).foldl (fun tmps(x:Nat×Value)=>tmps.setIfInBounds x.1 x.2) tmps).size=nt∧∀t,t<nt→an P μ φ (Is ps args f t) (((ps.zip xs).foldl (fun tmps(x:Nat×Value)=>tmps.setIfInBounds x.1 x.2) tmps).getD t undef)
 |[],args,xs,f,tmps,hs,_,hf,_=>by cases args<;>exact⟨hs,hf⟩
 |p::ps,[],xs,f,tmps,hs,hl,hf,_=>by have:xs=[]:=aof (by simpa using hl.symm);subst this;exact⟨hs,hf⟩
 |p::ps,v::args,[],f,tmps,hs,hl,hf,_=>by simp at hl
 |p::ps,v::args,x::xs,f,tmps,hs,hl,hf,hr=>by
  simp only[List.zip_cons_cons,aqX,Is];refine LZ ps args xs (gJ f p v) (tmps.setIfInBounds p x) (by simpa using hs) (by simpa using hl) (fun t ht=>?_) (fun i u y hu hy=>hr (i+1) u y (by simpa using hu) (by simpa using hy));by_cases e:t=p
  ·subst e;rw[Dr];have:(tmps.setIfInBounds t x).getD t undef=x:=by simp_all
   rw[this];exact hr 0 v x rfl rfl
  ·rw[ur e];have:(tmps.setIfInBounds p x).getD t undef=tmps.getD t undef:=by rw[am8,am8,aor,QU (fun h=>e h.symm)]
   rw[this];exact hf t ht
theorem Jv{id:Nat}:∀(ps:List Nat)(args:List V)(f:Fr)(t:Nat),(Is ps args f t).has id=true→cp id args=true∨(f t).has id=true
 |[],args,f,t,h=>by cases args<;>exact .inr h
 |p::ps,[],f,t,h=>.inr h
 |p::ps,v::args,f,t,h=>by
  simp only[Is]at h;rcases Jv ps args _ t h with h|h
  ·exact .inl (by simp[cp,h])
  ·by_cases e:t=p
   ·subst e;rw[Dr]at h;exact .inl (by simp[cp,h])
   ·rw[ur e]at h;exact .inr h
theorem aac(ps:Array Nat)(xs:Array Value)(tmps:Array Value):(ps.zip xs).foldl (fun tmps(t,a)=>tmps.setIfInBounds t a) tmps=(ps.toList.zip xs.toList).foldl (fun tmps(x:Nat×Value)=>tmps.setIfInBounds x.1 x.2) tmps:=by rw[←Array.foldl_toList,Array.toList_zip]
end
variable{P:Program}{c:Code}{Q:Exit→Act→World→Prop}
theorem L2{F:Fence}{nn:Nat}(I:Nat→Act→World→Prop)(round:∀n a w,I n a w→∃n',n=n'+1∧c.wpIn F nn P (Exit.then (I n') Q) a w):∀n a w,I n a w→(Code.loop c).wpIn F nn P Q a w:=by
 intro n a w hI b k cs yN hb hr;have key:∀n a w,I n a w→∃e a' w',Q e a' w'∧ArrivesIn (Machine.fenced P F) P (lone (b.atR a (.code c::.inLoop c::k)) cs w) b k cs e a' w':=by
  intro n;induction n with
  |zero=>grind
  |succ n ih=>
   intro a w h;obtain⟨n',hn,Ez⟩:=round _ a w h;have hn:n=n':=by omega
   subst hn;obtain⟨e,a₁,w₁,hq,Jw⟩:=Ez b (.inLoop c::k) cs yN hb hr;cases e with
   |normal=>obtain⟨e₂,a₂,w₂,aiZ,adQ⟩:=ih a₁ w₁ hq;exact⟨e₂,a₂,w₂,aiZ,.of_steps (StepsIn.trans Jw (.one (fenced_calm hb hr rfl) stepR_inLoop)) adQ⟩
   |_=>exact⟨_,a₁,w₁,hq,.pass (x:=.inLoop c) rfl (fun _ _=>.inl (by simp)) Jw⟩
 obtain⟨e,a',w',hq,Jw⟩:=key n a w hI;exact⟨e,a',w',hq,.of_steps (.one (fenced_calm hb hr rfl) stepR_loop) Jw⟩
theorem Xf{rd:Option Nat}{n:Nat}{a:Act}{w:World}(h:c.wpIn (FR rd) n P (Exit.noGoto Q) a w):(Code.scope c).wpIn (FR rd) n P Q a w:=by
 intro b k cs yN hb hr;obtain⟨e,a₁,w₁,hq,Jw⟩:=h b (.inScope c::k) cs yN hb hr;have s1:StepsIn (Machine.fenced P (FR rd)) P (lone (b.atR a (.code (.scope c)::k)) cs w) (lone (b.atR a (.code c::.inScope c::k)) cs w):=.one (fenced_calm hb hr rfl) (step_lone_go (by rfl));have s2:∀a w,StepsIn (Machine.fenced P (FR rd)) P (lone (b.atR a (.inScope c::k)) cs w) (lone (b.atR a k) cs w):=fun a w=>.one (fenced_calm hb hr rfl) (step_lone_go (by rfl));cases e with
 |normal=>exact⟨.normal,a₁,w₁,hq,s1.trans (StepsIn.trans Jw (s2 _ _))⟩
 |exit id=>exact⟨.exit id,a₁,w₁,hq,fun k' hk=>s1.trans (Jw.1 k' (by simp[exitTo,hk])),fun hr hk=>let⟨k₁,h1,h2⟩:=Jw.2 hr (by simp[exitTo,hk]);⟨k₁,h1,s1.trans h2⟩⟩
 |goto l=>exact hq.elim
 |ret=>exact⟨_,a₁,w₁,hq,.of_steps s1 Jw⟩
 |panic ch=>exact⟨_,a₁,w₁,hq,.of_steps s1 Jw⟩
 |outgrown=>exact⟨_,a₁,w₁,hq,.of_steps s1 Jw⟩
variable{R:Type}
theorem Ur{T:Type}:∀{kD:List Sh}{vs:List V}{t:T}{k:TR kD T→Option R}{r:R},kE kD vs t k=some r→∃x,k x=some r∧vN kD x=(vs,t)∧vs.length=kD.length∧∀M,(∀sh∈kD,sh.within M=true)→lf M vs=true:=by
 intro kD;induction kD with
 |nil=>
  intro vs t k r h;cases vs with
  |nil=>exact⟨t,h,rfl,rfl,fun _ _=>rfl⟩
  |cons v vs=>simp[kE]at h
 |cons sh kD ih=>
  intro vs t k r h;cases vs with
  |nil=>cases sh<;>simp[kE]at h
  |cons v vs=>
   have push:∀{M},v.within M=true→lf M vs=true→lf M (v::vs)=true:=fun h1 h2=>by simp[lf,h1,h2]
   cases sh with
   |own u=>
    simp only[kE]at h;split at h
    ·rename_i hs;obtain⟨x,x1,x2,x3,x4⟩:=ih h;have:=Nn hs;subst this;refine⟨x,x1,by simp only[vN];rw[x2],by simp[x3],fun M hM=>push ?_ (x4 M fun s hs=>hM s (by simp[hs]))⟩;exact hM (.own u) (by simp)
    ·cases h
   |int q=>
    cases v<;>try (simp[kE]at h;done)
    rename_i p;cases p<;>try (simp[kE]at h;done)
    simp only[kE]at h;split at h
    ·rename_i hq;subst hq;obtain⟨x,x1,x2,x3,x4⟩:=ih h;exact⟨_,x1,by simp only[vN];rw[x2],by simp[x3],fun M hM=>push rfl (x4 M fun s hs=>hM s (by simp[hs]))⟩
    ·cases h
   |row id off=>
    cases v<;>try (simp[kE]at h;done)
    rename_i vM i yV;simp only[kE]at h;split at h
    ·rename_i hq;obtain⟨rfl,rfl⟩:=hq;obtain⟨x,x1,x2,x3,x4⟩:=ih h;exact⟨_,x1,by simp_all[vN,an9],by simp[x3],fun M hM=>push (hM (.row vM yV) (by simp)) (x4 M fun s hs=>hM s (by simp[hs]))⟩
    ·cases h
   |raw=>
    cases v<;>try (simp[kE]at h;done)
    simp only[kE]at h;obtain⟨x,x1,x2,x3,x4⟩:=ih h;exact⟨_,x1,by simp only[vN];rw[x2],by simp[x3],fun M hM=>push rfl (x4 M fun s hs=>hM s (by simp[hs]))⟩
   |bool=>
    cases v<;>try (simp[kE]at h;done)
    rename_i p;cases p<;>try (simp[kE]at h;done)
    simp only[kE]at h;obtain⟨x,x1,x2,x3,x4⟩:=ih h;exact⟨_,x1,by simp only[vN];rw[x2],by simp[x3],fun M hM=>push rfl (x4 M fun s hs=>hM s (by simp[hs]))⟩
   |str=>
    cases v<;>try (simp[kE]at h;done)
    rename_i p;cases p<;>try (simp[kE]at h;done)
    simp only[kE]at h;obtain⟨x,x1,x2,x3,x4⟩:=ih h;exact⟨_,x1,by simp only[vN];rw[x2],by simp[x3],fun M hM=>push rfl (x4 M fun s hs=>hM s (by simp[hs]))⟩
   |rp n=>
    cases v<;>try (simp[kE]at h;done)
    rename_i p;cases p<;>try (simp[kE]at h;done)
    rename_i cs;simp only[kE]at h;split at h
    ·rename_i hq;obtain⟨x,x1,x2,x3,x4⟩:=ih h;have he:aK n (.agg cs)=cs:=by
      apply aox;intro j;by_cases hj:j<n
      ·have hl:j<(aK n (.agg cs)).length:=by rw[bh];omega
       rw[ta hl];obtain⟨_,h6⟩:=mo (ta hl);simp_all[cell,PV.cells,List.getD]
      simp_all[aoY,bh]
     exact⟨_,x1,by simp only[vN];rw[x2,he],by simp[x3],fun M hM=>push rfl (x4 M fun s hs=>hM s (by simp[hs]))⟩
    ·cases h
   |fs s=>
    cases v<;>try (simp[kE]at h;done)
    rename_i p;simp only[kE]at h;obtain⟨ls,hls,h⟩:=By.1 h;obtain⟨x,x1,x2,x3,x4⟩:=ih h;exact⟨_,x1,by grind [vN,T8],by simp[x3],fun M hM=>push rfl (x4 M fun s hs=>hM s (by simp[hs]))⟩
   |rs sz=>
    cases v<;>try (simp[kE]at h;done)
    rename_i p;cases p<;>try (simp[kE]at h;done)
    simp only[kE]at h;split at h
    ·rename_i hq;subst hq;obtain⟨x,x1,x2,x3,x4⟩:=ih h;exact⟨_,x1,by simp only[vN];rw[x2],by simp[x3],fun M hM=>push rfl (x4 M fun s hs=>hM s (by simp[hs]))⟩
    ·cases h
theorem DB:∀{l:List (Nat×Option bL)}{id:Nat}{b:bL},Ib l id=some b→∃x∈l,x.1=id∧x.2=some b
 |[],_,_,h=>by simp[Ib]at h
 |(d,b')::r,id,b,h=>by
  simp only[Ib]at h;cases e:Nat.beq id d with
  |true=>rw[e]at h;exact⟨(d,b'),by simp,(IT e).symm,h⟩
  |false=>rw[e]at h;obtain⟨x,hx,h1,h2⟩:=DB h;exact⟨x,by simp[hx],h1,h2⟩
theorem EM:∀{l:List (Nat×Option bL)}{id:Nat},(∀x∈l,x.2.isSome=true)→(∃x∈l,x.1=id)→(Ib l id).isSome=true
 |[],_,_,⟨x,hx,_⟩=>by cases hx
 |(d,b')::r,id,h,⟨x,hx,he⟩=>by
  simp only[Ib];cases e:Nat.beq id d with
  |true=>simp_all
  |false=>
   rcases aoc.1 hx with rfl|hx
   ·simp_all
   ·exact EM (fun y hy=>h y (by simp[hy])) ⟨x,hx,he⟩
theorem adR{m:Mem}:∀{bs:List (Nat×FB)}{k:Ow bs→Option R}{r:R},xY m bs k=some r→∃x,k x=some r∧(iy bs x).map (·.1)=bs.map (·.1)∧(∀y∈iy bs x,∃b,y.2=some b∧m y.1=some b)∧∀M,(∀y∈bs,y.2.within M=true)→∀y∈iy bs x,∀b,y.2=some b→b.within M=true:=by
 intro bs;induction bs with
 |nil=>intro k r h;exact⟨(),h,rfl,by simp[iy],by simp[iy]⟩
 |cons y bs ih=>
  intro k r h;obtain⟨id,sh⟩:=y;cases sh with
  |box cs=>
   simp only[xY]at h;split at h
   ·rename_i vs hm;obtain⟨t,t1,t2,t3,t4⟩:=ih h;obtain⟨x,x1,x2,x3,x4⟩:=Ur t1;refine⟨x,x1,by simp only[iy,x2];simp[t2],fun y hy=>?_,fun M hM y hy b hb=>?_⟩
    ·simp only[iy,x2]at hy;grind
    ·simp only[iy,x2]at hy;rcases aoc.1 hy with rfl|hy
     ·simp only[tb]at hb;subst hb;simp only[bL.within];refine x4 M fun s hs=>?_;have:=hM (id,.box cs) (by simp);grind [FB.within,List.all_eq_true]
     grind
   ·cases h
  |arr sz et=>
   simp only[xY]at h;split at h
   ·rename_i Ky Kz es hm;split at h
    ·rename_i he;obtain⟨rfl,rfl⟩:=he;obtain⟨t,t1,t2,t3,t4⟩:=ih h;refine⟨(es,t),t1,by simp only[iy];simp[t2],fun y hy=>?_,fun M hM y hy b hb=>?_⟩
     ·simp only[iy]at hy;grind
     ·simp only[iy]at hy;rcases aoc.1 hy with rfl|hy
      ·simp only[tb]at hb;subst hb;rfl
      grind
    ·cases h
   ·cases h
  |sq sz et=>
   simp only[xY]at h;split at h
   ·rename_i Ky Kz es hm;split at h
    ·rename_i he;obtain⟨rfl,rfl⟩:=he;obtain⟨t,t1,t2,t3,t4⟩:=ih h;refine⟨(es,t),t1,by simp only[iy];simp[t2],fun y hy=>?_,fun M hM y hy b hb=>?_⟩
     ·simp only[iy]at hy;grind
     ·simp only[iy]at hy;rcases aoc.1 hy with rfl|hy
      ·simp only[tb]at hb;subst hb;rfl
      grind
    ·cases h
   ·cases h
  |nest sz et=>
   simp only[xY]at h;split at h
   ·rename_i Ky Kz es hm;split at h
    ·rename_i he;obtain⟨rfl,rfl⟩:=he;obtain⟨t,t1,t2,t3,t4⟩:=ih h;refine⟨(es,t),t1,by simp only[iy];simp[t2],fun y hy=>?_,fun M hM y hy b hb=>?_⟩
     ·simp only[iy]at hy;grind
     ·simp only[iy]at hy;rcases aoc.1 hy with rfl|hy
      ·simp only[tb]at hb;subst hb;rfl
      grind
    ·cases h
   ·cases h
  |fG kt et=>
   simp only[xY]at h;split at h
   ·rename_i AG Kz es hm;split at h
    ·rename_i he;obtain⟨rfl,rfl⟩:=he;obtain⟨t,t1,t2,t3,t4⟩:=ih h;refine⟨(es,t),t1,by simp only[iy];simp[t2],fun y hy=>?_,fun M hM y hy b hb=>?_⟩
     ·simp only[iy]at hy;grind
     ·simp only[iy]at hy;rcases aoc.1 hy with rfl|hy
      ·simp only[tb]at hb;subst hb;rfl
      grind
    ·cases h
   ·cases h
  |map kt=>
   simp only[xY]at h;split at h
   ·rename_i AG es hm;split at h
    ·rename_i he;subst he;obtain⟨t,t1,t2,t3,t4⟩:=ih h;refine⟨(es,t),t1,by simp only[iy];simp[t2],fun y hy=>?_,fun M hM y hy b hb=>?_⟩
     ·simp only[iy]at hy;grind
     ·simp only[iy]at hy;rcases aoc.1 hy with rfl|hy
      ·simp only[tb]at hb;subst hb;rfl
      grind
    ·cases h
   ·cases h
  |iter ty=>
   simp only[xY]at h;split at h
   ·rename_i t' es hm;split at h
    ·rename_i he;subst he;obtain⟨t,t1,t2,t3,t4⟩:=ih h;refine⟨(es,t),t1,by simp only[iy];simp[t2],fun y hy=>?_,fun M hM y hy b hb=>?_⟩
     ·simp only[iy]at hy;grind
     ·simp only[iy]at hy;rcases aoc.1 hy with rfl|hy
      ·simp only[tb]at hb;subst hb;rfl
      grind
    ·cases h
   ·cases h
  |loop=>
   simp only[xY]at h;split at h
   ·rename_i hm;obtain⟨t,t1,t2,t3,t4⟩:=ih h;refine⟨t,t1,by simp only[iy];simp[t2],fun y hy=>?_,fun M hM y hy b hb=>?_⟩
    ·simp only[iy]at hy;grind
    ·simp only[iy]at hy;rcases aoc.1 hy with rfl|hy
     ·simp only[tb]at hb;subst hb;rfl
     grind
   ·cases h
  |busy=>
   simp only[xY]at h;split at h
   ·rename_i hm;obtain⟨t,t1,t2,t3,t4⟩:=ih h;refine⟨t,t1,by simp only[iy];simp[t2],fun y hy=>?_,fun M hM y hy b hb=>?_⟩
    ·simp only[iy]at hy;grind
    ·simp only[iy]at hy;rcases aoc.1 hy with rfl|hy
     ·simp only[tb]at hb;subst hb;rfl
     grind
   ·cases h
mutual
theorem Jx{M:List Nat}{id:Nat}:∀(v:V),v.within M=true→v.has id=true→id∈M
 |.agg cs,h,hh=>rN cs (by simpa only[V.within]using h) (by simpa only[V.has]using hh)
 |.aI cs,h,hh=>rN cs (by simpa only[V.within]using h) (by simpa only[V.has]using hh)
 |.fn _ cs,h,hh=>rN cs (by simpa only[V.within]using h) (by simpa only[V.has]using hh)
 |.os j,h,hh=>by have:=IT hh;subst this;simpa[V.within]using h
 |.gh j _ _,h,hh=>by have:=IT hh;subst this;simpa[V.within]using h
 |.oe j _ _,h,hh=>by have:=IT hh;subst this;simpa[V.within]using h
 |.om j,h,hh=>by have:=IT hh;subst this;simpa[V.within]using h
 |.AJ j _ _,h,hh=>by have:=IT hh;subst this;simpa[V.within]using h
 |.Ef j _ _ _ _ _,h,hh=>by have:=IT hh;subst this;simpa[V.within]using h
 |.op j _,h,hh=>by have:=IT hh;subst this;simpa[V.within]using h
 |.it j,h,hh=>by have:=IT hh;subst this;simpa[V.within]using h
 |.yl j,h,hh=>by have:=IT hh;subst this;simpa[V.within]using h
 |.pv _,_,hh=>by cases hh
 |.fM,_,hh=>by cases hh
 |.top,_,hh=>by cases hh
theorem rN{M:List Nat}{id:Nat}:∀(cs:List V),lf M cs=true→cp id cs=true→id∈M
 |[],_,hh=>by cases hh
 |v::r,h,hh=>by
  simp only[lf,aeu]at h;simp only[cp,aon]at hh;rcases hh with hh|hh
  ·exact Jx v h.1 hh
  ·exact rN r h.2 hh
end
theorem aad{f:Fr}:∀(bV:List (Nat×Sh))(t:Nat),Rl (ui bV (bV.map fun(x:Nat×Sh)=>f x.1)) t=f t∨Rl (ui bV (bV.map fun(x:Nat×Sh)=>f x.1)) t=.top
 |[],t=>.inr rfl
 |(d,s)::r,t=>by
  simp only[aog,ui,Rl,gJ];cases e:Nat.beq t d with
  |true=>simp_all
  |false=>exact aad r t
theorem Jy{f:Fr}{M:List Nat}:∀(bV:List (Nat×Sh)),lf M (bV.map fun(x:Nat×Sh)=>f x.1)=true→∀t,(Rl (ui bV (bV.map fun(x:Nat×Sh)=>f x.1)) t).within M=true
 |[],_,t=>rfl
 |(d,s)::r,h,t=>by
  simp only[aog,lf,aeu]at h;simp only[aog,ui,Rl,gJ];cases e:Nat.beq t d with
  |true=>simp_all
  |false=>exact Jy r h.2 t
theorem aae{T:Lf}{f:Fr}{m:Mem}{k:T.ty→Option R}{r:R}(h:enc T f m k=some r):∃x,k x=some r∧yO (Rt T x) f∧(∀id b,Ir T x id=some b→m id=some b)∧(∀t id,(Rt T x t).has id=true→(Ir T x id).isSome=true)∧∀j cs id,Ir T x j=some (.box cs)→cp id cs=true→(Ir T x id).isSome=true:=by
 unfold enc at h;split at h
 ·rename_i gg;obtain⟨t,t1,t2,t3,t4⟩:=adR h;obtain⟨x,x1,x2,x3,x4⟩:=Ur t1;simp only[Lf.ok,aeu,aoN]at gg;have k8:∀id,id∈T.Dh.map (·.1)→(Ir T x id).isSome=true:=fun id hid=>by
   unfold Ir;rw[x2];refine EM (fun y hy=>?_) ?_
   ·grind
   grind
  refine⟨x,x1,fun s=>?_,fun id b hb=>?_,fun s id hid=>k8 id ?_,fun j cs id hj hh=>k8 id ?_⟩
  ·simp_all[Rt,aad]
  ·unfold Ir at hb;grind [DB]
  ·have hw:=x4 (T.Dh.map (·.1)) fun s hs=>by simp only[Lf.kD,aoi]at hs;grind
   have:=Jy (M:=T.Dh.map (·.1)) T.bV hw s;unfold Rt at hid;grind [Jx]
  ·unfold Ir at hj;rw[x2]at hj;obtain⟨y,hy,h1,h2⟩:=DB hj;have:=t4 (T.Dh.map (·.1)) (fun z hz=>gg.2 z hz) y hy _ h2;grind [rN,bL.within]
 ·cases h
section
variable {E:Env} {w0:bu}
variable{nt:Nat}{μ:Ro}{φ:Nat→aH}{f:Fr}{m:Mem}{a:Act}{w:World}
theorem Rel.dec{f':Fr}{m':Mem}(h:Rel E.P E.az nt w0 μ φ f m a w)(hf:yO f' f)(hm:∀id b,m' id=some b→m id=some b)(hl:∀t id,(f' t).has id=true→(m' id).isSome=true)(hb:∀j cs id,m' j=some (.box cs)→cp id cs=true→(m' id).isSome=true):Rel E.P E.az nt w0 μ φ f' m' a w:={below:=h.below,ro:=h.ro,az:=h.az,dB:=fun id b hb=>h.dB id b (hm id b hb),own:=fun id b g hb hg=>h.own id b g (hm id b hb) hg,inj:=fun Zb id2 b1 b2 g h1 h2=>h.inj Zb id2 b1 b2 g (hm _ _ h1) (hm _ _ h2),apart:=fun id b hb=>h.apart id b (hm id b hb),fI:=hb,base:=h.base,dC:=h.dC,Ft:=fun id st hid=>h.Ft id st (hm _ _ hid),hid:=fun g o hh=>⟨(h.hid g o hh).1,(h.hid g o hh).2.1,(h.hid g o hh).2.2.1,fun id b hb=>(h.hid g o hh).2.2.2 id b (hm _ _ hb)⟩,size:=h.size,defers:=h.defers,lj:=h.lj,fr:=(h.weaken hf).fr,live:=hl}
theorem Rel.set(h:Rel E.P E.az nt w0 μ φ f m a w){t:Nat}{p:PV}(hp:aq E.P μ p (bV nt w0 a t)):Rel E.P E.az nt w0 μ φ (gJ f t (.pv p)) m a w:=
 {toaA:=h.toaA,size:=h.size,defers:=h.defers,lj:=h.lj,fr:=fun s=>by
   by_cases e:s=t
   ·subst e;rw[Dr];exact .pv hp
   ·rw[ur e];exact h.fr s,
  live:=fun s id hid=>by
   by_cases e:s=t
   ·simp_all
   ·rw[ur e]at hid;exact h.live s id hid}
theorem Rel.freeze{nt:Nat}{μ:Ro}{φ:Nat→aH}{f:Fr}{m:Mem}{a:Act}{w:World}(h:Rel E.P E.az nt w0 μ φ f m a w){id sz:Nat}{et:TypeId}{es:List PV}(hm:m id=some (.arr sz et es)):Rel E.P E.az nt w0 (qm μ w (φ id).g) φ f (aw m id (.sq sz et es)) a w:=
 {toaA:=h.toaA.freeze hm,size:=h.size,defers:=h.defers.mono (nc h.toaA _),lj:=h.lj,fr:=fun s=>(h.fr s).CV (nc h.toaA _),live:=fun s i hid=>by
   by_cases e:i=id
   ·simp_all
   ·rw[av e];exact h.live s i hid}
theorem yz{A:Type}{nt:Nat}{a:Act}{w:World}:∀{l:List (Nat×Nat)}{μ:Ro}{φ:Nat→aH}{f:Fr}{m:Mem}{k:Fr→Mem→A}{r:A},GO l f m k=r→Rel E.P E.az nt w0 μ φ f m a w→∃f' m' μ',k f' m'=r∧Rel E.P E.az nt w0 μ' φ f' m' a w
 |[],μ,φ,f,m,k,r,h,hR=>⟨f,m,μ,h,hR⟩
 |(t,sz)::l,μ,φ,f,m,k,r,h,hR=>by
  unfold GO at h;split at h
  ·rename_i id hf;have hx:an E.P μ φ (.os id) (bV nt w0 a t):=hf▸hR.fr t;split at h
   ·rename_i s et es hm;have hF:=hR.freeze hm;have hA:=hF.toaA.arr (.inr (bD m id _));have hp:aq E.P (qm μ w (φ id).g) (.rs s es) (bV nt w0 a t):=hA.full hF.toaA (hx.CV (nc hR.toaA _)) (fun _ _ h=>h) (fun g hg=>by simp[qm,hg]);exact yz h (hF.set hp)
   ·rename_i s et es hm;have hB:gM E.P μ φ w id (.sq s et es):=hR.dB id _ hm;have hp:aq E.P μ (.rs s es) (bV nt w0 a t):=(hR.toaA.arr (.inr hm)).full hR.toaA hx (fun _ _ h=>h) (fun g hg=>by obtain⟨o,ho⟩:=aop.1 (hB.2 g hg);rw[ho,hR.ro _ _ ho]);exact yz h (hR.set hp)
   ·exact yz h hR
  ·rename_i hf;have hx:an E.P μ φ .fM (bV nt w0 a t):=hf▸hR.fr t;have hp:aq E.P μ (.rs sz []) (bV nt w0 a t):=by generalize bV nt w0 a t=y at hx;cases hx;exact .l5
   exact yz h (hR.set hp)
  ·exact yz h hR
variable{id:Nat}
theorem Pt{u:V}:∀(cs:List V)(j:Nat),cp id (cs.set j u)=true→cp id cs=true∨u.has id=true:=by
 intro cs j h;obtain⟨v,hv,hh⟩:=cK.1 h;rcases List.mem_or_eq_of_mem_set hv with h1|h1
 ·exact .inl (cK.2 ⟨v,h1,hh⟩)
 simp_all
theorem Rel.Nr(h:Rel E.P E.az nt w0 μ φ f m a w){j:Nat}{cs:List V}{u v0:V}(hm:m id=some (.box cs))(hj:cs[j]?=some v0)(hu:∀x,an E.P μ φ v0 x→an E.P μ φ u x)(hl:∀i,u.has i=true→(m i).isSome=true):Rel E.P E.az nt w0 μ φ f (aw m id (.box (cs.set j u))) a w:=by
 have key:∀i b,aw m id (.box (cs.set j u)) i=some b→(i=id∧b=.box (cs.set j u))∨m i=some b:=fun i b hb=>by
  by_cases e:i=id
  ·simp_all
  simp_all[av]
 have C8:∀i,(m i).isSome=true→(aw m id (.box (cs.set j u)) i).isSome=true:=fun i hi=>by
  by_cases e:i=id
  ·simp_all
  ·rw[av e];omega
 have back:∀i b,aw m id (.box (cs.set j u)) i=some b→∃b',m i=some b'∧(b.kh=true→b'.kh=true)∧b.rowAt=b'.rowAt:=fun i b hb=>by
  rcases key i b hb with⟨rfl,rfl⟩|hb
  ·exact⟨_,hm,fun _=>rfl,rfl⟩
  simp_all
 exact
 {below:=h.below,ro:=h.ro,az:=h.az,dB:=fun i b hb=>by
   rcases key i b hb with⟨rfl,rfl⟩|hb
   ·obtain⟨g,c,T,c1,c2,c3,c4,c5,c6⟩:=h.dB _ _ hm;refine⟨g,c,T,c1,c2,by simpa using c3,fun i v x hv hx=>?_,c5,by simpa using c6⟩;rw[aoO]at hv;split at hv
    ·rename_i e;subst e;split at hv
     ·simp only[tb]at hv;subst hv;exact hu x (c4 j v0 x hj hx)
     ·cases hv
    ·exact c4 i v x hv hx
   ·exact h.dB i b hb,
  own:=fun i b g hb hg=>by obtain⟨b',jn,Oz,yN⟩:=back i b hb;obtain⟨o1,o2⟩:=h.own i b' g jn (by simp_all[bL.owns]);simp_all,
  inj:=fun Zb id2 b1 b2 g h1 h2 g1 g2=>by obtain⟨b1',h1',_,r1⟩:=back Zb b1 h1;obtain⟨b2',h2',_,r2⟩:=back id2 b2 h2;exact h.inj Zb id2 b1' b2' g h1' h2' (by simp_all[bL.owns]) (by simp_all[bL.owns]),
  apart:=fun i b hb=>by obtain⟨b',jn,_,yN⟩:=back i b hb;have:=h.apart i b' jn;unfold bL.apart at this⊢;rw[yN];omega,
  fI:=fun i O1 vM hi hid=>by
   rcases key i _ hi with⟨rfl,he⟩|hi
   ·simp only[bL.box.injEq]at he;subst he;rcases Pt _ _ hid with hid|hid
    ·exact C8 _ (h.fI _ _ _ hm hid)
    simp_all
   ·exact C8 _ (h.fI _ _ _ hi hid),
  base:=h.base,dC:=h.dC,
  hid:=fun g o hh=>⟨(h.hid g o hh).1,(h.hid g o hh).2.1,(h.hid g o hh).2.2.1,fun i b hb hg=>by obtain⟨b',jn,_,yN⟩:=back i b hb;exact(h.hid g o hh).2.2.2 i b' jn (by simp_all[bL.owns])⟩,
  Ft:=fun i st hi=>by
   rcases key i _ hi with⟨_,he⟩|hi
   ·cases he
   ·exact h.Ft i st hi,
  size:=h.size,defers:=h.defers,lj:=h.lj,fr:=h.fr,
  live:=fun t i hid=>C8 _ (h.live t i hid)}
variable{et:TypeId}
theorem Rel.agc(h:Rel E.P E.az nt w0 μ φ f m a w){Y2:Nat}(hn:m Y2=none)(eY:0<aS E.P et):∃φ',(φ' Y2).g=none∧Rel E.P E.az nt w0 μ φ' f (aw m Y2 (.arr (aS E.P et) et [])) a w:=by
 have hf:fresh false Y2 (.arr (aS E.P et) et []) f m (fun f m _=>some (f,m))=some (f,aw m Y2 (.arr (aS E.P et) et [])):=by simp[fresh,hn]
 obtain⟨f1,m1,_,hk,_,_,yW⟩:=cj hf;simp only[tb,afu]at hk;obtain⟨rfl,rfl⟩:=hk;obtain⟨φ',a1,a2,a3⟩:=yW E.P E.az w0 μ φ w w (bV nt w0 a) (GU none 0 0 (aS E.P et)) h.toaA ⟨h.fr,h.live⟩ ⟨lh.refl _ _,h.toaA.ro,fun _ _ _ _ _=>rfl,by simp,fun φ' hp _=>by refine⟨by rw[hp];rfl,by rw[hp],rfl,eY,by simp,by rw[hp];simp[maxLen],?_⟩;simp_all,by simp[bL.names],fun g o hh=>⟨(h.hid g o hh).1,by simp⟩,fun st h=>by cases h⟩;exact⟨φ',by rw[a1],{toaA:=a2,size:=h.size,defers:=h.defers,lj:=h.lj,fr:=a3.fr,live:=a3.live}⟩
theorem yA{A:Type}{nt:Nat}{a:Act}{w:World}:∀{l:List (Nat×Nat×Nat×TypeId)}{μ:Ro}{φ:Nat→aH}{f:Fr}{m:Mem}{k:Mem→A}{r:A},GP E.P l m k=r→Rel E.P E.az nt w0 μ φ f m a w→∃m' φ',k m'=r∧Rel E.P E.az nt w0 μ φ' f m' a w
 |[],μ,φ,f,m,k,r,h,hR=>⟨m,φ,h,hR⟩
 |(id,j,Y2,et)::l,μ,φ,f,m,k,r,h,hR=>by
  unfold GP at h;split at h
  ·rename_i cs hm;split at h
   ·rename_i hj;split at h
    ·rename_i hn;split at h
     ·rename_i eY;obtain⟨φ',g0,jN⟩:=hR.agc hn eY;have bU:id≠Y2:=fun e=>by simp_all
      exact yA h (jN.Nr (by rw[av bU];omega) hj (fun x hx=>by cases hx;exact .vO g0) fun i hi=>by have:=IT hi;subst this;simp)
     ·exact yA h hR
    ·exact yA h hR
   ·exact yA h hR
  ·exact yA h hR
theorem rO{A:Type}{nt:Nat}{a:Act}{w:World}:∀{l:List (Nat×Nat×Nat)}{μ:Ro}{φ:Nat→aH}{f:Fr}{m:Mem}{k:Mem→A}{r:A},CT l m k=r→Rel E.P E.az nt w0 μ φ f m a w→∃m' μ',k m'=r∧Rel E.P E.az nt w0 μ' φ f m' a w
 |[],μ,φ,f,m,k,r,h,hR=>⟨m,μ,h,hR⟩
 |(id,j,sz)::l,μ,φ,f,m,k,r,h,hR=>by
  unfold CT at h;split at h
  ·rename_i cs hm;split at h
   ·rename_i hj;exact rO h (hR.Nr hm hj (fun x hx=>by cases hx;exact .pv .l5) (fun i hi=>by cases hi))
   ·rename_i d hj;split at h
    ·rename_i s et es hd;split at h
     ·exact rO h hR
     ·rename_i bU;have bU:d≠id:=fun e=>bU (by simp_all);have hF:=hR.freeze hd;have hA:=hF.toaA.arr (.inr (bD m d _));exact rO h (hF.Nr (by rw[av (Ne.symm bU)];exact hm) hj (fun x hx=>.pv (hA.full hF.toaA hx (fun _ _ h=>h) (fun g hg=>by simp[qm,hg]))) (fun i hi=>by cases hi))
    ·rename_i s et es hd;have hB:gM E.P μ φ w d (.sq s et es):=hR.dB d _ hd;exact rO h (hR.Nr hm hj (fun x hx=>.pv ((hR.toaA.arr (.inr hd)).full hR.toaA hx (fun _ _ h=>h) (fun g hg=>by obtain⟨o,ho⟩:=aop.1 (hB.2 g hg);rw[ho,hR.ro _ _ ho]))) (fun i hi=>by cases hi))
    ·exact rO h hR
   ·exact rO h hR
  ·exact rO h hR
theorem ju{T:Type}{l:List T}{n i:Nat}{e:T}(h:(l.take n)[i]?=some e):l[i]?=some e∧i<n:=by grind
theorem Rel.adS(h:Rel E.P E.az nt w0 μ φ f m a w){s:Nat}{es:List PV}(hm:m id=some (.arr s et es)):Rel E.P E.az nt w0 μ φ f (aw m id (.nest s et es)) a w:=by
 have hA:aL E.P μ φ w id s et es:=h.dB id _ hm;have key:∀i b,aw m id (.nest s et es) i=some b→(i=id∧b=.nest s et es)∨m i=some b:=fun i b hb=>by
  by_cases e:i=id
  ·simp_all
  simp_all[av]
 have C8:∀i,(m i).isSome=true→(aw m id (.nest s et es) i).isSome=true:=fun i hi=>by
  by_cases e:i=id
  ·simp_all
  ·rw[av e];omega
 have hN:bd E.P μ φ w id s et es:=by
  obtain⟨h1,h2,h3,h4,h5,h6,h7⟩:=hA;refine⟨h1,h2,h3,h4,h5,h6,?_⟩;cases hg:(φ id).g with
  |none=>rw[hg]at h7;omega
  |some g=>rw[hg]at h7;obtain⟨c,T,c1,c2,c3,c4,c5⟩:=h7;exact⟨c,T,c1,c2,c3,fun i e j p x he hp hx=>.pure (c4 i e j p x he hp hx),c5⟩
 have A1:∀i off,(bL.nest s et es).rowAt i off=true→False:=fun i off hr=>by
  rcases kM hr with⟨_,_,_,e,s',rs,hb,he,hp⟩|⟨_,_,_,_,_,_,hb,_⟩
  ·cases hb;obtain⟨h1,h2,h3,h4,h5,h6,h7⟩:=hA;cases hg:(φ id).g with
   |none=>simp_all
   |some g=>
    rw[hg]at h7;obtain⟨c,T,c1,c2,c3,c4,c5⟩:=h7;have hi:i<es.length:=(IN.1 he).1;have hj:off<s:=by grind
    have bF:i*s+off<c.size:=by have:(i+1)*s≤(φ id).cap*s:=an8 _ (by omega);grind
    exact Bool.noConfusion (aq.HU (c4 i e off _ _ he hp (Yh bF)))
  ·cases hb
 have anT:∀i off,(bL.arr s et es).rowAt i off=true→False:=qD;have hM:aA E.P E.az w0 μ φ (aw m id (.nest s et es)) w:=by
  refine h.toaA.T9 (fun _ k=>k) (fun j b' hb=>?_) (fun j b' g hb hg=>?_) (fun j b' hb=>?_) (fun j cs i hb hh=>?_) (fun j st hb=>?_)
  ·rcases key j b' hb with⟨rfl,rfl⟩|hb
   ·exact hN
   ·exact h.dB j b' hb
  ·rcases key j b' hb with⟨rfl,rfl⟩|hb
   ·exact⟨j,_,hm,.inl (lq A1 hg),fun _=>rfl,rfl⟩
   grind
  ·rcases key j b' hb with⟨rfl,rfl⟩|hb
   ·exact uu A1
   ·exact h.apart j b' hb
  ·rcases key j _ hb with⟨_,hb⟩|hb
   ·cases hb
   ·exact C8 _ (h.fI j cs i hb hh)
  grind
 exact{toaA:=hM,size:=h.size,defers:=h.defers,lj:=h.lj,fr:=h.fr,live:=fun t i hid=>C8 _ (h.live t i hid)}
theorem Jz{A:Type}{nt:Nat}{a:Act}{w:World}:∀{l:List Nat}{μ:Ro}{φ:Nat→aH}{f:Fr}{m:Mem}{k:Mem→A}{r:A},OS l m k=r→Rel E.P E.az nt w0 μ φ f m a w→∃m',k m'=r∧Rel E.P E.az nt w0 μ φ f m' a w
 |[],μ,φ,f,m,k,r,h,hR=>⟨m,h,hR⟩
 |id::l,μ,φ,f,m,k,r,h,hR=>by
  unfold OS at h;split at h
  ·rename_i s et es hm;exact Jz h (hR.adS hm)
  ·exact Jz h hR
theorem Rel.cut(h:Rel E.P E.az nt w0 μ φ f m a w){j d len s:Nat}{cs:List V}{es:List PV}(hm:m id=some (.box cs))(hj:cs[j]?=some (.gh d 0 len))(hd:m d=some (.arr s et es))(bU:d≠id):∃φ',Rel E.P E.az nt w0 μ φ' (eP d f) (aw (aw (bq (bK d m) d) d (.arr s et (es.take len))) id (.box ((cs.map (uf d)).set j (.os d)))) a w:=by
 obtain⟨m',hm'⟩:∃m',m'=aw (aw (bq (bK d m) d) d (.arr s et (es.take len))) id (.box ((cs.map (uf d)).set j (.os d))):=⟨_,rfl⟩;rw[←hm'];obtain⟨g0,c,T,c1,c2,c3,c4,c5,c6⟩:=h.dB _ _ hm;have hA:aL E.P μ φ w d s et es:=h.dB d _ hd;have tf:j<cs.length:=(IN.1 hj).1;have hx:=c4 j _ _ hj (Yh (by omega));obtain⟨φ',f1,f2,f3,f4⟩:∃φ':Nat→aH,(∀i,i≠d→φ' i=φ i)∧(φ' d).g=(φ d).g∧aL E.P μ φ' w d s et (es.take len)∧an E.P μ φ' (.os d) c[j]:=by
  obtain⟨h1,h2,h3,h4,h5,h6,h7⟩:=hA;generalize c[j]=x at hx;cases hx with
  |uj hg=>refine⟨φ,fun _ _=>rfl,rfl,?_,.vO hg⟩;rw[hg]at h7;obtain⟨rfl,h7⟩:=h7;refine⟨h1,h2,h3,h4,by simp,h6,?_⟩;simp_all
  | @gh _ _ _ cap g ad hg hl ha hc hc'=>
   rw[hg]at h7;obtain⟨q,Tq,q1,q2,q3,q4,q5⟩:=h7;have hlen:(es.take len).length=len:=by simp_all
   have had:ad=⟨g,0,none⟩:=by simp_all
   subst had;refine⟨fun i=>if i=d then{φ d with cap:=cap,len:=len}else φ i,fun i hi=>QU hi,by simp,⟨by simp[hlen],by simpa using h2,h3,h4,fun i e he=>h5 i e (ju he).1,by simp;omega,?_⟩,?_⟩
   ·simp only[BY,hg];refine⟨q,Tq,q1,aov (an8 _ (by omega)) q2,by omega,fun i e j p x he hp hx=>q4 i e j p x (ju he).1 hp hx,fun i x hi hx=>q5 i x (Nat.lt_of_lt_of_le hi (an8 _ (by omega))) hx⟩
   ·have:=an.os (P:=E.P) (μ:=μ) (φ:=fun i=>if i=d then{φ d with cap:=cap,len:=len}else φ i) (id:=d) (g:=g) (by simp[hg]);simpa using this
 have key:∀i b,m' i=some b→(i=id∧b=.box ((cs.map (uf d)).set j (.os d)))∨(i=d∧b=.arr s et (es.take len))∨(i≠id∧i≠d∧∃b',m i=some b'∧b=gK d b'):=fun i b hb=>by
  rw[hm']at hb;by_cases e:i=id
  ·simp_all
  ·rw[av e]at hb;by_cases e':i=d
   ·simp_all
   simp_all[av,fV]
 have C8:∀i,(m i).isSome=true→(m' i).isSome=true:=fun i hi=>by
  rw[hm'];by_cases e:i=id
  ·simp_all
  ·rw[av e];by_cases e':i=d
   ·simp_all
   simp_all[av,wU]
 have agd:∀{i:Nat}{b':bL},(gK d b').names i=true→i≠d:=fun{i b'}hn=>by cases b'<;>simp only[gK,bL.names]at hn<;>first|cases hn|exact(Co hn).2
 have hM:aA E.P E.az w0 μ φ' m' w:=by
  refine h.toaA.T9 (fun _ k=>k) (fun i b' hb=>?_) (fun i b' g hb hg=>?_) (fun i b' hb=>?_) (fun i O1 i' hb hh=>?_) (fun i st hb=>?_)
  ·rcases key i b' hb with⟨rfl,rfl⟩|⟨rfl,rfl⟩|⟨e1,e2,b2,td,rfl⟩
   ·refine⟨g0,c,T,by grind,c2,by simpa using c3,fun n v x hv MZ=>?_,c5,by grind⟩;rw[aoO]at hv;split at hv
    ·simp_all
    ·simp only[AT,alj]at hv;obtain⟨v',Zn,rfl⟩:=hv;exact((c4 n v' x Zn MZ).kill d).mono (fun _ _ h=>h) fun i hi=>f1 i (AU hi).2
   ·exact f3
   ·exact(h.dB i b2 td).kill.cv (fun k hk=>f1 k (agd hk)) (f1 i e2) (fun _ _ h=>h) (fun _ _=>rfl)
  ·rcases key i b' hb with⟨rfl,rfl⟩|⟨rfl,rfl⟩|⟨e1,e2,b2,td,rfl⟩
   ·refine⟨i,_,hm,.inl ?_,fun _=>rfl,rfl⟩;have:=lq (by intro i off h;simp[bL.rowAt]at h) hg;grind
   ·refine⟨i,_,hd,.inl ?_,fun _=>rfl,rfl⟩;grind [lq,qD]
   ·refine⟨i,b2,td,?_,fun Oz=>by rw[Cp]at Oz;omega,rfl⟩;rw[f1 i e2]at hg;exact fZ.1 hg
  ·rcases key i b' hb with⟨rfl,rfl⟩|⟨rfl,rfl⟩|⟨e1,e2,b2,td,rfl⟩
   ·grind [uu,bL.rowAt]
   ·exact uu qD
   ·rw[f1 i e2];exact y8.2 (h.apart i b2 td)
  ·rcases key i _ hb with⟨rfl,hb⟩|⟨rfl,hb⟩|⟨e1,e2,b2,td,e⟩
   ·simp only[bL.box.injEq]at hb;subst hb;rcases Pt _ _ hh with hh|hh
    ·exact C8 _ (h.fI _ _ _ hm (Co hh).1)
    ·have:=IT hh;simp_all
   ·cases hb
   ·cases b2 with
    |box cs2=>simp only[gK,bL.box.injEq]at e;subst e;exact C8 _ (h.fI _ _ _ td (Co hh).1)
    |_=>simp[gK]at e
  ·rcases key i _ hb with⟨rfl,hb⟩|⟨rfl,hb⟩|⟨e1,e2,b2,td,e⟩
   ·cases hb
   ·cases hb
   ·cases b2 with
    |loop st2=>simp_all[gK,bL.loop.injEq]
    |_=>simp[gK]at e
 exact⟨φ',{toaA:=hM,size:=h.size,defers:=h.defers,lj:=h.lj,fr:=(fun t=>((h.fr t).kill d).mono (fun _ _ h=>h) fun i hi=>f1 i (AU hi).2),live:=fun t i hid=>C8 _ (h.live t i (AU hid).1)}⟩
theorem yB{A:Type}{nt:Nat}{a:Act}{w:World}:∀{l:List (Nat×Nat)}{μ:Ro}{φ:Nat→aH}{f:Fr}{m:Mem}{k:Fr→Mem→A}{r:A},GQ l f m k=r→Rel E.P E.az nt w0 μ φ f m a w→∃f' m' φ',k f' m'=r∧Rel E.P E.az nt w0 μ φ' f' m' a w
 |[],μ,φ,f,m,k,r,h,hR=>⟨f,m,φ,h,hR⟩
 |(id,j)::l,μ,φ,f,m,k,r,h,hR=>by
  unfold GQ at h;split at h
  ·rename_i cs hm;split at h
   ·rename_i d len hj;split at h
    ·rename_i s et es hd;split at h
     ·exact yB h hR
     ·rename_i bU;have bU:d≠id:=fun e=>bU (by simp_all);obtain⟨φ',jN⟩:=hR.cut hm hj hd bU;exact yB h jN
    ·exact yB h hR
   ·exact yB h hR
  ·exact yB h hR
theorem Pu{A:Type}{T:Lf}{k:Fr→Mem→A}{r:A}(h:Li E.P T f m k=r)(hR:Rel E.P E.az nt w0 μ φ f m a w):∃f' m' μ' φ',k f' m'=r∧Rel E.P E.az nt w0 μ' φ' f' m' a w:=by unfold Li at h;obtain⟨_,_,_,h,hR⟩:=yB h hR;obtain⟨m1,φ1,h,hR⟩:=yA h hR;obtain⟨m',_,h,hR⟩:=rO h hR;obtain⟨m',h,hR⟩:=Jz h hR;obtain⟨f',m',μ',h,hR⟩:=yz h hR;grind
def aaf:Ex→Exit
 |.normal=>.normal
 |.exit id=>.exit id
 |.ret=>.ret
theorem Rel.aag(h:Rel E.P E.az nt w0 μ φ f m a w):Rel E.P E.az nt w0 μ φ f m a {w with drawn:=w.drawn+1}:={toaA:=h.toaA.drew,size:=h.size,defers:=h.defers,lj:=h.lj,fr:=h.fr,live:=h.live}
theorem Xg{rd:Option Nat}(hE:jM E)(hY:tA E.P E.az E.fn.ntmps E.yl w0){R:Type}{ops:Array Oper}{draw:Bool}{k:Ex→Fr→Mem→Option R}{r:R}(h:fq E (.region id ops draw) f m k=some r){Q:Exit→Act→World→Prop}(hR:Rel E.P E.az E.fn.ntmps w0 μ φ f m a w)(hQ:∀f' m' μ' φ' a' w',k .normal f' m'=some r→Rel E.P E.az E.fn.ntmps w0 μ' φ' f' m' a' w'→Q .normal a' w'):(Code.region id ops draw).wpIn (FR rd) 0 E.P Q a w:=by
 simp only[fq]at h;cases draw with
 |false=>
  simp only[AI,OF]at h;refine wpIn_region ?_;have hmz:∀x∈(List.range ops.size).zip ops.toList,ops[x.1]?=some x.2:=fun x hx=>by have:=(xc (l:=ops.toList) (i:=x.1) (o:=x.2)).1 (by omega);simp_all
  have:=jq (rd:=rd) hE hY _ (.inl rfl) h hmz (by intro x hx g hg;cases hg) (fun h=>by omega) μ φ a w Q [] hR (by intro g hg;cases hg) fun f' m' μ' φ' a' w' hk jN _ _=>hQ f' m' μ' φ' a' w' hk jN;simp_all[aoM,List.map_fst_zip]
 |true=>
  simp only[BY]at h;split at h
  ·refine wpIn_region_any hE.mixed (Xe (k:=fun f m=>k .normal f m) hE hY hQ _ [] [] f m h (by simp) (fun i o _ hi=>by rcases hi with hi|⟨x,hx,_⟩<;>simp_all) ops.size _ (by simp) (count_le _) Hf (fun i hi=>by cases hi) (fun i hi=>by rw[rM]at hi;cases hi) w0.hid μ φ a _ ⟨fun _ _ h=>h,fun x _ hx=>(by rw[rM]at hx;cases hx),fun x _ y _ hx=>(by rw[rM]at hx;cases hx)⟩ (hR.aag.weaken fun t=>?_));by_cases hx:∃x∈([].filter fun x:Nat×Oper=> !ak (Array.replicate ops.size false) x.1)++su E ops [],x.2.dst=some t
   ·exact .inr (nW (.inr hx))
   ·exact .inl (iW fun x Ec Un=>hx ⟨x,Ec,Un⟩)
  split at h
  ·rename_i hi;refine wpIn_region_any hE.mixed ?_;split at h
   ·rename_i mr;exact Js hE hY (.inl rfl) (fun _ o ho=>(Bool.and_eq_true_iff.1 (aoN.1 mr o (apu.2 ho))).1) hi h hR.aag hQ
   ·exact Js hE hY (.inr rfl) (fun h=>by omega) hi h hR.aag hQ
  ·cases h
end
theorem adT{g:FuncId}{fn:Func}(hf:P.funcs[g]?=some fn)(aeZ:(fn.name== "runtime.NumGoroutine")=false)(hb:fn.body=some c){args:Array Value}{w:World}:(callFunc g args).run P w=.ok (.enter g args) w:=Ct hf aeZ hb
theorem Xh{nt:Nat}{w0:bu}{a:Act}{t:Nat}:bV nt w0 a (t+nt)=w0.sv (t+nt):=by unfold bV;rw[QU (by omega)]
def Ba(c:Code):Prop:=∀{E:Env}{w0:bu}{rd:Option Nat}(_:jM E)(_:tA E.P E.az E.fn.ntmps E.yl w0)(_:E.rdb=false→rd=none){R:Type}{f:Fr}{m:Mem}{k:Ex→Fr→Mem→Option R}{r:R},fq E c f m k=some r→∀{μ:Ro}{φ:Nat→aH}{a:Act}{w:World}{Q:Exit→Act→World→Prop},Rel E.P E.az E.fn.ntmps w0 μ φ f m a w→(∀e f' m' μ' φ' a' w',k e f' m'=some r→Rel E.P E.az E.fn.ntmps w0 μ' φ' f' m' a' w'→Q (aaf e) a' w')→c.wpIn (FR rd) 0 E.P Q a w
variable{as b:Code}{ps:Array Nat}
theorem Xi(ihA:Ba as)(ihB:Ba b){E:Env}(hE:jM E){w2:bu}{lid l ntI:Nat}{rc:Loop}{fid:Nat}(Sa:w2.rc lid=some (l,rc))(qk:rc.params=ps)(has:rc.assign=as)(hb:rc.body=b)(ou:rc.tmps.size=E.fn.ntmps)(hsv:∀t,t<E.fn.ntmps→w2.sv (t+ntI)=rc.tmps.getD t undef):aeX E.P E.az ntI (fun _ nt _ id args F m k=>bif Nat.beq id lid then roundOf (fq {E with fid:=fid,yl:=Di,rdb:=true} as) (fq {E with fid:=fid,yl:=Di,rdb:=true} b) lid E.fn.ntmps ps.toList nt args F m k else none) w2:=by
 intro R site id args F m k r hy μ φ ρ w xs hM hF hρ hl hr MU g hg;dsimp only at hy;cases hid:Nat.beq id lid with
 |false=>rw[hid]at hy;cases hy
 |true=>
  rw[hid]at hy;have hid:=IT hid;subst hid;simp only[cond_true]at hy;unfold roundOf at hy;split at hy
  ·rename_i Pv;split at hy
   ·rename_i G1;obtain⟨g',rc',l1,l2,l3⟩:=hM.Ft id _ Pv;rw[Sa]at l2;simp only[tb,afu]at l2;obtain⟨rfl,rfl⟩:=l2;rw[l1]at hg;simp only[tb]at hg;subst hg;have IL:xs.size=(Q9.ready.obj rc).params.size:=by
     have:ps.toList.length=ps.size:=by simp
     show xs.size=rc.params.size;rw[qk];omega
    refine⟨_,_,_,_,run_yield l3 IL,?_⟩;have hE':jM {E with fid:=fid,yl:=Di,rdb:=true}:=⟨hE.mixed,hE.lp,hE.ctx,hE.own,hE.inl,hE.rng⟩;have afb:=LZ (P:=E.P) (μ:=μ) (φ:=φ) ps.toList args xs.toList (AL ntI F) rc.tmps ou (by omega) (fun t ht=>by have:=hF.fr (t+ntI);rw[hρ _ (by omega),hsv t ht]at this;exact this) (fun i v x hv hx=>hr i v x hv (by simpa using hx));have hR3:Rel E.P E.az E.fn.ntmps {w2 with sv:=fun t=>ρ (t-E.fn.ntmps),dC:=μ,lj:=fun _=>none} μ φ (TS E.fn.ntmps (Is ps.toList args (AL ntI F)) F) m {tmps:=((Q9.ready.obj rc).params.zip xs).foldl (fun tmps(t,a)=>tmps.setIfInBounds t a) (Q9.ready.obj rc).tmps,defers:=[]} w:=by
     have e:((Q9.ready.obj rc).params.zip xs).foldl (fun tmps(t,a)=>tmps.setIfInBounds t a) (Q9.ready.obj rc).tmps=(ps.toList.zip xs.toList).foldl (fun tmps(x:Nat×Value)=>tmps.setIfInBounds x.1 x.2) rc.tmps:=by rw[aac];show(rc.params.toList.zip xs.toList).foldl _ rc.tmps=_;rw[qk]
     rw[e];refine{toaA:=hM.AS rfl rfl (fun _ _ h=>h) (fun _ _ _=>rfl),size:=afb.1,defers:=.nil _ _ _,lj:=fun _ _ h=>(by cases h),fr:=fun t=>?_,live:=fun t id hid=>?_}
     ·unfold TS bV;by_cases ht:t<E.fn.ntmps
      ·rw[show Nat.blt t E.fn.ntmps=true by simp_all,No ht];exact afb.2 t ht
      ·rw[show Nat.blt t E.fn.ntmps=false by rw[←aoZ,ao9];omega,QU ht];exact hF.fr _
     ·unfold TS at hid;cases e:Nat.blt t E.fn.ntmps with
      |true=>
       rw[e]at hid;rcases Jv _ _ _ _ hid with h|h
       ·exact MU id h
       ·exact hF.live _ id h
      |false=>rw[e]at hid;exact hF.live _ id hid
    refine roundIn_of_wpIn trivial ?_;show(Q9.ready.obj rc).assign.wpIn (FR (some l)) 0 E.P _ _ _;have ha':(Q9.ready.obj rc).assign=as:=has;rw[ha'];refine ihA (rd:=some l) hE' (Ep _ _ _ _) (fun h=>by cases h) hy hR3 fun e f1 m1 μ1 φ1 a1 w1 Zv Fx=>?_;split at Zv
    ·rename_i hm1;obtain⟨g1,rc1,p1,p2,p3⟩:=Fx.Ft id _ hm1;have p2:w2.rc id=some (g1,rc1):=p2;rw[Sa]at p2;simp only[tb,afu]at p2;obtain⟨rfl,rfl⟩:=p2;refine⟨_,run_beginRound p3 rfl,?_⟩;have jn:(Q9.ready.obj rc).body=b:=hb;refine Eq.mpr (congrArg (fun c:Code=>c.wpIn (FR (some l)) 0 E.P _ a1 _) jn) ?_;have y9:=Fx.toaA.turn (st':=.busy) hm1 p1 Sa;have amD:Rel E.P E.az E.fn.ntmps {w2 with sv:=fun t=>ρ (t-E.fn.ntmps),dC:=μ,lj:=fun _=>none} μ1 φ1 f1 (aw m1 id (.loop .busy)) a1 (w1.putObj l (.loop {Q9.ready.obj rc with state:=.busy})):=
      {toaA:=y9,size:=Fx.size,defers:=Fx.defers,lj:=Fx.lj,fr:=Fx.fr,live:=fun t j hj=>by
        by_cases e:j=id
        ·subst e;simp
        ·rw[av e];exact Fx.live t j hj}
     refine ihB (rd:=some l) hE' (Ep _ _ _ _) (fun h=>by cases h) Zv amD fun e f2 m2 μ2 φ2 a2 w2' OC FT=>?_;split at OC
     ·rename_i cG;obtain⟨g2,rc2,q1,q2,q3⟩:=FT.Ft id _ cG;have q2:w2.rc id=some (g2,rc2):=q2;rw[Sa]at q2;simp only[tb,afu]at q2;obtain⟨rfl,rfl⟩:=q2;have hle:Pe μ μ2:=FT.dC;have hFp:cd E.P μ2 φ2 m2 (AL E.fn.ntmps f2) ρ:=by refine⟨fun t=>?_,fun t id hid=>FT.live _ id hid⟩;have:=FT.fr (t+E.fn.ntmps);simp_all[Xh,AL]
      have fin:∀(st:Q9)(v:Bool),k (.pv (.bool v)) (AL E.fn.ntmps f2) (aw m2 id (.loop st))=some r→∃v' f' m' y μ' φ',k v' f' m'=some r∧Ending.returned (.bool v)=.returned y∧Pe μ μ'∧aA E.P E.az w2 μ' φ' m' (w2'.putObj l (.loop (st.obj rc)))∧cd E.P μ' φ' m' f' ρ∧an E.P μ' φ' v' y∧∀id,v'.has id=true→(m' id).isSome=true:=by
       intro st v hk;have hM2:=FT.toaA.turn (st':=st) cG q1 Sa;refine⟨_,_,_,_,μ2,φ2,hk,rfl,hle,hM2.AS rfl rfl (fun b o hb=>hle b o (hM.dC b o hb)) (fun _ _ _=>rfl),⟨hFp.fr,fun t j hj=>?_⟩,.pv .bool,fun id hid=>by cases hid⟩;by_cases e:j=id
       ·subst e;simp
       ·rw[av e];exact hFp.live t j hj
      cases e with
      |normal=>exact⟨_,_,run_endRound none q3,fin .ready true OC⟩
      |exit j=>exact⟨_,_,run_endRound (some (.exit j)) q3,fin (.done (.exit j)) false OC⟩
      |ret=>exact⟨_,_,run_endRound (some .ret) q3,fin (.done .ret) false OC⟩
     ·cases OC
    ·cases Zv
   ·cases hy
  ·cases hy
theorem aah(ihA:Ba as)(ihB:Ba b){E:Env}(hE:jM E){w2:bu}{lid l ntI:Nat}{rc:Loop}{fid:Nat}(Sa:w2.rc lid=some (l,rc))(qk:rc.params=ps)(has:rc.assign=as)(hb:rc.body=b)(ou:rc.tmps.size=E.fn.ntmps)(hsv:∀t,t<E.fn.ntmps→w2.sv (t+ntI)=rc.tmps.getD t undef):tA E.P E.az ntI (fun _ nt _ id args F m k=>bif Nat.beq id lid then roundOf (fq {E with fid:=fid,yl:=Di,rdb:=true} as) (fq {E with fid:=fid,yl:=Di,rdb:=true} b) lid E.fn.ntmps ps.toList nt args F m k else none) w2:=fun H=>Xi ihA ihB hE (w2:={w2 with hid:=H}) Sa qk has hb ou hsv
theorem adU{μ:Ro}{φ:Nat→aH}{m:Mem}{v:V}{g:FuncId}{caps:List V}{y:Value}(h:afz v=some (g,caps))(hv:an P μ φ v y)(hl:∀id,v.has id=true→(m id).isSome=true):∃xs,y=.func (.func g) #[] xs∧caps.length=xs.size∧(∀(i:Nat)v x,caps[i]?=some v→xs[i]?=some x→an P μ φ v x)∧∀id,cp id caps=true→(m id).isSome=true:=by
 unfold afz at h;split at h
 ·rename_i g0 c0;cases e:Nat.blt g0 Ic with
  |false=>rw[e]at h;cases h
  |true=>
  rw[e]at h;simp only[cond_true,tb,afu]at h;obtain⟨rfl,rfl⟩:=h;cases hv with
  | @fn _ _ xs h1 h2=>grind [uk,id,V.has]
 ·rename_i g0 c0;cases e:Nat.blt g0 Ic with
  |false=>rw[e]at h;cases h
  |true=>
  rw[e]at h;simp only[cond_true,tb,afu]at h;obtain⟨rfl,rfl⟩:=h;cases hv with
  |pv hv=>cases hv with
   | @fn _ _ xs h1 h2=>
    refine⟨xs,uk e,by simpa using h1,fun i v x hv hx=>?_,fun id hid=>?_⟩
    ·simp only[AT,alj]at hv;obtain⟨q,hq,rfl⟩:=hv;exact .pv (h2 i q x hq hx)
    ·obtain⟨v,hv,hh⟩:=cK.1 hid;obtain⟨q,_,rfl⟩:=aoi.1 hv;cases hh
 ·cases h
theorem Ns{g:Operand}{ps:Array Tmp}(ihA:Ba as)(ihB:Ba b):Ba (.rangeFunc g ps as b):=by
 intro E w0 rd hE hY Ez R f m k r h μ φ a w Q hR hQ;simp only[fq]at h;split at h
 ·cases h
 rename_i hrb;have Ez:=Ez (by simpa using hrb);subst Ez;split at h;rotate_left
 ·cases h
 rename_i p0 pr Oy;generalize anU:cy E (some p0)=lid at h;obtain⟨f1,m1,_,h,Pv,AH,amE⟩:=cj h;obtain⟨hm0,rfl,rfl⟩:=AH rfl;refine wpIn_rangeFunc fun fn _=>?_;obtain⟨rec,Pw⟩:∃rec:Loop,rec={state:=.ready,pending:=none,fn,tmps:=a.tmps,params:=ps,assign:=as,body:=b,defers:=w.heap.size}:=⟨_,rfl⟩;obtain⟨wD,hwD⟩:∃wD,wD=w.alloc (.deferred (some [])):=⟨_,rfl⟩;obtain⟨W1,hW1⟩:∃W1,W1=wD.alloc (.loop rec):=⟨_,rfl⟩;obtain⟨l,hl⟩:∃l,l=wD.heap.size:=⟨_,rfl⟩;have hl':l=w.heap.size+1:=by rw[hl,hwD];simp
 obtain⟨μD,age⟩:∃μD,μD=EL μ w (.deferred (some [])):=⟨_,rfl⟩;have adV:Pe μ μD:=age▸Ps hR.toaA _;have hMD:aA E.P E.az w0 μD φ m wD:=age▸hwD▸hR.toaA.adP _;have hD:μD w.heap.size=some (.deferred (some [])):=by rw[age];simp[EL]
 obtain⟨w1,WN⟩:∃w1:bu,w1={w0 with dC:=μD,rc:=fun i=>if i=lid then some (l,rec)else w0.rc i}:=⟨_,rfl⟩;have ai0:aA E.P E.az w1 μD φ m wD:=WN▸hMD.AS rfl rfl (fun _ _ h=>h) (fun id st hid=>QU fun e=>by simp_all);have KK:bV E.fn.ntmps w1 a=bV E.fn.ntmps w0 a:=by subst WN;rfl
 have hFD:cd E.P μD φ m f1 (bV E.fn.ntmps w0 a):=⟨fun t=>(hR.fr t).CV adV,hR.live⟩;have ai1:w1.rc lid=some (l,rec):=by simp_all
 have Zo:W1.heap[l]?=some (.loop rec):=by grind [heap_alloc_new]
 have Ry:Q9.ready.obj rec=rec:=by subst Pw;rfl
 have nf:l6 E.P w1 μD φ m wD W1 lid (.loop .ready) (GU (some l) 0 0 0):=by
  rw[hW1];refine l6.alloc ai0 (by rw[hl]) (fun φ' hp _=>⟨l,rec,by rw[hp],?_⟩) (by simp[bL.names]) fun st fo=>?_
  ·simp_all
  simp_all
 obtain⟨φ1,amF,y9,HF⟩:=amE E.P E.az w1 μD φ wD W1 (bV E.fn.ntmps w0 a) (GU (some l) 0 0 0) ai0 hFD nf;have Fx:Rel E.P E.az E.fn.ntmps w1 μD φ1 f1 (aw m lid (.loop .ready)) a W1:={toaA:=y9,size:=hR.size,defers:=(by have:=hR.defers.mono adV;subst WN;omega),lj:=(by subst WN;exact fun b o hb=>adV b o (hR.dC b o (hR.lj b o hb))),fr:=fun t=>by rw[KK];exact HF.fr t,live:=HF.live};have LN:=au Fx g;split at h;rotate_left
 ·cases h
 rename_i gid caps tB;obtain⟨xs,hgv,hlen,kF,amG⟩:=adU tB LN.1 LN.2
 ·clear LN;obtain⟨fnI,cI,f1,f2,f3,qp⟩:=hE.rng _ _ _ _ _ _ _ _ _ h;have hyl:an E.P μD φ1 (.yl lid) (.func (.yield l) #[] #[]):=.yl (by rw[amF]);have hC:=qp w1 μD φ1 (bV E.fn.ntmps w0 a) W1 (#[.func (.yield l) #[] #[]]++xs) y9 HF (by simp;omega) (fun i v x hv hx=>by
    grind) (fun id hid=>by
    simp only[cp,aon]at hid;rcases hid with hid|hid
    ·have:=IT hid;subst this;simp
    ·exact amG id hid) (by
   refine fun H R site id args F m k r hy=>aah (fid:=site*4096+E.fid%4096) ihA ihB hE (w2:={w1 with sv:=fun t=>bV E.fn.ntmps w0 a (t-fnI.ntmps)}) (rc:=rec) (l:=l) (lid:=lid) (ps:=ps) ai1 (by subst Pw;rfl) (by subst Pw;rfl) (by subst Pw;rfl) (by subst Pw;exact hR.size) (fun t ht=>by grind [bV,Nat.add_sub_cancel,rI]) H R site id args F m k r hy)
  refine⟨l,[{target:=.collected w.heap.size,args:= #[]}],W1,{target:=.fn (.func gid) xs,args:= #[.func (.yield l) #[] #[]]},W1,gid,#[.func (.yield l) #[] #[]]++xs,W1,?_,?_,?_,?_,?_,?_⟩
  ·have:=run_enterLoop_outer (P:=E.P) (w:=w) fn a.tmps ps as b;rw[hl',hW1,hwD,Pw];exact this
  ·simp only[resolve,hgv];simp[go_sem]
  ·exact fun _ _=>trivial
  ·grind [invoke,adT]
  ·decide
  ·refine FR.Ud (hC.mono ?_);rintro e w' ⟨v,f',m',y,μ',φ',hk,rfl,YF,hF',_,_⟩;have ai2:Pe μD μ':=by have:=YF.dC;subst WN;omega
   have hD':μ' w.heap.size=some (.deferred (some [])):=ai2 _ _ hD;have main:∀st,m' lid=some (.loop st)→st≠.busy→∃w4,(Instr.endLoop l).run E.P w'=.ok (st.obj rec).pending w4∧Rel E.P E.az E.fn.ntmps w0 μ' φ' (eP lid f') (bq (bK lid m') lid) {a with defers:=[{target:=.collected w.heap.size,args:= #[]}]++a.defers} w4:=by
    intro st fo hnb;obtain⟨g',rc',p1,p2,p3⟩:=YF.Ft lid st fo;rw[ai1]at p2;simp only[tb,afu]at p2;obtain⟨rfl,rfl⟩:=p2;have AQ:=YF.own lid _ _ fo (.inl p1);have hMf:=YF.forget lid;have A1:∀id b,bq (bK lid m') lid id=some b→¬b.owns (φ' id) l:=fun id b' hid e=>by obtain⟨bU,b2,td,rfl⟩:=fV hid;exact bU (YF.inj id lid b2 _ l td fo (fZ.1 e) (.inl p1))
    have hM4:=hMf.other (.loop {st.obj rec with state:=.exhausted}) AQ.1 (AQ.2 rfl) A1 (by
     cases hq:w1.hid l with
     |none=>rfl
     |some o=>exact absurd (.inl p1) ((YF.hid l o hq).2.2.2 lid _ fo))
    have hM5:aA E.P E.az w0 μ' φ' (bq (bK lid m') lid) (w'.putObj l (.loop {st.obj rec with state:=.exhausted})):=hM4.AS (by subst WN;rfl) (by subst WN;rfl) (fun b o hb=>ai2 b o (adV b o (hR.dC b o hb))) (fun id st hid=>by
      have bU:id≠lid:=fun e=>by subst e;simp at hid
      subst WN;exact(QU bU).symm)
    refine⟨_,run_endLoop p3 (by cases st<;>simp_all[Q9.obj]),{toaA:=hM5,size:=hR.size,defers:=?_,lj:=hR.lj,fr:=?_,live:=?_}⟩
    ·obtain⟨Ds,e,YI,hDs⟩:=hR.defers;have bF:∀b o,μ b=some o→b<w.heap.size:=fun b o hb=>(T0.1 (hR.ro b o hb)).1;refine⟨w.heap.size::Ds,by simp[e],apx.2 ⟨fun hd=>?_,YI⟩,fun D hd=>?_⟩
     ·grind
     ·rcases aoc.1 hd with rfl|hd
      ·refine⟨hR.below.size,?_,hD'⟩;cases ho:w0.lj w.heap.size with
       |none=>rfl
       |some o=>have:=bF _ _ (hR.dC _ _ (hR.lj _ _ ho));omega
      grind
    ·exact(hF'.forget lid).fr
    ·exact(hF'.forget lid).live
   dsimp only at hk;split at hk
   ·rename_i fo;obtain⟨w4,e1,e2⟩:=main .ready fo (by simp);exact⟨none,w4,e1,hQ .normal _ _ _ _ _ _ hk e2⟩
   ·rename_i j fo;obtain⟨w4,e1,e2⟩:=main (.done j) fo (by simp);refine⟨some j.code,w4,e1,?_⟩;cases j with
    |ret=>exact wpIn_ret (hQ .ret _ _ _ _ _ _ hk e2)
    |exit id=>exact wpIn_exit (hQ (.exit id) _ _ _ _ _ _ hk e2)
   ·cases hk
theorem aai:∀(c:Code),Ba c:=by
 intro c;induction c with
 |skip=>intro E w0 rd hE hY Ez R f m k r h μ φ a w Q hR hQ;simp only[fq]at h;exact wpIn_skip (hQ .normal _ _ _ _ _ _ h hR)
 |region id ops draw=>intro E w0 rd hE hY Ez R f m k r h μ φ a w Q hR hQ;exact Xg hE hY h hR (hQ .normal)
 |seq x y ihx ihy=>
  intro E w0 rd hE hY Ez R f m k r h μ φ a w Q hR hQ;simp only[fq]at h;refine wpIn_seq (ihx hE hY Ez h hR fun e f' m' μ' φ' a' w' hk jN=>?_);cases e with
  |normal=>exact ihy hE hY Ez hk jN hQ
  |exit id=>exact hQ (.exit id) _ _ _ _ _ _ hk jN
  |ret=>exact hQ .ret _ _ _ _ _ _ hk jN
 |cond c x y ihx ihy=>
  intro E w0 rd hE hY Ez R f m k r h μ φ a w Q hR hQ;simp only[fq]at h;split at h
  ·rename_i t b hb;have hv:a.eval (.tmp t)=.bool b:=by have:=(au hR (.tmp t)).1;grind [uB]
   have jn:f t=.pv (.bool b):=(Je hb).2;have hle:yO (gJ f t (.pv (.bool b))) f:=fun s=>by
    simp only[gJ];cases e:Nat.beq s t with
    |true=>simp_all
    |false=>simp
   cases b with
   |true=>simp only[BY]at h;exact wpIn_cond_true hv (ihx hE hY Ez h (hR.weaken hle) hQ)
   |false=>simp only[AI,OF]at h;exact wpIn_cond_false hv (ihy hE hY Ez h (hR.weaken hle) hQ)
  ·cases h
 |block id b ih=>
  intro E w0 rd hE hY Ez R f m k r h μ φ a w Q hR hQ;simp only[fq]at h;refine wpIn_block (ih hE hY Ez h hR fun e f' m' μ' φ' a' w' hk jN=>?_);cases e with
  |normal=>exact hQ .normal _ _ _ _ _ _ hk jN
  |exit j=>
   simp only[Ex.Y3]at hk;simp only[aaf,Exit.inBlock];split at hk
   ·rename_i hj;rw[No hj];exact hQ .normal _ _ _ _ _ _ hk jN
   ·rename_i hj;rw[QU hj];exact hQ (.exit j) _ _ _ _ _ _ hk jN
  |ret=>exact hQ .ret _ _ _ _ _ _ hk jN
 |loop b ih=>
  intro E w0 rd hE hY Ez R f m k r h μ φ a w Q hR hQ;simp only[fq]at h;split at h
  ·rename_i T _;obtain⟨f,m,μ,φ,h,hR⟩:=Pu h hR;obtain⟨s,hs,s1,s2,s3,s4⟩:=aae h;obtain⟨n0,hs⟩:=hE.lp _ _ _ _ _ hs;refine L2 (fun n a w=>∃s μ φ,Rel E.P E.az E.fn.ntmps w0 μ φ (Rt T s) (Ir T s) a w∧dH (fun s rec=>fq E b (Rt T s) (Ir T s) (Ex.OT (fun f m=>Li E.P T f m fun f m=>enc T f m rec) k)) n s=some r) ?_ n0 a w ⟨s,μ,φ,hR.dec s1 s2 s3 s4,hs⟩;rintro n a w ⟨s,μ,φ,hR,hs⟩;cases n with
   |zero=>simp[dH]at hs
   |succ n=>
    refine⟨n,rfl,?_⟩;simp only[dH]at hs;refine ih hE hY Ez hs hR fun e f' m' μ' φ' a' w' hk jN=>?_;cases e with
    |normal=>obtain⟨f',m',μ',φ',hk,jN⟩:=Pu hk jN;obtain⟨s',hs',t1,t2,t3,t4⟩:=aae hk;exact⟨s',μ',φ',jN.dec t1 t2 t3 t4,hs'⟩
    |exit j=>exact hQ (.exit j) _ _ _ _ _ _ hk jN
    |ret=>exact hQ .ret _ _ _ _ _ _ hk jN
  ·refine L2 (fun n a w=>∃f m μ φ,Rel E.P E.az E.fn.ntmps w0 μ φ f m a w∧OR (fun f m rec=>fq E b f m (Ex.OT rec k)) n f m=some r) ?_ E.u a w ⟨f,m,μ,φ,hR,h⟩;rintro n a w ⟨f,m,μ,φ,hR,hs⟩;cases n with
   |zero=>simp[OR]at hs
   |succ n=>
    refine⟨n,rfl,?_⟩;simp only[OR]at hs;refine ih hE hY Ez hs hR fun e f' m' μ' φ' a' w' hk jN=>?_;cases e with
    |normal=>exact⟨f',m',μ',φ',jN,hk⟩
    |exit j=>exact hQ (.exit j) _ _ _ _ _ _ hk jN
    |ret=>exact hQ .ret _ _ _ _ _ _ hk jN
 |exit id=>intro E w0 rd hE hY Ez R f m k r h μ φ a w Q hR hQ;simp only[fq]at h;exact wpIn_exit (hQ (.exit id) _ _ _ _ _ _ h hR)
 |label l=>intro E w0 rd hE hY Ez R f m k r h μ φ a w Q hR hQ;simp only[fq]at h;exact wpIn_label (hQ .normal _ _ _ _ _ _ h hR)
 |ret=>intro E w0 rd hE hY Ez R f m k r h μ φ a w Q hR hQ;simp only[fq]at h;exact wpIn_ret (hQ .ret _ _ _ _ _ _ h hR)
 |scope b ih=>intro E w0 rd hE hY Ez R f m k r h μ φ a w Q hR hQ;simp only[fq]at h;exact Xf (ih hE hY Ez h hR fun e f' m' μ' φ' a' w' hk jN=>by cases e<;>exact hQ _ _ _ _ _ _ _ hk jN)
 |rangeFunc g ps as b ihA ihB=>exact Ns ihA ihB
 |_=>intro E w0 rd hE hY Ez R f m k r h;simp[fq]at h
def Obj.agf:Obj→Bool
 |.cells .. =>true
 |.map .. =>true
 |_=>false
def Us(μ μ':Ro):Prop:=∀b o,μ b=some o→Obj.agf o=true→μ' b=some o
theorem Us.trans{a b c:Ro}(h:Us a b)(k:Us b c):Us a c:=fun x o hx ho=>k x o (h x o hx ho) ho
section
variable {P:Program} {G:Nat→Option (List PV)} {w0:bu} {μ μ':Ro} {φ:Nat→aH} {m:Mem} {w w':World}
variable{x:Value}
theorem JA(h:Us μ μ'){b o:Nat}(hx:cellAt μ b o=some x):cellAt μ' b o=some x:=by
 unfold cellAt at*;split at hx
 ·rename_i c t fz hb;rw[h _ _ hb rfl];omega
 ·cases hx
theorem aq.off(h:Us μ μ'){p:PV}(hp:aq P μ p x):aq P μ' p x:=by
 induction hp with
 |int h=>exact .int h
 |bool=>exact .bool
 |str h=>exact .str h
 |agg h1 _ h3 ih=>exact .agg h1 ih h3
 |aI h1 _ ih=>exact .aI h1 ih
 |ig=>exact .ig
 |rp X h1 _ h3 ih=>exact .rp X (fun i p hi=>JA h (h1 i p hi)) ih h3
 |l5=>exact .l5
 |Ox h=>exact .Ox h
 |rs X h1 h2 h3 h4 _ h6 ih=>exact .rs X h1 h2 h3 (fun i e j p hi hj=>JA h (h4 i e j p hi hj)) ih h6
 |od=>exact .od
 |rm h1 h2 h3 h4 h5 _ _ ih1 ih2=>exact .rm (h _ _ h1 rfl) h2 h3 h4 h5 ih1 ih2
 |CJ=>exact .CJ
 |fn h1 _ ih=>exact .fn h1 ih
 |Za=>exact .Za
 |adp=>exact .adp
 |bad=>exact .bad
theorem CU.off(h:Us μ μ'){g:Nat}{cs:List PV}(hv:CU P μ g cs):CU P μ' g cs:=⟨hv.rep.off h,let⟨c,T,z,h1,h2⟩:=hv.size;⟨c,T,z,h _ _ h1 rfl,h2⟩⟩
theorem an.off(h:Us μ μ'){v:V}{x:Value}(hv:an P μ φ v x):an P μ' φ v x:=by
 induction hv with
 |pv hp=>exact .pv (hp.off h)
 |fM=>exact .fM
 |op hg=>exact .op hg
 |oe hg=>exact .oe hg
 |vO hg=>exact .vO hg
 |os hg=>exact .os hg
 |uj hg=>exact .uj hg
 |gh hg hl ha hc hc'=>exact .gh hg hl ha hc hc'
 |MV hg=>exact .MV hg
 |AJ hg=>exact .AJ hg
 |Ef hg hs=>exact .Ef hg hs
 |om hg=>exact .om hg
 |yl hg=>exact .yl hg
 |it hg=>exact .it hg
 |fn h1 _ ih=>exact .fn h1 ih
 |agg h1 _ h3 ih=>exact .agg h1 ih h3
 |aI h1 _ ih=>exact .aI h1 ih
 |top=>exact .top
theorem aL.off(h:Us μ μ'){id sz:Nat}{et:TypeId}{es:List PV}(ha:aL P μ φ w id sz et es)(hw:∀g,(φ id).g=some g→w'.heap[g]?=w.heap[g]?):aL P μ' φ w' id sz et es:=by
 obtain⟨a1,a2,a3,a4,a5,a6,a7⟩:=ha;refine⟨a1,a2,a3,a4,a5,a6,?_⟩;cases hg:(φ id).g with
 |none=>rw[hg]at a7;omega
 |some g=>rw[hg]at a7;obtain⟨c,T,c1,c2,c3,c4,c5⟩:=a7;exact⟨c,T,by rw[hw g hg];omega,c2,c3,fun i e j p x h1 h2 h3=>(c4 i e j p x h1 h2 h3).off h,c5⟩
theorem eX.off(hh:Us μ μ'){R:GS}{s:Nat}{rs:List PV}{x:Value}(h:eX P μ R w s rs x)(hw:∀g,R.g=some g→w'.heap[g]?=w.heap[g]?):eX P μ' R w' s rs x:=
 let⟨⟨et,hA⟩,hV⟩:=h
 ⟨⟨et,hA.off hh hw⟩,hV.off hh⟩
theorem eA.off(hh:Us μ μ'){R:GS}{p:PV}{x:Value}(h:eA P μ R w p x)(hw:p.isRow=true→∀g,R.g=some g→w'.heap[g]?=w.heap[g]?):eA P μ' R w' p x:=by
 unfold eA at*;split at h
 ·exact eX.off hh h (hw rfl)
 ·exact aq.off hh h
theorem bd.off(hh:Us μ μ'){id sz:Nat}{et:TypeId}{es:List PV}(h:bd P μ φ w id sz et es)(hw:∀g,(bL.nest sz et es).owns (φ id) g→w'.heap[g]?=w.heap[g]?):bd P μ' φ w' id sz et es:=by
 obtain⟨a1,a2,a3,a4,a5,a6,a7⟩:=h;refine⟨a1,a2,a3,a4,a5,a6,?_⟩;cases hg:(φ id).g with
 |none=>rw[hg]at a7;omega
 |some g=>rw[hg]at a7;obtain⟨c,T,c1,c2,c3,c4,c5⟩:=a7;exact⟨c,T,by rw[hw g (.inl hg)];omega,c2,c3,fun i e j p x h1 h2 h3=>(c4 i e j p x h1 h2 h3).off hh fun hr g' cL=>hw g' (.inr ⟨i,j,by rw[dE h1 h2];omega,cL⟩),c5⟩
theorem eX.Ut{R:GS}{s g:Nat}{rs:List PV}(h:eX P μ R w s rs x)(hg:R.g=some g):∃c T z,w.heap[g]?=some (.cells c T z):=by obtain⟨⟨et,_,_,_,_,_,_,a7⟩,_⟩:=h;have cL:R.up.g=some g:=hg;grind
theorem gM.aaj{id g i off:Nat}{b:bL}(h:gM P μ φ w id b)(hr:b.rowAt i off=true)(hg:((φ id).row i off).g=some g):∃c T z,w.heap[g]?=some (.cells c T z):=by
 rcases kM hr with⟨sz,et,es,e,s,rs,rfl,he,hp⟩|⟨kt,e0,es,k,s,rs,rfl,rfl,he⟩
 ·have hN:bd P μ φ w id sz et es:=h;have hgg:∃g0,(φ id).g=some g0:=by
   cases hq:(φ id).g with
   |some g0=>simp
   |none=>have a7:=hN.2.2.2.2.2.2;simp_all
  obtain⟨g0,Rz⟩:=hgg;obtain⟨c,_,x,_,_,c3,_⟩:=hN.cell Rz he hp;exact eX.Ut (show eX P μ _ w s rs x from c3) hg
 ·obtain⟨g0,en,clock,kk,Rz,hh,hs,hk,hc,Ci,hv⟩:=h;have hi:i<en.size:=by grind
  have h3:=(hv i k _ en[i] he (Yh hi)).2;exact eX.Ut (P:=P) (μ:=μ) (R:=(φ id).row i 0) (s:=s) (rs:=rs) (x:=en[i].val) ⟨⟨_,h3.1⟩,h3.2⟩ hg
theorem gM.off(h:Us μ μ')(yN:∀b o,μ b=some o→w.heap[b]?=some o){id:Nat}{b:bL}(hb:gM P μ φ w id b)(hw:∀g,b.owns (φ id) g→w'.heap[g]?=w.heap[g]?):gM P μ' φ w' id b:=by
 cases b with
 |nest sz et es=>exact bd.off h hb hw
 |fG kt e0 es=>
  obtain⟨g,en,clock,kk,hg,hh,hs,hk,hc,Ci,hv⟩:=hb;refine⟨g,en,clock,kk,hg,by rw[hw g (.inl hg)];omega,hs,hk,hc,Ci,fun i k v e h1 h2=>⟨(hv i k v e h1 h2).1.off h,?_⟩⟩;have h3:=(hv i k v e h1 h2).2;split at h3
  ·exact⟨h3.1.off h fun g' cL=>hw g' (.inr ⟨i,0,by rw[kL h1];rfl,cL⟩),h3.2.off h⟩
  ·exact h3.off h
 |box cs=>obtain⟨g,c,T,hg,hh,hs,hv,h1,KH⟩:=hb;exact⟨g,c,T,hg,by rw[hw g (.inl hg)];omega,hs,fun i v x hi hx=>(hv i v x hi hx).off h,h1,KH⟩
 |arr sz et es=>exact aL.off h hb fun g hg=>hw g (.inl hg)
 |sq sz et es=>refine⟨aL.off h hb.1 fun g hg=>hw g (.inl hg),fun g hg=>?_⟩;obtain⟨o,ho⟩:=aop.1 (hb.2 g hg);obtain⟨_,_,_,_,_,_,a7⟩:=hb.1;rw[hg]at a7;obtain⟨c,_,c1,_⟩:=a7;have:=yN g o ho;rw[c1]at this;cases this;rw[h _ _ ho rfl];rfl
 |map kt es=>obtain⟨g,en,clock,kk,hg,hh,hs,hk,hc,Ci,hv⟩:=hb;exact⟨g,en,clock,kk,hg,by rw[hw g (.inl hg)];omega,hs,hk,hc,Ci,fun i k v e h1 h2=>⟨(hv i k v e h1 h2).1.off h,(hv i k v e h1 h2).2.off h⟩⟩
 |iter t es cur=>obtain⟨g,mg,en,clock,seen,hg,hh,Oz,Ci,KH,hv,hcu⟩:=hb;exact⟨g,mg,en,clock,seen,hg,by rw[hw g (.inl hg)];omega,h _ _ Oz rfl,Ci,KH,fun i k v e h1 h2=>⟨(hv i k v e h1 h2).1.off h,(hv i k v e h1 h2).2.off h⟩,fun k v hc=>let⟨i,e,h1,h2,h3,h4⟩:=hcu k v hc;⟨i,e,h1,h2,h3.off h,h4.off h⟩⟩
 |loop st=>obtain⟨g,rc,hg,hh⟩:=hb;exact⟨g,rc,hg,by rw[hw g (.inl hg)];omega⟩
def EN(μ:Ro)(D:Nat):Ro:=fun b=>if b=D then none else μ b
theorem Uu{D:Nat}(hD:μ D=some (.deferred (some []))):Us μ (EN μ D):=by intro b o hb ho;unfold EN;rw[QU fun e=>by subst e;rw[hD]at hb;cases hb;cases ho];omega
theorem aA.shut(hM:aA P G w0 μ φ m w){D:Nat}(hB:w0.heap.size≤D)(hk:w0.dC D=none)(hD:μ D=some (.deferred (some []))):aA P G w0 (EN μ D) φ m (w.putObj D (.deferred none)):=by
 have hc:=Uu hD;have hh:=hM.ro _ _ hD;have Ax:∀k,k≠D→(w.putObj D (.deferred none)).heap[k]?=w.heap[k]?:=fun k hk=>World.putObj_heap_other hk;have bU:∀id b g,m id=some b→b.owns (φ id) g→g≠D:=fun id b g hm hg e=>by
  subst e;have hR:=hM.dB id b hm;rcases hg with hg|⟨i,off,hr,hg⟩
  rotate_left
  ·obtain⟨c,T,z,h2⟩:=hR.aaj hr hg;rw[hh]at h2;cases h2
  cases b with
  |nest sz et es=>obtain⟨_,_,_,_,_,_,a7⟩:=hR;simp_all
  |fG kt e0 es=>obtain⟨g',en,clock,kk,cL,h2,_⟩:=hR;simp_all
  |box cs=>obtain⟨g',c,T,cL,h2,_⟩:=hR;simp_all
  |arr sz et es=>obtain⟨_,_,_,_,_,_,a7⟩:=hR;simp_all
  |sq sz et es=>obtain⟨⟨_,_,_,_,_,_,a7⟩,_⟩:=hR;simp_all
  |map kt es=>obtain⟨g',en,clock,kk,cL,h2,_⟩:=hR;simp_all
  |loop st=>obtain⟨g',rc,cL,h2⟩:=hR;simp_all
  |iter t es cur=>obtain⟨g',mg,en,clock,seen,cL,h2,_⟩:=hR;simp_all
 refine⟨hM.below.trans ((lh.putObj w D _).mono hB),fun b o hb=>?_,fun g cs hg=>(hM.az g cs hg).off hc,fun id b hm=>(hM.dB id b hm).off hc hM.ro fun g hg=>Ax g (bU id b g hm hg),fun id b g hm hg=>?_,hM.inj,hM.apart,hM.fI,fun b o hb bF=>?_,fun b o hb=>?_,fun id st hm=>?_,fun k o h=>(by
  obtain⟨h1,h2,h3,h4⟩:=hM.hid k o h;have hkD:k≠D:=fun e=>by rw[e,hD]at h3;cases h3
  exact⟨by rw[Ax k hkD];exact h1,h2,by unfold EN;rw[QU hkD];exact h3,h4⟩)⟩
 ·unfold EN at hb;split at hb
  ·cases hb
  ·rename_i e;rw[Ax b e];exact hM.ro b o hb
 ·obtain⟨h1,h2⟩:=hM.own id b g hm hg;refine⟨h1,fun Zl=>?_⟩;unfold EN;simp_all
 ·unfold EN at hb;split at hb
  ·omega
  ·exact hM.base b o hb bF
 ·unfold EN;rw[QU fun e=>by simp_all];exact hM.dC b o hb
 ·obtain⟨g,rc,h1,h2,h3⟩:=hM.Ft id st hm;grind
end
section
variable {E:Env} {w0:bu}
theorem EO{R:Ending→World→Prop}{f:Fr}{m:Mem}{φ:Nat→aH}{fn:Func}{tmps:Array Value}:∀(Ds:List Nat){μ:Ro}{w:World},Ds.Nodup→(∀D∈Ds,w0.heap.size≤D∧w0.dC D=none∧μ D=some (.deferred (some [])))→Rel E.P E.az E.fn.ntmps w0 μ φ f m {tmps,defers:=[]} w→(∀μ' w',Rel E.P E.az E.fn.ntmps w0 μ' φ f m {tmps,defers:=[]} w'→∃v,(results fn tmps).run E.P w'=.ok v w'∧R (.returned v) w')→LeavesInM (FR none) 0 E.P fn tmps R (Ds.map fun D=>{target:=.collected D,args:= #[]}) .returning w
 |[],μ,w,_,_,hR,DC=>DC μ w hR
 |D::Ds,μ,w,hn,hD,hR,DC=>by obtain⟨h1,h2,h3⟩:=hD D (by simp);obtain⟨n1,n2⟩:=apx.1 hn;have hM:=hR.toaA.shut h1 h2 h3;refine⟨by simp,.inl ⟨D,_,rfl,run_takeDeferred (hR.ro _ _ h3),?_⟩⟩;refine EO Ds n2 (fun D' hd'=>?_) {toaA:=hM,size:=hR.size,defers:=.nil _ _ _,lj:=hR.lj,fr:=fun t=>(hR.fr t).off (Uu h3),live:=hR.live} DC;obtain⟨a1,a2,a3⟩:=hD D' (by simp[hd']);refine⟨a1,a2,?_⟩;unfold EN;grind
theorem wQ(hE:jM E)(hY:tA E.P E.az E.fn.ntmps E.yl w0)(hko:∀b o,w0.dC b=some o→w0.lj b=some o){g:FuncId}{c:Code}(hf:E.P.funcs[g]?=some E.fn)(hb:E.fn.body=some c){xs:Array Value}{R:Ending→World→Prop}{S:Type}{f:Fr}{m:Mem}{k:Ex→Fr→Mem→Option S}{r:S}(h:fq E c f m k=some r){μ:Ro}{φ:Nat→aH}{w:World}(hR:Rel E.P E.az E.fn.ntmps w0 μ φ f m {tmps:=xs++Array.replicate (E.fn.ntmps-xs.size) undef,defers:=[]} w)(DC:∀e f' m' μ' φ' tmps w',k e f' m'=some r→Rel E.P E.az E.fn.ntmps w0 μ' φ' f' m' {tmps,defers:=[]} w'→(∀id,e≠.exit id)∧∃v,(results E.fn tmps).run E.P w'=.ok v w'∧R (.returned v) w'):Calls E.P g xs w R:=by
 refine(callsIn_wide (n:=0)).1 (callsIn_of_wp_marks (F:=FR none) hf hb trivial ?_);refine aai c hE hY (fun _=>rfl) h hR fun e f' m' μ' φ' a' w' hk jN=>?_;obtain⟨Ds,e1,e2,e3⟩:=jN.defers;have FT:Rel E.P E.az E.fn.ntmps w0 μ' φ' f' m' {tmps:=a'.tmps,defers:=[]} w':={toaA:=jN.toaA,size:=jN.size,defers:=.nil _ _ _,lj:=jN.lj,fr:=jN.fr,live:=jN.live};have key:(∀id,e≠.exit id)→LeavesInM (FR none) 0 E.P E.fn a'.tmps R a'.defers .returning w':=fun _=>by
  rw[e1];refine EO Ds e2 (fun D hd=>?_) FT fun μ2 w2 hR3=>(DC e f' m' μ2 φ' a'.tmps w2 hk hR3).2;obtain⟨a1,a2,a3⟩:=e3 D hd;refine⟨a1,?_,a3⟩;cases hq:w0.dC D with
  |none=>rfl
  |some o=>simp_all
 have bU:=(DC e f' m' μ' φ' a'.tmps w' hk FT).1;cases e with
 |normal=>exact key bU
 |ret=>exact key bU
 |exit id=>simp_all
end
end Go.Ab
