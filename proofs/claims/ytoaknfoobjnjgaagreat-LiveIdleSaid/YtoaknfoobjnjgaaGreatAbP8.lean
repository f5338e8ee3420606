import Derived.Test.YtoaknfoobjnjgaaGreatAbP7
import Derived.RangeFuncIn
import Derived.Scope
set_option linter.all false
namespace Go.Ab
open Go.RowKit (Below)
section
variable {P:Program} {G:Nat→Option (List PV)} {w0:bl} {μ:Ro} {φ:Nat→aK} {m:Mem} {w:World}
theorem lr.putObj(w:World)(g:Nat)(o:Obj):lr g w (w.putObj g o):=⟨⟨rfl,rfl,rfl,by simp,fun k hk=>World.putObj_heap_other (by omega)⟩,fun _=>anz _⟩
theorem aG.yS(h:aG P G w0 μ φ m w){w1:bl}(hw:w1.w=w0.w)(Nb:w1.mu=w0.mu)(hk:∀b o,w1.dG b=some o→μ b=some o)(WX:∀id st,m id=some (.loop st)→w1.rc id=w0.rc id)(hh:w1.hid=w0.hid:=by first|rfl|(subst_vars;rfl)):aG P G w1 μ φ m w:=by obtain⟨a0,b0,c0,d0,e0,f0,g0⟩:=w0;obtain⟨a1,b1,c1,d1,e1,f1,g1⟩:=w1;simp only at hw Nb hh;subst hw;subst Nb;subst hh;refine⟨h.below,h.ro,h.aF,h.dF,h.own,h.inj,h.apart,h.fJ,h.base,hk,fun id st hid=>?_,h.hid⟩;obtain⟨g,rc,h1,h2,h3⟩:=h.DL id st hid;simp_all
def C0(μ:Ro)(w:World)(o:Obj):Ro:=fun b=>if b=w.heap.size then some o else μ b
theorem Oe(hM:aG P G w0 μ φ m w)(o:Obj):N0 μ (C0 μ w o):=by intro b o' hb;have:=(adW.1 (hM.ro b o' hb)).1;unfold C0;grind
theorem aG.ac3(hM:aG P G w0 μ φ m w)(o:Obj):aG P G w0 (C0 μ w o) φ m (w.alloc o):=by
 have hle:=Oe hM o;have hold:∀k,k<w.heap.size→(w.alloc o).heap[k]?=w.heap[k]?:=fun k hk=>lr.heap_alloc w o k hk;have n9:w0.heap.size≤w.heap.size:=hM.below.size;refine⟨hM.below.alloc hM.below.size o,fun b o' hb=>?_,fun g cs hg=>(hM.aF g cs hg).mono hle,fun id b hid=>?_,fun id b g hid hg=>?_,hM.inj,hM.apart,hM.fJ,fun b o' hb bK=>?_,fun b o' hb=>hle b o' (hM.dG b o' hb),fun id st hid=>?_,fun k o' h=>(by obtain⟨h1,h2,h3,h4⟩:=hM.hid k o' h;have bK:=(adW.1 h1).1;exact⟨by rw[hold k bK];exact h1,h2,by unfold C0;rw[IT (by omega)];exact h3,h4⟩)⟩
 ·unfold C0 at hb;split at hb
  ·grind [heap_alloc_new]
  ·have:=hM.ro b o' hb;grind
 ·have hR:=hM.dF id b hid;exact hR.cG (fun _ _=>rfl) rfl hle (fun g hg=>hold g (hR.FU hg))
 ·obtain⟨h1,h2⟩:=hM.own id b g hid hg;refine⟨h1,fun Xy=>?_⟩;have:=(hM.dF id b hid).FU hg;unfold C0;grind
 ·unfold C0 at hb;rw[IT (by omega)]at hb;exact hM.base b o' hb bK
 ·obtain⟨g,rc,h1,h2,h3⟩:=hM.DL id st hid;grind
theorem aG.other(hM:aG P G w0 μ φ m w){g:Nat}(o:Obj)(hg:w0.heap.size≤g)(hμ:μ g=none)(DN:∀id b,m id=some b→¬b.owns (φ id) g)(hh:w0.hid g=none):aG P G w0 μ φ m (w.putObj g o):=by
 have AQ:∀k,k≠g→(w.putObj g o).heap[k]?=w.heap[k]?:=fun k hk=>World.putObj_heap_other hk;refine⟨hM.below.trans ((lr.putObj w g o).mono hg),fun b o' hb=>?_,hM.aF,fun id b hid=>?_,hM.own,hM.inj,hM.apart,hM.fJ,hM.base,hM.dG,fun id st hid=>?_,fun k o' h=>⟨(AQ k fun e=>by subst e;rw[hh]at h;cases h).trans (hM.hid k o' h).1,(hM.hid k o' h).2⟩⟩
 ·rw[AQ b fun e=>by simp_all];exact hM.ro b o' hb
 ·have hR:=hM.dF id b hid;exact hR.cG (fun _ _=>rfl) rfl (fun _ _ h=>h) (fun g' cV=>AQ g' fun e=>by simp_all)
 ·obtain⟨g',rc,h1,h2,h3⟩:=hM.DL id st hid;exact⟨g',rc,h1,h2,by rw[AQ g' fun e=>by subst e;exact DN id _ hid (.inl h1)];omega⟩
theorem aG.turn(hM:aG P G w0 μ φ m w){id g:Nat}{st st':Qe}{rc:Loop}(hm:m id=some (.loop st))(hg:(φ id).g=some g)(WX:w0.rc id=some (g,rc)):aG P G w0 μ φ (aB m id (.loop st')) (w.putObj g (.loop (st'.obj rc))):=by have bK:=(hM.dF id _ hm).FU (.inl hg);have XA:(w.putObj g (.loop (st'.obj rc))).heap[g]?=some (.loop (st'.obj rc)):=World.putObj_heap_same bK;exact hM.write hm rfl hg (lr.putObj w g _) (by simp) (fun k hk=>World.putObj_heap_other hk) ⟨g,rc,hg,XA⟩ rfl (by simp[bI.names]) fun s hs=>by simp_all
end
section
variable {P:Program} {μ:Ro} {φ:Nat→aK}
theorem Ko{nt:Nat}:∀(ps:List Nat)(args:List V)(xs:List Value)(f:Fr)(tmps:Array Value),tmps.size=nt→args.length=xs.length→(∀t,t<nt→aq P μ φ (f t) (tmps.getD t undef))→(∀(i:Nat)v x,args[i]?=some v→xs[i]?=some x→aq P μ φ v x)→((ps.zip xs).foldl (fun tmps(x:Nat×Value)=>tmps.setIfInBounds x.1 x.2) tmps).size=nt∧∀t,t<nt→aq P μ φ (GD ps args f t) (((ps.zip xs).foldl (fun tmps(x:Nat×Value)=>tmps.setIfInBounds x.1 x.2) tmps).getD t undef)
 |[],args,xs,f,tmps,hs,_,hf,_=>by cases args<;>exact⟨hs,hf⟩
 |p::ps,[],xs,f,tmps,hs,hl,hf,_=>by have:xs=[]:=anF (by simpa using hl.symm);subst this;exact⟨hs,hf⟩
 |p::ps,v::args,[],f,tmps,hs,hl,hf,_=>by simp at hl
 |p::ps,v::args,x::xs,f,tmps,hs,hl,hf,hr=>by
  simp only[List.zip_cons_cons,aqC,GD];refine Ko ps args xs (gH f p v) (tmps.setIfInBounds p x) (by simpa using hs) (by simpa using hl) (fun t ht=>?_) (fun i u y hu hy=>hr (i+1) u y (by simpa using hu) (by simpa using hy));by_cases e:t=p
  ·subst e;rw[BG];have:(tmps.setIfInBounds t x).getD t undef=x:=by simp_all
   rw[this];exact hr 0 v x rfl rfl
  ·rw[s8 e];have:(tmps.setIfInBounds p x).getD t undef=tmps.getD t undef:=by rw[ams,ams,anV,IT (fun h=>e h.symm)]
   rw[this];exact hf t ht
theorem HG{id:Nat}:∀(ps:List Nat)(args:List V)(f:Fr)(t:Nat),(GD ps args f t).has id=true→cq id args=true∨(f t).has id=true
 |[],args,f,t,h=>by cases args<;>exact .inr h
 |p::ps,[],f,t,h=>.inr h
 |p::ps,v::args,f,t,h=>by
  simp only[GD]at h;rcases HG ps args _ t h with h|h
  ·exact .inl (by simp[cq,h])
  ·by_cases e:t=p
   ·subst e;rw[BG]at h;exact .inl (by simp[cq,h])
   ·rw[s8 e]at h;exact .inr h
theorem Yg(ps:Array Nat)(xs:Array Value)(tmps:Array Value):(ps.zip xs).foldl (fun tmps(t,a)=>tmps.setIfInBounds t a) tmps=(ps.toList.zip xs.toList).foldl (fun tmps(x:Nat×Value)=>tmps.setIfInBounds x.1 x.2) tmps:=by rw[←Array.foldl_toList,Array.toList_zip]
end
variable{P:Program}{c:Code}{Q:Exit→Act→World→Prop}
theorem Kp{F:Fence}{nn:Nat}(I:Nat→Act→World→Prop)(round:∀n a w,I n a w→∃n',n=n'+1∧c.wpIn F nn P (Exit.then (I n') Q) a w):∀n a w,I n a w→(Code.loop c).wpIn F nn P Q a w:=by
 intro n a w hI b k cs sW hb hr;have key:∀n a w,I n a w→∃e a' w',Q e a' w'∧ArrivesIn (Machine.fenced P F) P (lone (b.atR a (.code c::.inLoop c::k)) cs w) b k cs e a' w':=by
  intro n;induction n with
  |zero=>grind
  |succ n ih=>
   intro a w h;obtain⟨n',hn,CN⟩:=round _ a w h;have hn:n=n':=by omega
   subst hn;obtain⟨e,a₁,w₁,hq,C1⟩:=CN b (.inLoop c::k) cs sW hb hr;cases e with
   |normal=>obtain⟨e₂,a₂,w₂,ahT,ac4⟩:=ih a₁ w₁ hq;exact⟨e₂,a₂,w₂,ahT,.of_steps (StepsIn.trans C1 (.one (fenced_calm hb hr rfl) stepR_inLoop)) ac4⟩
   |_=>exact⟨_,a₁,w₁,hq,.pass (x:=.inLoop c) rfl (fun _ _=>.inl (by simp)) C1⟩
 obtain⟨e,a',w',hq,C1⟩:=key n a w hI;exact⟨e,a',w',hq,.of_steps (.one (fenced_calm hb hr rfl) stepR_loop) C1⟩
theorem Vm{rd:Option Nat}{n:Nat}{a:Act}{w:World}(h:c.wpIn (FR rd) n P (Exit.noGoto Q) a w):(Code.scope c).wpIn (FR rd) n P Q a w:=by
 intro b k cs sW hb hr;obtain⟨e,a₁,w₁,hq,C1⟩:=h b (.inScope c::k) cs sW hb hr;have s1:StepsIn (Machine.fenced P (FR rd)) P (lone (b.atR a (.code (.scope c)::k)) cs w) (lone (b.atR a (.code c::.inScope c::k)) cs w):=.one (fenced_calm hb hr rfl) (step_lone_go (by rfl));have s2:∀a w,StepsIn (Machine.fenced P (FR rd)) P (lone (b.atR a (.inScope c::k)) cs w) (lone (b.atR a k) cs w):=fun a w=>.one (fenced_calm hb hr rfl) (step_lone_go (by rfl));cases e with
 |normal=>exact⟨.normal,a₁,w₁,hq,s1.trans (StepsIn.trans C1 (s2 _ _))⟩
 |exit id=>exact⟨.exit id,a₁,w₁,hq,fun k' hk=>s1.trans (C1.1 k' (by simp[exitTo,hk])),fun hr hk=>let⟨k₁,h1,h2⟩:=C1.2 hr (by simp[exitTo,hk]);⟨k₁,h1,s1.trans h2⟩⟩
 |goto l=>exact hq.elim
 |ret=>exact⟨_,a₁,w₁,hq,.of_steps s1 C1⟩
 |panic ch=>exact⟨_,a₁,w₁,hq,.of_steps s1 C1⟩
 |outgrown=>exact⟨_,a₁,w₁,hq,.of_steps s1 C1⟩
variable{R:Type}
theorem S8{T:Type}:∀{kJ:List Sh}{vs:List V}{t:T}{k:Su kJ T→Option R}{r:R},kK kJ vs t k=some r→∃x,k x=some r∧uw kJ x=(vs,t)∧vs.length=kJ.length∧∀M,(∀sh∈kJ,sh.within M=true)→ll M vs=true:=by
 intro kJ;induction kJ with
 |nil=>
  intro vs t k r h;cases vs with
  |nil=>exact⟨t,h,rfl,rfl,fun _ _=>rfl⟩
  |cons v vs=>simp[kK]at h
 |cons sh kJ ih=>
  intro vs t k r h;cases vs with
  |nil=>cases sh<;>simp[kK]at h
  |cons v vs=>
   have push:∀{M},v.within M=true→ll M vs=true→ll M (v::vs)=true:=fun h1 h2=>by simp[ll,h1,h2]
   cases sh with
   |own u=>
    simp only[kK]at h;split at h
    ·rename_i hs;obtain⟨x,x1,x2,x3,x4⟩:=ih h;have:=LN hs;subst this;refine⟨x,x1,by simp only[uw];rw[x2],by simp[x3],fun M hM=>push ?_ (x4 M fun s hs=>hM s (by simp[hs]))⟩;exact hM (.own u) (by simp)
    ·cases h
   |int q=>
    cases v<;>try (simp[kK]at h;done)
    rename_i p;cases p<;>try (simp[kK]at h;done)
    simp only[kK]at h;split at h
    ·rename_i hq;subst hq;obtain⟨x,x1,x2,x3,x4⟩:=ih h;exact⟨_,x1,by simp only[uw];rw[x2],by simp[x3],fun M hM=>push rfl (x4 M fun s hs=>hM s (by simp[hs]))⟩
    ·cases h
   |row id off=>
    cases v<;>try (simp[kK]at h;done)
    rename_i uv i xg;simp only[kK]at h;split at h
    ·rename_i hq;obtain⟨rfl,rfl⟩:=hq;obtain⟨x,x1,x2,x3,x4⟩:=ih h;exact⟨_,x1,by simp_all[uw,agY],by simp[x3],fun M hM=>push (hM (.row uv xg) (by simp)) (x4 M fun s hs=>hM s (by simp[hs]))⟩
    ·cases h
   |raw=>
    cases v<;>try (simp[kK]at h;done)
    simp only[kK]at h;obtain⟨x,x1,x2,x3,x4⟩:=ih h;exact⟨_,x1,by simp only[uw];rw[x2],by simp[x3],fun M hM=>push rfl (x4 M fun s hs=>hM s (by simp[hs]))⟩
   |bool=>
    cases v<;>try (simp[kK]at h;done)
    rename_i p;cases p<;>try (simp[kK]at h;done)
    simp only[kK]at h;obtain⟨x,x1,x2,x3,x4⟩:=ih h;exact⟨_,x1,by simp only[uw];rw[x2],by simp[x3],fun M hM=>push rfl (x4 M fun s hs=>hM s (by simp[hs]))⟩
   |str=>
    cases v<;>try (simp[kK]at h;done)
    rename_i p;cases p<;>try (simp[kK]at h;done)
    simp only[kK]at h;obtain⟨x,x1,x2,x3,x4⟩:=ih h;exact⟨_,x1,by simp only[uw];rw[x2],by simp[x3],fun M hM=>push rfl (x4 M fun s hs=>hM s (by simp[hs]))⟩
   |rp n=>
    cases v<;>try (simp[kK]at h;done)
    rename_i p;cases p<;>try (simp[kK]at h;done)
    rename_i cs;simp only[kK]at h;split at h
    ·rename_i hq;obtain⟨x,x1,x2,x3,x4⟩:=ih h;have he:aM n (.agg cs)=cs:=by
      apply anX;intro j;by_cases hj:j<n
      ·have hl:j<(aM n (.agg cs)).length:=by rw[bj];omega
       rw[ta hl];obtain⟨_,h6⟩:=mh (ta hl);simp_all[cell,PV.cells,List.getD]
      simp_all[aoE,bj]
     exact⟨_,x1,by simp only[uw];rw[x2,he],by simp[x3],fun M hM=>push rfl (x4 M fun s hs=>hM s (by simp[hs]))⟩
    ·cases h
   |fs s=>
    cases v<;>try (simp[kK]at h;done)
    rename_i p;simp only[kK]at h;obtain⟨ls,hls,h⟩:=AI.1 h;obtain⟨x,x1,x2,x3,x4⟩:=ih h;exact⟨_,x1,by grind [uw,SK],by simp[x3],fun M hM=>push rfl (x4 M fun s hs=>hM s (by simp[hs]))⟩
   |rs sz=>
    cases v<;>try (simp[kK]at h;done)
    rename_i p;cases p<;>try (simp[kK]at h;done)
    simp only[kK]at h;split at h
    ·rename_i hq;subst hq;obtain⟨x,x1,x2,x3,x4⟩:=ih h;exact⟨_,x1,by simp only[uw];rw[x2],by simp[x3],fun M hM=>push rfl (x4 M fun s hs=>hM s (by simp[hs]))⟩
    ·cases h
theorem BP:∀{l:List (Nat×Option bI)}{id:Nat}{b:bI},Gn l id=some b→∃x∈l,x.1=id∧x.2=some b
 |[],_,_,h=>by simp[Gn]at h
 |(d,b')::r,id,b,h=>by
  simp only[Gn]at h;cases e:Nat.beq id d with
  |true=>rw[e]at h;exact⟨(d,b'),by simp,(K5 e).symm,h⟩
  |false=>rw[e]at h;obtain⟨x,hx,h1,h2⟩:=BP h;exact⟨x,by simp[hx],h1,h2⟩
theorem C2:∀{l:List (Nat×Option bI)}{id:Nat},(∀x∈l,x.2.isSome=true)→(∃x∈l,x.1=id)→(Gn l id).isSome=true
 |[],_,_,⟨x,hx,_⟩=>by cases hx
 |(d,b')::r,id,h,⟨x,hx,he⟩=>by
  simp only[Gn];cases e:Nat.beq id d with
  |true=>simp_all
  |false=>
   rcases anA.1 hx with rfl|hx
   ·simp_all
   ·exact C2 (fun y hy=>h y (by simp[hy])) ⟨x,hx,he⟩
theorem ac5{m:Mem}:∀{bs:List (Nat×AZ)}{k:M8 bs→Option R}{r:R},wj m bs k=some r→∃x,k x=some r∧(iw bs x).map (·.1)=bs.map (·.1)∧(∀y∈iw bs x,∃b,y.2=some b∧m y.1=some b)∧∀M,(∀y∈bs,y.2.within M=true)→∀y∈iw bs x,∀b,y.2=some b→b.within M=true:=by
 intro bs;induction bs with
 |nil=>intro k r h;exact⟨(),h,rfl,by simp[iw],by simp[iw]⟩
 |cons y bs ih=>
  intro k r h;obtain⟨id,sh⟩:=y;cases sh with
  |box cs=>
   simp only[wj]at h;split at h
   ·rename_i vs hm;obtain⟨t,t1,t2,t3,t4⟩:=ih h;obtain⟨x,x1,x2,x3,x4⟩:=S8 t1;refine⟨x,x1,by simp only[iw,x2];simp[t2],fun y hy=>?_,fun M hM y hy b hb=>?_⟩
    ·simp only[iw,x2]at hy;grind
    ·simp only[iw,x2]at hy;rcases anA.1 hy with rfl|hy
     ·simp only[tb]at hb;subst hb;simp only[bI.within];refine x4 M fun s hs=>?_;have:=hM (id,.box cs) (by simp);grind [AZ.within,List.all_eq_true]
     grind
   ·cases h
  |arr sz et=>
   simp only[wj]at h;split at h
   ·rename_i I3 I4 es hm;split at h
    ·rename_i he;obtain⟨rfl,rfl⟩:=he;obtain⟨t,t1,t2,t3,t4⟩:=ih h;refine⟨(es,t),t1,by simp only[iw];simp[t2],fun y hy=>?_,fun M hM y hy b hb=>?_⟩
     ·simp only[iw]at hy;grind
     ·simp only[iw]at hy;rcases anA.1 hy with rfl|hy
      ·simp only[tb]at hb;subst hb;rfl
      grind
    ·cases h
   ·cases h
  |rE sz et=>
   simp only[wj]at h;split at h
   ·rename_i I3 I4 es hm;split at h
    ·rename_i he;obtain⟨rfl,rfl⟩:=he;obtain⟨t,t1,t2,t3,t4⟩:=ih h;refine⟨(es,t),t1,by simp only[iw];simp[t2],fun y hy=>?_,fun M hM y hy b hb=>?_⟩
     ·simp only[iw]at hy;grind
     ·simp only[iw]at hy;rcases anA.1 hy with rfl|hy
      ·simp only[tb]at hb;subst hb;rfl
      grind
    ·cases h
   ·cases h
  |nest sz et=>
   simp only[wj]at h;split at h
   ·rename_i I3 I4 es hm;split at h
    ·rename_i he;obtain⟨rfl,rfl⟩:=he;obtain⟨t,t1,t2,t3,t4⟩:=ih h;refine⟨(es,t),t1,by simp only[iw];simp[t2],fun y hy=>?_,fun M hM y hy b hb=>?_⟩
     ·simp only[iw]at hy;grind
     ·simp only[iw]at hy;rcases anA.1 hy with rfl|hy
      ·simp only[tb]at hb;subst hb;rfl
      grind
    ·cases h
   ·cases h
  |fH kt et=>
   simp only[wj]at h;split at h
   ·rename_i yH I4 es hm;split at h
    ·rename_i he;obtain⟨rfl,rfl⟩:=he;obtain⟨t,t1,t2,t3,t4⟩:=ih h;refine⟨(es,t),t1,by simp only[iw];simp[t2],fun y hy=>?_,fun M hM y hy b hb=>?_⟩
     ·simp only[iw]at hy;grind
     ·simp only[iw]at hy;rcases anA.1 hy with rfl|hy
      ·simp only[tb]at hb;subst hb;rfl
      grind
    ·cases h
   ·cases h
  |map kt=>
   simp only[wj]at h;split at h
   ·rename_i yH es hm;split at h
    ·rename_i he;subst he;obtain⟨t,t1,t2,t3,t4⟩:=ih h;refine⟨(es,t),t1,by simp only[iw];simp[t2],fun y hy=>?_,fun M hM y hy b hb=>?_⟩
     ·simp only[iw]at hy;grind
     ·simp only[iw]at hy;rcases anA.1 hy with rfl|hy
      ·simp only[tb]at hb;subst hb;rfl
      grind
    ·cases h
   ·cases h
  |iter ty=>
   simp only[wj]at h;split at h
   ·rename_i t' es hm;split at h
    ·rename_i he;subst he;obtain⟨t,t1,t2,t3,t4⟩:=ih h;refine⟨(es,t),t1,by simp only[iw];simp[t2],fun y hy=>?_,fun M hM y hy b hb=>?_⟩
     ·simp only[iw]at hy;grind
     ·simp only[iw]at hy;rcases anA.1 hy with rfl|hy
      ·simp only[tb]at hb;subst hb;rfl
      grind
    ·cases h
   ·cases h
  |loop=>
   simp only[wj]at h;split at h
   ·rename_i hm;obtain⟨t,t1,t2,t3,t4⟩:=ih h;refine⟨t,t1,by simp only[iw];simp[t2],fun y hy=>?_,fun M hM y hy b hb=>?_⟩
    ·simp only[iw]at hy;grind
    ·simp only[iw]at hy;rcases anA.1 hy with rfl|hy
     ·simp only[tb]at hb;subst hb;rfl
     grind
   ·cases h
  |busy=>
   simp only[wj]at h;split at h
   ·rename_i hm;obtain⟨t,t1,t2,t3,t4⟩:=ih h;refine⟨t,t1,by simp only[iw];simp[t2],fun y hy=>?_,fun M hM y hy b hb=>?_⟩
    ·simp only[iw]at hy;grind
    ·simp only[iw]at hy;rcases anA.1 hy with rfl|hy
     ·simp only[tb]at hb;subst hb;rfl
     grind
   ·cases h
mutual
theorem HH{M:List Nat}{id:Nat}:∀(v:V),v.within M=true→v.has id=true→id∈M
 |.agg cs,h,hh=>ri cs (by simpa only[V.within]using h) (by simpa only[V.has]using hh)
 |.aV cs,h,hh=>ri cs (by simpa only[V.within]using h) (by simpa only[V.has]using hh)
 |.fn _ cs,h,hh=>ri cs (by simpa only[V.within]using h) (by simpa only[V.has]using hh)
 |.os j,h,hh=>by have:=K5 hh;subst this;simpa[V.within]using h
 |.fX j _ _,h,hh=>by have:=K5 hh;subst this;simpa[V.within]using h
 |.oe j _ _,h,hh=>by have:=K5 hh;subst this;simpa[V.within]using h
 |.om j,h,hh=>by have:=K5 hh;subst this;simpa[V.within]using h
 |.yK j _ _,h,hh=>by have:=K5 hh;subst this;simpa[V.within]using h
 |.Cv j _ _ _ _ _,h,hh=>by have:=K5 hh;subst this;simpa[V.within]using h
 |.op j _,h,hh=>by have:=K5 hh;subst this;simpa[V.within]using h
 |.it j,h,hh=>by have:=K5 hh;subst this;simpa[V.within]using h
 |.yl j,h,hh=>by have:=K5 hh;subst this;simpa[V.within]using h
 |.pv _,_,hh=>by cases hh
 |.gy,_,hh=>by cases hh
 |.top,_,hh=>by cases hh
theorem ri{M:List Nat}{id:Nat}:∀(cs:List V),ll M cs=true→cq id cs=true→id∈M
 |[],_,hh=>by cases hh
 |v::r,h,hh=>by
  simp only[ll,OF]at h;simp only[cq,anH]at hh;rcases hh with hh|hh
  ·exact HH v h.1 hh
  ·exact ri r h.2 hh
end
theorem Yh{f:Fr}:∀(bV:List (Nat×Sh))(t:Nat),Qn (sV bV (bV.map fun(x:Nat×Sh)=>f x.1)) t=f t∨Qn (sV bV (bV.map fun(x:Nat×Sh)=>f x.1)) t=.top
 |[],t=>.inr rfl
 |(d,s)::r,t=>by
  simp only[anB,sV,Qn,gH];cases e:Nat.beq t d with
  |true=>simp_all
  |false=>exact Yh r t
theorem HI{f:Fr}{M:List Nat}:∀(bV:List (Nat×Sh)),ll M (bV.map fun(x:Nat×Sh)=>f x.1)=true→∀t,(Qn (sV bV (bV.map fun(x:Nat×Sh)=>f x.1)) t).within M=true
 |[],_,t=>rfl
 |(d,s)::r,h,t=>by
  simp only[anB,ll,OF]at h;simp only[anB,sV,Qn,gH];cases e:Nat.beq t d with
  |true=>simp_all
  |false=>exact HI r h.2 t
theorem Yi{T:JF}{f:Fr}{m:Mem}{k:T.ty→Option R}{r:R}(h:enc T f m k=some r):∃x,k x=some r∧wX (Qt T x) f∧(∀id b,GC T x id=some b→m id=some b)∧(∀t id,(Qt T x t).has id=true→(GC T x id).isSome=true)∧∀j cs id,GC T x j=some (.box cs)→cq id cs=true→(GC T x id).isSome=true:=by
 unfold enc at h;split at h
 ·rename_i jq;obtain⟨t,t1,t2,t3,t4⟩:=ac5 h;obtain⟨x,x1,x2,x3,x4⟩:=S8 t1;simp only[JF.ok,OF,an7]at jq;have ob:∀id,id∈T.Bw.map (·.1)→(GC T x id).isSome=true:=fun id hid=>by
   unfold GC;rw[x2];refine C2 (fun y hy=>?_) ?_
   ·grind
   grind
  refine⟨x,x1,fun s=>?_,fun id b hb=>?_,fun s id hid=>ob id ?_,fun j cs id hj hh=>ob id ?_⟩
  ·simp_all[Qt,Yh]
  ·unfold GC at hb;grind [BP]
  ·have hw:=x4 (T.Bw.map (·.1)) fun s hs=>by simp only[JF.kJ,anG]at hs;grind
   have:=HI (M:=T.Bw.map (·.1)) T.bV hw s;unfold Qt at hid;grind [HH]
  ·unfold GC at hj;rw[x2]at hj;obtain⟨y,hy,h1,h2⟩:=BP hj;have:=t4 (T.Bw.map (·.1)) (fun z hz=>jq.2 z hz) y hy _ h2;grind [ri,bI.within]
 ·cases h
section
variable {E:Env} {w0:bl}
variable{nt:Nat}{μ:Ro}{φ:Nat→aK}{f:Fr}{m:Mem}{a:Act}{w:World}
theorem Rel.dec{f':Fr}{m':Mem}(h:Rel E.P E.aF nt w0 μ φ f m a w)(hf:wX f' f)(hm:∀id b,m' id=some b→m id=some b)(hl:∀t id,(f' t).has id=true→(m' id).isSome=true)(hb:∀j cs id,m' j=some (.box cs)→cq id cs=true→(m' id).isSome=true):Rel E.P E.aF nt w0 μ φ f' m' a w:={below:=h.below,ro:=h.ro,aF:=h.aF,dF:=fun id b hb=>h.dF id b (hm id b hb),own:=fun id b g hb hg=>h.own id b g (hm id b hb) hg,inj:=fun Xm id2 b1 b2 g h1 h2=>h.inj Xm id2 b1 b2 g (hm _ _ h1) (hm _ _ h2),apart:=fun id b hb=>h.apart id b (hm id b hb),fJ:=hb,base:=h.base,dG:=h.dG,DL:=fun id st hid=>h.DL id st (hm _ _ hid),hid:=fun g o hh=>⟨(h.hid g o hh).1,(h.hid g o hh).2.1,(h.hid g o hh).2.2.1,fun id b hb=>(h.hid g o hh).2.2.2 id b (hm _ _ hb)⟩,size:=h.size,defers:=h.defers,lu:=h.lu,fr:=(h.weaken hf).fr,live:=hl}
theorem Rel.set(h:Rel E.P E.aF nt w0 μ φ f m a w){t:Nat}{p:PV}(hp:au E.P μ p (bV nt w0 a t)):Rel E.P E.aF nt w0 μ φ (gH f t (.pv p)) m a w:=
 {toaG:=h.toaG,size:=h.size,defers:=h.defers,lu:=h.lu,fr:=fun s=>by
   by_cases e:s=t
   ·subst e;rw[BG];exact .pv hp
   ·rw[s8 e];exact h.fr s,
  live:=fun s id hid=>by
   by_cases e:s=t
   ·simp_all
   ·rw[s8 e]at hid;exact h.live s id hid}
theorem Rel.freeze{nt:Nat}{μ:Ro}{φ:Nat→aK}{f:Fr}{m:Mem}{a:Act}{w:World}(h:Rel E.P E.aF nt w0 μ φ f m a w){id sz:Nat}{et:TypeId}{es:List PV}(hm:m id=some (.arr sz et es)):Rel E.P E.aF nt w0 (pT μ w (φ id).g) φ f (aB m id (.rE sz et es)) a w:=
 {toaG:=h.toaG.freeze hm,size:=h.size,defers:=h.defers.mono (mU h.toaG _),lu:=h.lu,fr:=fun s=>(h.fr s).A3 (mU h.toaG _),live:=fun s i hid=>by
   by_cases e:i=id
   ·simp_all
   ·rw[aA e];exact h.live s i hid}
theorem wE{A:Type}{nt:Nat}{a:Act}{w:World}:∀{l:List (Nat×Nat)}{μ:Ro}{φ:Nat→aK}{f:Fr}{m:Mem}{k:Fr→Mem→A}{r:A},ET l f m k=r→Rel E.P E.aF nt w0 μ φ f m a w→∃f' m' μ',k f' m'=r∧Rel E.P E.aF nt w0 μ' φ f' m' a w
 |[],μ,φ,f,m,k,r,h,hR=>⟨f,m,μ,h,hR⟩
 |(t,sz)::l,μ,φ,f,m,k,r,h,hR=>by
  unfold ET at h;split at h
  ·rename_i id hf;have hx:aq E.P μ φ (.os id) (bV nt w0 a t):=hf▸hR.fr t;split at h
   ·rename_i s et es hm;have hF:=hR.freeze hm;have hA:=hF.toaG.arr (.inr (bB m id _));have hp:au E.P (pT μ w (φ id).g) (.rs s es) (bV nt w0 a t):=hA.full hF.toaG (hx.A3 (mU hR.toaG _)) (fun _ _ h=>h) (fun g hg=>by simp[pT,hg]);exact wE h (hF.set hp)
   ·rename_i s et es hm;have hB:gK E.P μ φ w id (.rE s et es):=hR.dF id _ hm;have hp:au E.P μ (.rs s es) (bV nt w0 a t):=(hR.toaG.arr (.inr hm)).full hR.toaG hx (fun _ _ h=>h) (fun g hg=>by obtain⟨o,ho⟩:=anK.1 (hB.2 g hg);rw[ho,hR.ro _ _ ho]);exact wE h (hR.set hp)
   ·exact wE h hR
  ·rename_i hf;have hx:aq E.P μ φ .gy (bV nt w0 a t):=hf▸hR.fr t;have hp:au E.P μ (.rs sz []) (bV nt w0 a t):=by generalize bV nt w0 a t=y at hx;cases hx;exact .lV
   exact wE h (hR.set hp)
  ·exact wE h hR
variable{id:Nat}
theorem Of{u:V}:∀(cs:List V)(j:Nat),cq id (cs.set j u)=true→cq id cs=true∨u.has id=true:=by
 intro cs j h;obtain⟨v,hv,hh⟩:=cT.1 h;rcases aqc hv with h1|h1
 ·exact .inl (cT.2 ⟨v,h1,hh⟩)
 simp_all
theorem Rel.LQ(h:Rel E.P E.aF nt w0 μ φ f m a w){j:Nat}{cs:List V}{u v0:V}(hm:m id=some (.box cs))(hj:cs[j]?=some v0)(hu:∀x,aq E.P μ φ v0 x→aq E.P μ φ u x)(hl:∀i,u.has i=true→(m i).isSome=true):Rel E.P E.aF nt w0 μ φ f (aB m id (.box (cs.set j u))) a w:=by
 have key:∀i b,aB m id (.box (cs.set j u)) i=some b→(i=id∧b=.box (cs.set j u))∨m i=some b:=fun i b hb=>by
  by_cases e:i=id
  ·simp_all
  simp_all[aA]
 have Bh:∀i,(m i).isSome=true→(aB m id (.box (cs.set j u)) i).isSome=true:=fun i hi=>by
  by_cases e:i=id
  ·simp_all
  ·rw[aA e];omega
 have back:∀i b,aB m id (.box (cs.set j u)) i=some b→∃b',m i=some b'∧(b.ke=true→b'.ke=true)∧b.rowAt=b'.rowAt:=fun i b hb=>by
  rcases key i b hb with⟨rfl,rfl⟩|hb
  ·exact⟨_,hm,fun _=>rfl,rfl⟩
  simp_all
 exact
 {below:=h.below,ro:=h.ro,aF:=h.aF,dF:=fun i b hb=>by
   rcases key i b hb with⟨rfl,rfl⟩|hb
   ·obtain⟨g,c,T,c1,c2,c3,c4,c5,c6⟩:=h.dF _ _ hm;refine⟨g,c,T,c1,c2,by simpa using c3,fun i v x hv hx=>?_,c5,by simpa using c6⟩;rw[aod]at hv;split at hv
    ·rename_i e;subst e;split at hv
     ·simp only[tb]at hv;subst hv;exact hu x (c4 j v0 x hj hx)
     ·cases hv
    ·exact c4 i v x hv hx
   ·exact h.dF i b hb,
  own:=fun i b g hb hg=>by obtain⟨b',j4,Nb,sW⟩:=back i b hb;obtain⟨o1,o2⟩:=h.own i b' g j4 (by simp_all[bI.owns]);simp_all,
  inj:=fun Xm id2 b1 b2 g h1 h2 g1 g2=>by obtain⟨b1',h1',_,r1⟩:=back Xm b1 h1;obtain⟨b2',h2',_,r2⟩:=back id2 b2 h2;exact h.inj Xm id2 b1' b2' g h1' h2' (by simp_all[bI.owns]) (by simp_all[bI.owns]),
  apart:=fun i b hb=>by obtain⟨b',j4,_,sW⟩:=back i b hb;have:=h.apart i b' j4;unfold bI.apart at this⊢;rw[sW];omega,
  fJ:=fun i I6 uv hi hid=>by
   rcases key i _ hi with⟨rfl,he⟩|hi
   ·simp only[bI.box.injEq]at he;subst he;rcases Of _ _ hid with hid|hid
    ·exact Bh _ (h.fJ _ _ _ hm hid)
    simp_all
   ·exact Bh _ (h.fJ _ _ _ hi hid),
  base:=h.base,dG:=h.dG,
  hid:=fun g o hh=>⟨(h.hid g o hh).1,(h.hid g o hh).2.1,(h.hid g o hh).2.2.1,fun i b hb hg=>by obtain⟨b',j4,_,sW⟩:=back i b hb;exact(h.hid g o hh).2.2.2 i b' j4 (by simp_all[bI.owns])⟩,
  DL:=fun i st hi=>by
   rcases key i _ hi with⟨_,he⟩|hi
   ·cases he
   ·exact h.DL i st hi,
  size:=h.size,defers:=h.defers,lu:=h.lu,fr:=h.fr,
  live:=fun t i hid=>Bh _ (h.live t i hid)}
variable{et:TypeId}
theorem Rel.afG(h:Rel E.P E.aF nt w0 μ φ f m a w){Xd:Nat}(hn:m Xd=none)(eO:0<aW E.P et):∃φ',(φ' Xd).g=none∧Rel E.P E.aF nt w0 μ φ' f (aB m Xd (.arr (aW E.P et) et [])) a w:=by
 have hf:fresh false Xd (.arr (aW E.P et) et []) f m (fun f m _=>some (f,m))=some (f,aB m Xd (.arr (aW E.P et) et [])):=by simp[fresh,hn]
 obtain⟨f1,m1,_,hk,_,_,xh⟩:=ck hf;simp only[tb,T0]at hk;obtain⟨rfl,rfl⟩:=hk;obtain⟨φ',a1,a2,a3⟩:=xh E.P E.aF w0 μ φ w w (bV nt w0 a) (EY none 0 0 (aW E.P et)) h.toaG ⟨h.fr,h.live⟩ ⟨lr.refl _ _,h.toaG.ro,fun _ _ _ _ _=>rfl,by simp,fun φ' hp _=>by refine⟨by rw[hp];rfl,by rw[hp],rfl,eO,by simp,by rw[hp];simp[maxLen],?_⟩;simp_all,by simp[bI.names],fun g o hh=>⟨(h.hid g o hh).1,by simp⟩,fun st h=>by cases h⟩;exact⟨φ',by rw[a1],{toaG:=a2,size:=h.size,defers:=h.defers,lu:=h.lu,fr:=a3.fr,live:=a3.live}⟩
theorem wG{A:Type}{nt:Nat}{a:Act}{w:World}:∀{l:List (Nat×Nat×Nat×TypeId)}{μ:Ro}{φ:Nat→aK}{f:Fr}{m:Mem}{k:Mem→A}{r:A},EU E.P l m k=r→Rel E.P E.aF nt w0 μ φ f m a w→∃m' φ',k m'=r∧Rel E.P E.aF nt w0 μ φ' f m' a w
 |[],μ,φ,f,m,k,r,h,hR=>⟨m,φ,h,hR⟩
 |(id,j,Xd,et)::l,μ,φ,f,m,k,r,h,hR=>by
  unfold EU at h;split at h
  ·rename_i cs hm;split at h
   ·rename_i hj;split at h
    ·rename_i hn;split at h
     ·rename_i eO;obtain⟨φ',g0,jS⟩:=hR.afG hn eO;have cy:id≠Xd:=fun e=>by simp_all
      exact wG h (jS.LQ (by rw[aA cy];omega) hj (fun x hx=>by cases hx;exact .ux g0) fun i hi=>by have:=K5 hi;subst this;simp)
     ·exact wG h hR
    ·exact wG h hR
   ·exact wG h hR
  ·exact wG h hR
theorem rj{A:Type}{nt:Nat}{a:Act}{w:World}:∀{l:List (Nat×Nat×Nat)}{μ:Ro}{φ:Nat→aK}{f:Fr}{m:Mem}{k:Mem→A}{r:A},A1 l m k=r→Rel E.P E.aF nt w0 μ φ f m a w→∃m' μ',k m'=r∧Rel E.P E.aF nt w0 μ' φ f m' a w
 |[],μ,φ,f,m,k,r,h,hR=>⟨m,μ,h,hR⟩
 |(id,j,sz)::l,μ,φ,f,m,k,r,h,hR=>by
  unfold A1 at h;split at h
  ·rename_i cs hm;split at h
   ·rename_i hj;exact rj h (hR.LQ hm hj (fun x hx=>by cases hx;exact .pv .lV) (fun i hi=>by cases hi))
   ·rename_i d hj;split at h
    ·rename_i s et es hd;split at h
     ·exact rj h hR
     ·rename_i cy;have cy:d≠id:=fun e=>cy (by simp_all);have hF:=hR.freeze hd;have hA:=hF.toaG.arr (.inr (bB m d _));exact rj h (hF.LQ (by rw[aA (Ne.symm cy)];exact hm) hj (fun x hx=>.pv (hA.full hF.toaG hx (fun _ _ h=>h) (fun g hg=>by simp[pT,hg]))) (fun i hi=>by cases hi))
    ·rename_i s et es hd;have hB:gK E.P μ φ w d (.rE s et es):=hR.dF d _ hd;exact rj h (hR.LQ hm hj (fun x hx=>.pv ((hR.toaG.arr (.inr hd)).full hR.toaG hx (fun _ _ h=>h) (fun g hg=>by obtain⟨o,ho⟩:=anK.1 (hB.2 g hg);rw[ho,hR.ro _ _ ho]))) (fun i hi=>by cases hi))
    ·exact rj h hR
   ·exact rj h hR
  ·exact rj h hR
theorem jB{T:Type}{l:List T}{n i:Nat}{e:T}(h:(l.take n)[i]?=some e):l[i]?=some e∧i<n:=by grind
theorem Rel.ac6(h:Rel E.P E.aF nt w0 μ φ f m a w){s:Nat}{es:List PV}(hm:m id=some (.arr s et es)):Rel E.P E.aF nt w0 μ φ f (aB m id (.nest s et es)) a w:=by
 have hA:aP E.P μ φ w id s et es:=h.dF id _ hm;have key:∀i b,aB m id (.nest s et es) i=some b→(i=id∧b=.nest s et es)∨m i=some b:=fun i b hb=>by
  by_cases e:i=id
  ·simp_all
  simp_all[aA]
 have Bh:∀i,(m i).isSome=true→(aB m id (.nest s et es) i).isSome=true:=fun i hi=>by
  by_cases e:i=id
  ·simp_all
  ·rw[aA e];omega
 have hN:bg E.P μ φ w id s et es:=by
  obtain⟨h1,h2,h3,h4,h5,h6,h7⟩:=hA;refine⟨h1,h2,h3,h4,h5,h6,?_⟩;cases hg:(φ id).g with
  |none=>rw[hg]at h7;omega
  |some g=>rw[hg]at h7;obtain⟨c,T,c1,c2,c3,c4,c5⟩:=h7;exact⟨c,T,c1,c2,c3,fun i e j p x he hp hx=>.pure (c4 i e j p x he hp hx),c5⟩
 have DN:∀i off,(bI.nest s et es).rowAt i off=true→False:=fun i off hr=>by
  rcases kR hr with⟨_,_,_,e,s',rs,hb,he,hp⟩|⟨_,_,_,_,_,_,hb,_⟩
  ·cases hb;obtain⟨h1,h2,h3,h4,h5,h6,h7⟩:=hA;cases hg:(φ id).g with
   |none=>simp_all
   |some g=>
    rw[hg]at h7;obtain⟨c,T,c1,c2,c3,c4,c5⟩:=h7;have hi:i<es.length:=(IN.1 he).1;have hj:off<s:=by grind
    have bK:i*s+off<c.size:=by have:(i+1)*s≤(φ id).cap*s:=amt _ (by omega);grind
    exact Bool.noConfusion (au.F7 (c4 i e off _ _ he hp (T1 bK)))
  ·cases hb
 have anh:∀i off,(bI.arr s et es).rowAt i off=true→False:=pZ;have hM:aG E.P E.aF w0 μ φ (aB m id (.nest s et es)) w:=by
  refine h.toaG.SM (fun _ k=>k) (fun j b' hb=>?_) (fun j b' g hb hg=>?_) (fun j b' hb=>?_) (fun j cs i hb hh=>?_) (fun j st hb=>?_)
  ·rcases key j b' hb with⟨rfl,rfl⟩|hb
   ·exact hN
   ·exact h.dF j b' hb
  ·rcases key j b' hb with⟨rfl,rfl⟩|hb
   ·exact⟨j,_,hm,.inl (ly DN hg),fun _=>rfl,rfl⟩
   grind
  ·rcases key j b' hb with⟨rfl,rfl⟩|hb
   ·exact s9 DN
   ·exact h.apart j b' hb
  ·rcases key j _ hb with⟨_,hb⟩|hb
   ·cases hb
   ·exact Bh _ (h.fJ j cs i hb hh)
  grind
 exact{toaG:=hM,size:=h.size,defers:=h.defers,lu:=h.lu,fr:=h.fr,live:=fun t i hid=>Bh _ (h.live t i hid)}
theorem HJ{A:Type}{nt:Nat}{a:Act}{w:World}:∀{l:List Nat}{μ:Ro}{φ:Nat→aK}{f:Fr}{m:Mem}{k:Mem→A}{r:A},NB l m k=r→Rel E.P E.aF nt w0 μ φ f m a w→∃m',k m'=r∧Rel E.P E.aF nt w0 μ φ f m' a w
 |[],μ,φ,f,m,k,r,h,hR=>⟨m,h,hR⟩
 |id::l,μ,φ,f,m,k,r,h,hR=>by
  unfold NB at h;split at h
  ·rename_i s et es hm;exact HJ h (hR.ac6 hm)
  ·exact HJ h hR
theorem Rel.cut(h:Rel E.P E.aF nt w0 μ φ f m a w){j d len s:Nat}{cs:List V}{es:List PV}(hm:m id=some (.box cs))(hj:cs[j]?=some (.fX d 0 len))(hd:m d=some (.arr s et es))(cy:d≠id):∃φ',Rel E.P E.aF nt w0 μ φ' (eU d f) (aB (aB (br (bH d m) d) d (.arr s et (es.take len))) id (.box ((cs.map (sS d)).set j (.os d)))) a w:=by
 obtain⟨m',U4⟩:∃m',m'=aB (aB (br (bH d m) d) d (.arr s et (es.take len))) id (.box ((cs.map (sS d)).set j (.os d))):=⟨_,rfl⟩;rw[←U4];obtain⟨g0,c,T,c1,c2,c3,c4,c5,c6⟩:=h.dF _ _ hm;have hA:aP E.P μ φ w d s et es:=h.dF d _ hd;have yD:j<cs.length:=(IN.1 hj).1;have hx:=c4 j _ _ hj (T1 (by omega));obtain⟨φ',f1,f2,f3,f4⟩:∃φ':Nat→aK,(∀i,i≠d→φ' i=φ i)∧(φ' d).g=(φ d).g∧aP E.P μ φ' w d s et (es.take len)∧aq E.P μ φ' (.os d) c[j]:=by
  obtain⟨h1,h2,h3,h4,h5,h6,h7⟩:=hA;generalize c[j]=x at hx;cases hx with
  |sX hg=>refine⟨φ,fun _ _=>rfl,rfl,?_,.ux hg⟩;rw[hg]at h7;obtain⟨rfl,h7⟩:=h7;refine⟨h1,h2,h3,h4,by simp,h6,?_⟩;simp_all
  | @fX _ _ _ cap g ad hg hl ha hc hc'=>
   rw[hg]at h7;obtain⟨q,Tq,q1,q2,q3,q4,q5⟩:=h7;have hlen:(es.take len).length=len:=by simp_all
   have had:ad=⟨g,0,none⟩:=by simp_all
   subst had;refine⟨fun i=>if i=d then{φ d with cap:=cap,len:=len}else φ i,fun i hi=>IT hi,by simp,⟨by simp[hlen],by simpa using h2,h3,h4,fun i e he=>h5 i e (jB he).1,by simp;omega,?_⟩,?_⟩
   ·simp only[IS,hg];refine⟨q,Tq,q1,anW (amt _ (by omega)) q2,by omega,fun i e j p x he hp hx=>q4 i e j p x (jB he).1 hp hx,fun i x hi hx=>q5 i x (Nat.lt_of_lt_of_le hi (amt _ (by omega))) hx⟩
   ·have:=aq.os (P:=E.P) (μ:=μ) (φ:=fun i=>if i=d then{φ d with cap:=cap,len:=len}else φ i) (id:=d) (g:=g) (by simp[hg]);simpa using this
 have key:∀i b,m' i=some b→(i=id∧b=.box ((cs.map (sS d)).set j (.os d)))∨(i=d∧b=.arr s et (es.take len))∨(i≠id∧i≠d∧∃b',m i=some b'∧b=gI d b'):=fun i b hb=>by
  rw[U4]at hb;by_cases e:i=id
  ·simp_all
  ·rw[aA e]at hb;by_cases e':i=d
   ·simp_all
   simp_all[aA,fS]
 have Bh:∀i,(m i).isSome=true→(m' i).isSome=true:=fun i hi=>by
  rw[U4];by_cases e:i=id
  ·simp_all
  ·rw[aA e];by_cases e':i=d
   ·simp_all
   simp_all[aA,vp]
 have afH:∀{i:Nat}{b':bI},(gI d b').names i=true→i≠d:=fun{i b'}hn=>by cases b'<;>simp only[gI,bI.names]at hn<;>first|cases hn|exact(An hn).2
 have hM:aG E.P E.aF w0 μ φ' m' w:=by
  refine h.toaG.SM (fun _ k=>k) (fun i b' hb=>?_) (fun i b' g hb hg=>?_) (fun i b' hb=>?_) (fun i I6 i' hb hh=>?_) (fun i st hb=>?_)
  ·rcases key i b' hb with⟨rfl,rfl⟩|⟨rfl,rfl⟩|⟨e1,e2,b2,td,rfl⟩
   ·refine⟨g0,c,T,by grind,c2,by simpa using c3,fun n v x hv Lr=>?_,c5,by grind⟩;rw[aod]at hv;split at hv
    ·simp_all
    ·simp only[AT,ae0]at hv;obtain⟨v',NM,rfl⟩:=hv;exact((c4 n v' x NM Lr).kill d).mono (fun _ _ h=>h) fun i hi=>f1 i (yT hi).2
   ·exact f3
   ·exact(h.dF i b2 td).kill.cG (fun k hk=>f1 k (afH hk)) (f1 i e2) (fun _ _ h=>h) (fun _ _=>rfl)
  ·rcases key i b' hb with⟨rfl,rfl⟩|⟨rfl,rfl⟩|⟨e1,e2,b2,td,rfl⟩
   ·refine⟨i,_,hm,.inl ?_,fun _=>rfl,rfl⟩;have:=ly (by intro i off h;simp[bI.rowAt]at h) hg;grind
   ·refine⟨i,_,hd,.inl ?_,fun _=>rfl,rfl⟩;grind [ly,pZ]
   ·refine⟨i,b2,td,?_,fun Nb=>by rw[Ao]at Nb;omega,rfl⟩;rw[f1 i e2]at hg;exact fU.1 hg
  ·rcases key i b' hb with⟨rfl,rfl⟩|⟨rfl,rfl⟩|⟨e1,e2,b2,td,rfl⟩
   ·grind [s9,bI.rowAt]
   ·exact s9 pZ
   ·rw[f1 i e2];exact xp.2 (h.apart i b2 td)
  ·rcases key i _ hb with⟨rfl,hb⟩|⟨rfl,hb⟩|⟨e1,e2,b2,td,e⟩
   ·simp only[bI.box.injEq]at hb;subst hb;rcases Of _ _ hh with hh|hh
    ·exact Bh _ (h.fJ _ _ _ hm (An hh).1)
    ·have:=K5 hh;simp_all
   ·cases hb
   ·cases b2 with
    |box cs2=>simp only[gI,bI.box.injEq]at e;subst e;exact Bh _ (h.fJ _ _ _ td (An hh).1)
    |_=>simp[gI]at e
  ·rcases key i _ hb with⟨rfl,hb⟩|⟨rfl,hb⟩|⟨e1,e2,b2,td,e⟩
   ·cases hb
   ·cases hb
   ·cases b2 with
    |loop st2=>simp_all[gI,bI.loop.injEq]
    |_=>simp[gI]at e
 exact⟨φ',{toaG:=hM,size:=h.size,defers:=h.defers,lu:=h.lu,fr:=(fun t=>((h.fr t).kill d).mono (fun _ _ h=>h) fun i hi=>f1 i (yT hi).2),live:=fun t i hid=>Bh _ (h.live t i (yT hid).1)}⟩
theorem wH{A:Type}{nt:Nat}{a:Act}{w:World}:∀{l:List (Nat×Nat)}{μ:Ro}{φ:Nat→aK}{f:Fr}{m:Mem}{k:Fr→Mem→A}{r:A},EV l f m k=r→Rel E.P E.aF nt w0 μ φ f m a w→∃f' m' φ',k f' m'=r∧Rel E.P E.aF nt w0 μ φ' f' m' a w
 |[],μ,φ,f,m,k,r,h,hR=>⟨f,m,φ,h,hR⟩
 |(id,j)::l,μ,φ,f,m,k,r,h,hR=>by
  unfold EV at h;split at h
  ·rename_i cs hm;split at h
   ·rename_i d len hj;split at h
    ·rename_i s et es hd;split at h
     ·exact wH h hR
     ·rename_i cy;have cy:d≠id:=fun e=>cy (by simp_all);obtain⟨φ',jS⟩:=hR.cut hm hj hd cy;exact wH h jS
    ·exact wH h hR
   ·exact wH h hR
  ·exact wH h hR
theorem Og{A:Type}{T:JF}{k:Fr→Mem→A}{r:A}(h:JI E.P T f m k=r)(hR:Rel E.P E.aF nt w0 μ φ f m a w):∃f' m' μ' φ',k f' m'=r∧Rel E.P E.aF nt w0 μ' φ' f' m' a w:=by unfold JI at h;obtain⟨_,_,_,h,hR⟩:=wH h hR;obtain⟨m1,φ1,h,hR⟩:=wG h hR;obtain⟨m',_,h,hR⟩:=rj h hR;obtain⟨m',h,hR⟩:=HJ h hR;obtain⟨f',m',μ',h,hR⟩:=wE h hR;grind
def Yj:Ex→Exit
 |.normal=>.normal
 |.exit id=>.exit id
 |.ret=>.ret
theorem Rel.Yk(h:Rel E.P E.aF nt w0 μ φ f m a w):Rel E.P E.aF nt w0 μ φ f m a {w with drawn:=w.drawn+1}:={toaG:=h.toaG.drew,size:=h.size,defers:=h.defers,lu:=h.lu,fr:=h.fr,live:=h.live}
theorem Vn{rd:Option Nat}(hE:jR E)(hY:sq E.P E.aF E.fn.ntmps E.yl w0){R:Type}{ops:Array Oper}{draw:Bool}{k:Ex→Fr→Mem→Option R}{r:R}(h:fo E (.region id ops draw) f m k=some r){Q:Exit→Act→World→Prop}(hR:Rel E.P E.aF E.fn.ntmps w0 μ φ f m a w)(hQ:∀f' m' μ' φ' a' w',k .normal f' m'=some r→Rel E.P E.aF E.fn.ntmps w0 μ' φ' f' m' a' w'→Q .normal a' w'):(Code.region id ops draw).wpIn (FR rd) 0 E.P Q a w:=by
 simp only[fo]at h;cases draw with
 |false=>
  simp only[tc,PS]at h;refine wpIn_region ?_;have hmz:∀x∈(List.range ops.size).zip ops.toList,ops[x.1]?=some x.2:=fun x hx=>by have:=(vv (l:=ops.toList) (i:=x.1) (o:=x.2)).1 (by omega);simp_all
  have:=jw (rd:=rd) hE hY _ (.inl rfl) h hmz (by intro x hx g hg;cases hg) (fun h=>by omega) μ φ a w Q [] hR (by intro g hg;cases hg) fun f' m' μ' φ' a' w' hk jS _ _=>hQ f' m' μ' φ' a' w' hk jS;simp_all[aof,List.map_fst_zip]
 |true=>
  simp only[IS]at h;split at h
  ·refine wpIn_region_any hE.mixed (Vl (k:=fun f m=>k .normal f m) hE hY hQ _ [] [] f m h (by simp) (fun i o _ hi=>by rcases hi with hi|⟨x,hx,_⟩<;>simp_all) ops.size _ (by simp) (count_le _) Fg (fun i hi=>by cases hi) (fun i hi=>by rw[rf]at hi;cases hi) w0.hid μ φ a _ ⟨fun _ _ h=>h,fun x _ hx=>(by rw[rf]at hx;cases hx),fun x _ y _ hx=>(by rw[rf]at hx;cases hx)⟩ (hR.Yk.weaken fun t=>?_));by_cases hx:∃x∈([].filter fun x:Nat×Oper=> !an (Array.replicate ops.size false) x.1)++rG E ops [],x.2.dst=some t
   ·exact .inr (nO (.inr hx))
   ·exact .inl (iU fun x HF Vi=>hx ⟨x,HF,Vi⟩)
  split at h
  ·rename_i hi;refine wpIn_region_any hE.mixed ?_;split at h
   ·rename_i uz;exact HB hE hY (.inl rfl) (fun _ o ho=>(Bool.and_eq_true_iff.1 (an7.1 uz o (ao4.2 ho))).1) hi h hR.Yk hQ
   ·exact HB hE hY (.inr rfl) (fun h=>by omega) hi h hR.Yk hQ
  ·cases h
end
theorem ac7{g:FuncId}{fn:Func}(hf:P.funcs[g]?=some fn)(aes:(fn.name== "runtime.NumGoroutine")=false)(hb:fn.body=some c){args:Array Value}{w:World}:(callFunc g args).run P w=.ok (.enter g args) w:=As hf aes hb
theorem Vo{nt:Nat}{w0:bl}{a:Act}{t:Nat}:bV nt w0 a (t+nt)=w0.sv (t+nt):=by unfold bV;rw[IT (by omega)]
def zf(c:Code):Prop:=∀{E:Env}{w0:bl}{rd:Option Nat}(_:jR E)(_:sq E.P E.aF E.fn.ntmps E.yl w0)(_:E.rdb=false→rd=none){R:Type}{f:Fr}{m:Mem}{k:Ex→Fr→Mem→Option R}{r:R},fo E c f m k=some r→∀{μ:Ro}{φ:Nat→aK}{a:Act}{w:World}{Q:Exit→Act→World→Prop},Rel E.P E.aF E.fn.ntmps w0 μ φ f m a w→(∀e f' m' μ' φ' a' w',k e f' m'=some r→Rel E.P E.aF E.fn.ntmps w0 μ' φ' f' m' a' w'→Q (Yj e) a' w')→c.wpIn (FR rd) 0 E.P Q a w
variable{as b:Code}{ps:Array Nat}
theorem Vp(ihA:zf as)(ihB:zf b){E:Env}(hE:jR E){w2:bl}{lid l ntI:Nat}{rc:Loop}{fid:Nat}(WX:w2.rc lid=some (l,rc))(pS:rc.params=ps)(has:rc.assign=as)(hb:rc.body=b)(n9:rc.tmps.size=E.fn.ntmps)(hsv:∀t,t<E.fn.ntmps→w2.sv (t+ntI)=rc.tmps.getD t undef):aeq E.P E.aF ntI (fun _ nt _ id args F m k=>bif Nat.beq id lid then roundOf (fo {E with fid:=fid,yl:=Bx,rdb:=true} as) (fo {E with fid:=fid,yl:=Bx,rdb:=true} b) lid E.fn.ntmps ps.toList nt args F m k else none) w2:=by
 intro R site id args F m k r hy μ φ ρ w xs hM hF hρ hl hr Lj g hg;dsimp only at hy;cases hid:Nat.beq id lid with
 |false=>rw[hid]at hy;cases hy
 |true=>
  rw[hid]at hy;have hid:=K5 hid;subst hid;simp only[cond_true]at hy;unfold roundOf at hy;split at hy
  ·rename_i Oh;split at hy
   ·rename_i G0;obtain⟨g',rc',l1,l2,l3⟩:=hM.DL id _ Oh;rw[WX]at l2;simp only[tb,T0]at l2;obtain⟨rfl,rfl⟩:=l2;rw[l1]at hg;simp only[tb]at hg;subst hg;have GX:xs.size=(Qe.ready.obj rc).params.size:=by
     have:ps.toList.length=ps.size:=by simp
     show xs.size=rc.params.size;rw[pS];omega
    refine⟨_,_,_,_,run_yield l3 GX,?_⟩;have hE':jR {E with fid:=fid,yl:=Bx,rdb:=true}:=⟨hE.mixed,hE.lp,hE.ctx,hE.own,hE.inl,hE.rng⟩;have aeD:=Ko (P:=E.P) (μ:=μ) (φ:=φ) ps.toList args xs.toList (yM ntI F) rc.tmps n9 (by omega) (fun t ht=>by have:=hF.fr (t+ntI);rw[hρ _ (by omega),hsv t ht]at this;exact this) (fun i v x hv hx=>hr i v x hv (by simpa using hx));have hR3:Rel E.P E.aF E.fn.ntmps {w2 with sv:=fun t=>ρ (t-E.fn.ntmps),dG:=μ,lu:=fun _=>none} μ φ (Sv E.fn.ntmps (GD ps.toList args (yM ntI F)) F) m {tmps:=((Qe.ready.obj rc).params.zip xs).foldl (fun tmps(t,a)=>tmps.setIfInBounds t a) (Qe.ready.obj rc).tmps,defers:=[]} w:=by
     have e:((Qe.ready.obj rc).params.zip xs).foldl (fun tmps(t,a)=>tmps.setIfInBounds t a) (Qe.ready.obj rc).tmps=(ps.toList.zip xs.toList).foldl (fun tmps(x:Nat×Value)=>tmps.setIfInBounds x.1 x.2) rc.tmps:=by rw[Yg];show(rc.params.toList.zip xs.toList).foldl _ rc.tmps=_;rw[pS]
     rw[e];refine{toaG:=hM.yS rfl rfl (fun _ _ h=>h) (fun _ _ _=>rfl),size:=aeD.1,defers:=.nil _ _ _,lu:=fun _ _ h=>(by cases h),fr:=fun t=>?_,live:=fun t id hid=>?_}
     ·unfold Sv bV;by_cases ht:t<E.fn.ntmps
      ·rw[show Nat.blt t E.fn.ntmps=true by simp_all,BY ht];exact aeD.2 t ht
      ·rw[show Nat.blt t E.fn.ntmps=false by rw[←aor,aoF];omega,IT ht];exact hF.fr _
     ·unfold Sv at hid;cases e:Nat.blt t E.fn.ntmps with
      |true=>
       rw[e]at hid;rcases HG _ _ _ _ hid with h|h
       ·exact Lj id h
       ·exact hF.live _ id h
      |false=>rw[e]at hid;exact hF.live _ id hid
    refine roundIn_of_wpIn trivial ?_;show(Qe.ready.obj rc).assign.wpIn (FR (some l)) 0 E.P _ _ _;have ha':(Qe.ready.obj rc).assign=as:=has;rw[ha'];refine ihA (rd:=some l) hE' (CF _ _ _ _) (fun h=>by cases h) hy hR3 fun e f1 m1 μ1 φ1 a1 w1 hk1 DO=>?_;split at hk1
    ·rename_i hm1;obtain⟨g1,rc1,p1,p2,p3⟩:=DO.DL id _ hm1;have p2:w2.rc id=some (g1,rc1):=p2;rw[WX]at p2;simp only[tb,T0]at p2;obtain⟨rfl,rfl⟩:=p2;refine⟨_,run_beginRound p3 rfl,?_⟩;have j4:(Qe.ready.obj rc).body=b:=hb;refine Eq.mpr (congrArg (fun c:Code=>c.wpIn (FR (some l)) 0 E.P _ a1 _) j4) ?_;have xq:=DO.toaG.turn (st':=.busy) hm1 p1 WX;have alL:Rel E.P E.aF E.fn.ntmps {w2 with sv:=fun t=>ρ (t-E.fn.ntmps),dG:=μ,lu:=fun _=>none} μ1 φ1 f1 (aB m1 id (.loop .busy)) a1 (w1.putObj l (.loop {Qe.ready.obj rc with state:=.busy})):=
      {toaG:=xq,size:=DO.size,defers:=DO.defers,lu:=DO.lu,fr:=DO.fr,live:=fun t j hj=>by
        by_cases e:j=id
        ·subst e;simp
        ·rw[aA e];exact DO.live t j hj}
     refine ihB (rd:=some l) hE' (CF _ _ _ _) (fun h=>by cases h) hk1 alL fun e f2 m2 μ2 φ2 a2 w2' NS D9=>?_;split at NS
     ·rename_i cQ;obtain⟨g2,rc2,q1,q2,q3⟩:=D9.DL id _ cQ;have q2:w2.rc id=some (g2,rc2):=q2;rw[WX]at q2;simp only[tb,T0]at q2;obtain⟨rfl,rfl⟩:=q2;have hle:N0 μ μ2:=D9.dG;have hFp:b9 E.P μ2 φ2 m2 (yM E.fn.ntmps f2) ρ:=by refine⟨fun t=>?_,fun t id hid=>D9.live _ id hid⟩;have:=D9.fr (t+E.fn.ntmps);simp_all[Vo,yM]
      have fin:∀(st:Qe)(v:Bool),k (.pv (.bool v)) (yM E.fn.ntmps f2) (aB m2 id (.loop st))=some r→∃v' f' m' y μ' φ',k v' f' m'=some r∧Ending.returned (.bool v)=.returned y∧N0 μ μ'∧aG E.P E.aF w2 μ' φ' m' (w2'.putObj l (.loop (st.obj rc)))∧b9 E.P μ' φ' m' f' ρ∧aq E.P μ' φ' v' y∧∀id,v'.has id=true→(m' id).isSome=true:=by
       intro st v hk;have hM2:=D9.toaG.turn (st':=st) cQ q1 WX;refine⟨_,_,_,_,μ2,φ2,hk,rfl,hle,hM2.yS rfl rfl (fun b o hb=>hle b o (hM.dG b o hb)) (fun _ _ _=>rfl),⟨hFp.fr,fun t j hj=>?_⟩,.pv .bool,fun id hid=>by cases hid⟩;by_cases e:j=id
       ·subst e;simp
       ·rw[aA e];exact hFp.live t j hj
      cases e with
      |normal=>exact⟨_,_,run_endRound none q3,fin .ready true NS⟩
      |exit j=>exact⟨_,_,run_endRound (some (.exit j)) q3,fin (.done (.exit j)) false NS⟩
      |ret=>exact⟨_,_,run_endRound (some .ret) q3,fin (.done .ret) false NS⟩
     ·cases NS
    ·cases hk1
   ·cases hy
  ·cases hy
theorem Yl(ihA:zf as)(ihB:zf b){E:Env}(hE:jR E){w2:bl}{lid l ntI:Nat}{rc:Loop}{fid:Nat}(WX:w2.rc lid=some (l,rc))(pS:rc.params=ps)(has:rc.assign=as)(hb:rc.body=b)(n9:rc.tmps.size=E.fn.ntmps)(hsv:∀t,t<E.fn.ntmps→w2.sv (t+ntI)=rc.tmps.getD t undef):sq E.P E.aF ntI (fun _ nt _ id args F m k=>bif Nat.beq id lid then roundOf (fo {E with fid:=fid,yl:=Bx,rdb:=true} as) (fo {E with fid:=fid,yl:=Bx,rdb:=true} b) lid E.fn.ntmps ps.toList nt args F m k else none) w2:=fun H=>Vp ihA ihB hE (w2:={w2 with hid:=H}) WX pS has hb n9 hsv
theorem ac8{μ:Ro}{φ:Nat→aK}{m:Mem}{v:V}{g:FuncId}{caps:List V}{y:Value}(h:ae7 v=some (g,caps))(hv:aq P μ φ v y)(hl:∀id,v.has id=true→(m id).isSome=true):∃xs,y=.func (.func g) #[] xs∧caps.length=xs.size∧(∀(i:Nat)v x,caps[i]?=some v→xs[i]?=some x→aq P μ φ v x)∧∀id,cq id caps=true→(m id).isSome=true:=by
 unfold ae7 at h;split at h
 ·rename_i g0 c0;cases e:Nat.blt g0 Gp with
  |false=>rw[e]at h;cases h
  |true=>
  rw[e]at h;simp only[cond_true,tb,T0]at h;obtain⟨rfl,rfl⟩:=h;cases hv with
  | @fn _ _ xs h1 h2=>grind [sY,id,V.has]
 ·rename_i g0 c0;cases e:Nat.blt g0 Gp with
  |false=>rw[e]at h;cases h
  |true=>
  rw[e]at h;simp only[cond_true,tb,T0]at h;obtain⟨rfl,rfl⟩:=h;cases hv with
  |pv hv=>cases hv with
   | @fn _ _ xs h1 h2=>
    refine⟨xs,sY e,by simpa using h1,fun i v x hv hx=>?_,fun id hid=>?_⟩
    ·simp only[AT,ae0]at hv;obtain⟨q,hq,rfl⟩:=hv;exact .pv (h2 i q x hq hx)
    ·obtain⟨v,hv,hh⟩:=cT.1 hid;obtain⟨q,_,rfl⟩:=anG.1 hv;cases hh
 ·cases h
theorem LR{g:Operand}{ps:Array Tmp}(ihA:zf as)(ihB:zf b):zf (.rangeFunc g ps as b):=by
 intro E w0 rd hE hY CN R f m k r h μ φ a w Q hR hQ;simp only[fo]at h;split at h
 ·cases h
 rename_i hrb;have CN:=CN (by simpa using hrb);subst CN;split at h;rotate_left
 ·cases h
 rename_i p0 pr JT;generalize ani:cK E (some p0)=lid at h;obtain⟨f1,m1,_,h,Oh,AP,alM⟩:=ck h;obtain⟨hm0,rfl,rfl⟩:=AP rfl;refine wpIn_rangeFunc fun fn _=>?_;obtain⟨rec,Oi⟩:∃rec:Loop,rec={state:=.ready,pending:=none,fn,tmps:=a.tmps,params:=ps,assign:=as,body:=b,defers:=w.heap.size}:=⟨_,rfl⟩;obtain⟨wD,hwD⟩:∃wD,wD=w.alloc (.deferred (some [])):=⟨_,rfl⟩;obtain⟨W1,hW1⟩:∃W1,W1=wD.alloc (.loop rec):=⟨_,rfl⟩;obtain⟨l,hl⟩:∃l,l=wD.heap.size:=⟨_,rfl⟩;have Xp:l=w.heap.size+1:=by rw[hl,hwD];simp
 obtain⟨μD,afI⟩:∃μD,μD=C0 μ w (.deferred (some [])):=⟨_,rfl⟩;have ac9:N0 μ μD:=afI▸Oe hR.toaG _;have hMD:aG E.P E.aF w0 μD φ m wD:=afI▸hwD▸hR.toaG.ac3 _;have hD:μD w.heap.size=some (.deferred (some [])):=by rw[afI];simp[C0]
 obtain⟨w1,UW⟩:∃w1:bl,w1={w0 with dG:=μD,rc:=fun i=>if i=lid then some (l,rec)else w0.rc i}:=⟨_,rfl⟩;have ahU:aG E.P E.aF w1 μD φ m wD:=UW▸hMD.yS rfl rfl (fun _ _ h=>h) (fun id st hid=>IT fun e=>by simp_all);have I5:bV E.fn.ntmps w1 a=bV E.fn.ntmps w0 a:=by subst UW;rfl
 have hFD:b9 E.P μD φ m f1 (bV E.fn.ntmps w0 a):=⟨fun t=>(hR.fr t).A3 ac9,hR.live⟩;have ahV:w1.rc lid=some (l,rec):=by simp_all
 have XA:W1.heap[l]?=some (.loop rec):=by grind [heap_alloc_new]
 have Ln:Qe.ready.obj rec=rec:=by subst Oi;rfl
 have mW:lW E.P w1 μD φ m wD W1 lid (.loop .ready) (EY (some l) 0 0 0):=by
  rw[hW1];refine lW.alloc ahU (by rw[hl]) (fun φ' hp _=>⟨l,rec,by rw[hp],?_⟩) (by simp[bI.names]) fun st gw=>?_
  ·simp_all
  simp_all
 obtain⟨φ1,alN,xq,FV⟩:=alM E.P E.aF w1 μD φ wD W1 (bV E.fn.ntmps w0 a) (EY (some l) 0 0 0) ahU hFD mW;have DO:Rel E.P E.aF E.fn.ntmps w1 μD φ1 f1 (aB m lid (.loop .ready)) a W1:={toaG:=xq,size:=hR.size,defers:=(by have:=hR.defers.mono ac9;subst UW;omega),lu:=(by subst UW;exact fun b o hb=>ac9 b o (hR.dG b o (hR.lu b o hb))),fr:=fun t=>by rw[I5];exact FV.fr t,live:=FV.live};have Kb:=ax DO g;split at h;rotate_left
 ·cases h
 rename_i gid caps su;obtain⟨xs,hgv,hlen,kL,alO⟩:=ac8 su Kb.1 Kb.2
 ·clear Kb;obtain⟨fnI,cI,f1,f2,f3,iW⟩:=hE.rng _ _ _ _ _ _ _ _ _ h;have hyl:aq E.P μD φ1 (.yl lid) (.func (.yield l) #[] #[]):=.yl (by rw[alN]);have hC:=iW w1 μD φ1 (bV E.fn.ntmps w0 a) W1 (#[.func (.yield l) #[] #[]]++xs) xq FV (by simp;omega) (fun i v x hv hx=>by
    grind) (fun id hid=>by
    simp only[cq,anH]at hid;rcases hid with hid|hid
    ·have:=K5 hid;subst this;simp
    ·exact alO id hid) (by
   refine fun H R site id args F m k r hy=>Yl (fid:=site*4096+E.fid%4096) ihA ihB hE (w2:={w1 with sv:=fun t=>bV E.fn.ntmps w0 a (t-fnI.ntmps)}) (rc:=rec) (l:=l) (lid:=lid) (ps:=ps) ahV (by subst Oi;rfl) (by subst Oi;rfl) (by subst Oi;rfl) (by subst Oi;exact hR.size) (fun t ht=>by grind [bV,Nat.add_sub_cancel,qZ]) H R site id args F m k r hy)
  refine⟨l,[{target:=.collected w.heap.size,args:= #[]}],W1,{target:=.fn (.func gid) xs,args:= #[.func (.yield l) #[] #[]]},W1,gid,#[.func (.yield l) #[] #[]]++xs,W1,?_,?_,?_,?_,?_,?_⟩
  ·have:=run_enterLoop_outer (P:=E.P) (w:=w) fn a.tmps ps as b;rw[Xp,hW1,hwD,Oi];exact this
  ·simp only[resolve,hgv];simp[go_sem]
  ·exact fun _ _=>trivial
  ·grind [invoke,ac7]
  ·decide
  ·refine FR.SQ (hC.mono ?_);rintro e w' ⟨v,f',m',y,μ',φ',hk,rfl,WL,hF',_,_⟩;have ahW:N0 μD μ':=by have:=WL.dG;subst UW;omega
   have hD':μ' w.heap.size=some (.deferred (some [])):=ahW _ _ hD;have main:∀st,m' lid=some (.loop st)→st≠.busy→∃w4,(Instr.endLoop l).run E.P w'=.ok (st.obj rec).pending w4∧Rel E.P E.aF E.fn.ntmps w0 μ' φ' (eU lid f') (br (bH lid m') lid) {a with defers:=[{target:=.collected w.heap.size,args:= #[]}]++a.defers} w4:=by
    intro st gw hnb;obtain⟨g',rc',p1,p2,p3⟩:=WL.DL lid st gw;rw[ahV]at p2;simp only[tb,T0]at p2;obtain⟨rfl,rfl⟩:=p2;have BE:=WL.own lid _ _ gw (.inl p1);have hMf:=WL.forget lid;have DN:∀id b,br (bH lid m') lid id=some b→¬b.owns (φ' id) l:=fun id b' hid e=>by obtain⟨cy,b2,td,rfl⟩:=fS hid;exact cy (WL.inj id lid b2 _ l td gw (fU.1 e) (.inl p1))
    have hM4:=hMf.other (.loop {st.obj rec with state:=.exhausted}) BE.1 (BE.2 rfl) DN (by
     cases hq:w1.hid l with
     |none=>rfl
     |some o=>exact absurd (.inl p1) ((WL.hid l o hq).2.2.2 lid _ gw))
    have hM5:aG E.P E.aF w0 μ' φ' (br (bH lid m') lid) (w'.putObj l (.loop {st.obj rec with state:=.exhausted})):=hM4.yS (by subst UW;rfl) (by subst UW;rfl) (fun b o hb=>ahW b o (ac9 b o (hR.dG b o hb))) (fun id st hid=>by
      have cy:id≠lid:=fun e=>by subst e;simp at hid
      subst UW;exact(IT cy).symm)
    refine⟨_,run_endLoop p3 (by cases st<;>simp_all[Qe.obj]),{toaG:=hM5,size:=hR.size,defers:=?_,lu:=hR.lu,fr:=?_,live:=?_}⟩
    ·obtain⟨Ds,e,SL,hDs⟩:=hR.defers;have bK:∀b o,μ b=some o→b<w.heap.size:=fun b o hb=>(adW.1 (hR.ro b o hb)).1;refine⟨w.heap.size::Ds,by simp[e],aoU.2 ⟨fun hd=>?_,SL⟩,fun D hd=>?_⟩
     ·grind
     ·rcases anA.1 hd with rfl|hd
      ·refine⟨hR.below.size,?_,hD'⟩;cases ho:w0.lu w.heap.size with
       |none=>rfl
       |some o=>have:=bK _ _ (hR.dG _ _ (hR.lu _ _ ho));omega
      grind
    ·exact(hF'.forget lid).fr
    ·exact(hF'.forget lid).live
   dsimp only at hk;split at hk
   ·rename_i gw;obtain⟨w4,e1,e2⟩:=main .ready gw (by simp);exact⟨none,w4,e1,hQ .normal _ _ _ _ _ _ hk e2⟩
   ·rename_i j gw;obtain⟨w4,e1,e2⟩:=main (.done j) gw (by simp);refine⟨some j.code,w4,e1,?_⟩;cases j with
    |ret=>exact wpIn_ret (hQ .ret _ _ _ _ _ _ hk e2)
    |exit id=>exact wpIn_exit (hQ (.exit id) _ _ _ _ _ _ hk e2)
   ·cases hk
theorem Ym:∀(c:Code),zf c:=by
 intro c;induction c with
 |skip=>intro E w0 rd hE hY CN R f m k r h μ φ a w Q hR hQ;simp only[fo]at h;exact wpIn_skip (hQ .normal _ _ _ _ _ _ h hR)
 |region id ops draw=>intro E w0 rd hE hY CN R f m k r h μ φ a w Q hR hQ;exact Vn hE hY h hR (hQ .normal)
 |seq x y ihx ihy=>
  intro E w0 rd hE hY CN R f m k r h μ φ a w Q hR hQ;simp only[fo]at h;refine wpIn_seq (ihx hE hY CN h hR fun e f' m' μ' φ' a' w' hk jS=>?_);cases e with
  |normal=>exact ihy hE hY CN hk jS hQ
  |exit id=>exact hQ (.exit id) _ _ _ _ _ _ hk jS
  |ret=>exact hQ .ret _ _ _ _ _ _ hk jS
 |cond c x y ihx ihy=>
  intro E w0 rd hE hY CN R f m k r h μ φ a w Q hR hQ;simp only[fo]at h;split at h
  ·rename_i t b hb;have hv:a.eval (.tmp t)=.bool b:=by have:=(ax hR (.tmp t)).1;grind [tv]
   have j4:f t=.pv (.bool b):=(Hl hb).2;have hle:wX (gH f t (.pv (.bool b))) f:=fun s=>by
    simp only[gH];cases e:Nat.beq s t with
    |true=>simp_all
    |false=>simp
   cases b with
   |true=>simp only[IS]at h;exact wpIn_cond_true hv (ihx hE hY CN h (hR.weaken hle) hQ)
   |false=>simp only[tc,PS]at h;exact wpIn_cond_false hv (ihy hE hY CN h (hR.weaken hle) hQ)
  ·cases h
 |block id b ih=>
  intro E w0 rd hE hY CN R f m k r h μ φ a w Q hR hQ;simp only[fo]at h;refine wpIn_block (ih hE hY CN h hR fun e f' m' μ' φ' a' w' hk jS=>?_);cases e with
  |normal=>exact hQ .normal _ _ _ _ _ _ hk jS
  |exit j=>
   simp only[Ex.Xe]at hk;simp only[Yj,Exit.inBlock];split at hk
   ·rename_i hj;rw[BY hj];exact hQ .normal _ _ _ _ _ _ hk jS
   ·rename_i hj;rw[IT hj];exact hQ (.exit j) _ _ _ _ _ _ hk jS
  |ret=>exact hQ .ret _ _ _ _ _ _ hk jS
 |loop b ih=>
  intro E w0 rd hE hY CN R f m k r h μ φ a w Q hR hQ;simp only[fo]at h;split at h
  ·rename_i T _;obtain⟨f,m,μ,φ,h,hR⟩:=Og h hR;obtain⟨s,hs,s1,s2,s3,s4⟩:=Yi h;obtain⟨n0,hs⟩:=hE.lp _ _ _ _ _ hs;refine Kp (fun n a w=>∃s μ φ,Rel E.P E.aF E.fn.ntmps w0 μ φ (Qt T s) (GC T s) a w∧bX (fun s rec=>fo E b (Qt T s) (GC T s) (Ex.NC (fun f m=>JI E.P T f m fun f m=>enc T f m rec) k)) n s=some r) ?_ n0 a w ⟨s,μ,φ,hR.dec s1 s2 s3 s4,hs⟩;rintro n a w ⟨s,μ,φ,hR,hs⟩;cases n with
   |zero=>simp[bX]at hs
   |succ n=>
    refine⟨n,rfl,?_⟩;simp only[bX]at hs;refine ih hE hY CN hs hR fun e f' m' μ' φ' a' w' hk jS=>?_;cases e with
    |normal=>obtain⟨f',m',μ',φ',hk,jS⟩:=Og hk jS;obtain⟨s',hs',t1,t2,t3,t4⟩:=Yi hk;exact⟨s',μ',φ',jS.dec t1 t2 t3 t4,hs'⟩
    |exit j=>exact hQ (.exit j) _ _ _ _ _ _ hk jS
    |ret=>exact hQ .ret _ _ _ _ _ _ hk jS
  ·refine Kp (fun n a w=>∃f m μ φ,Rel E.P E.aF E.fn.ntmps w0 μ φ f m a w∧NA (fun f m rec=>fo E b f m (Ex.NC rec k)) n f m=some r) ?_ E.u a w ⟨f,m,μ,φ,hR,h⟩;rintro n a w ⟨f,m,μ,φ,hR,hs⟩;cases n with
   |zero=>simp[NA]at hs
   |succ n=>
    refine⟨n,rfl,?_⟩;simp only[NA]at hs;refine ih hE hY CN hs hR fun e f' m' μ' φ' a' w' hk jS=>?_;cases e with
    |normal=>exact⟨f',m',μ',φ',jS,hk⟩
    |exit j=>exact hQ (.exit j) _ _ _ _ _ _ hk jS
    |ret=>exact hQ .ret _ _ _ _ _ _ hk jS
 |exit id=>intro E w0 rd hE hY CN R f m k r h μ φ a w Q hR hQ;simp only[fo]at h;exact wpIn_exit (hQ (.exit id) _ _ _ _ _ _ h hR)
 |label l=>intro E w0 rd hE hY CN R f m k r h μ φ a w Q hR hQ;simp only[fo]at h;exact wpIn_label (hQ .normal _ _ _ _ _ _ h hR)
 |ret=>intro E w0 rd hE hY CN R f m k r h μ φ a w Q hR hQ;simp only[fo]at h;exact wpIn_ret (hQ .ret _ _ _ _ _ _ h hR)
 |scope b ih=>intro E w0 rd hE hY CN R f m k r h μ φ a w Q hR hQ;simp only[fo]at h;exact Vm (ih hE hY CN h hR fun e f' m' μ' φ' a' w' hk jS=>by cases e<;>exact hQ _ _ _ _ _ _ _ hk jS)
 |rangeFunc g ps as b ihA ihB=>exact LR ihA ihB
 |_=>intro E w0 rd hE hY CN R f m k r h;simp[fo]at h
def Obj.afJ:Obj→Bool
 |.cells .. =>true
 |.map .. =>true
 |_=>false
def S9(μ μ':Ro):Prop:=∀b o,μ b=some o→Obj.afJ o=true→μ' b=some o
theorem S9.trans{a b c:Ro}(h:S9 a b)(k:S9 b c):S9 a c:=fun x o hx ho=>k x o (h x o hx ho) ho
section
variable {P:Program} {G:Nat→Option (List PV)} {w0:bl} {μ μ':Ro} {φ:Nat→aK} {m:Mem} {w w':World}
variable{x:Value}
theorem HK(h:S9 μ μ'){b o:Nat}(hx:cellAt μ b o=some x):cellAt μ' b o=some x:=by
 unfold cellAt at*;split at hx
 ·rename_i c t fz hb;rw[h _ _ hb rfl];omega
 ·cases hx
theorem au.off(h:S9 μ μ'){p:PV}(hp:au P μ p x):au P μ' p x:=by
 induction hp with
 |int h=>exact .int h
 |bool=>exact .bool
 |str h=>exact .str h
 |agg h1 _ h3 ih=>exact .agg h1 ih h3
 |aV h1 _ ih=>exact .aV h1 ih
 |oh=>exact .oh
 |rp X h1 _ h3 ih=>exact .rp X (fun i p hi=>HK h (h1 i p hi)) ih h3
 |lV=>exact .lV
 |M9 h=>exact .M9 h
 |rs X h1 h2 h3 h4 _ h6 ih=>exact .rs X h1 h2 h3 (fun i e j p hi hj=>HK h (h4 i e j p hi hj)) ih h6
 |nW=>exact .nW
 |rm h1 h2 h3 h4 h5 _ _ ih1 ih2=>exact .rm (h _ _ h1 rfl) h2 h3 h4 h5 ih1 ih2
 |AM=>exact .AM
 |fn h1 _ ih=>exact .fn h1 ih
 |Xl=>exact .Xl
 |acE=>exact .acE
 |bad=>exact .bad
theorem A2.off(h:S9 μ μ'){g:Nat}{cs:List PV}(hv:A2 P μ g cs):A2 P μ' g cs:=⟨hv.rep.off h,let⟨c,T,z,h1,h2⟩:=hv.size;⟨c,T,z,h _ _ h1 rfl,h2⟩⟩
theorem aq.off(h:S9 μ μ'){v:V}{x:Value}(hv:aq P μ φ v x):aq P μ' φ v x:=by
 induction hv with
 |pv hp=>exact .pv (hp.off h)
 |gy=>exact .gy
 |op hg=>exact .op hg
 |oe hg=>exact .oe hg
 |ux hg=>exact .ux hg
 |os hg=>exact .os hg
 |sX hg=>exact .sX hg
 |fX hg hl ha hc hc'=>exact .fX hg hl ha hc hc'
 |Lk hg=>exact .Lk hg
 |yK hg=>exact .yK hg
 |Cv hg hs=>exact .Cv hg hs
 |om hg=>exact .om hg
 |yl hg=>exact .yl hg
 |it hg=>exact .it hg
 |fn h1 _ ih=>exact .fn h1 ih
 |agg h1 _ h3 ih=>exact .agg h1 ih h3
 |aV h1 _ ih=>exact .aV h1 ih
 |top=>exact .top
theorem aP.off(h:S9 μ μ'){id sz:Nat}{et:TypeId}{es:List PV}(ha:aP P μ φ w id sz et es)(hw:∀g,(φ id).g=some g→w'.heap[g]?=w.heap[g]?):aP P μ' φ w' id sz et es:=by
 obtain⟨a1,a2,a3,a4,a5,a6,a7⟩:=ha;refine⟨a1,a2,a3,a4,a5,a6,?_⟩;cases hg:(φ id).g with
 |none=>rw[hg]at a7;omega
 |some g=>rw[hg]at a7;obtain⟨c,T,c1,c2,c3,c4,c5⟩:=a7;exact⟨c,T,by rw[hw g hg];omega,c2,c3,fun i e j p x h1 h2 h3=>(c4 i e j p x h1 h2 h3).off h,c5⟩
theorem fb.off(hh:S9 μ μ'){R:EX}{s:Nat}{rs:List PV}{x:Value}(h:fb P μ R w s rs x)(hw:∀g,R.g=some g→w'.heap[g]?=w.heap[g]?):fb P μ' R w' s rs x:=
 let⟨⟨et,hA⟩,hV⟩:=h
 ⟨⟨et,hA.off hh hw⟩,hV.off hh⟩
theorem eH.off(hh:S9 μ μ'){R:EX}{p:PV}{x:Value}(h:eH P μ R w p x)(hw:p.isRow=true→∀g,R.g=some g→w'.heap[g]?=w.heap[g]?):eH P μ' R w' p x:=by
 unfold eH at*;split at h
 ·exact fb.off hh h (hw rfl)
 ·exact au.off hh h
theorem bg.off(hh:S9 μ μ'){id sz:Nat}{et:TypeId}{es:List PV}(h:bg P μ φ w id sz et es)(hw:∀g,(bI.nest sz et es).owns (φ id) g→w'.heap[g]?=w.heap[g]?):bg P μ' φ w' id sz et es:=by
 obtain⟨a1,a2,a3,a4,a5,a6,a7⟩:=h;refine⟨a1,a2,a3,a4,a5,a6,?_⟩;cases hg:(φ id).g with
 |none=>rw[hg]at a7;omega
 |some g=>rw[hg]at a7;obtain⟨c,T,c1,c2,c3,c4,c5⟩:=a7;exact⟨c,T,by rw[hw g (.inl hg)];omega,c2,c3,fun i e j p x h1 h2 h3=>(c4 i e j p x h1 h2 h3).off hh fun hr g' cV=>hw g' (.inr ⟨i,j,by rw[dK h1 h2];omega,cV⟩),c5⟩
theorem fb.Ta{R:EX}{s g:Nat}{rs:List PV}(h:fb P μ R w s rs x)(hg:R.g=some g):∃c T z,w.heap[g]?=some (.cells c T z):=by obtain⟨⟨et,_,_,_,_,_,_,a7⟩,_⟩:=h;have cV:R.up.g=some g:=hg;grind
theorem gK.Yn{id g i off:Nat}{b:bI}(h:gK P μ φ w id b)(hr:b.rowAt i off=true)(hg:((φ id).row i off).g=some g):∃c T z,w.heap[g]?=some (.cells c T z):=by
 rcases kR hr with⟨sz,et,es,e,s,rs,rfl,he,hp⟩|⟨kt,e0,es,k,s,rs,rfl,rfl,he⟩
 ·have hN:bg P μ φ w id sz et es:=h;have hgg:∃g0,(φ id).g=some g0:=by
   cases hq:(φ id).g with
   |some g0=>simp
   |none=>have a7:=hN.2.2.2.2.2.2;simp_all
  obtain⟨g0,Qy⟩:=hgg;obtain⟨c,_,x,_,_,c3,_⟩:=hN.cell Qy he hp;exact fb.Ta (show fb P μ _ w s rs x from c3) hg
 ·obtain⟨g0,en,clock,kk,Qy,hh,hs,hk,hc,Ah,hv⟩:=h;have hi:i<en.size:=by grind
  have h3:=(hv i k _ en[i] he (T1 hi)).2;exact fb.Ta (P:=P) (μ:=μ) (R:=(φ id).row i 0) (s:=s) (rs:=rs) (x:=en[i].val) ⟨⟨_,h3.1⟩,h3.2⟩ hg
theorem gK.off(h:S9 μ μ')(sW:∀b o,μ b=some o→w.heap[b]?=some o){id:Nat}{b:bI}(hb:gK P μ φ w id b)(hw:∀g,b.owns (φ id) g→w'.heap[g]?=w.heap[g]?):gK P μ' φ w' id b:=by
 cases b with
 |nest sz et es=>exact bg.off h hb hw
 |fH kt e0 es=>
  obtain⟨g,en,clock,kk,hg,hh,hs,hk,hc,Ah,hv⟩:=hb;refine⟨g,en,clock,kk,hg,by rw[hw g (.inl hg)];omega,hs,hk,hc,Ah,fun i k v e h1 h2=>⟨(hv i k v e h1 h2).1.off h,?_⟩⟩;have h3:=(hv i k v e h1 h2).2;split at h3
  ·exact⟨h3.1.off h fun g' cV=>hw g' (.inr ⟨i,0,by rw[kQ h1];rfl,cV⟩),h3.2.off h⟩
  ·exact h3.off h
 |box cs=>obtain⟨g,c,T,hg,hh,hs,hv,h1,Jf⟩:=hb;exact⟨g,c,T,hg,by rw[hw g (.inl hg)];omega,hs,fun i v x hi hx=>(hv i v x hi hx).off h,h1,Jf⟩
 |arr sz et es=>exact aP.off h hb fun g hg=>hw g (.inl hg)
 |rE sz et es=>refine⟨aP.off h hb.1 fun g hg=>hw g (.inl hg),fun g hg=>?_⟩;obtain⟨o,ho⟩:=anK.1 (hb.2 g hg);obtain⟨_,_,_,_,_,_,a7⟩:=hb.1;rw[hg]at a7;obtain⟨c,_,c1,_⟩:=a7;have:=sW g o ho;rw[c1]at this;cases this;rw[h _ _ ho rfl];rfl
 |map kt es=>obtain⟨g,en,clock,kk,hg,hh,hs,hk,hc,Ah,hv⟩:=hb;exact⟨g,en,clock,kk,hg,by rw[hw g (.inl hg)];omega,hs,hk,hc,Ah,fun i k v e h1 h2=>⟨(hv i k v e h1 h2).1.off h,(hv i k v e h1 h2).2.off h⟩⟩
 |iter t es cur=>obtain⟨g,mg,en,clock,seen,hg,hh,Nb,Ah,Jf,hv,hcu⟩:=hb;exact⟨g,mg,en,clock,seen,hg,by rw[hw g (.inl hg)];omega,h _ _ Nb rfl,Ah,Jf,fun i k v e h1 h2=>⟨(hv i k v e h1 h2).1.off h,(hv i k v e h1 h2).2.off h⟩,fun k v hc=>let⟨i,e,h1,h2,h3,h4⟩:=hcu k v hc;⟨i,e,h1,h2,h3.off h,h4.off h⟩⟩
 |loop st=>obtain⟨g,rc,hg,hh⟩:=hb;exact⟨g,rc,hg,by rw[hw g (.inl hg)];omega⟩
def C3(μ:Ro)(D:Nat):Ro:=fun b=>if b=D then none else μ b
theorem Tb{D:Nat}(hD:μ D=some (.deferred (some []))):S9 μ (C3 μ D):=by intro b o hb ho;unfold C3;rw[IT fun e=>by subst e;rw[hD]at hb;cases hb;cases ho];omega
theorem aG.shut(hM:aG P G w0 μ φ m w){D:Nat}(hB:w0.heap.size≤D)(hk:w0.dG D=none)(hD:μ D=some (.deferred (some []))):aG P G w0 (C3 μ D) φ m (w.putObj D (.deferred none)):=by
 have hc:=Tb hD;have hh:=hM.ro _ _ hD;have AQ:∀k,k≠D→(w.putObj D (.deferred none)).heap[k]?=w.heap[k]?:=fun k hk=>World.putObj_heap_other hk;have cy:∀id b g,m id=some b→b.owns (φ id) g→g≠D:=fun id b g hm hg e=>by
  subst e;have hR:=hM.dF id b hm;rcases hg with hg|⟨i,off,hr,hg⟩
  rotate_left
  ·obtain⟨c,T,z,h2⟩:=hR.Yn hr hg;rw[hh]at h2;cases h2
  cases b with
  |nest sz et es=>obtain⟨_,_,_,_,_,_,a7⟩:=hR;simp_all
  |fH kt e0 es=>obtain⟨g',en,clock,kk,cV,h2,_⟩:=hR;simp_all
  |box cs=>obtain⟨g',c,T,cV,h2,_⟩:=hR;simp_all
  |arr sz et es=>obtain⟨_,_,_,_,_,_,a7⟩:=hR;simp_all
  |rE sz et es=>obtain⟨⟨_,_,_,_,_,_,a7⟩,_⟩:=hR;simp_all
  |map kt es=>obtain⟨g',en,clock,kk,cV,h2,_⟩:=hR;simp_all
  |loop st=>obtain⟨g',rc,cV,h2⟩:=hR;simp_all
  |iter t es cur=>obtain⟨g',mg,en,clock,seen,cV,h2,_⟩:=hR;simp_all
 refine⟨hM.below.trans ((lr.putObj w D _).mono hB),fun b o hb=>?_,fun g cs hg=>(hM.aF g cs hg).off hc,fun id b hm=>(hM.dF id b hm).off hc hM.ro fun g hg=>AQ g (cy id b g hm hg),fun id b g hm hg=>?_,hM.inj,hM.apart,hM.fJ,fun b o hb bK=>?_,fun b o hb=>?_,fun id st hm=>?_,fun k o h=>(by
  obtain⟨h1,h2,h3,h4⟩:=hM.hid k o h;have hkD:k≠D:=fun e=>by rw[e,hD]at h3;cases h3
  exact⟨by rw[AQ k hkD];exact h1,h2,by unfold C3;rw[IT hkD];exact h3,h4⟩)⟩
 ·unfold C3 at hb;split at hb
  ·cases hb
  ·rename_i e;rw[AQ b e];exact hM.ro b o hb
 ·obtain⟨h1,h2⟩:=hM.own id b g hm hg;refine⟨h1,fun Xy=>?_⟩;unfold C3;simp_all
 ·unfold C3 at hb;split at hb
  ·omega
  ·exact hM.base b o hb bK
 ·unfold C3;rw[IT fun e=>by simp_all];exact hM.dG b o hb
 ·obtain⟨g,rc,h1,h2,h3⟩:=hM.DL id st hm;grind
end
section
variable {E:Env} {w0:bl}
theorem C4{R:Ending→World→Prop}{f:Fr}{m:Mem}{φ:Nat→aK}{fn:Func}{tmps:Array Value}:∀(Ds:List Nat){μ:Ro}{w:World},Ds.Nodup→(∀D∈Ds,w0.heap.size≤D∧w0.dG D=none∧μ D=some (.deferred (some [])))→Rel E.P E.aF E.fn.ntmps w0 μ φ f m {tmps,defers:=[]} w→(∀μ' w',Rel E.P E.aF E.fn.ntmps w0 μ' φ f m {tmps,defers:=[]} w'→∃v,(results fn tmps).run E.P w'=.ok v w'∧R (.returned v) w')→LeavesInM (FR none) 0 E.P fn tmps R (Ds.map fun D=>{target:=.collected D,args:= #[]}) .returning w
 |[],μ,w,_,_,hR,Ej=>Ej μ w hR
 |D::Ds,μ,w,hn,hD,hR,Ej=>by obtain⟨h1,h2,h3⟩:=hD D (by simp);obtain⟨n1,n2⟩:=aoU.1 hn;have hM:=hR.toaG.shut h1 h2 h3;refine⟨by simp,.inl ⟨D,_,rfl,run_takeDeferred (hR.ro _ _ h3),?_⟩⟩;refine C4 Ds n2 (fun D' WR=>?_) {toaG:=hM,size:=hR.size,defers:=.nil _ _ _,lu:=hR.lu,fr:=fun t=>(hR.fr t).off (Tb h3),live:=hR.live} Ej;obtain⟨a1,a2,a3⟩:=hD D' (by simp[WR]);refine⟨a1,a2,?_⟩;unfold C3;grind
theorem vl(hE:jR E)(hY:sq E.P E.aF E.fn.ntmps E.yl w0)(hko:∀b o,w0.dG b=some o→w0.lu b=some o){g:FuncId}{c:Code}(hf:E.P.funcs[g]?=some E.fn)(hb:E.fn.body=some c){xs:Array Value}{R:Ending→World→Prop}{S:Type}{f:Fr}{m:Mem}{k:Ex→Fr→Mem→Option S}{r:S}(h:fo E c f m k=some r){μ:Ro}{φ:Nat→aK}{w:World}(hR:Rel E.P E.aF E.fn.ntmps w0 μ φ f m {tmps:=xs++Array.replicate (E.fn.ntmps-xs.size) undef,defers:=[]} w)(Ej:∀e f' m' μ' φ' tmps w',k e f' m'=some r→Rel E.P E.aF E.fn.ntmps w0 μ' φ' f' m' {tmps,defers:=[]} w'→(∀id,e≠.exit id)∧∃v,(results E.fn tmps).run E.P w'=.ok v w'∧R (.returned v) w'):Calls E.P g xs w R:=by
 refine(callsIn_wide (n:=0)).1 (callsIn_of_wp_marks (F:=FR none) hf hb trivial ?_);refine Ym c hE hY (fun _=>rfl) h hR fun e f' m' μ' φ' a' w' hk jS=>?_;obtain⟨Ds,e1,e2,e3⟩:=jS.defers;have D9:Rel E.P E.aF E.fn.ntmps w0 μ' φ' f' m' {tmps:=a'.tmps,defers:=[]} w':={toaG:=jS.toaG,size:=jS.size,defers:=.nil _ _ _,lu:=jS.lu,fr:=jS.fr,live:=jS.live};have key:(∀id,e≠.exit id)→LeavesInM (FR none) 0 E.P E.fn a'.tmps R a'.defers .returning w':=fun _=>by
  rw[e1];refine C4 Ds e2 (fun D hd=>?_) D9 fun μ2 w2 hR3=>(Ej e f' m' μ2 φ' a'.tmps w2 hk hR3).2;obtain⟨a1,a2,a3⟩:=e3 D hd;refine⟨a1,?_,a3⟩;cases hq:w0.dG D with
  |none=>rfl
  |some o=>simp_all
 have cy:=(Ej e f' m' μ' φ' a'.tmps w' hk D9).1;cases e with
 |normal=>exact key cy
 |ret=>exact key cy
 |exit id=>simp_all
end
end Go.Ab
