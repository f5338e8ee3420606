import Derived.Test.YtanikidijjaohaaGreatAbP7
import Derived.RangeFuncIn
import Derived.Scope
set_option linter.unusedVariables false
set_option linter.unusedSimpArgs false
namespace Go.Ab
open Go.RowKit (Below)
section
variable {P:Program} {G:Nat→Option (List PV)} {w0:bu} {μ:Ro} {φ:Nat→aA} {m:Mem} {w:World}
theorem kv.putObj(w:World)(g:Nat)(o:Obj):kv g w (w.putObj g o):=⟨⟨rfl,rfl,rfl,by simp,fun k hk=>World.putObj_heap_other (by omega)⟩,fun _=>agM _⟩
theorem aw.uO(h:aw P G w0 μ φ m w){w1:bu}(hw:w1.w=w0.w)(ED:w1.mu=w0.mu)(hk:∀b o,w1.dx b=some o→μ b=some o)(Ws:∀id st,m id=some (.loop st)→w1.rc id=w0.rc id):aw P G w1 μ φ m w:=by obtain⟨a0,b0,c0,d0,e0⟩:=w0;obtain⟨a1,b1,c1,d1,e1⟩:=w1;simp only at hw ED;subst hw;subst ED;refine⟨h.below,h.ro,h.aH,h.du,h.own,h.inj,h.apart,h.fy,h.base,hk,fun id st an=>?_⟩;obtain⟨g,rc,h1,h2,h3⟩:=h.A5 id st an;exact⟨g,rc,h1,(Ws id st an).trans h2,h3⟩
def Br(μ:Ro)(w:World)(o:Obj):Ro:=fun b=>if b=w.heap.size then some o else μ b
theorem IY(hM:aw P G w0 μ φ m w)(o:Obj):II μ (Br μ w o):=by intro b o' hb;have:=(YH.1 (hM.ro b o' hb)).1;unfold Br;rw[IN (by omega)];exact hb
theorem aw.Wt(hM:aw P G w0 μ φ m w)(o:Obj):aw P G w0 (Br μ w o) φ m (w.alloc o):=by
 have hle:=IY hM o;have hold:∀k,k<w.heap.size→(w.alloc o).heap[k]?=w.heap[k]?:=fun k hk=>kv.heap_alloc w o k hk;have mP:w0.heap.size≤w.heap.size:=hM.below.size;refine⟨hM.below.alloc hM.below.size o,fun b o' hb=>?_,fun g cs hg=>(hM.aH g cs hg).mono hle,fun id b an=>?_,fun id b g an hg=>?_,hM.inj,hM.apart,hM.fy,fun b o' hb bS=>?_,fun b o' hb=>hle b o' (hM.dx b o' hb),fun id st an=>?_⟩
 ·unfold Br at hb;split at hb
  ·rename_i e;subst e;cases hb;exact heap_alloc_new w o
  ·have:=hM.ro b o' hb;rw[hold b (YH.1 this).1];exact this
 ·have hR:=hM.du id b an;exact hR.cr (fun _ _=>rfl) rfl hle (fun g hg=>hold g (hR.CH hg))
 ·obtain⟨h1,h2⟩:=hM.own id b g an hg;refine⟨h1,fun Ln=>?_⟩;have:=(hM.du id b an).CH hg;unfold Br;rw[IN (by omega)];exact h2 Ln
 ·unfold Br at hb;rw[IN (by omega)]at hb;exact hM.base b o' hb bS
 ·obtain⟨g,rc,h1,h2,h3⟩:=hM.A5 id st an;exact⟨g,rc,h1,h2,by rw[hold g (YH.1 h3).1];exact h3⟩
theorem aw.other(hM:aw P G w0 μ φ m w){g:Nat}(o:Obj)(hg:w0.heap.size≤g)(hμ:μ g=none)(Bk:∀id b,m id=some b→¬b.dU (φ id) g):aw P G w0 μ φ m (w.putObj g o):=by
 have C2:∀k,k≠g→(w.putObj g o).heap[k]?=w.heap[k]?:=fun k hk=>World.putObj_heap_other hk;refine⟨hM.below.trans ((kv.putObj w g o).mono hg),fun b o' hb=>?_,hM.aH,fun id b an=>?_,hM.own,hM.inj,hM.apart,hM.fy,hM.base,hM.dx,fun id st an=>?_⟩
 ·rw[C2 b fun e=>by subst e;rw[hμ]at hb;cases hb];exact hM.ro b o' hb
 ·have hR:=hM.du id b an;exact hR.cr (fun _ _=>rfl) rfl (fun _ _ h=>h) (fun g' cv=>C2 g' fun e=>by subst e;exact Bk id b an cv)
 ·obtain⟨g',rc,h1,h2,h3⟩:=hM.A5 id st an;exact⟨g',rc,h1,h2,by rw[C2 g' fun e=>by subst e;exact Bk id _ an (.inl h1)];exact h3⟩
theorem aw.turn(hM:aw P G w0 μ φ m w){id g:Nat}{st st':KT}{rc:Loop}(hm:m id=some (.loop st))(hg:(φ id).g=some g)(Ws:w0.rc id=some (g,rc)):aw P G w0 μ φ (al m id (.loop st')) (w.putObj g (.loop (st'.obj rc))):=by have bS:=(hM.du id _ hm).CH (.inl hg);have QM:(w.putObj g (.loop (st'.obj rc))).heap[g]?=some (.loop (st'.obj rc)):=World.putObj_heap_same bS;exact hM.write hm rfl hg (kv.putObj w g _) (by simp) (fun k hk=>World.putObj_heap_other hk) ⟨g,rc,hg,QM⟩ rfl (by simp[bF.names]) fun s hs=>by cases hs;exact⟨rc,Ws,QM⟩
end
section
variable {P:Program} {μ:Ro} {φ:Nat→aA}
theorem FG{nt:Nat}:∀(ps:List Nat)(args:List V)(xs:List Value)(f:Fr)(tmps:Array Value),tmps.size=nt→args.length=xs.length→(∀t,t<nt→ae P μ φ (f t) (tmps.getD t undef))→(∀(i:Nat)v x,args[i]?=some v→xs[i]?=some x→ae P μ φ v x)→((ps.zip xs).foldl (fun tmps(x:Nat×Value)=>tmps.setIfInBounds x.1 x.2) tmps).size=nt∧∀t,t<nt→ae P μ φ (Cw ps args f t) (((ps.zip xs).foldl (fun tmps(x:Nat×Value)=>tmps.setIfInBounds x.1 x.2) tmps).getD t undef)
 |[],args,xs,f,tmps,hs,_,hf,_=>by cases args<;>exact⟨hs,hf⟩
 |p::ps,[],xs,f,tmps,hs,hl,hf,_=>by have:xs=[]:=afl (by simpa using hl.symm);subst this;exact⟨hs,hf⟩
 |p::ps,v::args,[],f,tmps,hs,hl,hf,_=>by simp at hl
 |p::ps,v::args,x::xs,f,tmps,hs,hl,hf,hr=>by
  simp only[ajc,ajH,Cw];refine FG ps args xs (fY f p v) (tmps.setIfInBounds p x) (by simpa using hs) (by simpa using hl) (fun t ht=>?_) (fun i u y hu hy=>hr (i+1) u y (by simpa using hu) (by simpa using hy));by_cases e:t=p
  ·subst e;rw[xG];have:(tmps.setIfInBounds t x).getD t undef=x:=by rw[agN,ahE];simp[show t<tmps.size by omega]
   rw[this];exact hr 0 v x rfl rfl
  ·rw[pU e];have:(tmps.setIfInBounds p x).getD t undef=tmps.getD t undef:=by rw[agN,agN,ahE,IN (fun h=>e h.symm)]
   rw[this];exact hf t ht
theorem Dp{id:Nat}:∀(ps:List Nat)(args:List V)(f:Fr)(t:Nat),(Cw ps args f t).has id=true→ck id args=true∨(f t).has id=true
 |[],args,f,t,h=>by cases args<;>exact .inr h
 |p::ps,[],f,t,h=>.inr h
 |p::ps,v::args,f,t,h=>by
  simp only[Cw]at h;rcases Dp ps args _ t h with h|h
  ·exact .inl (by simp[ck,h])
  ·by_cases e:t=p
   ·subst e;rw[xG]at h;exact .inl (by simp[ck,h])
   ·rw[pU e]at h;exact .inr h
theorem TH(ps:Array Nat)(xs:Array Value)(tmps:Array Value):(ps.zip xs).foldl (fun tmps(t,a)=>tmps.setIfInBounds t a) tmps=(ps.toList.zip xs.toList).foldl (fun tmps(x:Nat×Value)=>tmps.setIfInBounds x.1 x.2) tmps:=by rw[←Array.foldl_toList,Array.toList_zip]
end
variable{P:Program}{c:Code}{Q:Exit→Act→World→Prop}
theorem FH{F:Fence}{nn:Nat}(I:Nat→Act→World→Prop)(round:∀n a w,I n a w→∃n',n=n'+1∧c.wpIn F nn P (Exit.then (I n') Q) a w):∀n a w,I n a w→(Code.loop c).wpIn F nn P Q a w:=by
 intro n a w hI b k cs tq hb hr;have key:∀n a w,I n a w→∃e a' w',Q e a' w'∧ArrivesIn (Machine.fenced P F) P (lone (b.atR a (.code c::.inLoop c::k)) cs w) b k cs e a' w':=by
  intro n;induction n with
  |zero=>grind
  |succ n ih=>
   intro a w h;obtain⟨n',hn,iF⟩:=round _ a w h;have hn:n=n':=by omega
   subst hn;obtain⟨e,a₁,w₁,hq,Dq⟩:=iF b (.inLoop c::k) cs tq hb hr;cases e with
   |normal=>obtain⟨e₂,a₂,w₂,abE,Wu⟩:=ih a₁ w₁ hq;exact⟨e₂,a₂,w₂,abE,.of_steps (StepsIn.trans Dq (.one (fenced_calm hb hr rfl) stepR_inLoop)) Wu⟩
   |_=>exact⟨_,a₁,w₁,hq,.pass (x:=.inLoop c) rfl (fun _ _=>.inl (by simp)) Dq⟩
 obtain⟨e,a',w',hq,Dq⟩:=key n a w hI;exact⟨e,a',w',hq,.of_steps (.one (fenced_calm hb hr rfl) stepR_loop) Dq⟩
theorem Rf{rd:Option Nat}{n:Nat}{a:Act}{w:World}(h:c.wpIn (FR rd) n P (Exit.noGoto Q) a w):(Code.scope c).wpIn (FR rd) n P Q a w:=by
 intro b k cs tq hb hr;obtain⟨e,a₁,w₁,hq,Dq⟩:=h b (.inScope c::k) cs tq hb hr;have s1:StepsIn (Machine.fenced P (FR rd)) P (lone (b.atR a (.code (.scope c)::k)) cs w) (lone (b.atR a (.code c::.inScope c::k)) cs w):=.one (fenced_calm hb hr rfl) (step_lone_go (by rfl));have s2:∀a w,StepsIn (Machine.fenced P (FR rd)) P (lone (b.atR a (.inScope c::k)) cs w) (lone (b.atR a k) cs w):=fun a w=>.one (fenced_calm hb hr rfl) (step_lone_go (by rfl));cases e with
 |normal=>exact⟨.normal,a₁,w₁,hq,s1.trans (StepsIn.trans Dq (s2 _ _))⟩
 |exit id=>exact⟨.exit id,a₁,w₁,hq,fun k' hk=>s1.trans (Dq.1 k' (by simp[exitTo,hk])),fun hr hk=>let⟨k₁,h1,h2⟩:=Dq.2 hr (by simp[exitTo,hk]);⟨k₁,h1,s1.trans h2⟩⟩
 |goto l=>exact hq.elim
 |ret=>exact⟨_,a₁,w₁,hq,.of_steps s1 Dq⟩
 |panic ch=>exact⟨_,a₁,w₁,hq,.of_steps s1 Dq⟩
 |outgrown=>exact⟨_,a₁,w₁,hq,.of_steps s1 Dq⟩
mutual
theorem PE:∀{v u:V},v.same u=true→v=u
 |.op i o,u,h=>by cases u<;>simp only[V.same,T2,AT]at h;rw[IT h.1,IT h.2]
 |.oe i a o,u,h=>by cases u<;>simp only[V.same,T2,AT]at h;rw[IT h.1.1,IT h.1.2,IT h.2]
 |.os i,u,h=>by cases u<;>simp only[V.same,AT]at h;rw[IT h]
 |.om i,u,h=>by cases u<;>simp only[V.same,AT]at h;rw[IT h]
 |.yl i,u,h=>by cases u<;>simp only[V.same,AT]at h;rw[IT h]
 |.it i,u,h=>by cases u<;>simp only[V.same,AT]at h;rw[IT h]
 |.gF,u,h=>by cases u<;>simp only[V.same,AT]at h;rfl
 |.fn f cs,u,h=>by cases u<;>simp only[V.same,T2,AT]at h;rw[IT h.1,IZ h.2]
 |.pv p,u,h=>by
  cases u<;>try (cases p<;>simp[V.same]at h;done)
  rename_i q;cases p<;>cases q<;>first|rfl|(simp[V.same]at h;done)|(simp only[V.same,T2,No]at h;rw[h.1,h.2])
 |.fx _ _ _,u,h=>by cases u<;>simp[V.same]at h
 |.agg _,u,h=>by cases u<;>simp[V.same]at h
 |.bn _,u,h=>by cases u<;>simp[V.same]at h
 |.top,u,h=>by cases u<;>simp[V.same]at h
theorem IZ:∀{vs us:List V},EZ vs us=true→vs=us
 |[],us,h=>by
  cases us with
  |nil=>rfl
  |cons _ _=>simp[EZ]at h
 |v::vs,us,h=>by
  cases us with
  |nil=>simp[EZ]at h
  |cons u us=>simp only[EZ,T2]at h;rw[PE h.1,IZ h.2]
end
variable{R:Type}
theorem PF{T:Type}:∀{jo:List Sh}{vs:List V}{t:T}{k:Pd jo T→Option R}{r:R},jq jo vs t k=some r→∃x,k x=some r∧qZ jo x=(vs,t)∧vs.length=jo.length∧∀M,(∀sh∈jo,sh.within M=true)→j5 M vs=true:=by
 intro jo;induction jo with
 |nil=>
  intro vs t k r h;cases vs with
  |nil=>exact⟨t,h,rfl,rfl,fun _ _=>rfl⟩
  |cons v vs=>simp[jq]at h
 |cons sh jo ih=>
  intro vs t k r h;cases vs with
  |nil=>cases sh<;>simp[jq]at h
  |cons v vs=>
   have push:∀{M},v.within M=true→j5 M vs=true→j5 M (v::vs)=true:=fun h1 h2=>by simp[j5,h1,h2]
   cases sh with
   |own u=>
    simp only[jq]at h;split at h
    ·rename_i hs;obtain⟨x,x1,x2,x3,x4⟩:=ih h;have:=PE hs;subst this;refine⟨x,x1,by simp only[qZ];rw[x2],by simp[x3],fun M hM=>push ?_ (x4 M fun s hs=>hM s (by simp[hs]))⟩;exact hM (.own u) (by simp)
    ·cases h
   |int q=>
    cases v<;>try (simp[jq]at h;done)
    rename_i p;cases p<;>try (simp[jq]at h;done)
    simp only[jq]at h;split at h
    ·rename_i hq;subst hq;obtain⟨x,x1,x2,x3,x4⟩:=ih h;exact⟨_,x1,by simp only[qZ];rw[x2],by simp[x3],fun M hM=>push rfl (x4 M fun s hs=>hM s (by simp[hs]))⟩
    ·cases h
   |row id off=>
    cases v<;>try (simp[jq]at h;done)
    rename_i qY i rH;simp only[jq]at h;split at h
    ·rename_i hq;obtain⟨rfl,rfl⟩:=hq;obtain⟨x,x1,x2,x3,x4⟩:=ih h;exact⟨_,x1,by simp_all[qZ,afm],by simp[x3],fun M hM=>push (hM (.row qY rH) (by simp)) (x4 M fun s hs=>hM s (by simp[hs]))⟩
    ·cases h
   |raw=>
    cases v<;>try (simp[jq]at h;done)
    simp only[jq]at h;obtain⟨x,x1,x2,x3,x4⟩:=ih h;exact⟨_,x1,by simp only[qZ];rw[x2],by simp[x3],fun M hM=>push rfl (x4 M fun s hs=>hM s (by simp[hs]))⟩
   |bool=>
    cases v<;>try (simp[jq]at h;done)
    rename_i p;cases p<;>try (simp[jq]at h;done)
    simp only[jq]at h;obtain⟨x,x1,x2,x3,x4⟩:=ih h;exact⟨_,x1,by simp only[qZ];rw[x2],by simp[x3],fun M hM=>push rfl (x4 M fun s hs=>hM s (by simp[hs]))⟩
   |str=>
    cases v<;>try (simp[jq]at h;done)
    rename_i p;cases p<;>try (simp[jq]at h;done)
    simp only[jq]at h;obtain⟨x,x1,x2,x3,x4⟩:=ih h;exact⟨_,x1,by simp only[qZ];rw[x2],by simp[x3],fun M hM=>push rfl (x4 M fun s hs=>hM s (by simp[hs]))⟩
   |rp n=>
    cases v<;>try (simp[jq]at h;done)
    rename_i p;cases p<;>try (simp[jq]at h;done)
    rename_i cs;simp only[jq]at h;split at h
    ·rename_i hq;obtain⟨x,x1,x2,x3,x4⟩:=ih h;have he:aC n (.agg cs)=cs:=by
      apply ag5;intro j;by_cases hj:j<n
      ·have hl:j<(aC n (.agg cs)).length:=by rw[aW];omega
       rw[AS hl];obtain⟨_,h6⟩:=nE (AS hl);simp_all[cell,PV.cells,List.getD]
      simp_all[afi,aW]
     exact⟨_,x1,by simp only[qZ];rw[x2,he],by simp[x3],fun M hM=>push rfl (x4 M fun s hs=>hM s (by simp[hs]))⟩
    ·cases h
   |fs s=>
    cases v<;>try (simp[jq]at h;done)
    rename_i p;simp only[jq]at h;obtain⟨ls,hls,h⟩:=By.1 h;obtain⟨x,x1,x2,x3,x4⟩:=ih h;exact⟨_,x1,by grind [qZ,Pt],by simp[x3],fun M hM=>push rfl (x4 M fun s hs=>hM s (by simp[hs]))⟩
   |rs sz=>
    cases v<;>try (simp[jq]at h;done)
    rename_i p;cases p<;>try (simp[jq]at h;done)
    simp only[jq]at h;split at h
    ·rename_i hq;subst hq;obtain⟨x,x1,x2,x3,x4⟩:=ih h;exact⟨_,x1,by simp only[qZ];rw[x2],by simp[x3],fun M hM=>push rfl (x4 M fun s hs=>hM s (by simp[hs]))⟩
    ·cases h
theorem xX:∀{l:List (Nat×Option bF)}{id:Nat}{b:bF},Ci l id=some b→∃x∈l,x.1=id∧x.2=some b
 |[],_,_,h=>by simp[Ci]at h
 |(d,b')::r,id,b,h=>by
  simp only[Ci]at h;cases e:Nat.beq id d with
  |true=>rw[e]at h;exact⟨(d,b'),by simp,(IT e).symm,h⟩
  |false=>rw[e]at h;obtain⟨x,hx,h1,h2⟩:=xX h;exact⟨x,by simp[hx],h1,h2⟩
theorem zf:∀{l:List (Nat×Option bF)}{id:Nat},(∀x∈l,x.2.isSome=true)→(∃x∈l,x.1=id)→(Ci l id).isSome=true
 |[],_,_,⟨x,hx,_⟩=>by cases hx
 |(d,b')::r,id,h,⟨x,hx,he⟩=>by
  simp only[Ci];cases e:Nat.beq id d with
  |true=>simp_all
  |false=>
   rcases afh.1 hx with rfl|hx
   ·simp_all
   ·exact zf (fun y hy=>h y (by simp[hy])) ⟨x,hx,he⟩
theorem Wv{m:Mem}:∀{bs:List (Nat×Ss)}{k:H5 bs→Option R}{r:R},sr m bs k=some r→∃x,k x=some r∧(gx bs x).map (·.1)=bs.map (·.1)∧(∀y∈gx bs x,∃b,y.2=some b∧m y.1=some b)∧∀M,(∀y∈bs,y.2.within M=true)→∀y∈gx bs x,∀b,y.2=some b→b.within M=true:=by
 intro bs;induction bs with
 |nil=>intro k r h;exact⟨(),h,rfl,by simp[gx],by simp[gx]⟩
 |cons y bs ih=>
  intro k r h;obtain⟨id,sh⟩:=y;cases sh with
  |box cs=>
   simp only[sr]at h;split at h
   ·rename_i vs hm;obtain⟨t,t1,t2,t3,t4⟩:=ih h;obtain⟨x,x1,x2,x3,x4⟩:=PF t1;refine⟨x,x1,by simp only[gx,x2];simp[t2],fun y hy=>?_,fun M hM y hy b hb=>?_⟩
    ·simp only[gx,x2]at hy;grind
    ·simp only[gx,x2]at hy;rcases afh.1 hy with rfl|hy
     ·simp only[AI]at hb;subst hb;simp only[bF.within];refine x4 M fun s hs=>?_;have:=hM (id,.box cs) (by simp);grind [Ss.within,List.all_eq_true]
     grind
   ·cases h
  |arr sz et=>
   simp only[sr]at h;split at h
   ·rename_i En Eo es hm;split at h
    ·rename_i he;obtain⟨rfl,rfl⟩:=he;obtain⟨t,t1,t2,t3,t4⟩:=ih h;refine⟨(es,t),t1,by simp only[gx];simp[t2],fun y hy=>?_,fun M hM y hy b hb=>?_⟩
     ·simp only[gx]at hy;grind
     ·simp only[gx]at hy;rcases afh.1 hy with rfl|hy
      ·simp only[AI]at hb;subst hb;rfl
      grind
    ·cases h
   ·cases h
  |pt sz et=>
   simp only[sr]at h;split at h
   ·rename_i En Eo es hm;split at h
    ·rename_i he;obtain⟨rfl,rfl⟩:=he;obtain⟨t,t1,t2,t3,t4⟩:=ih h;refine⟨(es,t),t1,by simp only[gx];simp[t2],fun y hy=>?_,fun M hM y hy b hb=>?_⟩
     ·simp only[gx]at hy;grind
     ·simp only[gx]at hy;rcases afh.1 hy with rfl|hy
      ·simp only[AI]at hb;subst hb;rfl
      grind
    ·cases h
   ·cases h
  |nest sz et=>
   simp only[sr]at h;split at h
   ·rename_i En Eo es hm;split at h
    ·rename_i he;obtain⟨rfl,rfl⟩:=he;obtain⟨t,t1,t2,t3,t4⟩:=ih h;refine⟨(es,t),t1,by simp only[gx];simp[t2],fun y hy=>?_,fun M hM y hy b hb=>?_⟩
     ·simp only[gx]at hy;grind
     ·simp only[gx]at hy;rcases afh.1 hy with rfl|hy
      ·simp only[AI]at hb;subst hb;rfl
      grind
    ·cases h
   ·cases h
  |eY kt et=>
   simp only[sr]at h;split at h
   ·rename_i uz Eo es hm;split at h
    ·rename_i he;obtain⟨rfl,rfl⟩:=he;obtain⟨t,t1,t2,t3,t4⟩:=ih h;refine⟨(es,t),t1,by simp only[gx];simp[t2],fun y hy=>?_,fun M hM y hy b hb=>?_⟩
     ·simp only[gx]at hy;grind
     ·simp only[gx]at hy;rcases afh.1 hy with rfl|hy
      ·simp only[AI]at hb;subst hb;rfl
      grind
    ·cases h
   ·cases h
  |map kt=>
   simp only[sr]at h;split at h
   ·rename_i uz es hm;split at h
    ·rename_i he;subst he;obtain⟨t,t1,t2,t3,t4⟩:=ih h;refine⟨(es,t),t1,by simp only[gx];simp[t2],fun y hy=>?_,fun M hM y hy b hb=>?_⟩
     ·simp only[gx]at hy;grind
     ·simp only[gx]at hy;rcases afh.1 hy with rfl|hy
      ·simp only[AI]at hb;subst hb;rfl
      grind
    ·cases h
   ·cases h
  |iter ty=>
   simp only[sr]at h;split at h
   ·rename_i t' es hm;split at h
    ·rename_i he;subst he;obtain⟨t,t1,t2,t3,t4⟩:=ih h;refine⟨(es,t),t1,by simp only[gx];simp[t2],fun y hy=>?_,fun M hM y hy b hb=>?_⟩
     ·simp only[gx]at hy;grind
     ·simp only[gx]at hy;rcases afh.1 hy with rfl|hy
      ·simp only[AI]at hb;subst hb;rfl
      grind
    ·cases h
   ·cases h
  |loop=>
   simp only[sr]at h;split at h
   ·rename_i hm;obtain⟨t,t1,t2,t3,t4⟩:=ih h;refine⟨t,t1,by simp only[gx];simp[t2],fun y hy=>?_,fun M hM y hy b hb=>?_⟩
    ·simp only[gx]at hy;grind
    ·simp only[gx]at hy;rcases afh.1 hy with rfl|hy
     ·simp only[AI]at hb;subst hb;rfl
     grind
   ·cases h
  |busy=>
   simp only[sr]at h;split at h
   ·rename_i hm;obtain⟨t,t1,t2,t3,t4⟩:=ih h;refine⟨t,t1,by simp only[gx];simp[t2],fun y hy=>?_,fun M hM y hy b hb=>?_⟩
    ·simp only[gx]at hy;grind
    ·simp only[gx]at hy;rcases afh.1 hy with rfl|hy
     ·simp only[AI]at hb;subst hb;rfl
     grind
   ·cases h
mutual
theorem Dr{M:List Nat}{id:Nat}:∀(v:V),v.within M=true→v.has id=true→id∈M
 |.agg cs,h,hh=>nV cs (by simpa only[V.within]using h) (by simpa only[V.has]using hh)
 |.bn cs,h,hh=>nV cs (by simpa only[V.within]using h) (by simpa only[V.has]using hh)
 |.fn _ cs,h,hh=>nV cs (by simpa only[V.within]using h) (by simpa only[V.has]using hh)
 |.os j,h,hh=>by have:=IT hh;subst this;simpa[V.within]using h
 |.fx j _ _,h,hh=>by have:=IT hh;subst this;simpa[V.within]using h
 |.oe j _ _,h,hh=>by have:=IT hh;subst this;simpa[V.within]using h
 |.om j,h,hh=>by have:=IT hh;subst this;simpa[V.within]using h
 |.uF j _ _,h,hh=>by have:=IT hh;subst this;simpa[V.within]using h
 |.yL j _ _ _ _ _,h,hh=>by have:=IT hh;subst this;simpa[V.within]using h
 |.op j _,h,hh=>by have:=IT hh;subst this;simpa[V.within]using h
 |.it j,h,hh=>by have:=IT hh;subst this;simpa[V.within]using h
 |.yl j,h,hh=>by have:=IT hh;subst this;simpa[V.within]using h
 |.pv _,_,hh=>by cases hh
 |.gF,_,hh=>by cases hh
 |.top,_,hh=>by cases hh
theorem nV{M:List Nat}{id:Nat}:∀(cs:List V),j5 M cs=true→ck id cs=true→id∈M
 |[],_,hh=>by cases hh
 |v::r,h,hh=>by
  simp only[j5,T2]at h;simp only[ck,afk]at hh;rcases hh with hh|hh
  ·exact Dr v h.1 hh
  ·exact nV r h.2 hh
end
theorem TI{f:Fr}:∀(ax:List (Nat×Sh))(t:Nat),K9 (pM ax (ax.map fun(x:Nat×Sh)=>f x.1)) t=f t∨K9 (pM ax (ax.map fun(x:Nat×Sh)=>f x.1)) t=.top
 |[],t=>.inr rfl
 |(d,s)::r,t=>by
  simp only[agP,pM,K9,fY];cases e:Nat.beq t d with
  |true=>simp_all
  |false=>exact TI r t
theorem Dt{f:Fr}{M:List Nat}:∀(ax:List (Nat×Sh)),j5 M (ax.map fun(x:Nat×Sh)=>f x.1)=true→∀t,(K9 (pM ax (ax.map fun(x:Nat×Sh)=>f x.1)) t).within M=true
 |[],_,t=>rfl
 |(d,s)::r,h,t=>by
  simp only[agP,j5,T2]at h;simp only[agP,pM,K9,fY];cases e:Nat.beq t d with
  |true=>simp_all
  |false=>exact Dt r h.2 t
theorem TJ{T:eW}{f:Fr}{m:Mem}{k:T.ty→Option R}{r:R}(h:enc T f m k=some r):∃x,k x=some r∧uB (Lf T x) f∧(∀id b,Cv T x id=some b→m id=some b)∧(∀t id,(Lf T x t).has id=true→(Cv T x id).isSome=true)∧∀j cs id,Cv T x j=some (.box cs)→ck id cs=true→(Cv T x id).isSome=true:=by
 unfold enc at h;split at h
 ·rename_i Bm;obtain⟨t,t1,t2,t3,t4⟩:=Wv h;obtain⟨x,x1,x2,x3,x4⟩:=PF t1;simp only[eW.ok,T2,ahq]at Bm;have ov:∀id,id∈T.bE.map (·.1)→(Cv T x id).isSome=true:=fun id an=>by
   unfold Cv;rw[x2];refine zf (fun y hy=>?_) ?_
   ·grind
   grind
  refine⟨x,x1,fun s=>?_,fun id b hb=>?_,fun s id an=>ov id ?_,fun j cs id hj hh=>ov id ?_⟩
  ·simp_all[Lf,TI]
  ·unfold Cv at hb;grind [xX]
  ·have hw:=x4 (T.bE.map (·.1)) fun s hs=>by simp only[eW.jo,agZ]at hs;grind
   have:=Dt (M:=T.bE.map (·.1)) T.ax hw s;unfold Lf at an;grind [Dr]
  ·unfold Cv at hj;rw[x2]at hj;obtain⟨y,hy,h1,h2⟩:=xX hj;have:=t4 (T.bE.map (·.1)) (fun z hz=>Bm.2 z hz) y hy _ h2;grind [nV,bF.within]
 ·cases h
section
variable {E:Env} {w0:bu}
variable{nt:Nat}{μ:Ro}{φ:Nat→aA}{f:Fr}{m:Mem}{a:Act}{w:World}
theorem Rel.dec{f':Fr}{m':Mem}(h:Rel E.P E.aH nt w0 μ φ f m a w)(hf:uB f' f)(hm:∀id b,m' id=some b→m id=some b)(hl:∀t id,(f' t).has id=true→(m' id).isSome=true)(hb:∀j cs id,m' j=some (.box cs)→ck id cs=true→(m' id).isSome=true):Rel E.P E.aH nt w0 μ φ f' m' a w:={below:=h.below,ro:=h.ro,aH:=h.aH,du:=fun id b hb=>h.du id b (hm id b hb),own:=fun id b g hb hg=>h.own id b g (hm id b hb) hg,inj:=fun Sb id2 b1 b2 g h1 h2=>h.inj Sb id2 b1 b2 g (hm _ _ h1) (hm _ _ h2),apart:=fun id b hb=>h.apart id b (hm id b hb),fy:=hb,base:=h.base,dx:=h.dx,A5:=fun id st an=>h.A5 id st (hm _ _ an),size:=h.size,defers:=h.defers,lR:=h.lR,fr:=(h.weaken hf).fr,live:=hl}
theorem Rel.set(h:Rel E.P E.aH nt w0 μ φ f m a w){t:Nat}{p:PV}(hp:af E.P μ p (ax nt w0 a t)):Rel E.P E.aH nt w0 μ φ (fY f t (.pv p)) m a w:=
 {toaw:=h.toaw,size:=h.size,defers:=h.defers,lR:=h.lR,fr:=fun s=>by
   by_cases e:s=t
   ·subst e;rw[xG];exact .pv hp
   ·rw[pU e];exact h.fr s,
  live:=fun s id an=>by
   by_cases e:s=t
   ·simp_all
   ·rw[pU e]at an;exact h.live s id an}
theorem Rel.freeze{nt:Nat}{μ:Ro}{φ:Nat→aA}{f:Fr}{m:Mem}{a:Act}{w:World}(h:Rel E.P E.aH nt w0 μ φ f m a w){id sz:Nat}{et:TypeId}{es:List PV}(hm:m id=some (.arr sz et es)):Rel E.P E.aH nt w0 (oV μ w (φ id).g) φ f (al m id (.pt sz et es)) a w:=
 {toaw:=h.toaw.freeze hm,size:=h.size,defers:=h.defers.mono (lr h.toaw _),lR:=h.lR,fr:=fun s=>(h.fr s).w8 (lr h.toaw _),live:=fun s i an=>by
   by_cases e:i=id
   ·simp_all
   ·rw[ao e];exact h.live s i an}
theorem sJ{A:Type}{nt:Nat}{a:Act}{w:World}:∀{l:List (Nat×Nat)}{μ:Ro}{φ:Nat→aA}{f:Fr}{m:Mem}{k:Fr→Mem→A}{r:A},A1 l f m k=r→Rel E.P E.aH nt w0 μ φ f m a w→∃f' m' μ',k f' m'=r∧Rel E.P E.aH nt w0 μ' φ f' m' a w
 |[],μ,φ,f,m,k,r,h,hR=>⟨f,m,μ,h,hR⟩
 |(t,sz)::l,μ,φ,f,m,k,r,h,hR=>by
  unfold A1 at h;split at h
  ·rename_i id hf;have hx:ae E.P μ φ (.os id) (ax nt w0 a t):=hf▸hR.fr t;split at h
   ·rename_i s et es hm;have hF:=hR.freeze hm;have hA:=hF.toaw.arr (.inr (bm m id _));have hp:af E.P (oV μ w (φ id).g) (.rs s es) (ax nt w0 a t):=hA.full hF.toaw (hx.w8 (lr hR.toaw _)) (fun _ _ h=>h) (fun g hg=>by simp[oV,hg]);exact sJ h (hF.set hp)
   ·rename_i s et es hm;have hB:gm E.P μ φ w id (.pt s et es):=hR.du id _ hm;have hp:af E.P μ (.rs s es) (ax nt w0 a t):=(hR.toaw.arr (.inr hm)).full hR.toaw hx (fun _ _ h=>h) (fun g hg=>by obtain⟨o,ho⟩:=agT.1 (hB.2 g hg);rw[ho,hR.ro _ _ ho]);exact sJ h (hR.set hp)
   ·exact sJ h hR
  ·rename_i hf;have hx:ae E.P μ φ .gF (ax nt w0 a t):=hf▸hR.fr t;have hp:af E.P μ (.rs sz []) (ax nt w0 a t):=by generalize ax nt w0 a t=y at hx;cases hx;exact .ko
   exact sJ h (hR.set hp)
  ·exact sJ h hR
variable{id:Nat}
theorem I0{u:V}:∀(cs:List V)(j:Nat),ck id (cs.set j u)=true→ck id cs=true∨u.has id=true:=by
 intro cs j h;obtain⟨v,hv,hh⟩:=cF.1 h;rcases List.mem_or_eq_of_mem_set hv with h1|h1
 ·exact .inl (cF.2 ⟨v,h1,hh⟩)
 simp_all
theorem Rel.TK(h:Rel E.P E.aH nt w0 μ φ f m a w){j:Nat}{cs:List V}{u:V}(hm:m id=some (.box cs))(hj:cs[j]?=some .gF)(hu:ae E.P μ φ u (.slice none 0 0))(hl:∀i,u.has i=true→(m i).isSome=true):Rel E.P E.aH nt w0 μ φ f (al m id (.box (cs.set j u))) a w:=by
 have key:∀i b,al m id (.box (cs.set j u)) i=some b→(i=id∧b=.box (cs.set j u))∨m i=some b:=fun i b hb=>by
  by_cases e:i=id
  ·simp_all
  simp_all[ao]
 have xo:∀i,(m i).isSome=true→(al m id (.box (cs.set j u)) i).isSome=true:=fun i hi=>by
  by_cases e:i=id
  ·simp_all
  ·rw[ao e];omega
 have back:∀i b,al m id (.box (cs.set j u)) i=some b→∃b',m i=some b'∧(b.jg=true→b'.jg=true)∧b.rowAt=b'.rowAt:=fun i b hb=>by
  rcases key i b hb with⟨rfl,rfl⟩|hb
  ·exact⟨_,hm,fun _=>rfl,rfl⟩
  simp_all
 exact
 {below:=h.below,ro:=h.ro,aH:=h.aH,du:=fun i b hb=>by
   rcases key i b hb with⟨rfl,rfl⟩|hb
   ·obtain⟨g,c,T,c1,c2,c3,c4,c5,c6⟩:=h.du _ _ hm;refine⟨g,c,T,c1,c2,by simpa using c3,fun i v x hv hx=>?_,c5,by simpa using c6⟩;rw[ahb]at hv;split at hv
    ·rename_i e;subst e;split at hv
     ·simp only[AI]at hv;subst hv;have:=c4 j .gF x hj hx;cases this;omega
     ·cases hv
    ·exact c4 i v x hv hx
   ·exact h.du i b hb,
  own:=fun i b g hb hg=>by obtain⟨b',gX,ED,tq⟩:=back i b hb;obtain⟨o1,o2⟩:=h.own i b' g gX (by simp_all[bF.dU]);simp_all,
  inj:=fun Sb id2 b1 b2 g h1 h2 g1 g2=>by obtain⟨b1',VA,_,r1⟩:=back Sb b1 h1;obtain⟨b2',V9,_,r2⟩:=back id2 b2 h2;exact h.inj Sb id2 b1' b2' g VA V9 (by simp_all[bF.dU]) (by simp_all[bF.dU]),
  apart:=fun i b hb=>by obtain⟨b',gX,_,tq⟩:=back i b hb;have:=h.apart i b' gX;unfold bF.apart at this⊢;rw[tq];omega,
  fy:=fun i Ll qY hi an=>by
   rcases key i _ hi with⟨rfl,he⟩|hi
   ·simp only[bF.box.injEq]at he;subst he;rcases I0 _ _ an with an|an
    ·exact xo _ (h.fy _ _ _ hm an)
    simp_all
   ·exact xo _ (h.fy _ _ _ hi an),
  base:=h.base,dx:=h.dx,
  A5:=fun i st hi=>by
   rcases key i _ hi with⟨_,he⟩|hi
   ·cases he
   ·exact h.A5 i st hi,
  size:=h.size,defers:=h.defers,lR:=h.lR,fr:=h.fr,
  live:=fun t i an=>xo _ (h.live t i an)}
variable{et:TypeId}
theorem Rel.ZS(h:Rel E.P E.aH nt w0 μ φ f m a w){Sz:Nat}(hn:m Sz=none)(er:0<aR E.P et):∃φ',(φ' Sz).g=none∧Rel E.P E.aH nt w0 μ φ' f (al m Sz (.arr (aR E.P et) et [])) a w:=by
 have hf:fresh false Sz (.arr (aR E.P et) et []) f m (fun f m _=>some (f,m))=some (f,al m Sz (.arr (aR E.P et) et [])):=by simp[fresh,hn]
 obtain⟨f1,m1,_,hk,_,_,uA⟩:=dX hf;simp only[AI,Xp]at hk;obtain⟨rfl,rfl⟩:=hk;obtain⟨φ',a1,a2,a3⟩:=uA E.P E.aH w0 μ φ w w (ax nt w0 a) (BI none 0 0 (aR E.P et)) h.toaw ⟨h.fr,h.live⟩ ⟨kv.refl _ _,h.toaw.ro,fun _ _ _ _ _=>rfl,by simp,fun φ' hp _=>by refine⟨by rw[hp];rfl,by rw[hp],rfl,er,by simp,by rw[hp];simp[maxLen],?_⟩;simp_all,by simp[bF.names],fun st h=>by cases h⟩;exact⟨φ',by rw[a1],{toaw:=a2,size:=h.size,defers:=h.defers,lR:=h.lR,fr:=a3.fr,live:=a3.live}⟩
theorem sK{A:Type}{nt:Nat}{a:Act}{w:World}:∀{l:List (Nat×Nat×Nat×TypeId)}{μ:Ro}{φ:Nat→aA}{f:Fr}{m:Mem}{k:Mem→A}{r:A},A2 E.P l m k=r→Rel E.P E.aH nt w0 μ φ f m a w→∃m' φ',k m'=r∧Rel E.P E.aH nt w0 μ φ' f m' a w
 |[],μ,φ,f,m,k,r,h,hR=>⟨m,φ,h,hR⟩
 |(id,j,Sz,et)::l,μ,φ,f,m,k,r,h,hR=>by
  unfold A2 at h;split at h
  ·rename_i cs hm;split at h
   ·rename_i hj;split at h
    ·rename_i hn;split at h
     ·rename_i er;obtain⟨φ',g0,jf⟩:=hR.ZS hn er;have cL:id≠Sz:=fun e=>by simp_all
      exact sK h (jf.TK (by rw[ao cL];omega) hj (.q6 g0) fun i hi=>by have:=IT hi;subst this;simp)
     ·exact sK h hR
    ·exact sK h hR
   ·exact sK h hR
  ·exact sK h hR
theorem zg{A:Type}{nt:Nat}{a:Act}{w:World}:∀{l:List (Nat×Nat×Nat)}{μ:Ro}{φ:Nat→aA}{f:Fr}{m:Mem}{k:Mem→A}{r:A},E0 l m k=r→Rel E.P E.aH nt w0 μ φ f m a w→∃m',k m'=r∧Rel E.P E.aH nt w0 μ φ f m' a w
 |[],μ,φ,f,m,k,r,h,hR=>⟨m,h,hR⟩
 |(id,j,sz)::l,μ,φ,f,m,k,r,h,hR=>by
  unfold E0 at h;split at h
  ·rename_i cs hm;split at h
   ·rename_i hj;exact zg h (hR.TK hm hj (.pv .ko) (fun i hi=>by cases hi))
   ·exact zg h hR
  ·exact zg h hR
theorem il{T:Type}{l:List T}{n i:Nat}{e:T}(h:(l.take n)[i]?=some e):l[i]?=some e∧i<n:=by grind
theorem Rel.Ww(h:Rel E.P E.aH nt w0 μ φ f m a w){s:Nat}{es:List PV}(hm:m id=some (.arr s et es)):Rel E.P E.aH nt w0 μ φ f (al m id (.nest s et es)) a w:=by
 have hA:aK E.P μ φ w id s et es:=h.du id _ hm;have key:∀i b,al m id (.nest s et es) i=some b→(i=id∧b=.nest s et es)∨m i=some b:=fun i b hb=>by
  by_cases e:i=id
  ·simp_all
  simp_all[ao]
 have xo:∀i,(m i).isSome=true→(al m id (.nest s et es) i).isSome=true:=fun i hi=>by
  by_cases e:i=id
  ·simp_all
  ·rw[ao e];omega
 have hN:aX E.P μ φ w id s et es:=by
  obtain⟨h1,h2,h3,h4,h5,h6,h7⟩:=hA;refine⟨h1,h2,h3,h4,h5,h6,?_⟩;cases hg:(φ id).g with
  |none=>rw[hg]at h7;omega
  |some g=>rw[hg]at h7;obtain⟨c,T,c1,c2,c3,c4,c5⟩:=h7;exact⟨c,T,c1,c2,c3,fun i e j p x he hp hx=>.pure (c4 i e j p x he hp hx),c5⟩
 have Bk:∀i off,(bF.nest s et es).rowAt i off=true→False:=fun i off hr=>by
  rcases jM hr with⟨_,_,_,e,s',rs,hb,he,hp⟩|⟨_,_,_,_,_,_,hb,_⟩
  ·cases hb;obtain⟨h1,h2,h3,h4,h5,h6,h7⟩:=hA;cases hg:(φ id).g with
   |none=>simp_all
   |some g=>
    rw[hg]at h7;obtain⟨c,T,c1,c2,c3,c4,c5⟩:=h7;have hi:i<es.length:=(HO.1 he).1;have hj:off<s:=by grind
    have bS:i*s+off<c.size:=by have:(i+1)*s≤(φ id).cap*s:=aaP _ (by omega);grind
    exact Bool.noConfusion (af.B2 (c4 i e off _ _ he hp (OF bS)))
  ·cases hb
 have agC:∀i off,(bF.arr s et es).rowAt i off=true→False:=px;have hM:aw E.P E.aH w0 μ φ (al m id (.nest s et es)) w:=by
  refine h.toaw.Pu (fun _ k=>k) (fun j b' hb=>?_) (fun j b' g hb hg=>?_) (fun j b' hb=>?_) (fun j cs i hb hh=>?_) (fun j st hb=>?_)
  ·rcases key j b' hb with⟨rfl,rfl⟩|hb
   ·exact hN
   ·exact h.du j b' hb
  ·rcases key j b' hb with⟨rfl,rfl⟩|hb
   ·exact⟨j,_,hm,.inl (nH Bk hg),fun _=>rfl,rfl⟩
   grind
  ·rcases key j b' hb with⟨rfl,rfl⟩|hb
   ·exact pV Bk
   ·exact h.apart j b' hb
  ·rcases key j _ hb with⟨_,hb⟩|hb
   ·cases hb
   ·exact xo _ (h.fy j cs i hb hh)
  grind
 exact{toaw:=hM,size:=h.size,defers:=h.defers,lR:=h.lR,fr:=h.fr,live:=fun t i an=>xo _ (h.live t i an)}
theorem Du{A:Type}{nt:Nat}{a:Act}{w:World}:∀{l:List Nat}{μ:Ro}{φ:Nat→aA}{f:Fr}{m:Mem}{k:Mem→A}{r:A},Ip l m k=r→Rel E.P E.aH nt w0 μ φ f m a w→∃m',k m'=r∧Rel E.P E.aH nt w0 μ φ f m' a w
 |[],μ,φ,f,m,k,r,h,hR=>⟨m,h,hR⟩
 |id::l,μ,φ,f,m,k,r,h,hR=>by
  unfold Ip at h;split at h
  ·rename_i s et es hm;exact Du h (hR.Ww hm)
  ·exact Du h hR
theorem Rel.cut(h:Rel E.P E.aH nt w0 μ φ f m a w){j d len s:Nat}{cs:List V}{es:List PV}(hm:m id=some (.box cs))(hj:cs[j]?=some (.fx d 0 len))(hd:m d=some (.arr s et es))(cL:d≠id):∃φ',Rel E.P E.aH nt w0 μ φ' (eL d f) (al (al (bl (bB d m) d) d (.arr s et (es.take len))) id (.box ((cs.map (rn d)).set j (.os d)))) a w:=by
 obtain⟨m',hm'⟩:∃m',m'=al (al (bl (bB d m) d) d (.arr s et (es.take len))) id (.box ((cs.map (rn d)).set j (.os d))):=⟨_,rfl⟩;rw[←hm'];obtain⟨g0,c,T,c1,c2,c3,c4,c5,c6⟩:=h.du _ _ hm;have hA:aK E.P μ φ w d s et es:=h.du d _ hd;have Ad:j<cs.length:=(HO.1 hj).1;have hx:=c4 j _ _ hj (OF (by omega));obtain⟨φ',f1,f2,f3,f4⟩:∃φ':Nat→aA,(∀i,i≠d→φ' i=φ i)∧(φ' d).g=(φ d).g∧aK E.P μ φ' w d s et (es.take len)∧ae E.P μ φ' (.os d) c[j]:=by
  obtain⟨h1,h2,h3,h4,h5,h6,h7⟩:=hA;generalize c[j]=x at hx;cases hx with
  |pO hg=>refine⟨φ,fun _ _=>rfl,rfl,?_,.q6 hg⟩;rw[hg]at h7;obtain⟨rfl,h7⟩:=h7;refine⟨h1,h2,h3,h4,by simp,h6,?_⟩;simp_all
  | @fx _ _ _ cap g ad hg hl ha hc Y3=>
   rw[hg]at h7;obtain⟨q,Tq,q1,q2,q3,q4,q5⟩:=h7;have hlen:(es.take len).length=len:=by simp_all
   have had:ad=⟨g,0,none⟩:=by simp_all
   subst had;refine⟨fun i=>if i=d then{φ d with cap:=cap,len:=len}else φ i,fun i hi=>IN hi,by simp,⟨by simp[hlen],by simpa using h2,h3,h4,fun i e he=>h5 i e (il he).1,by simp;omega,?_⟩,?_⟩
   ·simp only[T1,hg];refine⟨q,Tq,q1,ahl (aaP _ (by omega)) q2,by omega,fun i e j p x he hp hx=>q4 i e j p x (il he).1 hp hx,fun i x hi hx=>q5 i x (Nat.lt_of_lt_of_le hi (aaP _ (by omega))) hx⟩
   ·have:=ae.os (P:=E.P) (μ:=μ) (φ:=fun i=>if i=d then{φ d with cap:=cap,len:=len}else φ i) (id:=d) (g:=g) (by simp[hg]);simpa using this
 have key:∀i b,m' i=some b→(i=id∧b=.box ((cs.map (rn d)).set j (.os d)))∨(i=d∧b=.arr s et (es.take len))∨(i≠id∧i≠d∧∃b',m i=some b'∧b=fZ d b'):=fun i b hb=>by
  rw[hm']at hb;by_cases e:i=id
  ·simp_all
  ·rw[ao e]at hb;by_cases e':i=d
   ·simp_all
   simp_all[ao,fk]
 have xo:∀i,(m i).isSome=true→(m' i).isSome=true:=fun i hi=>by
  rw[hm'];by_cases e:i=id
  ·simp_all
  ·rw[ao e];by_cases e':i=d
   ·simp_all
   simp_all[ao,rL]
 have ZT:∀{i:Nat}{b':bF},(fZ d b').names i=true→i≠d:=fun{i b'}hn=>by cases b'<;>simp only[fZ,bF.names]at hn<;>first|cases hn|exact(wE hn).2
 have hM:aw E.P E.aH w0 μ φ' m' w:=by
  refine h.toaw.Pu (fun _ k=>k) (fun i b' hb=>?_) (fun i b' g hb hg=>?_) (fun i b' hb=>?_) (fun i Ll i' hb hh=>?_) (fun i st hb=>?_)
  ·rcases key i b' hb with⟨rfl,rfl⟩|⟨rfl,rfl⟩|⟨e1,e2,b2,tf,rfl⟩
   ·refine⟨g0,c,T,by grind,c2,by simpa using c3,fun n v x hv Pr=>?_,c5,by grind⟩;rw[ahb]at hv;split at hv
    ·simp_all
    ·simp only[IS,aaO]at hv;obtain⟨v',QL,rfl⟩:=hv;exact((c4 n v' x QL Pr).kill d).mono (fun _ _ h=>h) fun i hi=>f1 i (uP hi).2
   ·exact f3
   ·exact(h.du i b2 tf).kill.cr (fun k hk=>f1 k (ZT hk)) (f1 i e2) (fun _ _ h=>h) (fun _ _=>rfl)
  ·rcases key i b' hb with⟨rfl,rfl⟩|⟨rfl,rfl⟩|⟨e1,e2,b2,tf,rfl⟩
   ·refine⟨i,_,hm,.inl ?_,fun _=>rfl,rfl⟩;have:=nH (by intro i off h;simp[bF.rowAt]at h) hg;grind
   ·refine⟨i,_,hd,.inl ?_,fun _=>rfl,rfl⟩;grind [nH,px]
   ·refine⟨i,b2,tf,?_,fun ED=>by rw[wF]at ED;omega,rfl⟩;rw[f1 i e2]at hg;exact fU.1 hg
  ·rcases key i b' hb with⟨rfl,rfl⟩|⟨rfl,rfl⟩|⟨e1,e2,b2,tf,rfl⟩
   ·grind [pV,bF.rowAt]
   ·exact pV px
   ·rw[f1 i e2];exact tw.2 (h.apart i b2 tf)
  ·rcases key i _ hb with⟨rfl,hb⟩|⟨rfl,hb⟩|⟨e1,e2,b2,tf,e⟩
   ·simp only[bF.box.injEq]at hb;subst hb;rcases I0 _ _ hh with hh|hh
    ·exact xo _ (h.fy _ _ _ hm (wE hh).1)
    ·have:=IT hh;simp_all
   ·cases hb
   ·cases b2 with
    |box cs2=>simp only[fZ,bF.box.injEq]at e;subst e;exact xo _ (h.fy _ _ _ tf (wE hh).1)
    |_=>simp[fZ]at e
  ·rcases key i _ hb with⟨rfl,hb⟩|⟨rfl,hb⟩|⟨e1,e2,b2,tf,e⟩
   ·cases hb
   ·cases hb
   ·cases b2 with
    |loop st2=>simp_all[fZ,bF.loop.injEq]
    |_=>simp[fZ]at e
 exact⟨φ',{toaw:=hM,size:=h.size,defers:=h.defers,lR:=h.lR,fr:=(fun t=>((h.fr t).kill d).mono (fun _ _ h=>h) fun i hi=>f1 i (uP hi).2),live:=fun t i an=>xo _ (h.live t i (uP an).1)}⟩
theorem sL{A:Type}{nt:Nat}{a:Act}{w:World}:∀{l:List (Nat×Nat)}{μ:Ro}{φ:Nat→aA}{f:Fr}{m:Mem}{k:Fr→Mem→A}{r:A},A3 l f m k=r→Rel E.P E.aH nt w0 μ φ f m a w→∃f' m' φ',k f' m'=r∧Rel E.P E.aH nt w0 μ φ' f' m' a w
 |[],μ,φ,f,m,k,r,h,hR=>⟨f,m,φ,h,hR⟩
 |(id,j)::l,μ,φ,f,m,k,r,h,hR=>by
  unfold A3 at h;split at h
  ·rename_i cs hm;split at h
   ·rename_i d len hj;split at h
    ·rename_i s et es hd;split at h
     ·exact sL h hR
     ·rename_i cL;have cL:d≠id:=fun e=>cL (by simp_all);obtain⟨φ',jf⟩:=hR.cut hm hj hd cL;exact sL h jf
    ·exact sL h hR
   ·exact sL h hR
  ·exact sL h hR
theorem I1{A:Type}{T:eW}{k:Fr→Mem→A}{r:A}(h:E1 E.P T f m k=r)(hR:Rel E.P E.aH nt w0 μ φ f m a w):∃f' m' μ' φ',k f' m'=r∧Rel E.P E.aH nt w0 μ' φ' f' m' a w:=by unfold E1 at h;obtain⟨_,_,_,h,hR⟩:=sL h hR;obtain⟨m1,φ1,h,hR⟩:=sK h hR;obtain⟨m',h,hR⟩:=zg h hR;obtain⟨m',h,hR⟩:=Du h hR;obtain⟨f',m',μ',h,hR⟩:=sJ h hR;grind
def TL:Ex→Exit
 |.normal=>.normal
 |.exit id=>.exit id
 |.ret=>.ret
theorem Rel.TM(h:Rel E.P E.aH nt w0 μ φ f m a w):Rel E.P E.aH nt w0 μ φ f m a {w with drawn:=w.drawn+1}:={toaw:=h.toaw.drew,size:=h.size,defers:=h.defers,lR:=h.lR,fr:=h.fr,live:=h.live}
theorem Rg{rd:Option Nat}(hE:jJ E)(hY:sw E.P E.aH E.fn.ntmps E.yl w0){R:Type}{ops:Array Oper}{draw:Bool}{k:Ex→Fr→Mem→Option R}{r:R}(h:fj E (.region id ops draw) f m k=some r){Q:Exit→Act→World→Prop}(hR:Rel E.P E.aH E.fn.ntmps w0 μ φ f m a w)(hQ:∀f' m' μ' φ' a' w',k .normal f' m'=some r→Rel E.P E.aH E.fn.ntmps w0 μ' φ' f' m' a' w'→Q .normal a' w'):(Code.region id ops draw).wpIn (FR rd) 0 E.P Q a w:=by
 simp only[fj]at h;cases draw with
 |false=>
  simp only[AT,Xq]at h;refine wpIn_region ?_;have hmz:∀x∈(List.range ops.size).zip ops.toList,ops[x.1]?=some x.2:=fun x hx=>by have:=(rR (l:=ops.toList) (i:=x.1) (o:=x.2)).1 (by omega);simp_all
  have:=hZ (rd:=rd) hE hY _ (.inl rfl) h hmz (by intro x hx g hg;cases hg) (fun h=>by omega) μ φ a w Q [] hR (by intro g hg;cases hg) fun f' m' μ' φ' a' w' hk jf _ _=>hQ f' m' μ' φ' a' w' hk jf;simp_all[aij,List.map_fst_zip]
 |true=>
  simp only[T1]at h;split at h
  ·split at h
   ·rename_i hc;simp only[T2]at hc;exact wpIn_region_any hE.mixed (LW hE hY hc.1.1 hc.1.2 hc.2 h hR.TM hQ)
   ·cases h
  split at h
  ·rename_i hi;refine wpIn_region_any hE.mixed ?_;split at h
   ·rename_i EH;exact Dn hE hY (.inl rfl) (fun _ o ho=>(Bool.and_eq_true_iff.1 (ahq.1 EH o (ah4.2 ho))).1) hi h hR.TM hQ
   ·exact Dn hE hY (.inr rfl) (fun h=>by omega) hi h hR.TM hQ
  ·cases h
end
theorem Wx{g:FuncId}{fn:Func}(hf:P.funcs[g]?=some fn)(X0:(fn.name== "runtime.NumGoroutine")=false)(hb:fn.body=some c){args:Array Value}{w:World}:(callFunc g args).run P w=.ok (.enter g args) w:=wI hf X0 hb
theorem Rh{nt:Nat}{w0:bu}{a:Act}{t:Nat}:ax nt w0 a (t+nt)=w0.sv (t+nt):=by unfold ax;rw[IN (by omega)]
def Ao(c:Code):Prop:=∀{E:Env}{w0:bu}{rd:Option Nat}(_:jJ E)(_:sw E.P E.aH E.fn.ntmps E.yl w0)(_:E.YX=false→rd=none){R:Type}{f:Fr}{m:Mem}{k:Ex→Fr→Mem→Option R}{r:R},fj E c f m k=some r→∀{μ:Ro}{φ:Nat→aA}{a:Act}{w:World}{Q:Exit→Act→World→Prop},Rel E.P E.aH E.fn.ntmps w0 μ φ f m a w→(∀e f' m' μ' φ' a' w',k e f' m'=some r→Rel E.P E.aH E.fn.ntmps w0 μ' φ' f' m' a' w'→Q (TL e) a' w')→c.wpIn (FR rd) 0 E.P Q a w
theorem TN{as b:Code}(ihA:Ao as)(ihB:Ao b){E:Env}(hE:jJ E){w2:bu}{lid l ntI:Nat}{ps:Array Nat}{rc:Loop}{fid:Nat}(Ws:w2.rc lid=some (l,rc))(ou:rc.params=ps)(has:rc.assign=as)(hb:rc.body=b)(mP:rc.tmps.size=E.fn.ntmps)(hsv:∀t,t<E.fn.ntmps→w2.sv (t+ntI)=rc.tmps.getD t undef):sw E.P E.aH ntI (fun _ nt _ id args F m k=>bif Nat.beq id lid then roundOf (fj {E with fid:=fid,yl:=zN,YX:=true} as) (fj {E with fid:=fid,yl:=zN,YX:=true} b) lid E.fn.ntmps ps.toList nt args F m k else none) w2:=by
 intro R site id args F m k r hy μ φ ρ w xs hM hF hρ hl hr GH g hg;dsimp only at hy;cases an:Nat.beq id lid with
 |false=>rw[an]at hy;cases hy
 |true=>
  rw[an]at hy;have an:=IT an;subst an;simp only[cond_true]at hy;unfold roundOf at hy;split at hy
  ·rename_i hml;split at hy
   ·rename_i GN;obtain⟨g',rc',l1,l2,l3⟩:=hM.A5 id _ hml;rw[Ws]at l2;simp only[AI,Xp]at l2;obtain⟨rfl,rfl⟩:=l2;rw[l1]at hg;simp only[AI]at hg;subst hg;have H6:xs.size=(KT.ready.obj rc).params.size:=by
     have:ps.toList.length=ps.size:=by simp
     show xs.size=rc.params.size;rw[ou];omega
    refine⟨_,_,_,_,run_yield l3 H6,?_⟩;have hE':jJ {E with fid:=fid,yl:=zN,YX:=true}:=⟨hE.mixed,hE.lp,hE.ctx,hE.own,hE.inl,hE.YW⟩;have Yj:=FG (P:=E.P) (μ:=μ) (φ:=φ) ps.toList args xs.toList (uI ntI F) rc.tmps mP (by omega) (fun t ht=>by have:=hF.fr (t+ntI);rw[hρ _ (by omega),hsv t ht]at this;exact this) (fun i v x hv hx=>hr i v x hv (by simpa using hx));have hR3:Rel E.P E.aH E.fn.ntmps {w2 with sv:=fun t=>ρ (t-E.fn.ntmps),dx:=μ,lR:=fun _=>none} μ φ (Pe E.fn.ntmps (Cw ps.toList args (uI ntI F)) F) m {tmps:=((KT.ready.obj rc).params.zip xs).foldl (fun tmps(t,a)=>tmps.setIfInBounds t a) (KT.ready.obj rc).tmps,defers:=[]} w:=by
     have e:((KT.ready.obj rc).params.zip xs).foldl (fun tmps(t,a)=>tmps.setIfInBounds t a) (KT.ready.obj rc).tmps=(ps.toList.zip xs.toList).foldl (fun tmps(x:Nat×Value)=>tmps.setIfInBounds x.1 x.2) rc.tmps:=by rw[TH];show(rc.params.toList.zip xs.toList).foldl _ rc.tmps=_;rw[ou]
     rw[e];refine{toaw:=hM.uO rfl rfl (fun _ _ h=>h) (fun _ _ _=>rfl),size:=Yj.1,defers:=.nil _ _ _,lR:=fun _ _ h=>(by cases h),fr:=fun t=>?_,live:=fun t id an=>?_}
     ·unfold Pe ax;by_cases ht:t<E.fn.ntmps
      ·rw[show Nat.blt t E.fn.ntmps=true by simp_all,BY ht];exact Yj.2 t ht
      ·rw[show Nat.blt t E.fn.ntmps=false by rw[←ahM,ahC];omega,IN ht];exact hF.fr _
     ·unfold Pe at an;cases e:Nat.blt t E.fn.ntmps with
      |true=>
       rw[e]at an;rcases Dp _ _ _ _ an with h|h
       ·exact GH id h
       ·exact hF.live _ id h
      |false=>rw[e]at an;exact hF.live _ id an
    refine roundIn_of_wpIn trivial ?_;show(KT.ready.obj rc).assign.wpIn (FR (some l)) 0 E.P _ _ _;have XN:(KT.ready.obj rc).assign=as:=has;rw[XN];refine ihA (rd:=some l) hE' (yT _ _ _ _) (fun h=>by cases h) hy hR3 fun e f1 m1 μ1 φ1 a1 w1 QX LQ=>?_;split at QX
    ·rename_i ZK;obtain⟨g1,rc1,p1,p2,p3⟩:=LQ.A5 id _ ZK;have p2:w2.rc id=some (g1,rc1):=p2;rw[Ws]at p2;simp only[AI,Xp]at p2;obtain⟨rfl,rfl⟩:=p2;refine⟨_,run_beginRound p3 rfl,?_⟩;have gX:(KT.ready.obj rc).body=b:=hb;refine Eq.mpr (congrArg (fun c:Code=>c.wpIn (FR (some l)) 0 E.P _ a1 _) gX) ?_;have tx:=LQ.toaw.turn (st':=.busy) ZK p1 Ws;have aeP:Rel E.P E.aH E.fn.ntmps {w2 with sv:=fun t=>ρ (t-E.fn.ntmps),dx:=μ,lR:=fun _=>none} μ1 φ1 f1 (al m1 id (.loop .busy)) a1 (w1.putObj l (.loop {KT.ready.obj rc with state:=.busy})):=
      {toaw:=tx,size:=LQ.size,defers:=LQ.defers,lR:=LQ.lR,fr:=LQ.fr,live:=fun t j hj=>by
        by_cases e:j=id
        ·subst e;simp
        ·rw[ao e];exact LQ.live t j hj}
     refine ihB (rd:=some l) hE' (yT _ _ _ _) (fun h=>by cases h) QX aeP fun e f2 m2 μ2 φ2 a2 w2' Wb Fu=>?_;split at Wb
     ·rename_i cQ;obtain⟨g2,rc2,q1,q2,q3⟩:=Fu.A5 id _ cQ;have q2:w2.rc id=some (g2,rc2):=q2;rw[Ws]at q2;simp only[AI,Xp]at q2;obtain⟨rfl,rfl⟩:=q2;have hle:II μ μ2:=Fu.dx;have hFp:bX E.P μ2 φ2 m2 (uI E.fn.ntmps f2) ρ:=by refine⟨fun t=>?_,fun t id an=>Fu.live _ id an⟩;have:=Fu.fr (t+E.fn.ntmps);simp_all[Rh,uI]
      have fin:∀(st:KT)(v:Bool),k (.pv (.bool v)) (uI E.fn.ntmps f2) (al m2 id (.loop st))=some r→∃v' f' m' y μ' φ',k v' f' m'=some r∧Ending.returned (.bool v)=.returned y∧II μ μ'∧aw E.P E.aH w2 μ' φ' m' (w2'.putObj l (.loop (st.obj rc)))∧bX E.P μ' φ' m' f' ρ∧ae E.P μ' φ' v' y∧∀id,v'.has id=true→(m' id).isSome=true:=by
       intro st v hk;have hM2:=Fu.toaw.turn (st':=st) cQ q1 Ws;refine⟨_,_,_,_,μ2,φ2,hk,rfl,hle,hM2.uO rfl rfl (fun b o hb=>hle b o (hM.dx b o hb)) (fun _ _ _=>rfl),⟨hFp.fr,fun t j hj=>?_⟩,.pv .bool,fun id an=>by cases an⟩;by_cases e:j=id
       ·subst e;simp
       ·rw[ao e];exact hFp.live t j hj
      cases e with
      |normal=>exact⟨_,_,run_endRound none q3,fin .ready true Wb⟩
      |exit j=>exact⟨_,_,run_endRound (some (.exit j)) q3,fin (.done (.exit j)) false Wb⟩
      |ret=>exact⟨_,_,run_endRound (some .ret) q3,fin (.done .ret) false Wb⟩
     ·cases Wb
    ·cases QX
   ·cases hy
  ·cases hy
theorem Wy{μ:Ro}{φ:Nat→aA}{m:Mem}{v:V}{g:FuncId}{caps:List V}{y:Value}(h:YY v=some (g,caps))(hv:ae P μ φ v y)(hl:∀id,v.has id=true→(m id).isSome=true):∃xs,y=.func (.func g) #[] xs∧caps.length=xs.size∧(∀(i:Nat)v x,caps[i]?=some v→xs[i]?=some x→ae P μ φ v x)∧∀id,ck id caps=true→(m id).isSome=true:=by
 unfold YY at h;split at h
 ·rename_i g0 c0;cases e:Nat.blt g0 Cj with
  |false=>rw[e]at h;cases h
  |true=>
  rw[e]at h;simp only[cond_true,AI,Xp]at h;obtain⟨rfl,rfl⟩:=h;cases hv with
  | @fn _ _ xs h1 h2=>grind [pP,id,V.has]
 ·rename_i g0 c0;cases e:Nat.blt g0 Cj with
  |false=>rw[e]at h;cases h
  |true=>
  rw[e]at h;simp only[cond_true,AI,Xp]at h;obtain⟨rfl,rfl⟩:=h;cases hv with
  |pv hv=>cases hv with
   | @fn _ _ xs h1 h2=>
    refine⟨xs,pP e,by simpa using h1,fun i v x hv hx=>?_,fun id an=>?_⟩
    ·simp only[IS,aaO]at hv;obtain⟨q,hq,rfl⟩:=hv;exact .pv (h2 i q x hq hx)
    ·obtain⟨v,hv,hh⟩:=cF.1 an;obtain⟨q,_,rfl⟩:=agZ.1 hv;cases hh
 ·cases h
theorem G2{g:Operand}{ps:Array Tmp}{as b:Code}(ihA:Ao as)(ihB:Ao b):Ao (.rangeFunc g ps as b):=by
 intro E w0 rd hE hY iF R f m k r h μ φ a w Q hR hQ;simp only[fj]at h;split at h
 ·cases h
 rename_i Tp;have iF:=iF (by simpa using Tp);subst iF;split at h;rotate_left
 ·cases h
 rename_i p0 pr GJ;generalize agD:cD E (some p0)=lid at h;obtain⟨f1,m1,_,h,hml,xj,aeQ⟩:=dX h;obtain⟨hm0,rfl,rfl⟩:=xj rfl;refine wpIn_rangeFunc fun fn _=>?_;obtain⟨rec,fq⟩:∃rec:Loop,rec={state:=.ready,pending:=none,fn,tmps:=a.tmps,params:=ps,assign:=as,body:=b,defers:=w.heap.size}:=⟨_,rfl⟩;obtain⟨wD,hwD⟩:∃wD,wD=w.alloc (.deferred (some [])):=⟨_,rfl⟩;obtain⟨W1,hW1⟩:∃W1,W1=wD.alloc (.loop rec):=⟨_,rfl⟩;obtain⟨l,hl⟩:∃l,l=wD.heap.size:=⟨_,rfl⟩;have KV:l=w.heap.size+1:=by rw[hl,hwD];simp
 obtain⟨μD,ZU⟩:∃μD,μD=Br μ w (.deferred (some [])):=⟨_,rfl⟩;have Wz:II μ μD:=ZU▸IY hR.toaw _;have hMD:aw E.P E.aH w0 μD φ m wD:=ZU▸hwD▸hR.toaw.Wt _;have hD:μD w.heap.size=some (.deferred (some [])):=by rw[ZU];simp[Br]
 obtain⟨w1,Er⟩:∃w1:bu,w1={w0 with dx:=μD,rc:=fun i=>if i=lid then some (l,rec)else w0.rc i}:=⟨_,rfl⟩;have abF:aw E.P E.aH w1 μD φ m wD:=Er▸hMD.uO rfl rfl (fun _ _ h=>h) (fun id st an=>IN fun e=>by simp_all);have B3:ax E.fn.ntmps w1 a=ax E.fn.ntmps w0 a:=by subst Er;rfl
 have hFD:bX E.P μD φ m f1 (ax E.fn.ntmps w0 a):=⟨fun t=>(hR.fr t).w8 Wz,hR.live⟩;have abG:w1.rc lid=some (l,rec):=by simp_all
 have QM:W1.heap[l]?=some (.loop rec):=by grind [heap_alloc_new]
 have KU:KT.ready.obj rec=rec:=by subst fq;rfl
 have rQ:kq E.P w1 μD φ m wD W1 lid (.loop .ready) (BI (some l) 0 0 0):=by
  rw[hW1];refine kq.alloc abF (by rw[hl]) (fun φ' hp _=>⟨l,rec,by rw[hp],?_⟩) (by simp[bF.names]) fun st pw=>?_
  ·simp_all
  simp_all
 obtain⟨φ1,aeR,tx,BK⟩:=aeQ E.P E.aH w1 μD φ wD W1 (ax E.fn.ntmps w0 a) (BI (some l) 0 0 0) abF hFD rQ;have LQ:Rel E.P E.aH E.fn.ntmps w1 μD φ1 f1 (al m lid (.loop .ready)) a W1:={toaw:=tx,size:=hR.size,defers:=(by have:=hR.defers.mono Wz;subst Er;omega),lR:=(by subst Er;exact fun b o hb=>Wz b o (hR.dx b o (hR.lR b o hb))),fr:=fun t=>by rw[B3];exact BK.fr t,live:=BK.live};have Q8:=ak LQ g;split at h;rotate_left
 ·cases h
 rename_i gid caps oz;obtain⟨xs,hgv,hlen,jI,aeS⟩:=Wy oz Q8.1 Q8.2
 ·clear Q8;obtain⟨fnI,cI,f1,f2,f3,zh⟩:=hE.YW _ _ _ _ _ _ _ _ _ h;have XL:ae E.P μD φ1 (.yl lid) (.func (.yield l) #[] #[]):=.yl (by rw[aeR]);have hC:=zh w1 μD φ1 (ax E.fn.ntmps w0 a) W1 (#[.func (.yield l) #[] #[]]++xs) tx BK (by simp;omega) (fun i v x hv hx=>by
    grind) (fun id an=>by
    simp only[ck,afk]at an;rcases an with an|an
    ·have:=IT an;subst this;simp
    ·exact aeS id an) (by
   refine fun R site id args F m k r hy=>TN (fid:=site*4096+E.fid%4096) ihA ihB hE (w2:={w1 with sv:=fun t=>ax E.fn.ntmps w0 a (t-fnI.ntmps)}) (rc:=rec) (l:=l) (lid:=lid) (ps:=ps) abG (by subst fq;rfl) (by subst fq;rfl) (by subst fq;rfl) (by subst fq;exact hR.size) (fun t ht=>by grind [ax,Nat.add_sub_cancel,pN]) R site id args F m k r hy)
  refine⟨l,[{target:=.collected w.heap.size,args:= #[]}],W1,{target:=.fn (.func gid) xs,args:= #[.func (.yield l) #[] #[]]},W1,gid,#[.func (.yield l) #[] #[]]++xs,W1,?_,?_,?_,?_,?_,?_⟩
  ·have:=run_enterLoop_outer (P:=E.P) (w:=w) fn a.tmps ps as b;rw[KV,hW1,hwD,fq];exact this
  ·simp only[resolve,hgv];simp[go_sem]
  ·exact fun _ _=>trivial
  ·grind [invoke,Wx]
  ·decide
  ·refine FR.Px (hC.mono ?_);rintro e w' ⟨v,f',m',y,μ',φ',hk,rfl,SR,hF',_,_⟩;have abH:II μD μ':=by have:=SR.dx;subst Er;omega
   have hD':μ' w.heap.size=some (.deferred (some [])):=abH _ _ hD;have main:∀st,m' lid=some (.loop st)→st≠.busy→∃w4,(Instr.endLoop l).run E.P w'=.ok (st.obj rec).pending w4∧Rel E.P E.aH E.fn.ntmps w0 μ' φ' (eL lid f') (bl (bB lid m') lid) {a with defers:=[{target:=.collected w.heap.size,args:= #[]}]++a.defers} w4:=by
    intro st pw hnb;obtain⟨g',rc',p1,p2,p3⟩:=SR.A5 lid st pw;rw[abG]at p2;simp only[AI,Xp]at p2;obtain⟨rfl,rfl⟩:=p2;have uN:=SR.own lid _ _ pw (.inl p1);have hMf:=SR.forget lid;have Bk:∀id b,bl (bB lid m') lid id=some b→¬b.dU (φ' id) l:=fun id b' an e=>by obtain⟨cL,b2,tf,rfl⟩:=fk an;exact cL (SR.inj id lid b2 _ l tf pw (fU.1 e) (.inl p1))
    have hM4:=hMf.other (.loop {st.obj rec with state:=.exhausted}) uN.1 (uN.2 rfl) Bk;have hM5:aw E.P E.aH w0 μ' φ' (bl (bB lid m') lid) (w'.putObj l (.loop {st.obj rec with state:=.exhausted})):=hM4.uO (by subst Er;rfl) (by subst Er;rfl) (fun b o hb=>abH b o (Wz b o (hR.dx b o hb))) (fun id st an=>by
      have cL:id≠lid:=fun e=>by subst e;simp at an
      subst Er;exact(IN cL).symm)
    refine⟨_,run_endLoop p3 (by cases st<;>simp_all[KT.obj]),{toaw:=hM5,size:=hR.size,defers:=?_,lR:=hR.lR,fr:=?_,live:=?_}⟩
    ·obtain⟨Ds,e,hnd,hDs⟩:=hR.defers;have bS:∀b o,μ b=some o→b<w.heap.size:=fun b o hb=>(YH.1 (hR.ro b o hb)).1;refine⟨w.heap.size::Ds,by simp[e],ajA.2 ⟨fun hd=>?_,hnd⟩,fun D hd=>?_⟩
     ·grind
     ·rcases afh.1 hd with rfl|hd
      ·refine⟨hR.below.size,?_,hD'⟩;cases ho:w0.lR w.heap.size with
       |none=>rfl
       |some o=>have:=bS _ _ (hR.dx _ _ (hR.lR _ _ ho));omega
      grind
    ·exact(hF'.forget lid).fr
    ·exact(hF'.forget lid).live
   dsimp only at hk;split at hk
   ·rename_i pw;obtain⟨w4,e1,e2⟩:=main .ready pw (by simp);exact⟨none,w4,e1,hQ .normal _ _ _ _ _ _ hk e2⟩
   ·rename_i j pw;obtain⟨w4,e1,e2⟩:=main (.done j) pw (by simp);refine⟨some j.code,w4,e1,?_⟩;cases j with
    |ret=>exact wpIn_ret (hQ .ret _ _ _ _ _ _ hk e2)
    |exit id=>exact wpIn_exit (hQ (.exit id) _ _ _ _ _ _ hk e2)
   ·cases hk
theorem TO:∀(c:Code),Ao c:=by
 intro c;induction c with
 |skip=>intro E w0 rd hE hY iF R f m k r h μ φ a w Q hR hQ;simp only[fj]at h;exact wpIn_skip (hQ .normal _ _ _ _ _ _ h hR)
 |region id ops draw=>intro E w0 rd hE hY iF R f m k r h μ φ a w Q hR hQ;exact Rg hE hY h hR (hQ .normal)
 |seq x y ihx ihy=>
  intro E w0 rd hE hY iF R f m k r h μ φ a w Q hR hQ;simp only[fj]at h;refine wpIn_seq (ihx hE hY iF h hR fun e f' m' μ' φ' a' w' hk jf=>?_);cases e with
  |normal=>exact ihy hE hY iF hk jf hQ
  |exit id=>exact hQ (.exit id) _ _ _ _ _ _ hk jf
  |ret=>exact hQ .ret _ _ _ _ _ _ hk jf
 |cond c x y ihx ihy=>
  intro E w0 rd hE hY iF R f m k r h μ φ a w Q hR hQ;simp only[fj]at h;split at h
  ·rename_i t b hb;have hv:a.eval (.tmp t)=.bool b:=by have:=(ak hR (.tmp t)).1;grind [qi]
   have gX:f t=.pv (.bool b):=(C7 hb).2;have hle:uB (fY f t (.pv (.bool b))) f:=fun s=>by
    simp only[fY];cases e:Nat.beq s t with
    |true=>simp_all
    |false=>simp
   cases b with
   |true=>simp only[T1]at h;exact wpIn_cond_true hv (ihx hE hY iF h (hR.weaken hle) hQ)
   |false=>simp only[AT,Xq]at h;exact wpIn_cond_false hv (ihy hE hY iF h (hR.weaken hle) hQ)
  ·cases h
 |block id b ih=>
  intro E w0 rd hE hY iF R f m k r h μ φ a w Q hR hQ;simp only[fj]at h;refine wpIn_block (ih hE hY iF h hR fun e f' m' μ' φ' a' w' hk jf=>?_);cases e with
  |normal=>exact hQ .normal _ _ _ _ _ _ hk jf
  |exit j=>
   simp only[Ex.SA]at hk;simp only[TL,Exit.inBlock];split at hk
   ·rename_i hj;rw[BY hj];exact hQ .normal _ _ _ _ _ _ hk jf
   ·rename_i hj;rw[IN hj];exact hQ (.exit j) _ _ _ _ _ _ hk jf
  |ret=>exact hQ .ret _ _ _ _ _ _ hk jf
 |loop b ih=>
  intro E w0 rd hE hY iF R f m k r h μ φ a w Q hR hQ;simp only[fj]at h;split at h
  ·rename_i T _;obtain⟨f,m,μ,φ,h,hR⟩:=I1 h hR;obtain⟨s,hs,s1,s2,s3,s4⟩:=TJ h;obtain⟨n0,hs⟩:=hE.lp _ _ _ _ _ hs;refine FH (fun n a w=>∃s μ φ,Rel E.P E.aH E.fn.ntmps w0 μ φ (Lf T s) (Cv T s) a w∧cY (fun s rec=>fj E b (Lf T s) (Cv T s) (Ex.Iq (fun f m=>E1 E.P T f m fun f m=>enc T f m rec) k)) n s=some r) ?_ n0 a w ⟨s,μ,φ,hR.dec s1 s2 s3 s4,hs⟩;rintro n a w ⟨s,μ,φ,hR,hs⟩;cases n with
   |zero=>simp[cY]at hs
   |succ n=>
    refine⟨n,rfl,?_⟩;simp only[cY]at hs;refine ih hE hY iF hs hR fun e f' m' μ' φ' a' w' hk jf=>?_;cases e with
    |normal=>obtain⟨f',m',μ',φ',hk,jf⟩:=I1 hk jf;obtain⟨s',hs',t1,t2,t3,t4⟩:=TJ hk;exact⟨s',μ',φ',jf.dec t1 t2 t3 t4,hs'⟩
    |exit j=>exact hQ (.exit j) _ _ _ _ _ _ hk jf
    |ret=>exact hQ .ret _ _ _ _ _ _ hk jf
  ·refine FH (fun n a w=>∃f m μ φ,Rel E.P E.aH E.fn.ntmps w0 μ φ f m a w∧Io (fun f m rec=>fj E b f m (Ex.Iq rec k)) n f m=some r) ?_ E.u a w ⟨f,m,μ,φ,hR,h⟩;rintro n a w ⟨f,m,μ,φ,hR,hs⟩;cases n with
   |zero=>simp[Io]at hs
   |succ n=>
    refine⟨n,rfl,?_⟩;simp only[Io]at hs;refine ih hE hY iF hs hR fun e f' m' μ' φ' a' w' hk jf=>?_;cases e with
    |normal=>exact⟨f',m',μ',φ',jf,hk⟩
    |exit j=>exact hQ (.exit j) _ _ _ _ _ _ hk jf
    |ret=>exact hQ .ret _ _ _ _ _ _ hk jf
 |exit id=>intro E w0 rd hE hY iF R f m k r h μ φ a w Q hR hQ;simp only[fj]at h;exact wpIn_exit (hQ (.exit id) _ _ _ _ _ _ h hR)
 |label l=>intro E w0 rd hE hY iF R f m k r h μ φ a w Q hR hQ;simp only[fj]at h;exact wpIn_label (hQ .normal _ _ _ _ _ _ h hR)
 |ret=>intro E w0 rd hE hY iF R f m k r h μ φ a w Q hR hQ;simp only[fj]at h;exact wpIn_ret (hQ .ret _ _ _ _ _ _ h hR)
 |scope b ih=>intro E w0 rd hE hY iF R f m k r h μ φ a w Q hR hQ;simp only[fj]at h;exact Rf (ih hE hY iF h hR fun e f' m' μ' φ' a' w' hk jf=>by cases e<;>exact hQ _ _ _ _ _ _ _ hk jf)
 |rangeFunc g ps as b ihA ihB=>exact G2 ihA ihB
 |_=>intro E w0 rd hE hY iF R f m k r h;simp[fj]at h
def Obj.ZV:Obj→Bool
 |.cells .. =>true
 |.map .. =>true
 |_=>false
def PG(μ μ':Ro):Prop:=∀b o,μ b=some o→Obj.ZV o=true→μ' b=some o
theorem PG.trans{a b c:Ro}(h:PG a b)(k:PG b c):PG a c:=fun x o hx ho=>k x o (h x o hx ho) ho
section
variable {P:Program} {G:Nat→Option (List PV)} {w0:bu} {μ μ':Ro} {φ:Nat→aA} {m:Mem} {w w':World}
variable{x:Value}
theorem Dv(h:PG μ μ'){b o:Nat}(hx:cellAt μ b o=some x):cellAt μ' b o=some x:=by
 unfold cellAt at*;split at hx
 ·rename_i c t fz hb;rw[h _ _ hb rfl];exact hx
 ·cases hx
theorem af.off(h:PG μ μ'){p:PV}(hp:af P μ p x):af P μ' p x:=by
 induction hp with
 |int h=>exact .int h
 |bool=>exact .bool
 |str h=>exact .str h
 |agg h1 _ h3 ih=>exact .agg h1 ih h3
 |bn h1 _ ih=>exact .bn h1 ih
 |o9=>exact .o9
 |rp X h1 _ h3 ih=>exact .rp X (fun i p hi=>Dv h (h1 i p hi)) ih h3
 |ko=>exact .ko
 |Ez h=>exact .Ez h
 |rs X h1 h2 h3 h4 _ h6 ih=>exact .rs X h1 h2 h3 (fun i e j p hi hj=>Dv h (h4 i e j p hi hj)) ih h6
 |ux=>exact .ux
 |rm h1 h2 h3 h4 h5 _ _ ih1 ih2=>exact .rm (h _ _ h1 rfl) h2 h3 h4 h5 ih1 ih2
 |zL=>exact .zL
 |fn h1 _ ih=>exact .fn h1 ih
 |SH=>exact .SH
 |VT=>exact .VT
 |bad=>exact .bad
theorem w7.off(h:PG μ μ'){g:Nat}{cs:List PV}(hv:w7 P μ g cs):w7 P μ' g cs:=⟨hv.rep.off h,let⟨c,T,z,h1,h2⟩:=hv.size;⟨c,T,z,h _ _ h1 rfl,h2⟩⟩
theorem ae.off(h:PG μ μ'){v:V}{x:Value}(hv:ae P μ φ v x):ae P μ' φ v x:=by
 induction hv with
 |pv hp=>exact .pv (hp.off h)
 |gF=>exact .gF
 |op hg=>exact .op hg
 |oe hg=>exact .oe hg
 |q6 hg=>exact .q6 hg
 |os hg=>exact .os hg
 |pO hg=>exact .pO hg
 |fx hg hl ha hc Y3=>exact .fx hg hl ha hc Y3
 |GI hg=>exact .GI hg
 |uF hg=>exact .uF hg
 |yL hg hs=>exact .yL hg hs
 |om hg=>exact .om hg
 |yl hg=>exact .yl hg
 |it hg=>exact .it hg
 |fn h1 _ ih=>exact .fn h1 ih
 |agg h1 _ h3 ih=>exact .agg h1 ih h3
 |bn h1 _ ih=>exact .bn h1 ih
 |top=>exact .top
theorem aK.off(h:PG μ μ'){id sz:Nat}{et:TypeId}{es:List PV}(ha:aK P μ φ w id sz et es)(hw:∀g,(φ id).g=some g→w'.heap[g]?=w.heap[g]?):aK P μ' φ w' id sz et es:=by
 obtain⟨a1,a2,a3,a4,a5,a6,a7⟩:=ha;refine⟨a1,a2,a3,a4,a5,a6,?_⟩;cases hg:(φ id).g with
 |none=>rw[hg]at a7;exact a7
 |some g=>rw[hg]at a7;obtain⟨c,T,c1,c2,c3,c4,c5⟩:=a7;exact⟨c,T,by rw[hw g hg];exact c1,c2,c3,fun i e j p x h1 h2 h3=>(c4 i e j p x h1 h2 h3).off h,c5⟩
theorem eB.off(hh:PG μ μ'){R:A6}{s:Nat}{rs:List PV}{x:Value}(h:eB P μ R w s rs x)(hw:∀g,R.g=some g→w'.heap[g]?=w.heap[g]?):eB P μ' R w' s rs x:=
 let⟨⟨et,hA⟩,hV⟩:=h
 ⟨⟨et,hA.off hh hw⟩,hV.off hh⟩
theorem dW.off(hh:PG μ μ'){R:A6}{p:PV}{x:Value}(h:dW P μ R w p x)(hw:p.isRow=true→∀g,R.g=some g→w'.heap[g]?=w.heap[g]?):dW P μ' R w' p x:=by
 unfold dW at*;split at h
 ·exact eB.off hh h (hw rfl)
 ·exact af.off hh h
theorem aX.off(hh:PG μ μ'){id sz:Nat}{et:TypeId}{es:List PV}(h:aX P μ φ w id sz et es)(hw:∀g,(bF.nest sz et es).dU (φ id) g→w'.heap[g]?=w.heap[g]?):aX P μ' φ w' id sz et es:=by
 obtain⟨a1,a2,a3,a4,a5,a6,a7⟩:=h;refine⟨a1,a2,a3,a4,a5,a6,?_⟩;cases hg:(φ id).g with
 |none=>rw[hg]at a7;exact a7
 |some g=>rw[hg]at a7;obtain⟨c,T,c1,c2,c3,c4,c5⟩:=a7;exact⟨c,T,by rw[hw g (.inl hg)];exact c1,c2,c3,fun i e j p x h1 h2 h3=>(c4 i e j p x h1 h2 h3).off hh fun hr g' cv=>hw g' (.inr ⟨i,j,by rw[dq h1 h2];exact hr,cv⟩),c5⟩
theorem eB.PH{R:A6}{s g:Nat}{rs:List PV}(h:eB P μ R w s rs x)(hg:R.g=some g):∃c T z,w.heap[g]?=some (.cells c T z):=by obtain⟨⟨et,_,_,_,_,_,_,a7⟩,_⟩:=h;have cv:R.up.g=some g:=hg;simp only[cv]at a7;obtain⟨c,_,c1,_⟩:=a7;exact⟨_,_,_,c1⟩
theorem gm.TP{id g i off:Nat}{b:bF}(h:gm P μ φ w id b)(hr:b.rowAt i off=true)(hg:((φ id).row i off).g=some g):∃c T z,w.heap[g]?=some (.cells c T z):=by
 rcases jM hr with⟨sz,et,es,e,s,rs,rfl,he,hp⟩|⟨kt,e0,es,k,s,rs,rfl,rfl,he⟩
 ·have hN:aX P μ φ w id sz et es:=h;have hgg:∃g0,(φ id).g=some g0:=by
   cases hq:(φ id).g with
   |some g0=>exact⟨g0,rfl⟩
   |none=>have a7:=hN.2.2.2.2.2.2;rw[hq]at a7;rw[a7.1]at he;simp at he
  obtain⟨g0,Lj⟩:=hgg;obtain⟨c,_,x,_,_,c3,_⟩:=hN.cell Lj he hp;exact eB.PH (show eB P μ _ w s rs x from c3) hg
 ·obtain⟨g0,en,clock,kk,Lj,hh,hs,hk,hc,wx,hv⟩:=h;have hi:i<en.size:=by rw[hs];exact(HO.1 he).1
  have h3:=(hv i k _ en[i] he (OF hi)).2;exact eB.PH (P:=P) (μ:=μ) (R:=(φ id).row i 0) (s:=s) (rs:=rs) (x:=en[i].val) ⟨⟨_,h3.1⟩,h3.2⟩ hg
theorem gm.off(h:PG μ μ')(tq:∀b o,μ b=some o→w.heap[b]?=some o){id:Nat}{b:bF}(hb:gm P μ φ w id b)(hw:∀g,b.dU (φ id) g→w'.heap[g]?=w.heap[g]?):gm P μ' φ w' id b:=by
 cases b with
 |nest sz et es=>exact aX.off h hb hw
 |eY kt e0 es=>
  obtain⟨g,en,clock,kk,hg,hh,hs,hk,hc,wx,hv⟩:=hb;refine⟨g,en,clock,kk,hg,by rw[hw g (.inl hg)];exact hh,hs,hk,hc,wx,fun i k v e h1 h2=>⟨(hv i k v e h1 h2).1.off h,?_⟩⟩;have h3:=(hv i k v e h1 h2).2;split at h3
  ·exact⟨h3.1.off h fun g' cv=>hw g' (.inr ⟨i,0,by rw[jL h1];rfl,cv⟩),h3.2.off h⟩
  ·exact h3.off h
 |box cs=>obtain⟨g,c,T,hg,hh,hs,hv,h1,zJ⟩:=hb;exact⟨g,c,T,hg,by rw[hw g (.inl hg)];exact hh,hs,fun i v x hi hx=>(hv i v x hi hx).off h,h1,zJ⟩
 |arr sz et es=>exact aK.off h hb fun g hg=>hw g (.inl hg)
 |pt sz et es=>refine⟨aK.off h hb.1 fun g hg=>hw g (.inl hg),fun g hg=>?_⟩;obtain⟨o,ho⟩:=agT.1 (hb.2 g hg);obtain⟨_,_,_,_,_,_,a7⟩:=hb.1;rw[hg]at a7;obtain⟨c,_,c1,_⟩:=a7;have:=tq g o ho;rw[c1]at this;cases this;rw[h _ _ ho rfl];rfl
 |map kt es=>obtain⟨g,en,clock,kk,hg,hh,hs,hk,hc,wx,hv⟩:=hb;exact⟨g,en,clock,kk,hg,by rw[hw g (.inl hg)];exact hh,hs,hk,hc,wx,fun i k v e h1 h2=>⟨(hv i k v e h1 h2).1.off h,(hv i k v e h1 h2).2.off h⟩⟩
 |iter t es cur=>obtain⟨g,mg,en,clock,seen,hg,hh,ED,wx,zJ,hv,hcu⟩:=hb;exact⟨g,mg,en,clock,seen,hg,by rw[hw g (.inl hg)];exact hh,h _ _ ED rfl,wx,zJ,fun i k v e h1 h2=>⟨(hv i k v e h1 h2).1.off h,(hv i k v e h1 h2).2.off h⟩,fun k v hc=>let⟨i,e,h1,h2,h3,h4⟩:=hcu k v hc;⟨i,e,h1,h2,h3.off h,h4.off h⟩⟩
 |loop st=>obtain⟨g,rc,hg,hh⟩:=hb;exact⟨g,rc,hg,by rw[hw g (.inl hg)];exact hh⟩
def Bt(μ:Ro)(D:Nat):Ro:=fun b=>if b=D then none else μ b
theorem PI{D:Nat}(hD:μ D=some (.deferred (some []))):PG μ (Bt μ D):=by intro b o hb ho;unfold Bt;rw[IN fun e=>by subst e;rw[hD]at hb;cases hb;cases ho];exact hb
theorem aw.shut(hM:aw P G w0 μ φ m w){D:Nat}(hB:w0.heap.size≤D)(hk:w0.dx D=none)(hD:μ D=some (.deferred (some []))):aw P G w0 (Bt μ D) φ m (w.putObj D (.deferred none)):=by
 have hc:=PI hD;have hh:=hM.ro _ _ hD;have C2:∀k,k≠D→(w.putObj D (.deferred none)).heap[k]?=w.heap[k]?:=fun k hk=>World.putObj_heap_other hk;have cL:∀id b g,m id=some b→b.dU (φ id) g→g≠D:=fun id b g hm hg e=>by
  subst e;have hR:=hM.du id b hm;rcases hg with hg|⟨i,off,hr,hg⟩
  rotate_left
  ·obtain⟨c,T,z,h2⟩:=hR.TP hr hg;rw[hh]at h2;cases h2
  cases b with
  |nest sz et es=>obtain⟨_,_,_,_,_,_,a7⟩:=hR;rw[hg]at a7;obtain⟨c,_,c1,_⟩:=a7;rw[hh]at c1;cases c1
  |eY kt e0 es=>obtain⟨g',en,clock,kk,cv,h2,_⟩:=hR;rw[hg]at cv;cases cv;rw[hh]at h2;cases h2
  |box cs=>obtain⟨g',c,T,cv,h2,_⟩:=hR;rw[hg]at cv;cases cv;rw[hh]at h2;cases h2
  |arr sz et es=>obtain⟨_,_,_,_,_,_,a7⟩:=hR;rw[hg]at a7;obtain⟨c,_,c1,_⟩:=a7;rw[hh]at c1;cases c1
  |pt sz et es=>obtain⟨⟨_,_,_,_,_,_,a7⟩,_⟩:=hR;rw[hg]at a7;obtain⟨c,_,c1,_⟩:=a7;rw[hh]at c1;cases c1
  |map kt es=>obtain⟨g',en,clock,kk,cv,h2,_⟩:=hR;rw[hg]at cv;cases cv;rw[hh]at h2;cases h2
  |loop st=>obtain⟨g',rc,cv,h2⟩:=hR;rw[hg]at cv;cases cv;rw[hh]at h2;cases h2
  |iter t es cur=>obtain⟨g',mg,en,clock,seen,cv,h2,_⟩:=hR;rw[hg]at cv;cases cv;rw[hh]at h2;cases h2
 refine⟨hM.below.trans ((kv.putObj w D _).mono hB),fun b o hb=>?_,fun g cs hg=>(hM.aH g cs hg).off hc,fun id b hm=>(hM.du id b hm).off hc hM.ro fun g hg=>C2 g (cL id b g hm hg),fun id b g hm hg=>?_,hM.inj,hM.apart,hM.fy,fun b o hb bS=>?_,fun b o hb=>?_,fun id st hm=>?_⟩
 ·unfold Bt at hb;split at hb
  ·cases hb
  ·rename_i e;rw[C2 b e];exact hM.ro b o hb
 ·obtain⟨h1,h2⟩:=hM.own id b g hm hg;refine⟨h1,fun Ln=>?_⟩;unfold Bt;rw[IN (cL id b g hm hg)];exact h2 Ln
 ·unfold Bt at hb;split at hb
  ·cases hb
  ·exact hM.base b o hb bS
 ·unfold Bt;rw[IN fun e=>by subst e;rw[hk]at hb;cases hb];exact hM.dx b o hb
 ·obtain⟨g,rc,h1,h2,h3⟩:=hM.A5 id st hm;exact⟨g,rc,h1,h2,by rw[C2 g (cL id _ g hm (.inl h1))];exact h3⟩
end
section
variable {E:Env} {w0:bu}
theorem zi{R:Ending→World→Prop}{f:Fr}{m:Mem}{φ:Nat→aA}{fn:Func}{tmps:Array Value}:∀(Ds:List Nat){μ:Ro}{w:World},Ds.Nodup→(∀D∈Ds,w0.heap.size≤D∧w0.dx D=none∧μ D=some (.deferred (some [])))→Rel E.P E.aH E.fn.ntmps w0 μ φ f m {tmps,defers:=[]} w→(∀μ' w',Rel E.P E.aH E.fn.ntmps w0 μ' φ f m {tmps,defers:=[]} w'→∃v,(results fn tmps).run E.P w'=.ok v w'∧R (.returned v) w')→LeavesInM (FR none) 0 E.P fn tmps R (Ds.map fun D=>{target:=.collected D,args:= #[]}) .returning w
 |[],μ,w,_,_,hR,Ri=>Ri μ w hR
 |D::Ds,μ,w,hn,hD,hR,Ri=>by obtain⟨h1,h2,h3⟩:=hD D (by simp);obtain⟨n1,n2⟩:=ajA.1 hn;have hM:=hR.toaw.shut h1 h2 h3;refine⟨by simp,.inl ⟨D,_,rfl,run_takeDeferred (hR.ro _ _ h3),?_⟩⟩;refine zi Ds n2 (fun D' hd'=>?_) {toaw:=hM,size:=hR.size,defers:=.nil _ _ _,lR:=hR.lR,fr:=fun t=>(hR.fr t).off (PI h3),live:=hR.live} Ri;obtain⟨a1,a2,a3⟩:=hD D' (by simp[hd']);refine⟨a1,a2,?_⟩;unfold Bt;rw[IN fun e=>by subst e;exact n1 hd'];exact a3
theorem rI(hE:jJ E)(hY:sw E.P E.aH E.fn.ntmps E.yl w0)(hko:∀b o,w0.dx b=some o→w0.lR b=some o){g:FuncId}{c:Code}(hf:E.P.funcs[g]?=some E.fn)(hb:E.fn.body=some c){xs:Array Value}{R:Ending→World→Prop}{S:Type}{f:Fr}{m:Mem}{k:Ex→Fr→Mem→Option S}{r:S}(h:fj E c f m k=some r){μ:Ro}{φ:Nat→aA}{w:World}(hR:Rel E.P E.aH E.fn.ntmps w0 μ φ f m {tmps:=xs++Array.replicate (E.fn.ntmps-xs.size) undef,defers:=[]} w)(Ri:∀e f' m' μ' φ' tmps w',k e f' m'=some r→Rel E.P E.aH E.fn.ntmps w0 μ' φ' f' m' {tmps,defers:=[]} w'→(∀id,e≠.exit id)∧∃v,(results E.fn tmps).run E.P w'=.ok v w'∧R (.returned v) w'):Calls E.P g xs w R:=by
 refine(callsIn_wide (n:=0)).1 (callsIn_of_wp_marks (F:=FR none) hf hb trivial ?_);refine TO c hE hY (fun _=>rfl) h hR fun e f' m' μ' φ' a' w' hk jf=>?_;obtain⟨Ds,e1,e2,e3⟩:=jf.defers;have Fu:Rel E.P E.aH E.fn.ntmps w0 μ' φ' f' m' {tmps:=a'.tmps,defers:=[]} w':={toaw:=jf.toaw,size:=jf.size,defers:=.nil _ _ _,lR:=jf.lR,fr:=jf.fr,live:=jf.live};have key:(∀id,e≠.exit id)→LeavesInM (FR none) 0 E.P E.fn a'.tmps R a'.defers .returning w':=fun _=>by
  rw[e1];refine zi Ds e2 (fun D hd=>?_) Fu fun μ2 w2 hR3=>(Ri e f' m' μ2 φ' a'.tmps w2 hk hR3).2;obtain⟨a1,a2,a3⟩:=e3 D hd;refine⟨a1,?_,a3⟩;cases hq:w0.dx D with
  |none=>rfl
  |some o=>rw[hko D o hq]at a2;cases a2
 have cL:=(Ri e f' m' μ' φ' a'.tmps w' hk Fu).1;cases e with
 |normal=>exact key cL
 |ret=>exact key cL
 |exit id=>exact absurd rfl (cL id)
end
end Go.Ab
