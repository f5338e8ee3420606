import Derived.Test.YtanikidijjaohaaGreatAbP7
import Derived.RangeFuncIn
import Derived.Scope
set_option linter.unusedVariables false
set_option linter.unusedSimpArgs false
namespace Go.Ab
open Go.RowKit (Below)
section
variable {P:Program} {G:Nat→Option (List PV)} {w0:bI} {μ:Ro} {φ:Nat→aH} {m:Mem} {w:World}
theorem lA.putObj(w:World)(g:Nat)(o:Obj):lA g w (w.putObj g o):=⟨⟨rfl,rfl,rfl,by simp,fun k hk=>World.putObj_heap_other (by omega)⟩,fun _=>ajC _⟩
theorem az.w7(h:az P G w0 μ φ m w){w1:bI}(hw:w1.w=w0.w)(Hd:w1.mu=w0.mu)(hk:∀b o,w1.dJ b=some o→μ b=some o)(Xa:∀id st,m id=some (.loop st)→w1.rc id=w0.rc id):az P G w1 μ φ m w:=by obtain⟨a0,b0,c0,d0,e0⟩:=w0;obtain⟨a1,b1,c1,d1,e1⟩:=w1;simp only at hw Hd;subst hw;subst Hd;refine⟨h.below,h.ro,h.aM,h.dH,h.own,h.inj,h.apart,h.fY,h.base,hk,fun id st av=>?_⟩;obtain⟨g,rc,h1,h2,h3⟩:=h.Dc id st av;exact⟨g,rc,h1,(Xa id st av).trans h2,h3⟩
def DA(μ:Ro)(w:World)(o:Obj):Ro:=fun b=>if b=w.heap.size then some o else μ b
theorem LM(hM:az P G w0 μ φ m w)(o:Obj):LA μ (DA μ w o):=by intro b o' hb;have:=(adp.1 (hM.ro b o' hb)).1;unfold DA;rw[IN (by omega)];exact hb
theorem az.Z7(hM:az P G w0 μ φ m w)(o:Obj):az P G w0 (DA μ w o) φ m (w.alloc o):=by
 have hle:=LM hM o;have hold:∀k,k<w.heap.size→(w.alloc o).heap[k]?=w.heap[k]?:=fun k hk=>lA.heap_alloc w o k hk;have oh:w0.heap.size≤w.heap.size:=hM.below.size;refine⟨hM.below.alloc hM.below.size o,fun b o' hb=>?_,fun g cs hg=>(hM.aM g cs hg).mono hle,fun id b av=>?_,fun id b g av hg=>?_,hM.inj,hM.apart,hM.fY,fun b o' hb cd=>?_,fun b o' hb=>hle b o' (hM.dJ b o' hb),fun id st av=>?_⟩
 ·unfold DA at hb;split at hb
  ·rename_i e;subst e;cases hb;exact heap_alloc_new w o
  ·have:=hM.ro b o' hb;rw[hold b (adp.1 this).1];exact this
 ·have hR:=hM.dH id b av;exact hR.cL (fun _ _=>rfl) rfl hle (fun g hg=>hold g (hR.E1 hg))
 ·obtain⟨h1,h2⟩:=hM.own id b g av hg;refine⟨h1,fun Ow=>?_⟩;have:=(hM.dH id b av).E1 hg;unfold DA;rw[IN (by omega)];exact h2 Ow
 ·unfold DA at hb;rw[IN (by omega)]at hb;exact hM.base b o' hb cd
 ·obtain⟨g,rc,h1,h2,h3⟩:=hM.Dc id st av;exact⟨g,rc,h1,h2,by rw[hold g (adp.1 h3).1];exact h3⟩
theorem az.other(hM:az P G w0 μ φ m w){g:Nat}(o:Obj)(hg:w0.heap.size≤g)(hμ:μ g=none)(Dt:∀id b,m id=some b→¬b.ev (φ id) g):az P G w0 μ φ m (w.putObj g o):=by
 have Fo:∀k,k≠g→(w.putObj g o).heap[k]?=w.heap[k]?:=fun k hk=>World.putObj_heap_other hk;refine⟨hM.below.trans ((lA.putObj w g o).mono hg),fun b o' hb=>?_,hM.aM,fun id b av=>?_,hM.own,hM.inj,hM.apart,hM.fY,hM.base,hM.dJ,fun id st av=>?_⟩
 ·rw[Fo b fun e=>by subst e;rw[hμ]at hb;cases hb];exact hM.ro b o' hb
 ·have hR:=hM.dH id b av;exact hR.cL (fun _ _=>rfl) rfl (fun _ _ h=>h) (fun g' cO=>Fo g' fun e=>by subst e;exact Dt id b av cO)
 ·obtain⟨g',rc,h1,h2,h3⟩:=hM.Dc id st av;exact⟨g',rc,h1,h2,by rw[Fo g' fun e=>by subst e;exact Dt id _ av (.inl h1)];exact h3⟩
theorem az.turn(hM:az P G w0 μ φ m w){id g:Nat}{st st':N2}{rc:Loop}(hm:m id=some (.loop st))(hg:(φ id).g=some g)(Xa:w0.rc id=some (g,rc)):az P G w0 μ φ (aq m id (.loop st')) (w.putObj g (.loop (st'.obj rc))):=by have cd:=(hM.dH id _ hm).E1 (.inl hg);have T5:(w.putObj g (.loop (st'.obj rc))).heap[g]?=some (.loop (st'.obj rc)):=World.putObj_heap_same cd;exact hM.write hm rfl hg (lA.putObj w g _) (by simp) (fun k hk=>World.putObj_heap_other hk) ⟨g,rc,hg,T5⟩ rfl (by simp[bR.names]) fun s hs=>by cases hs;exact⟨rc,Xa,T5⟩
end
section
variable {P:Program} {μ:Ro} {φ:Nat→aH}
theorem Ig{nt:Nat}:∀(ps:List Nat)(args:List V)(xs:List Value)(f:Fr)(tmps:Array Value),tmps.size=nt→args.length=xs.length→(∀t,t<nt→ah P μ φ (f t) (tmps.getD t undef))→(∀(i:Nat)v x,args[i]?=some v→xs[i]?=some x→ah P μ φ v x)→((ps.zip xs).foldl (fun tmps(x:Nat×Value)=>tmps.setIfInBounds x.1 x.2) tmps).size=nt∧∀t,t<nt→ah P μ φ (EP ps args f t) (((ps.zip xs).foldl (fun tmps(x:Nat×Value)=>tmps.setIfInBounds x.1 x.2) tmps).getD t undef)
 |[],args,xs,f,tmps,hs,_,hf,_=>by cases args<;>exact⟨hs,hf⟩
 |p::ps,[],xs,f,tmps,hs,hl,hf,_=>by have:xs=[]:=ajB (by simpa using hl.symm);subst this;exact⟨hs,hf⟩
 |p::ps,v::args,[],f,tmps,hs,hl,hf,_=>by simp at hl
 |p::ps,v::args,x::xs,f,tmps,hs,hl,hf,hr=>by
  simp only[amd,amP,EP];refine Ig ps args xs (gO f p v) (tmps.setIfInBounds p x) (by simpa using hs) (by simpa using hl) (fun t ht=>?_) (fun i u y hu hy=>hr (i+1) u y (by simpa using hu) (by simpa using hy));by_cases e:t=p
  ·subst e;rw[zN];have:(tmps.setIfInBounds t x).getD t undef=x:=by rw[ajG,akJ];simp[show t<tmps.size by omega]
   rw[this];exact hr 0 v x rfl rfl
  ·rw[rP e];have:(tmps.setIfInBounds p x).getD t undef=tmps.getD t undef:=by rw[ajG,ajG,akJ,IN (fun h=>e h.symm)]
   rw[this];exact hf t ht
theorem FN{id:Nat}:∀(ps:List Nat)(args:List V)(f:Fr)(t:Nat),(EP ps args f t).has id=true→cD id args=true∨(f t).has id=true
 |[],args,f,t,h=>by cases args<;>exact .inr h
 |p::ps,[],f,t,h=>.inr h
 |p::ps,v::args,f,t,h=>by
  simp only[EP]at h;rcases FN ps args _ t h with h|h
  ·exact .inl (by simp[cD,h])
  ·by_cases e:t=p
   ·subst e;rw[zN]at h;exact .inl (by simp[cD,h])
   ·rw[rP e]at h;exact .inr h
theorem Xb(ps:Array Nat)(xs:Array Value)(tmps:Array Value):(ps.zip xs).foldl (fun tmps(t,a)=>tmps.setIfInBounds t a) tmps=(ps.toList.zip xs.toList).foldl (fun tmps(x:Nat×Value)=>tmps.setIfInBounds x.1 x.2) tmps:=by rw[←Array.foldl_toList,Array.toList_zip]
end
variable{P:Program}{c:Code}{Q:Exit→Act→World→Prop}
theorem Ih{F:Fence}{nn:Nat}(I:Nat→Act→World→Prop)(round:∀n a w,I n a w→∃n',n=n'+1∧c.wpIn F nn P (Exit.then (I n') Q) a w):∀n a w,I n a w→(Code.loop c).wpIn F nn P Q a w:=by
 intro n a w hI b k cs vo hb hr;have key:∀n a w,I n a w→∃e a' w',Q e a' w'∧ArrivesIn (Machine.fenced P F) P (lone (b.atR a (.code c::.inLoop c::k)) cs w) b k cs e a' w':=by
  intro n;induction n with
  |zero=>grind
  |succ n ih=>
   intro a w h;obtain⟨n',hn,jw⟩:=round _ a w h;have hn:n=n':=by omega
   subst hn;obtain⟨e,a₁,w₁,hq,FO⟩:=jw b (.inLoop c::k) cs vo hb hr;cases e with
   |normal=>obtain⟨e₂,a₂,w₂,aeh,Z8⟩:=ih a₁ w₁ hq;exact⟨e₂,a₂,w₂,aeh,.of_steps (StepsIn.trans FO (.one (fenced_calm hb hr rfl) stepR_inLoop)) Z8⟩
   |_=>exact⟨_,a₁,w₁,hq,.pass (x:=.inLoop c) rfl (fun _ _=>.inl (by simp)) FO⟩
 obtain⟨e,a',w',hq,FO⟩:=key n a w hI;exact⟨e,a',w',hq,.of_steps (.one (fenced_calm hb hr rfl) stepR_loop) FO⟩
theorem Ux{rd:Option Nat}{n:Nat}{a:Act}{w:World}(h:c.wpIn (FR rd) n P (Exit.noGoto Q) a w):(Code.scope c).wpIn (FR rd) n P Q a w:=by
 intro b k cs vo hb hr;obtain⟨e,a₁,w₁,hq,FO⟩:=h b (.inScope c::k) cs vo hb hr;have s1:StepsIn (Machine.fenced P (FR rd)) P (lone (b.atR a (.code (.scope c)::k)) cs w) (lone (b.atR a (.code c::.inScope c::k)) cs w):=.one (fenced_calm hb hr rfl) (step_lone_go (by rfl));have s2:∀a w,StepsIn (Machine.fenced P (FR rd)) P (lone (b.atR a (.inScope c::k)) cs w) (lone (b.atR a k) cs w):=fun a w=>.one (fenced_calm hb hr rfl) (step_lone_go (by rfl));cases e with
 |normal=>exact⟨.normal,a₁,w₁,hq,s1.trans (StepsIn.trans FO (s2 _ _))⟩
 |exit id=>exact⟨.exit id,a₁,w₁,hq,fun k' hk=>s1.trans (FO.1 k' (by simp[exitTo,hk])),fun hr hk=>let⟨k₁,h1,h2⟩:=FO.2 hr (by simp[exitTo,hk]);⟨k₁,h1,s1.trans h2⟩⟩
 |goto l=>exact hq.elim
 |ret=>exact⟨_,a₁,w₁,hq,.of_steps s1 FO⟩
 |panic ch=>exact⟨_,a₁,w₁,hq,.of_steps s1 FO⟩
 |outgrown=>exact⟨_,a₁,w₁,hq,.of_steps s1 FO⟩
mutual
theorem SK:∀{v u:V},v.same u=true→v=u
 |.op i o,u,h=>by cases u<;>simp only[V.same,T1,By]at h;rw[No h.1,No h.2]
 |.oe i a o,u,h=>by cases u<;>simp only[V.same,T1,By]at h;rw[No h.1.1,No h.1.2,No h.2]
 |.os i,u,h=>by cases u<;>simp only[V.same,By]at h;rw[No h]
 |.om i,u,h=>by cases u<;>simp only[V.same,By]at h;rw[No h]
 |.yl i,u,h=>by cases u<;>simp only[V.same,By]at h;rw[No h]
 |.it i,u,h=>by cases u<;>simp only[V.same,By]at h;rw[No h]
 |.iK,u,h=>by cases u<;>simp only[V.same,By]at h;rfl
 |.fn f cs,u,h=>by cases u<;>simp only[V.same,T1,By]at h;rw[No h.1,LN h.2]
 |.pv p,u,h=>by
  cases u<;>try (cases p<;>simp[V.same]at h;done)
  rename_i q;cases p<;>cases q<;>first|rfl|(simp[V.same]at h;done)|(simp only[V.same,T1,I5]at h;rw[h.1,h.2])
 |.fX _ _ _,u,h=>by cases u<;>simp[V.same]at h
 |.agg _,u,h=>by cases u<;>simp[V.same]at h
 |.bu _,u,h=>by cases u<;>simp[V.same]at h
 |.top,u,h=>by cases u<;>simp[V.same]at h
theorem LN:∀{vs us:List V},HA vs us=true→vs=us
 |[],us,h=>by
  cases us with
  |nil=>rfl
  |cons _ _=>simp[HA]at h
 |v::vs,us,h=>by
  cases us with
  |nil=>simp[HA]at h
  |cons u us=>simp only[HA,T1]at h;rw[SK h.1,LN h.2]
end
variable{R:Type}
theorem SL{T:Type}:∀{kj:List Sh}{vs:List V}{t:T}{k:Si kj T→Option R}{r:R},kn kj vs t k=some r→∃x,k x=some r∧s8 kj x=(vs,t)∧vs.length=kj.length∧∀M,(∀sh∈kj,sh.within M=true)→kU M vs=true:=by
 intro kj;induction kj with
 |nil=>
  intro vs t k r h;cases vs with
  |nil=>exact⟨t,h,rfl,rfl,fun _ _=>rfl⟩
  |cons v vs=>simp[kn]at h
 |cons sh kj ih=>
  intro vs t k r h;cases vs with
  |nil=>cases sh<;>simp[kn]at h
  |cons v vs=>
   have push:∀{M},v.within M=true→kU M vs=true→kU M (v::vs)=true:=fun h1 h2=>by simp[kU,h1,h2]
   cases sh with
   |own u=>
    simp only[kn]at h;split at h
    ·rename_i hs;obtain⟨x,x1,x2,x3,x4⟩:=ih h;have:=SK hs;subst this;refine⟨x,x1,by simp only[s8];rw[x2],by simp[x3],fun M hM=>push ?_ (x4 M fun s hs=>hM s (by simp[hs]))⟩;exact hM (.own u) (by simp)
    ·cases h
   |int q=>
    cases v<;>try (simp[kn]at h;done)
    rename_i p;cases p<;>try (simp[kn]at h;done)
    simp only[kn]at h;split at h
    ·rename_i hq;subst hq;obtain⟨x,x1,x2,x3,x4⟩:=ih h;exact⟨_,x1,by simp only[s8];rw[x2],by simp[x3],fun M hM=>push rfl (x4 M fun s hs=>hM s (by simp[hs]))⟩
    ·cases h
   |row id off=>
    cases v<;>try (simp[kn]at h;done)
    rename_i sZ i tC;simp only[kn]at h;split at h
    ·rename_i hq;obtain⟨rfl,rfl⟩:=hq;obtain⟨x,x1,x2,x3,x4⟩:=ih h;exact⟨_,x1,by simp_all[s8,ajw],by simp[x3],fun M hM=>push (hM (.row sZ tC) (by simp)) (x4 M fun s hs=>hM s (by simp[hs]))⟩
    ·cases h
   |raw=>
    cases v<;>try (simp[kn]at h;done)
    simp only[kn]at h;obtain⟨x,x1,x2,x3,x4⟩:=ih h;exact⟨_,x1,by simp only[s8];rw[x2],by simp[x3],fun M hM=>push rfl (x4 M fun s hs=>hM s (by simp[hs]))⟩
   |bool=>
    cases v<;>try (simp[kn]at h;done)
    rename_i p;cases p<;>try (simp[kn]at h;done)
    simp only[kn]at h;obtain⟨x,x1,x2,x3,x4⟩:=ih h;exact⟨_,x1,by simp only[s8];rw[x2],by simp[x3],fun M hM=>push rfl (x4 M fun s hs=>hM s (by simp[hs]))⟩
   |str=>
    cases v<;>try (simp[kn]at h;done)
    rename_i p;cases p<;>try (simp[kn]at h;done)
    simp only[kn]at h;obtain⟨x,x1,x2,x3,x4⟩:=ih h;exact⟨_,x1,by simp only[s8];rw[x2],by simp[x3],fun M hM=>push rfl (x4 M fun s hs=>hM s (by simp[hs]))⟩
   |rp n=>
    cases v<;>try (simp[kn]at h;done)
    rename_i p;cases p<;>try (simp[kn]at h;done)
    rename_i cs;simp only[kn]at h;split at h
    ·rename_i hq;obtain⟨x,x1,x2,x3,x4⟩:=ih h;have he:aJ n (.agg cs)=cs:=by
      apply ajY;intro j;by_cases hj:j<n
      ·have hl:j<(aJ n (.agg cs)).length:=by rw[aZ];omega
       rw[AI hl];obtain⟨_,h6⟩:=pe (AI hl);simp_all[cell,PV.cells,List.getD]
      simp_all[ajr,aZ]
     exact⟨_,x1,by simp only[s8];rw[x2,he],by simp[x3],fun M hM=>push rfl (x4 M fun s hs=>hM s (by simp[hs]))⟩
    ·cases h
   |fs s=>
    cases v<;>try (simp[kn]at h;done)
    rename_i p;simp only[kn]at h;obtain⟨ls,hls,h⟩:=BY.1 h;obtain⟨x,x1,x2,x3,x4⟩:=ih h;exact⟨_,x1,by grind [s8,Sz],by simp[x3],fun M hM=>push rfl (x4 M fun s hs=>hM s (by simp[hs]))⟩
   |rs sz=>
    cases v<;>try (simp[kn]at h;done)
    rename_i p;cases p<;>try (simp[kn]at h;done)
    simp only[kn]at h;split at h
    ·rename_i hq;subst hq;obtain⟨x,x1,x2,x3,x4⟩:=ih h;exact⟨_,x1,by simp only[s8];rw[x2],by simp[x3],fun M hM=>push rfl (x4 M fun s hs=>hM s (by simp[hs]))⟩
    ·cases h
theorem Ac:∀{l:List (Nat×Option bR)}{id:Nat}{b:bR},EB l id=some b→∃x∈l,x.1=id∧x.2=some b
 |[],_,_,h=>by simp[EB]at h
 |(d,b')::r,id,b,h=>by
  simp only[EB]at h;cases e:Nat.beq id d with
  |true=>rw[e]at h;exact⟨(d,b'),by simp,(No e).symm,h⟩
  |false=>rw[e]at h;obtain⟨x,hx,h1,h2⟩:=Ac h;exact⟨x,by simp[hx],h1,h2⟩
theorem Bd:∀{l:List (Nat×Option bR)}{id:Nat},(∀x∈l,x.2.isSome=true)→(∃x∈l,x.1=id)→(EB l id).isSome=true
 |[],_,_,⟨x,hx,_⟩=>by cases hx
 |(d,b')::r,id,h,⟨x,hx,he⟩=>by
  simp only[EB];cases e:Nat.beq id d with
  |true=>simp_all
  |false=>
   rcases ah4.1 hx with rfl|hx
   ·simp_all
   ·exact Bd (fun y hy=>h y (by simp[hy])) ⟨x,hx,he⟩
theorem Z9{m:Mem}:∀{bs:List (Nat×VZ)}{k:KW bs→Option R}{r:R},uo m bs k=some r→∃x,k x=some r∧(iA bs x).map (·.1)=bs.map (·.1)∧(∀y∈iA bs x,∃b,y.2=some b∧m y.1=some b)∧∀M,(∀y∈bs,y.2.within M=true)→∀y∈iA bs x,∀b,y.2=some b→b.within M=true:=by
 intro bs;induction bs with
 |nil=>intro k r h;exact⟨(),h,rfl,by simp[iA],by simp[iA]⟩
 |cons y bs ih=>
  intro k r h;obtain⟨id,sh⟩:=y;cases sh with
  |box cs=>
   simp only[uo]at h;split at h
   ·rename_i vs hm;obtain⟨t,t1,t2,t3,t4⟩:=ih h;obtain⟨x,x1,x2,x3,x4⟩:=SL t1;refine⟨x,x1,by simp only[iA,x2];simp[t2],fun y hy=>?_,fun M hM y hy b hb=>?_⟩
    ·simp only[iA,x2]at hy;grind
    ·simp only[iA,x2]at hy;rcases ah4.1 hy with rfl|hy
     ·simp only[AT]at hb;subst hb;simp only[bR.within];refine x4 M fun s hs=>?_;have:=hM (id,.box cs) (by simp);grind [VZ.within,List.all_eq_true]
     grind
   ·cases h
  |arr sz et=>
   simp only[uo]at h;split at h
   ·rename_i GY GZ es hm;split at h
    ·rename_i he;obtain⟨rfl,rfl⟩:=he;obtain⟨t,t1,t2,t3,t4⟩:=ih h;refine⟨(es,t),t1,by simp only[iA];simp[t2],fun y hy=>?_,fun M hM y hy b hb=>?_⟩
     ·simp only[iA]at hy;grind
     ·simp only[iA]at hy;rcases ah4.1 hy with rfl|hy
      ·simp only[AT]at hb;subst hb;rfl
      grind
    ·cases h
   ·cases h
  |ri sz et=>
   simp only[uo]at h;split at h
   ·rename_i GY GZ es hm;split at h
    ·rename_i he;obtain⟨rfl,rfl⟩:=he;obtain⟨t,t1,t2,t3,t4⟩:=ih h;refine⟨(es,t),t1,by simp only[iA];simp[t2],fun y hy=>?_,fun M hM y hy b hb=>?_⟩
     ·simp only[iA]at hy;grind
     ·simp only[iA]at hy;rcases ah4.1 hy with rfl|hy
      ·simp only[AT]at hb;subst hb;rfl
      grind
    ·cases h
   ·cases h
  |nest sz et=>
   simp only[uo]at h;split at h
   ·rename_i GY GZ es hm;split at h
    ·rename_i he;obtain⟨rfl,rfl⟩:=he;obtain⟨t,t1,t2,t3,t4⟩:=ih h;refine⟨(es,t),t1,by simp only[iA];simp[t2],fun y hy=>?_,fun M hM y hy b hb=>?_⟩
     ·simp only[iA]at hy;grind
     ·simp only[iA]at hy;rcases ah4.1 hy with rfl|hy
      ·simp only[AT]at hb;subst hb;rfl
      grind
    ·cases h
   ·cases h
  |fv kt et=>
   simp only[uo]at h;split at h
   ·rename_i wL GZ es hm;split at h
    ·rename_i he;obtain⟨rfl,rfl⟩:=he;obtain⟨t,t1,t2,t3,t4⟩:=ih h;refine⟨(es,t),t1,by simp only[iA];simp[t2],fun y hy=>?_,fun M hM y hy b hb=>?_⟩
     ·simp only[iA]at hy;grind
     ·simp only[iA]at hy;rcases ah4.1 hy with rfl|hy
      ·simp only[AT]at hb;subst hb;rfl
      grind
    ·cases h
   ·cases h
  |map kt=>
   simp only[uo]at h;split at h
   ·rename_i wL es hm;split at h
    ·rename_i he;subst he;obtain⟨t,t1,t2,t3,t4⟩:=ih h;refine⟨(es,t),t1,by simp only[iA];simp[t2],fun y hy=>?_,fun M hM y hy b hb=>?_⟩
     ·simp only[iA]at hy;grind
     ·simp only[iA]at hy;rcases ah4.1 hy with rfl|hy
      ·simp only[AT]at hb;subst hb;rfl
      grind
    ·cases h
   ·cases h
  |iter ty=>
   simp only[uo]at h;split at h
   ·rename_i t' es hm;split at h
    ·rename_i he;subst he;obtain⟨t,t1,t2,t3,t4⟩:=ih h;refine⟨(es,t),t1,by simp only[iA];simp[t2],fun y hy=>?_,fun M hM y hy b hb=>?_⟩
     ·simp only[iA]at hy;grind
     ·simp only[iA]at hy;rcases ah4.1 hy with rfl|hy
      ·simp only[AT]at hb;subst hb;rfl
      grind
    ·cases h
   ·cases h
  |loop=>
   simp only[uo]at h;split at h
   ·rename_i hm;obtain⟨t,t1,t2,t3,t4⟩:=ih h;refine⟨t,t1,by simp only[iA];simp[t2],fun y hy=>?_,fun M hM y hy b hb=>?_⟩
    ·simp only[iA]at hy;grind
    ·simp only[iA]at hy;rcases ah4.1 hy with rfl|hy
     ·simp only[AT]at hb;subst hb;rfl
     grind
   ·cases h
  |busy=>
   simp only[uo]at h;split at h
   ·rename_i hm;obtain⟨t,t1,t2,t3,t4⟩:=ih h;refine⟨t,t1,by simp only[iA];simp[t2],fun y hy=>?_,fun M hM y hy b hb=>?_⟩
    ·simp only[iA]at hy;grind
    ·simp only[iA]at hy;rcases ah4.1 hy with rfl|hy
     ·simp only[AT]at hb;subst hb;rfl
     grind
   ·cases h
mutual
theorem FP{M:List Nat}{id:Nat}:∀(v:V),v.within M=true→v.has id=true→id∈M
 |.agg cs,h,hh=>pG cs (by simpa only[V.within]using h) (by simpa only[V.has]using hh)
 |.bu cs,h,hh=>pG cs (by simpa only[V.within]using h) (by simpa only[V.has]using hh)
 |.fn _ cs,h,hh=>pG cs (by simpa only[V.within]using h) (by simpa only[V.has]using hh)
 |.os j,h,hh=>by have:=No hh;subst this;simpa[V.within]using h
 |.fX j _ _,h,hh=>by have:=No hh;subst this;simpa[V.within]using h
 |.oe j _ _,h,hh=>by have:=No hh;subst this;simpa[V.within]using h
 |.om j,h,hh=>by have:=No hh;subst this;simpa[V.within]using h
 |.wR j _ _,h,hh=>by have:=No hh;subst this;simpa[V.within]using h
 |.AM j _ _ _ _ _,h,hh=>by have:=No hh;subst this;simpa[V.within]using h
 |.op j _,h,hh=>by have:=No hh;subst this;simpa[V.within]using h
 |.it j,h,hh=>by have:=No hh;subst this;simpa[V.within]using h
 |.yl j,h,hh=>by have:=No hh;subst this;simpa[V.within]using h
 |.pv _,_,hh=>by cases hh
 |.iK,_,hh=>by cases hh
 |.top,_,hh=>by cases hh
theorem pG{M:List Nat}{id:Nat}:∀(cs:List V),kU M cs=true→cD id cs=true→id∈M
 |[],_,hh=>by cases hh
 |v::r,h,hh=>by
  simp only[kU,T1]at h;simp only[cD,ajA]at hh;rcases hh with hh|hh
  ·exact FP v h.1 hh
  ·exact pG r h.2 hh
end
theorem Xc{f:Fr}:∀(ax:List (Nat×Sh))(t:Nat),Of (rH ax (ax.map fun(x:Nat×Sh)=>f x.1)) t=f t∨Of (rH ax (ax.map fun(x:Nat×Sh)=>f x.1)) t=.top
 |[],t=>.inr rfl
 |(d,s)::r,t=>by
  simp only[ajy,rH,Of,gO];cases e:Nat.beq t d with
  |true=>simp_all
  |false=>exact Xc r t
theorem FQ{f:Fr}{M:List Nat}:∀(ax:List (Nat×Sh)),kU M (ax.map fun(x:Nat×Sh)=>f x.1)=true→∀t,(Of (rH ax (ax.map fun(x:Nat×Sh)=>f x.1)) t).within M=true
 |[],_,t=>rfl
 |(d,s)::r,h,t=>by
  simp only[ajy,kU,T1]at h;simp only[ajy,rH,Of,gO];cases e:Nat.beq t d with
  |true=>simp_all
  |false=>exact FQ r h.2 t
theorem Xd{T:eA}{f:Fr}{m:Mem}{k:T.ty→Option R}{r:R}(h:enc T f m k=some r):∃x,k x=some r∧wN (Om T x) f∧(∀id b,EO T x id=some b→m id=some b)∧(∀t id,(Om T x t).has id=true→(EO T x id).isSome=true)∧∀j cs id,EO T x j=some (.box cs)→cD id cs=true→(EO T x id).isSome=true:=by
 unfold enc at h;split at h
 ·rename_i zU;obtain⟨t,t1,t2,t3,t4⟩:=Z9 h;obtain⟨x,x1,x2,x3,x4⟩:=SL t1;simp only[eA.ok,T1,aki]at zU;have oq:∀id,id∈T.bD.map (·.1)→(EO T x id).isSome=true:=fun id av=>by
   unfold EO;rw[x2];refine Bd (fun y hy=>?_) ?_
   ·grind
   grind
  refine⟨x,x1,fun s=>?_,fun id b hb=>?_,fun s id av=>oq id ?_,fun j cs id hj hh=>oq id ?_⟩
  ·simp_all[Om,Xc]
  ·unfold EO at hb;grind [Ac]
  ·have hw:=x4 (T.bD.map (·.1)) fun s hs=>by simp only[eA.kj,ajJ]at hs;grind
   have:=FQ (M:=T.bD.map (·.1)) T.ax hw s;unfold Om at av;grind [FP]
  ·unfold EO at hj;rw[x2]at hj;obtain⟨y,hy,h1,h2⟩:=Ac hj;have:=t4 (T.bD.map (·.1)) (fun z hz=>zU.2 z hz) y hy _ h2;grind [pG,bR.within]
 ·cases h
section
variable {E:Env} {w0:bI}
variable{nt:Nat}{μ:Ro}{φ:Nat→aH}{f:Fr}{m:Mem}{a:Act}{w:World}
theorem Rel.dec{f':Fr}{m':Mem}(h:Rel E.P E.aM nt w0 μ φ f m a w)(hf:wN f' f)(hm:∀id b,m' id=some b→m id=some b)(hl:∀t id,(f' t).has id=true→(m' id).isSome=true)(hb:∀j cs id,m' j=some (.box cs)→cD id cs=true→(m' id).isSome=true):Rel E.P E.aM nt w0 μ φ f' m' a w:={below:=h.below,ro:=h.ro,aM:=h.aM,dH:=fun id b hb=>h.dH id b (hm id b hb),own:=fun id b g hb hg=>h.own id b g (hm id b hb) hg,inj:=fun VH id2 b1 b2 g h1 h2=>h.inj VH id2 b1 b2 g (hm _ _ h1) (hm _ _ h2),apart:=fun id b hb=>h.apart id b (hm id b hb),fY:=hb,base:=h.base,dJ:=h.dJ,Dc:=fun id st av=>h.Dc id st (hm _ _ av),size:=h.size,defers:=h.defers,mY:=h.mY,fr:=(h.weaken hf).fr,live:=hl}
theorem Rel.set(h:Rel E.P E.aM nt w0 μ φ f m a w){t:Nat}{p:PV}(hp:ai E.P μ p (ax nt w0 a t)):Rel E.P E.aM nt w0 μ φ (gO f t (.pv p)) m a w:=
 {toaz:=h.toaz,size:=h.size,defers:=h.defers,mY:=h.mY,fr:=fun s=>by
   by_cases e:s=t
   ·subst e;rw[zN];exact .pv hp
   ·rw[rP e];exact h.fr s,
  live:=fun s id av=>by
   by_cases e:s=t
   ·simp_all
   ·rw[rP e]at av;exact h.live s id av}
theorem Rel.freeze{nt:Nat}{μ:Ro}{φ:Nat→aH}{f:Fr}{m:Mem}{a:Act}{w:World}(h:Rel E.P E.aM nt w0 μ φ f m a w){id sz:Nat}{et:TypeId}{es:List PV}(hm:m id=some (.arr sz et es)):Rel E.P E.aM nt w0 (qP μ w (φ id).g) φ f (aq m id (.ri sz et es)) a w:=
 {toaz:=h.toaz.freeze hm,size:=h.size,defers:=h.defers.mono (mC h.toaz _),mY:=h.mY,fr:=fun s=>(h.fr s).zf (mC h.toaz _),live:=fun s i av=>by
   by_cases e:i=id
   ·simp_all
   ·rw[aw e];exact h.live s i av}
theorem uE{A:Type}{nt:Nat}{a:Act}{w:World}:∀{l:List (Nat×Nat)}{μ:Ro}{φ:Nat→aH}{f:Fr}{m:Mem}{k:Fr→Mem→A}{r:A},C8 l f m k=r→Rel E.P E.aM nt w0 μ φ f m a w→∃f' m' μ',k f' m'=r∧Rel E.P E.aM nt w0 μ' φ f' m' a w
 |[],μ,φ,f,m,k,r,h,hR=>⟨f,m,μ,h,hR⟩
 |(t,sz)::l,μ,φ,f,m,k,r,h,hR=>by
  unfold C8 at h;split at h
  ·rename_i id hf;have hx:ah E.P μ φ (.os id) (ax nt w0 a t):=hf▸hR.fr t;split at h
   ·rename_i s et es hm;have hF:=hR.freeze hm;have hA:=hF.toaz.arr (.inr (bw m id _));have hp:ai E.P (qP μ w (φ id).g) (.rs s es) (ax nt w0 a t):=hA.full hF.toaz (hx.zf (mC hR.toaz _)) (fun _ _ h=>h) (fun g hg=>by simp[qP,hg]);exact uE h (hF.set hp)
   ·rename_i s et es hm;have hB:hU E.P μ φ w id (.ri s et es):=hR.dH id _ hm;have hp:ai E.P μ (.rs s es) (ax nt w0 a t):=(hR.toaz.arr (.inr hm)).full hR.toaz hx (fun _ _ h=>h) (fun g hg=>by obtain⟨o,ho⟩:=ajR.1 (hB.2 g hg);rw[ho,hR.ro _ _ ho]);exact uE h (hR.set hp)
   ·exact uE h hR
  ·rename_i hf;have hx:ah E.P μ φ .iK (ax nt w0 a t):=hf▸hR.fr t;have hp:ai E.P μ (.rs sz []) (ax nt w0 a t):=by generalize ax nt w0 a t=y at hx;cases hx;exact .lk
   exact uE h (hR.set hp)
  ·exact uE h hR
variable{id:Nat}
theorem LO{u:V}:∀(cs:List V)(j:Nat),cD id (cs.set j u)=true→cD id cs=true∨u.has id=true:=by
 intro cs j h;obtain⟨v,hv,hh⟩:=cW.1 h;rcases List.mem_or_eq_of_mem_set hv with h1|h1
 ·exact .inl (cW.2 ⟨v,h1,hh⟩)
 simp_all
theorem Rel.Xe(h:Rel E.P E.aM nt w0 μ φ f m a w){j:Nat}{cs:List V}{u:V}(hm:m id=some (.box cs))(hj:cs[j]?=some .iK)(hu:ah E.P μ φ u (.slice none 0 0))(hl:∀i,u.has i=true→(m i).isSome=true):Rel E.P E.aM nt w0 μ φ f (aq m id (.box (cs.set j u))) a w:=by
 have key:∀i b,aq m id (.box (cs.set j u)) i=some b→(i=id∧b=.box (cs.set j u))∨m i=some b:=fun i b hb=>by
  by_cases e:i=id
  ·simp_all
  simp_all[aw]
 have zw:∀i,(m i).isSome=true→(aq m id (.box (cs.set j u)) i).isSome=true:=fun i hi=>by
  by_cases e:i=id
  ·simp_all
  ·rw[aw e];omega
 have back:∀i b,aq m id (.box (cs.set j u)) i=some b→∃b',m i=some b'∧(b.j7=true→b'.j7=true)∧b.rowAt=b'.rowAt:=fun i b hb=>by
  rcases key i b hb with⟨rfl,rfl⟩|hb
  ·exact⟨_,hm,fun _=>rfl,rfl⟩
  simp_all
 exact
 {below:=h.below,ro:=h.ro,aM:=h.aM,dH:=fun i b hb=>by
   rcases key i b hb with⟨rfl,rfl⟩|hb
   ·obtain⟨g,c,T,c1,c2,c3,c4,c5,c6⟩:=h.dH _ _ hm;refine⟨g,c,T,c1,c2,by simpa using c3,fun i v x hv hx=>?_,c5,by simpa using c6⟩;rw[aj6]at hv;split at hv
    ·rename_i e;subst e;split at hv
     ·simp only[AT]at hv;subst hv;have:=c4 j .iK x hj hx;cases this;omega
     ·cases hv
    ·exact c4 i v x hv hx
   ·exact h.dH i b hb,
  own:=fun i b g hb hg=>by obtain⟨b',iv,Hd,vo⟩:=back i b hb;obtain⟨o1,o2⟩:=h.own i b' g iv (by simp_all[bR.ev]);simp_all,
  inj:=fun VH id2 b1 b2 g h1 h2 g1 g2=>by obtain⟨b1',Ua,_,r1⟩:=back VH b1 h1;obtain⟨b2',ZN,_,r2⟩:=back id2 b2 h2;exact h.inj VH id2 b1' b2' g Ua ZN (by simp_all[bR.ev]) (by simp_all[bR.ev]),
  apart:=fun i b hb=>by obtain⟨b',iv,_,vo⟩:=back i b hb;have:=h.apart i b' iv;unfold bR.apart at this⊢;rw[vo];omega,
  fY:=fun i Ov sZ hi av=>by
   rcases key i _ hi with⟨rfl,he⟩|hi
   ·simp only[bR.box.injEq]at he;subst he;rcases LO _ _ av with av|av
    ·exact zw _ (h.fY _ _ _ hm av)
    simp_all
   ·exact zw _ (h.fY _ _ _ hi av),
  base:=h.base,dJ:=h.dJ,
  Dc:=fun i st hi=>by
   rcases key i _ hi with⟨_,he⟩|hi
   ·cases he
   ·exact h.Dc i st hi,
  size:=h.size,defers:=h.defers,mY:=h.mY,fr:=h.fr,
  live:=fun t i av=>zw _ (h.live t i av)}
variable{et:TypeId}
theorem Rel.ace(h:Rel E.P E.aM nt w0 μ φ f m a w){V6:Nat}(hn:m V6=none)(eF:0<aV E.P et):∃φ',(φ' V6).g=none∧Rel E.P E.aM nt w0 μ φ' f (aq m V6 (.arr (aV E.P et) et [])) a w:=by
 have hf:fresh false V6 (.arr (aV E.P et) et []) f m (fun f m _=>some (f,m))=some (f,aq m V6 (.arr (aV E.P et) et [])):=by simp[fresh,hn]
 obtain⟨f1,m1,_,hk,_,_,wM⟩:=eC hf;simp only[AT,ado]at hk;obtain⟨rfl,rfl⟩:=hk;obtain⟨φ',a1,a2,a3⟩:=wM E.P E.aM w0 μ φ w w (ax nt w0 a) (DU none 0 0 (aV E.P et)) h.toaz ⟨h.fr,h.live⟩ ⟨lA.refl _ _,h.toaz.ro,fun _ _ _ _ _=>rfl,by simp,fun φ' hp _=>by refine⟨by rw[hp];rfl,by rw[hp],rfl,eF,by simp,by rw[hp];simp[maxLen],?_⟩;simp_all,by simp[bR.names],fun st h=>by cases h⟩;exact⟨φ',by rw[a1],{toaz:=a2,size:=h.size,defers:=h.defers,mY:=h.mY,fr:=a3.fr,live:=a3.live}⟩
theorem uF{A:Type}{nt:Nat}{a:Act}{w:World}:∀{l:List (Nat×Nat×Nat×TypeId)}{μ:Ro}{φ:Nat→aH}{f:Fr}{m:Mem}{k:Mem→A}{r:A},C9 E.P l m k=r→Rel E.P E.aM nt w0 μ φ f m a w→∃m' φ',k m'=r∧Rel E.P E.aM nt w0 μ φ' f m' a w
 |[],μ,φ,f,m,k,r,h,hR=>⟨m,φ,h,hR⟩
 |(id,j,V6,et)::l,μ,φ,f,m,k,r,h,hR=>by
  unfold C9 at h;split at h
  ·rename_i cs hm;split at h
   ·rename_i hj;split at h
    ·rename_i hn;split at h
     ·rename_i eF;obtain⟨φ',g0,j6⟩:=hR.ace hn eF;have cY:id≠V6:=fun e=>by simp_all
      exact uF h (j6.Xe (by rw[aw cY];omega) hj (.s9 g0) fun i hi=>by have:=No hi;subst this;simp)
     ·exact uF h hR
    ·exact uF h hR
   ·exact uF h hR
  ·exact uF h hR
theorem Be{A:Type}{nt:Nat}{a:Act}{w:World}:∀{l:List (Nat×Nat×Nat)}{μ:Ro}{φ:Nat→aH}{f:Fr}{m:Mem}{k:Mem→A}{r:A},HB l m k=r→Rel E.P E.aM nt w0 μ φ f m a w→∃m',k m'=r∧Rel E.P E.aM nt w0 μ φ f m' a w
 |[],μ,φ,f,m,k,r,h,hR=>⟨m,h,hR⟩
 |(id,j,sz)::l,μ,φ,f,m,k,r,h,hR=>by
  unfold HB at h;split at h
  ·rename_i cs hm;split at h
   ·rename_i hj;exact Be h (hR.Xe hm hj (.pv .lk) (fun i hi=>by cases hi))
   ·exact Be h hR
  ·exact Be h hR
theorem jr{T:Type}{l:List T}{n i:Nat}{e:T}(h:(l.take n)[i]?=some e):l[i]?=some e∧i<n:=by grind
theorem Rel.aaa(h:Rel E.P E.aM nt w0 μ φ f m a w){s:Nat}{es:List PV}(hm:m id=some (.arr s et es)):Rel E.P E.aM nt w0 μ φ f (aq m id (.nest s et es)) a w:=by
 have hA:aN E.P μ φ w id s et es:=h.dH id _ hm;have key:∀i b,aq m id (.nest s et es) i=some b→(i=id∧b=.nest s et es)∨m i=some b:=fun i b hb=>by
  by_cases e:i=id
  ·simp_all
  simp_all[aw]
 have zw:∀i,(m i).isSome=true→(aq m id (.nest s et es) i).isSome=true:=fun i hi=>by
  by_cases e:i=id
  ·simp_all
  ·rw[aw e];omega
 have hN:bd E.P μ φ w id s et es:=by
  obtain⟨h1,h2,h3,h4,h5,h6,h7⟩:=hA;refine⟨h1,h2,h3,h4,h5,h6,?_⟩;cases hg:(φ id).g with
  |none=>rw[hg]at h7;omega
  |some g=>rw[hg]at h7;obtain⟨c,T,c1,c2,c3,c4,c5⟩:=h7;exact⟨c,T,c1,c2,c3,fun i e j p x he hp hx=>.pure (c4 i e j p x he hp hx),c5⟩
 have Dt:∀i off,(bR.nest s et es).rowAt i off=true→False:=fun i off hr=>by
  rcases kA hr with⟨_,_,_,e,s',rs,hb,he,hp⟩|⟨_,_,_,_,_,_,hb,_⟩
  ·cases hb;obtain⟨h1,h2,h3,h4,h5,h6,h7⟩:=hA;cases hg:(φ id).g with
   |none=>simp_all
   |some g=>
    rw[hg]at h7;obtain⟨c,T,c1,c2,c3,c4,c5⟩:=h7;have hi:i<es.length:=(IS.1 he).1;have hj:off<s:=by grind
    have cd:i*s+off<c.size:=by have:(i+1)*s≤(φ id).cap*s:=adq _ (by omega);grind
    exact Bool.noConfusion (ai.Ei (c4 i e off _ _ he hp (T0 cd)))
  ·cases hb
 have ajm:∀i off,(bR.arr s et es).rowAt i off=true→False:=rj;have hM:az E.P E.aM w0 μ φ (aq m id (.nest s et es)) w:=by
  refine h.toaz.SA (fun _ k=>k) (fun j b' hb=>?_) (fun j b' g hb hg=>?_) (fun j b' hb=>?_) (fun j cs i hb hh=>?_) (fun j st hb=>?_)
  ·rcases key j b' hb with⟨rfl,rfl⟩|hb
   ·exact hN
   ·exact h.dH j b' hb
  ·rcases key j b' hb with⟨rfl,rfl⟩|hb
   ·exact⟨j,_,hm,.inl (pg Dt hg),fun _=>rfl,rfl⟩
   grind
  ·rcases key j b' hb with⟨rfl,rfl⟩|hb
   ·exact rQ Dt
   ·exact h.apart j b' hb
  ·rcases key j _ hb with⟨_,hb⟩|hb
   ·cases hb
   ·exact zw _ (h.fY j cs i hb hh)
  grind
 exact{toaz:=hM,size:=h.size,defers:=h.defers,mY:=h.mY,fr:=h.fr,live:=fun t i av=>zw _ (h.live t i av)}
theorem FT{A:Type}{nt:Nat}{a:Act}{w:World}:∀{l:List Nat}{μ:Ro}{φ:Nat→aH}{f:Fr}{m:Mem}{k:Mem→A}{r:A},Le l m k=r→Rel E.P E.aM nt w0 μ φ f m a w→∃m',k m'=r∧Rel E.P E.aM nt w0 μ φ f m' a w
 |[],μ,φ,f,m,k,r,h,hR=>⟨m,h,hR⟩
 |id::l,μ,φ,f,m,k,r,h,hR=>by
  unfold Le at h;split at h
  ·rename_i s et es hm;exact FT h (hR.aaa hm)
  ·exact FT h hR
theorem Rel.cut(h:Rel E.P E.aM nt w0 μ φ f m a w){j d len s:Nat}{cs:List V}{es:List PV}(hm:m id=some (.box cs))(hj:cs[j]?=some (.fX d 0 len))(hd:m d=some (.arr s et es))(cY:d≠id):∃φ',Rel E.P E.aM nt w0 μ φ' (fi d f) (aq (aq (bq (bM d m) d) d (.arr s et (es.take len))) id (.box ((cs.map (th d)).set j (.os d)))) a w:=by
 obtain⟨m',Zf⟩:∃m',m'=aq (aq (bq (bM d m) d) d (.arr s et (es.take len))) id (.box ((cs.map (th d)).set j (.os d))):=⟨_,rfl⟩;rw[←Zf];obtain⟨g0,c,T,c1,c2,c3,c4,c5,c6⟩:=h.dH _ _ hm;have hA:aN E.P μ φ w d s et es:=h.dH d _ hd;have Ca:j<cs.length:=(IS.1 hj).1;have hx:=c4 j _ _ hj (T0 (by omega));obtain⟨φ',f1,f2,f3,f4⟩:∃φ':Nat→aH,(∀i,i≠d→φ' i=φ i)∧(φ' d).g=(φ d).g∧aN E.P μ φ' w d s et (es.take len)∧ah E.P μ φ' (.os d) c[j]:=by
  obtain⟨h1,h2,h3,h4,h5,h6,h7⟩:=hA;generalize c[j]=x at hx;cases hx with
  |rJ hg=>refine⟨φ,fun _ _=>rfl,rfl,?_,.s9 hg⟩;rw[hg]at h7;obtain⟨rfl,h7⟩:=h7;refine⟨h1,h2,h3,h4,by simp,h6,?_⟩;simp_all
  | @fX _ _ _ cap g ad hg hl ha hc hc'=>
   rw[hg]at h7;obtain⟨q,Tq,q1,q2,q3,q4,q5⟩:=h7;have hlen:(es.take len).length=len:=by simp_all
   have had:ad=⟨g,0,none⟩:=by simp_all
   subst had;refine⟨fun i=>if i=d then{φ d with cap:=cap,len:=len}else φ i,fun i hi=>IN hi,by simp,⟨by simp[hlen],by simpa using h2,h3,h4,fun i e he=>h5 i e (jr he).1,by simp;omega,?_⟩,?_⟩
   ·simp only[aaV,hg];refine⟨q,Tq,q1,ajP (adq _ (by omega)) q2,by omega,fun i e j p x he hp hx=>q4 i e j p x (jr he).1 hp hx,fun i x hi hx=>q5 i x (Nat.lt_of_lt_of_le hi (adq _ (by omega))) hx⟩
   ·have:=ah.os (P:=E.P) (μ:=μ) (φ:=fun i=>if i=d then{φ d with cap:=cap,len:=len}else φ i) (id:=d) (g:=g) (by simp[hg]);simpa using this
 have key:∀i b,m' i=some b→(i=id∧b=.box ((cs.map (th d)).set j (.os d)))∨(i=d∧b=.arr s et (es.take len))∨(i≠id∧i≠d∧∃b',m i=some b'∧b=gP d b'):=fun i b hb=>by
  rw[Zf]at hb;by_cases e:i=id
  ·simp_all
  ·rw[aw e]at hb;by_cases e':i=d
   ·simp_all
   simp_all[aw,fN]
 have zw:∀i,(m i).isSome=true→(m' i).isSome=true:=fun i hi=>by
  rw[Zf];by_cases e:i=id
  ·simp_all
  ·rw[aw e];by_cases e':i=d
   ·simp_all
   simp_all[aw,tG]
 have acf:∀{i:Nat}{b':bR},(gP d b').names i=true→i≠d:=fun{i b'}hn=>by cases b'<;>simp only[gP,bR.names]at hn<;>first|cases hn|exact(yK hn).2
 have hM:az E.P E.aM w0 μ φ' m' w:=by
  refine h.toaz.SA (fun _ k=>k) (fun i b' hb=>?_) (fun i b' g hb hg=>?_) (fun i b' hb=>?_) (fun i Ov i' hb hh=>?_) (fun i st hb=>?_)
  ·rcases key i b' hb with⟨rfl,rfl⟩|⟨rfl,rfl⟩|⟨e1,e2,b2,vg,rfl⟩
   ·refine⟨g0,c,T,by grind,c2,by simpa using c3,fun n v x hv Sy=>?_,c5,by grind⟩;rw[aj6]at hv;split at hv
    ·simp_all
    ·simp only[IT,ah2]at hv;obtain⟨v',T3,rfl⟩:=hv;exact((c4 n v' x T3 Sy).kill d).mono (fun _ _ h=>h) fun i hi=>f1 i (w8 hi).2
   ·exact f3
   ·exact(h.dH i b2 vg).kill.cL (fun k hk=>f1 k (acf hk)) (f1 i e2) (fun _ _ h=>h) (fun _ _=>rfl)
  ·rcases key i b' hb with⟨rfl,rfl⟩|⟨rfl,rfl⟩|⟨e1,e2,b2,vg,rfl⟩
   ·refine⟨i,_,hm,.inl ?_,fun _=>rfl,rfl⟩;have:=pg (by intro i off h;simp[bR.rowAt]at h) hg;grind
   ·refine⟨i,_,hd,.inl ?_,fun _=>rfl,rfl⟩;grind [pg,rj]
   ·refine⟨i,b2,vg,?_,fun Hd=>by rw[yL]at Hd;omega,rfl⟩;rw[f1 i e2]at hg;exact gJ.1 hg
  ·rcases key i b' hb with⟨rfl,rfl⟩|⟨rfl,rfl⟩|⟨e1,e2,b2,vg,rfl⟩
   ·grind [rQ,bR.rowAt]
   ·exact rQ rj
   ·rw[f1 i e2];exact vv.2 (h.apart i b2 vg)
  ·rcases key i _ hb with⟨rfl,hb⟩|⟨rfl,hb⟩|⟨e1,e2,b2,vg,e⟩
   ·simp only[bR.box.injEq]at hb;subst hb;rcases LO _ _ hh with hh|hh
    ·exact zw _ (h.fY _ _ _ hm (yK hh).1)
    ·have:=No hh;simp_all
   ·cases hb
   ·cases b2 with
    |box cs2=>simp only[gP,bR.box.injEq]at e;subst e;exact zw _ (h.fY _ _ _ vg (yK hh).1)
    |_=>simp[gP]at e
  ·rcases key i _ hb with⟨rfl,hb⟩|⟨rfl,hb⟩|⟨e1,e2,b2,vg,e⟩
   ·cases hb
   ·cases hb
   ·cases b2 with
    |loop st2=>simp_all[gP,bR.loop.injEq]
    |_=>simp[gP]at e
 exact⟨φ',{toaz:=hM,size:=h.size,defers:=h.defers,mY:=h.mY,fr:=(fun t=>((h.fr t).kill d).mono (fun _ _ h=>h) fun i hi=>f1 i (w8 hi).2),live:=fun t i av=>zw _ (h.live t i (w8 av).1)}⟩
theorem uG{A:Type}{nt:Nat}{a:Act}{w:World}:∀{l:List (Nat×Nat)}{μ:Ro}{φ:Nat→aH}{f:Fr}{m:Mem}{k:Fr→Mem→A}{r:A},Da l f m k=r→Rel E.P E.aM nt w0 μ φ f m a w→∃f' m' φ',k f' m'=r∧Rel E.P E.aM nt w0 μ φ' f' m' a w
 |[],μ,φ,f,m,k,r,h,hR=>⟨f,m,φ,h,hR⟩
 |(id,j)::l,μ,φ,f,m,k,r,h,hR=>by
  unfold Da at h;split at h
  ·rename_i cs hm;split at h
   ·rename_i d len hj;split at h
    ·rename_i s et es hd;split at h
     ·exact uG h hR
     ·rename_i cY;have cY:d≠id:=fun e=>cY (by simp_all);obtain⟨φ',j6⟩:=hR.cut hm hj hd cY;exact uG h j6
    ·exact uG h hR
   ·exact uG h hR
  ·exact uG h hR
theorem LP{A:Type}{T:eA}{k:Fr→Mem→A}{r:A}(h:HC E.P T f m k=r)(hR:Rel E.P E.aM nt w0 μ φ f m a w):∃f' m' μ' φ',k f' m'=r∧Rel E.P E.aM nt w0 μ' φ' f' m' a w:=by unfold HC at h;obtain⟨_,_,_,h,hR⟩:=uG h hR;obtain⟨m1,φ1,h,hR⟩:=uF h hR;obtain⟨m',h,hR⟩:=Be h hR;obtain⟨m',h,hR⟩:=FT h hR;obtain⟨f',m',μ',h,hR⟩:=uE h hR;grind
def Xf:Ex→Exit
 |.normal=>.normal
 |.exit id=>.exit id
 |.ret=>.ret
theorem Rel.Xg(h:Rel E.P E.aM nt w0 μ φ f m a w):Rel E.P E.aM nt w0 μ φ f m a {w with drawn:=w.drawn+1}:={toaz:=h.toaz.drew,size:=h.size,defers:=h.defers,mY:=h.mY,fr:=h.fr,live:=h.live}
theorem Uy{rd:Option Nat}(hE:kv E)(hY:ur E.P E.aM E.fn.ntmps E.yl w0){R:Type}{ops:Array Oper}{draw:Bool}{k:Ex→Fr→Mem→Option R}{r:R}(h:fM E (.region id ops draw) f m k=some r){Q:Exit→Act→World→Prop}(hR:Rel E.P E.aM E.fn.ntmps w0 μ φ f m a w)(hQ:∀f' m' μ' φ' a' w',k .normal f' m'=some r→Rel E.P E.aM E.fn.ntmps w0 μ' φ' f' m' a' w'→Q .normal a' w'):(Code.region id ops draw).wpIn (FR rd) 0 E.P Q a w:=by
 simp only[fM]at h;cases draw with
 |false=>
  simp only[By,abG]at h;refine wpIn_region ?_;have hmz:∀x∈(List.range ops.size).zip ops.toList,ops[x.1]?=some x.2:=fun x hx=>by have:=(tM (l:=ops.toList) (i:=x.1) (o:=x.2)).1 (by omega);simp_all
  have:=jm (rd:=rd) hE hY _ (.inl rfl) h hmz (by intro x hx g hg;cases hg) (fun h=>by omega) μ φ a w Q [] hR (by intro g hg;cases hg) fun f' m' μ' φ' a' w' hk j6 _ _=>hQ f' m' μ' φ' a' w' hk j6;simp_all[aj2,List.map_fst_zip]
 |true=>
  simp only[aaV]at h;split at h
  ·split at h
   ·rename_i hc;simp only[T1]at hc;exact wpIn_region_any hE.mixed (O3 hE hY hc.1.1 hc.1.2 hc.2 h hR.Xg hQ)
   ·cases h
  split at h
  ·rename_i hi;refine wpIn_region_any hE.mixed ?_;split at h
   ·rename_i Hh;exact FM hE hY (.inl rfl) (fun _ o ho=>(Bool.and_eq_true_iff.1 (aki.1 Hh o (ak6.2 ho))).1) hi h hR.Xg hQ
   ·exact FM hE hY (.inr rfl) (fun h=>by omega) hi h hR.Xg hQ
  ·cases h
end
theorem aab{g:FuncId}{fn:Func}(hf:P.funcs[g]?=some fn)(aa8:(fn.name== "runtime.NumGoroutine")=false)(hb:fn.body=some c){args:Array Value}{w:World}:(callFunc g args).run P w=.ok (.enter g args) w:=yO hf aa8 hb
theorem Uz{nt:Nat}{w0:bI}{a:Act}{t:Nat}:ax nt w0 a (t+nt)=w0.sv (t+nt):=by unfold ax;rw[IN (by omega)]
def Cl(c:Code):Prop:=∀{E:Env}{w0:bI}{rd:Option Nat}(_:kv E)(_:ur E.P E.aM E.fn.ntmps E.yl w0)(_:E.rdb=false→rd=none){R:Type}{f:Fr}{m:Mem}{k:Ex→Fr→Mem→Option R}{r:R},fM E c f m k=some r→∀{μ:Ro}{φ:Nat→aH}{a:Act}{w:World}{Q:Exit→Act→World→Prop},Rel E.P E.aM E.fn.ntmps w0 μ φ f m a w→(∀e f' m' μ' φ' a' w',k e f' m'=some r→Rel E.P E.aM E.fn.ntmps w0 μ' φ' f' m' a' w'→Q (Xf e) a' w')→c.wpIn (FR rd) 0 E.P Q a w
theorem Xh{as b:Code}(ihA:Cl as)(ihB:Cl b){E:Env}(hE:kv E){w2:bI}{lid l ntI:Nat}{ps:Array Nat}{rc:Loop}{fid:Nat}(Xa:w2.rc lid=some (l,rc))(pX:rc.params=ps)(has:rc.assign=as)(hb:rc.body=b)(oh:rc.tmps.size=E.fn.ntmps)(hsv:∀t,t<E.fn.ntmps→w2.sv (t+ntI)=rc.tmps.getD t undef):ur E.P E.aM ntI (fun _ nt _ id args F m k=>bif Nat.beq id lid then roundOf (fM {E with fid:=fid,yl:=BT,rdb:=true} as) (fM {E with fid:=fid,yl:=BT,rdb:=true} b) lid E.fn.ntmps ps.toList nt args F m k else none) w2:=by
 intro R site id args F m k r hy μ φ ρ w xs hM hF hρ hl hr Jj g hg;dsimp only at hy;cases av:Nat.beq id lid with
 |false=>rw[av]at hy;cases hy
 |true=>
  rw[av]at hy;have av:=No av;subst av;simp only[cond_true]at hy;unfold roundOf at hy;split at hy
  ·rename_i UA;split at hy
   ·rename_i Jo;obtain⟨g',rc',l1,l2,l3⟩:=hM.Dc id _ UA;rw[Xa]at l2;simp only[AT,ado]at l2;obtain⟨rfl,rfl⟩:=l2;rw[l1]at hg;simp only[AT]at hg;subst hg;have HV:xs.size=(N2.ready.obj rc).params.size:=by
     have:ps.toList.length=ps.size:=by simp
     show xs.size=rc.params.size;rw[pX];omega
    refine⟨_,_,_,_,run_yield l3 HV,?_⟩;have hE':kv {E with fid:=fid,yl:=BT,rdb:=true}:=⟨hE.mixed,hE.lp,hE.ctx,hE.own,hE.inl,hE.rng⟩;have abk:=Ig (P:=E.P) (μ:=μ) (φ:=φ) ps.toList args xs.toList (wU ntI F) rc.tmps oh (by omega) (fun t ht=>by have:=hF.fr (t+ntI);rw[hρ _ (by omega),hsv t ht]at this;exact this) (fun i v x hv hx=>hr i v x hv (by simpa using hx));have hR3:Rel E.P E.aM E.fn.ntmps {w2 with sv:=fun t=>ρ (t-E.fn.ntmps),dJ:=μ,mY:=fun _=>none} μ φ (Sj E.fn.ntmps (EP ps.toList args (wU ntI F)) F) m {tmps:=((N2.ready.obj rc).params.zip xs).foldl (fun tmps(t,a)=>tmps.setIfInBounds t a) (N2.ready.obj rc).tmps,defers:=[]} w:=by
     have e:((N2.ready.obj rc).params.zip xs).foldl (fun tmps(t,a)=>tmps.setIfInBounds t a) (N2.ready.obj rc).tmps=(ps.toList.zip xs.toList).foldl (fun tmps(x:Nat×Value)=>tmps.setIfInBounds x.1 x.2) rc.tmps:=by rw[Xb];show(rc.params.toList.zip xs.toList).foldl _ rc.tmps=_;rw[pX]
     rw[e];refine{toaz:=hM.w7 rfl rfl (fun _ _ h=>h) (fun _ _ _=>rfl),size:=abk.1,defers:=.nil _ _ _,mY:=fun _ _ h=>(by cases h),fr:=fun t=>?_,live:=fun t id av=>?_}
     ·unfold Sj ax;by_cases ht:t<E.fn.ntmps
      ·rw[show Nat.blt t E.fn.ntmps=true by simp_all,BK ht];exact abk.2 t ht
      ·rw[show Nat.blt t E.fn.ntmps=false by rw[←akQ,akH];omega,IN ht];exact hF.fr _
     ·unfold Sj at av;cases e:Nat.blt t E.fn.ntmps with
      |true=>
       rw[e]at av;rcases FN _ _ _ _ av with h|h
       ·exact Jj id h
       ·exact hF.live _ id h
      |false=>rw[e]at av;exact hF.live _ id av
    refine roundIn_of_wpIn trivial ?_;show(N2.ready.obj rc).assign.wpIn (FR (some l)) 0 E.P _ _ _;have ha':(N2.ready.obj rc).assign=as:=has;rw[ha'];refine ihA (rd:=some l) hE' (AV _ _ _ _) (fun h=>by cases h) hy hR3 fun e f1 m1 μ1 φ1 a1 w1 Uh OY=>?_;split at Uh
    ·rename_i hm1;obtain⟨g1,rc1,p1,p2,p3⟩:=OY.Dc id _ hm1;have p2:w2.rc id=some (g1,rc1):=p2;rw[Xa]at p2;simp only[AT,ado]at p2;obtain⟨rfl,rfl⟩:=p2;refine⟨_,run_beginRound p3 rfl,?_⟩;have iv:(N2.ready.obj rc).body=b:=hb;refine Eq.mpr (congrArg (fun c:Code=>c.wpIn (FR (some l)) 0 E.P _ a1 _) iv) ?_;have vw:=OY.toaz.turn (st':=.busy) hm1 p1 Xa;have ahx:Rel E.P E.aM E.fn.ntmps {w2 with sv:=fun t=>ρ (t-E.fn.ntmps),dJ:=μ,mY:=fun _=>none} μ1 φ1 f1 (aq m1 id (.loop .busy)) a1 (w1.putObj l (.loop {N2.ready.obj rc with state:=.busy})):=
      {toaz:=vw,size:=OY.size,defers:=OY.defers,mY:=OY.mY,fr:=OY.fr,live:=fun t j hj=>by
        by_cases e:j=id
        ·subst e;simp
        ·rw[aw e];exact OY.live t j hj}
     refine ihB (rd:=some l) hE' (AV _ _ _ _) (fun h=>by cases h) Uh ahx fun e f2 m2 μ2 φ2 a2 w2' ZO H3=>?_;split at ZO
     ·rename_i c9;obtain⟨g2,rc2,q1,q2,q3⟩:=H3.Dc id _ c9;have q2:w2.rc id=some (g2,rc2):=q2;rw[Xa]at q2;simp only[AT,ado]at q2;obtain⟨rfl,rfl⟩:=q2;have hle:LA μ μ2:=H3.dJ;have hFp:cu E.P μ2 φ2 m2 (wU E.fn.ntmps f2) ρ:=by refine⟨fun t=>?_,fun t id av=>H3.live _ id av⟩;have:=H3.fr (t+E.fn.ntmps);simp_all[Uz,wU]
      have fin:∀(st:N2)(v:Bool),k (.pv (.bool v)) (wU E.fn.ntmps f2) (aq m2 id (.loop st))=some r→∃v' f' m' y μ' φ',k v' f' m'=some r∧Ending.returned (.bool v)=.returned y∧LA μ μ'∧az E.P E.aM w2 μ' φ' m' (w2'.putObj l (.loop (st.obj rc)))∧cu E.P μ' φ' m' f' ρ∧ah E.P μ' φ' v' y∧∀id,v'.has id=true→(m' id).isSome=true:=by
       intro st v hk;have hM2:=H3.toaz.turn (st':=st) c9 q1 Xa;refine⟨_,_,_,_,μ2,φ2,hk,rfl,hle,hM2.w7 rfl rfl (fun b o hb=>hle b o (hM.dJ b o hb)) (fun _ _ _=>rfl),⟨hFp.fr,fun t j hj=>?_⟩,.pv .bool,fun id av=>by cases av⟩;by_cases e:j=id
       ·subst e;simp
       ·rw[aw e];exact hFp.live t j hj
      cases e with
      |normal=>exact⟨_,_,run_endRound none q3,fin .ready true ZO⟩
      |exit j=>exact⟨_,_,run_endRound (some (.exit j)) q3,fin (.done (.exit j)) false ZO⟩
      |ret=>exact⟨_,_,run_endRound (some .ret) q3,fin (.done .ret) false ZO⟩
     ·cases ZO
    ·cases Uh
   ·cases hy
  ·cases hy
theorem aac{μ:Ro}{φ:Nat→aH}{m:Mem}{v:V}{g:FuncId}{caps:List V}{y:Value}(h:abL v=some (g,caps))(hv:ah P μ φ v y)(hl:∀id,v.has id=true→(m id).isSome=true):∃xs,y=.func (.func g) #[] xs∧caps.length=xs.size∧(∀(i:Nat)v x,caps[i]?=some v→xs[i]?=some x→ah P μ φ v x)∧∀id,cD id caps=true→(m id).isSome=true:=by
 unfold abL at h;split at h
 ·rename_i g0 c0;cases e:Nat.blt g0 EC with
  |false=>rw[e]at h;cases h
  |true=>
  rw[e]at h;simp only[cond_true,AT,ado]at h;obtain⟨rfl,rfl⟩:=h;cases hv with
  | @fn _ _ xs h1 h2=>grind [rK,id,V.has]
 ·rename_i g0 c0;cases e:Nat.blt g0 EC with
  |false=>rw[e]at h;cases h
  |true=>
  rw[e]at h;simp only[cond_true,AT,ado]at h;obtain⟨rfl,rfl⟩:=h;cases hv with
  |pv hv=>cases hv with
   | @fn _ _ xs h1 h2=>
    refine⟨xs,rK e,by simpa using h1,fun i v x hv hx=>?_,fun id av=>?_⟩
    ·simp only[IT,ah2]at hv;obtain⟨q,hq,rfl⟩:=hv;exact .pv (h2 i q x hq hx)
    ·obtain⟨v,hv,hh⟩:=cW.1 av;obtain⟨q,_,rfl⟩:=ajJ.1 hv;cases hh
 ·cases h
theorem JD{g:Operand}{ps:Array Tmp}{as b:Code}(ihA:Cl as)(ihB:Cl b):Cl (.rangeFunc g ps as b):=by
 intro E w0 rd hE hY jw R f m k r h μ φ a w Q hR hQ;simp only[fM]at h;split at h
 ·cases h
 rename_i WV;have jw:=jw (by simpa using WV);subst jw;split at h;rotate_left
 ·cases h
 rename_i p0 pr HL;generalize ajn:cU E (some p0)=lid at h;obtain⟨f1,m1,_,h,UA,zq,ahy⟩:=eC h;obtain⟨hm0,rfl,rfl⟩:=zq rfl;refine wpIn_rangeFunc fun fn _=>?_;obtain⟨rec,cA⟩:∃rec:Loop,rec={state:=.ready,pending:=none,fn,tmps:=a.tmps,params:=ps,assign:=as,body:=b,defers:=w.heap.size}:=⟨_,rfl⟩;obtain⟨wD,hwD⟩:∃wD,wD=w.alloc (.deferred (some [])):=⟨_,rfl⟩;obtain⟨W1,hW1⟩:∃W1,W1=wD.alloc (.loop rec):=⟨_,rfl⟩;obtain⟨l,hl⟩:∃l,l=wD.heap.size:=⟨_,rfl⟩;have N4:l=w.heap.size+1:=by rw[hl,hwD];simp
 obtain⟨μD,acg⟩:∃μD,μD=DA μ w (.deferred (some [])):=⟨_,rfl⟩;have aad:LA μ μD:=acg▸LM hR.toaz _;have hMD:az E.P E.aM w0 μD φ m wD:=acg▸hwD▸hR.toaz.Z7 _;have hD:μD w.heap.size=some (.deferred (some [])):=by rw[acg];simp[DA]
 obtain⟨w1,G1⟩:∃w1:bI,w1={w0 with dJ:=μD,rc:=fun i=>if i=lid then some (l,rec)else w0.rc i}:=⟨_,rfl⟩;have aei:az E.P E.aM w1 μD φ m wD:=G1▸hMD.w7 rfl rfl (fun _ _ h=>h) (fun id st av=>IN fun e=>by simp_all);have Ej:ax E.fn.ntmps w1 a=ax E.fn.ntmps w0 a:=by subst G1;rfl
 have hFD:cu E.P μD φ m f1 (ax E.fn.ntmps w0 a):=⟨fun t=>(hR.fr t).zf aad,hR.live⟩;have aej:w1.rc lid=some (l,rec):=by simp_all
 have T5:W1.heap[l]?=some (.loop rec):=by grind [heap_alloc_new]
 have N3:N2.ready.obj rec=rec:=by subst cA;rfl
 have tL:ll E.P w1 μD φ m wD W1 lid (.loop .ready) (DU (some l) 0 0 0):=by
  rw[hW1];refine ll.alloc aei (by rw[hl]) (fun φ' hp _=>⟨l,rec,by rw[hp],?_⟩) (by simp[bR.names]) fun st ov=>?_
  ·simp_all
  simp_all
 obtain⟨φ1,ahz,vw,DW⟩:=ahy E.P E.aM w1 μD φ wD W1 (ax E.fn.ntmps w0 a) (DU (some l) 0 0 0) aei hFD tL;have OY:Rel E.P E.aM E.fn.ntmps w1 μD φ1 f1 (aq m lid (.loop .ready)) a W1:={toaz:=vw,size:=hR.size,defers:=(by have:=hR.defers.mono aad;subst G1;omega),mY:=(by subst G1;exact fun b o hb=>aad b o (hR.dJ b o (hR.mY b o hb))),fr:=fun t=>by rw[Ej];exact DW.fr t,live:=DW.live};have Dv:=an OY g;split at h;rotate_left
 ·cases h
 rename_i gid caps qd;obtain⟨xs,hgv,hlen,ku,ahA⟩:=aac qd Dv.1 Dv.2
 ·clear Dv;obtain⟨fnI,cI,f1,f2,f3,Bf⟩:=hE.rng _ _ _ _ _ _ _ _ _ h;have hyl:ah E.P μD φ1 (.yl lid) (.func (.yield l) #[] #[]):=.yl (by rw[ahz]);have hC:=Bf w1 μD φ1 (ax E.fn.ntmps w0 a) W1 (#[.func (.yield l) #[] #[]]++xs) vw DW (by simp;omega) (fun i v x hv hx=>by
    grind) (fun id av=>by
    simp only[cD,ajA]at av;rcases av with av|av
    ·have:=No av;subst this;simp
    ·exact ahA id av) (by
   refine fun R site id args F m k r hy=>Xh (fid:=site*4096+E.fid%4096) ihA ihB hE (w2:={w1 with sv:=fun t=>ax E.fn.ntmps w0 a (t-fnI.ntmps)}) (rc:=rec) (l:=l) (lid:=lid) (ps:=ps) aej (by subst cA;rfl) (by subst cA;rfl) (by subst cA;rfl) (by subst cA;exact hR.size) (fun t ht=>by grind [ax,Nat.add_sub_cancel,rI]) R site id args F m k r hy)
  refine⟨l,[{target:=.collected w.heap.size,args:= #[]}],W1,{target:=.fn (.func gid) xs,args:= #[.func (.yield l) #[] #[]]},W1,gid,#[.func (.yield l) #[] #[]]++xs,W1,?_,?_,?_,?_,?_,?_⟩
  ·have:=run_enterLoop_outer (P:=E.P) (w:=w) fn a.tmps ps as b;rw[N4,hW1,hwD,cA];exact this
  ·simp only[resolve,hgv];simp[go_sem]
  ·exact fun _ _=>trivial
  ·grind [invoke,aab]
  ·decide
  ·refine FR.SE (hC.mono ?_);rintro e w' ⟨v,f',m',y,μ',φ',hk,rfl,Wo,hF',_,_⟩;have aek:LA μD μ':=by have:=Wo.dJ;subst G1;omega
   have hD':μ' w.heap.size=some (.deferred (some [])):=aek _ _ hD;have main:∀st,m' lid=some (.loop st)→st≠.busy→∃w4,(Instr.endLoop l).run E.P w'=.ok (st.obj rec).pending w4∧Rel E.P E.aM E.fn.ntmps w0 μ' φ' (fi lid f') (bq (bM lid m') lid) {a with defers:=[{target:=.collected w.heap.size,args:= #[]}]++a.defers} w4:=by
    intro st ov hnb;obtain⟨g',rc',p1,p2,p3⟩:=Wo.Dc lid st ov;rw[aej]at p2;simp only[AT,ado]at p2;obtain⟨rfl,rfl⟩:=p2;have wZ:=Wo.own lid _ _ ov (.inl p1);have hMf:=Wo.forget lid;have Dt:∀id b,bq (bM lid m') lid id=some b→¬b.ev (φ' id) l:=fun id b' av e=>by obtain⟨cY,b2,vg,rfl⟩:=fN av;exact cY (Wo.inj id lid b2 _ l vg ov (gJ.1 e) (.inl p1))
    have hM4:=hMf.other (.loop {st.obj rec with state:=.exhausted}) wZ.1 (wZ.2 rfl) Dt;have hM5:az E.P E.aM w0 μ' φ' (bq (bM lid m') lid) (w'.putObj l (.loop {st.obj rec with state:=.exhausted})):=hM4.w7 (by subst G1;rfl) (by subst G1;rfl) (fun b o hb=>aek b o (aad b o (hR.dJ b o hb))) (fun id st av=>by
      have cY:id≠lid:=fun e=>by subst e;simp at av
      subst G1;exact(IN cY).symm)
    refine⟨_,run_endLoop p3 (by cases st<;>simp_all[N2.obj]),{toaz:=hM5,size:=hR.size,defers:=?_,mY:=hR.mY,fr:=?_,live:=?_}⟩
    ·obtain⟨Ds,e,hnd,hDs⟩:=hR.defers;have cd:∀b o,μ b=some o→b<w.heap.size:=fun b o hb=>(adp.1 (hR.ro b o hb)).1;refine⟨w.heap.size::Ds,by simp[e],alz.2 ⟨fun hd=>?_,hnd⟩,fun D hd=>?_⟩
     ·grind
     ·rcases ah4.1 hd with rfl|hd
      ·refine⟨hR.below.size,?_,hD'⟩;cases ho:w0.mY w.heap.size with
       |none=>rfl
       |some o=>have:=cd _ _ (hR.dJ _ _ (hR.mY _ _ ho));omega
      grind
    ·exact(hF'.forget lid).fr
    ·exact(hF'.forget lid).live
   dsimp only at hk;split at hk
   ·rename_i ov;obtain⟨w4,e1,e2⟩:=main .ready ov (by simp);exact⟨none,w4,e1,hQ .normal _ _ _ _ _ _ hk e2⟩
   ·rename_i j ov;obtain⟨w4,e1,e2⟩:=main (.done j) ov (by simp);refine⟨some j.code,w4,e1,?_⟩;cases j with
    |ret=>exact wpIn_ret (hQ .ret _ _ _ _ _ _ hk e2)
    |exit id=>exact wpIn_exit (hQ (.exit id) _ _ _ _ _ _ hk e2)
   ·cases hk
theorem Xi:∀(c:Code),Cl c:=by
 intro c;induction c with
 |skip=>intro E w0 rd hE hY jw R f m k r h μ φ a w Q hR hQ;simp only[fM]at h;exact wpIn_skip (hQ .normal _ _ _ _ _ _ h hR)
 |region id ops draw=>intro E w0 rd hE hY jw R f m k r h μ φ a w Q hR hQ;exact Uy hE hY h hR (hQ .normal)
 |seq x y ihx ihy=>
  intro E w0 rd hE hY jw R f m k r h μ φ a w Q hR hQ;simp only[fM]at h;refine wpIn_seq (ihx hE hY jw h hR fun e f' m' μ' φ' a' w' hk j6=>?_);cases e with
  |normal=>exact ihy hE hY jw hk j6 hQ
  |exit id=>exact hQ (.exit id) _ _ _ _ _ _ hk j6
  |ret=>exact hQ .ret _ _ _ _ _ _ hk j6
 |cond c x y ihx ihy=>
  intro E w0 rd hE hY jw R f m k r h μ φ a w Q hR hQ;simp only[fM]at h;split at h
  ·rename_i t b hb;have hv:a.eval (.tmp t)=.bool b:=by have:=(an hR (.tmp t)).1;grind [rY]
   have iv:f t=.pv (.bool b):=(Fv hb).2;have hle:wN (gO f t (.pv (.bool b))) f:=fun s=>by
    simp only[gO];cases e:Nat.beq s t with
    |true=>simp_all
    |false=>simp
   cases b with
   |true=>simp only[aaV]at h;exact wpIn_cond_true hv (ihx hE hY jw h (hR.weaken hle) hQ)
   |false=>simp only[By,abG]at h;exact wpIn_cond_false hv (ihy hE hY jw h (hR.weaken hle) hQ)
  ·cases h
 |block id b ih=>
  intro E w0 rd hE hY jw R f m k r h μ φ a w Q hR hQ;simp only[fM]at h;refine wpIn_block (ih hE hY jw h hR fun e f' m' μ' φ' a' w' hk j6=>?_);cases e with
  |normal=>exact hQ .normal _ _ _ _ _ _ hk j6
  |exit j=>
   simp only[Ex.V7]at hk;simp only[Xf,Exit.inBlock];split at hk
   ·rename_i hj;rw[BK hj];exact hQ .normal _ _ _ _ _ _ hk j6
   ·rename_i hj;rw[IN hj];exact hQ (.exit j) _ _ _ _ _ _ hk j6
  |ret=>exact hQ .ret _ _ _ _ _ _ hk j6
 |loop b ih=>
  intro E w0 rd hE hY jw R f m k r h μ φ a w Q hR hQ;simp only[fM]at h;split at h
  ·rename_i T _;obtain⟨f,m,μ,φ,h,hR⟩:=LP h hR;obtain⟨s,hs,s1,s2,s3,s4⟩:=Xd h;obtain⟨n0,hs⟩:=hE.lp _ _ _ _ _ hs;refine Ih (fun n a w=>∃s μ φ,Rel E.P E.aM E.fn.ntmps w0 μ φ (Om T s) (EO T s) a w∧cR (fun s rec=>fM E b (Om T s) (EO T s) (Ex.Lf (fun f m=>HC E.P T f m fun f m=>enc T f m rec) k)) n s=some r) ?_ n0 a w ⟨s,μ,φ,hR.dec s1 s2 s3 s4,hs⟩;rintro n a w ⟨s,μ,φ,hR,hs⟩;cases n with
   |zero=>simp[cR]at hs
   |succ n=>
    refine⟨n,rfl,?_⟩;simp only[cR]at hs;refine ih hE hY jw hs hR fun e f' m' μ' φ' a' w' hk j6=>?_;cases e with
    |normal=>obtain⟨f',m',μ',φ',hk,j6⟩:=LP hk j6;obtain⟨s',hs',t1,t2,t3,t4⟩:=Xd hk;exact⟨s',μ',φ',j6.dec t1 t2 t3 t4,hs'⟩
    |exit j=>exact hQ (.exit j) _ _ _ _ _ _ hk j6
    |ret=>exact hQ .ret _ _ _ _ _ _ hk j6
  ·refine Ih (fun n a w=>∃f m μ φ,Rel E.P E.aM E.fn.ntmps w0 μ φ f m a w∧Ld (fun f m rec=>fM E b f m (Ex.Lf rec k)) n f m=some r) ?_ E.u a w ⟨f,m,μ,φ,hR,h⟩;rintro n a w ⟨f,m,μ,φ,hR,hs⟩;cases n with
   |zero=>simp[Ld]at hs
   |succ n=>
    refine⟨n,rfl,?_⟩;simp only[Ld]at hs;refine ih hE hY jw hs hR fun e f' m' μ' φ' a' w' hk j6=>?_;cases e with
    |normal=>exact⟨f',m',μ',φ',j6,hk⟩
    |exit j=>exact hQ (.exit j) _ _ _ _ _ _ hk j6
    |ret=>exact hQ .ret _ _ _ _ _ _ hk j6
 |exit id=>intro E w0 rd hE hY jw R f m k r h μ φ a w Q hR hQ;simp only[fM]at h;exact wpIn_exit (hQ (.exit id) _ _ _ _ _ _ h hR)
 |label l=>intro E w0 rd hE hY jw R f m k r h μ φ a w Q hR hQ;simp only[fM]at h;exact wpIn_label (hQ .normal _ _ _ _ _ _ h hR)
 |ret=>intro E w0 rd hE hY jw R f m k r h μ φ a w Q hR hQ;simp only[fM]at h;exact wpIn_ret (hQ .ret _ _ _ _ _ _ h hR)
 |scope b ih=>intro E w0 rd hE hY jw R f m k r h μ φ a w Q hR hQ;simp only[fM]at h;exact Ux (ih hE hY jw h hR fun e f' m' μ' φ' a' w' hk j6=>by cases e<;>exact hQ _ _ _ _ _ _ _ hk j6)
 |rangeFunc g ps as b ihA ihB=>exact JD ihA ihB
 |_=>intro E w0 rd hE hY jw R f m k r h;simp[fM]at h
def Obj.ach:Obj→Bool
 |.cells .. =>true
 |.map .. =>true
 |_=>false
def SM(μ μ':Ro):Prop:=∀b o,μ b=some o→Obj.ach o=true→μ' b=some o
theorem SM.trans{a b c:Ro}(h:SM a b)(k:SM b c):SM a c:=fun x o hx ho=>k x o (h x o hx ho) ho
section
variable {P:Program} {G:Nat→Option (List PV)} {w0:bI} {μ μ':Ro} {φ:Nat→aH} {m:Mem} {w w':World}
variable{x:Value}
theorem FU(h:SM μ μ'){b o:Nat}(hx:cellAt μ b o=some x):cellAt μ' b o=some x:=by
 unfold cellAt at*;split at hx
 ·rename_i c t fz hb;rw[h _ _ hb rfl];exact hx
 ·cases hx
theorem ai.off(h:SM μ μ'){p:PV}(hp:ai P μ p x):ai P μ' p x:=by
 induction hp with
 |int h=>exact .int h
 |bool=>exact .bool
 |str h=>exact .str h
 |agg h1 _ h3 ih=>exact .agg h1 ih h3
 |bu h1 _ ih=>exact .bu h1 ih
 |qU=>exact .qU
 |rp X h1 _ h3 ih=>exact .rp X (fun i p hi=>FU h (h1 i p hi)) ih h3
 |lk=>exact .lk
 |G9 h=>exact .G9 h
 |rs X h1 h2 h3 h4 _ h6 ih=>exact .rs X h1 h2 h3 (fun i e j p hi hj=>FU h (h4 i e j p hi hj)) ih h6
 |wJ=>exact .wJ
 |rm h1 h2 h3 h4 h5 _ _ ih1 ih2=>exact .rm (h _ _ h1 rfl) h2 h3 h4 h5 ih1 ih2
 |BR=>exact .BR
 |fn h1 _ ih=>exact .fn h1 ih
 |We=>exact .We
 |Zy=>exact .Zy
 |bad=>exact .bad
theorem ze.off(h:SM μ μ'){g:Nat}{cs:List PV}(hv:ze P μ g cs):ze P μ' g cs:=⟨hv.rep.off h,let⟨c,T,z,h1,h2⟩:=hv.size;⟨c,T,z,h _ _ h1 rfl,h2⟩⟩
theorem ah.off(h:SM μ μ'){v:V}{x:Value}(hv:ah P μ φ v x):ah P μ' φ v x:=by
 induction hv with
 |pv hp=>exact .pv (hp.off h)
 |iK=>exact .iK
 |op hg=>exact .op hg
 |oe hg=>exact .oe hg
 |s9 hg=>exact .s9 hg
 |os hg=>exact .os hg
 |rJ hg=>exact .rJ hg
 |fX hg hl ha hc hc'=>exact .fX hg hl ha hc hc'
 |Jk hg=>exact .Jk hg
 |wR hg=>exact .wR hg
 |AM hg hs=>exact .AM hg hs
 |om hg=>exact .om hg
 |yl hg=>exact .yl hg
 |it hg=>exact .it hg
 |fn h1 _ ih=>exact .fn h1 ih
 |agg h1 _ h3 ih=>exact .agg h1 ih h3
 |bu h1 _ ih=>exact .bu h1 ih
 |top=>exact .top
theorem aN.off(h:SM μ μ'){id sz:Nat}{et:TypeId}{es:List PV}(ha:aN P μ φ w id sz et es)(hw:∀g,(φ id).g=some g→w'.heap[g]?=w.heap[g]?):aN P μ' φ w' id sz et es:=by
 obtain⟨a1,a2,a3,a4,a5,a6,a7⟩:=ha;refine⟨a1,a2,a3,a4,a5,a6,?_⟩;cases hg:(φ id).g with
 |none=>rw[hg]at a7;exact a7
 |some g=>rw[hg]at a7;obtain⟨c,T,c1,c2,c3,c4,c5⟩:=a7;exact⟨c,T,by rw[hw g hg];exact c1,c2,c3,fun i e j p x h1 h2 h3=>(c4 i e j p x h1 h2 h3).off h,c5⟩
theorem eY.off(hh:SM μ μ'){R:Dd}{s:Nat}{rs:List PV}{x:Value}(h:eY P μ R w s rs x)(hw:∀g,R.g=some g→w'.heap[g]?=w.heap[g]?):eY P μ' R w' s rs x:=
 let⟨⟨et,hA⟩,hV⟩:=h
 ⟨⟨et,hA.off hh hw⟩,hV.off hh⟩
theorem eB.off(hh:SM μ μ'){R:Dd}{p:PV}{x:Value}(h:eB P μ R w p x)(hw:p.isRow=true→∀g,R.g=some g→w'.heap[g]?=w.heap[g]?):eB P μ' R w' p x:=by
 unfold eB at*;split at h
 ·exact eY.off hh h (hw rfl)
 ·exact ai.off hh h
theorem bd.off(hh:SM μ μ'){id sz:Nat}{et:TypeId}{es:List PV}(h:bd P μ φ w id sz et es)(hw:∀g,(bR.nest sz et es).ev (φ id) g→w'.heap[g]?=w.heap[g]?):bd P μ' φ w' id sz et es:=by
 obtain⟨a1,a2,a3,a4,a5,a6,a7⟩:=h;refine⟨a1,a2,a3,a4,a5,a6,?_⟩;cases hg:(φ id).g with
 |none=>rw[hg]at a7;exact a7
 |some g=>rw[hg]at a7;obtain⟨c,T,c1,c2,c3,c4,c5⟩:=a7;exact⟨c,T,by rw[hw g (.inl hg)];exact c1,c2,c3,fun i e j p x h1 h2 h3=>(c4 i e j p x h1 h2 h3).off hh fun hr g' cO=>hw g' (.inr ⟨i,j,by rw[dE h1 h2];exact hr,cO⟩),c5⟩
theorem eY.SN{R:Dd}{s g:Nat}{rs:List PV}(h:eY P μ R w s rs x)(hg:R.g=some g):∃c T z,w.heap[g]?=some (.cells c T z):=by obtain⟨⟨et,_,_,_,_,_,_,a7⟩,_⟩:=h;have cO:R.up.g=some g:=hg;simp only[cO]at a7;obtain⟨c,_,c1,_⟩:=a7;exact⟨_,_,_,c1⟩
theorem hU.Xj{id g i off:Nat}{b:bR}(h:hU P μ φ w id b)(hr:b.rowAt i off=true)(hg:((φ id).row i off).g=some g):∃c T z,w.heap[g]?=some (.cells c T z):=by
 rcases kA hr with⟨sz,et,es,e,s,rs,rfl,he,hp⟩|⟨kt,e0,es,k,s,rs,rfl,rfl,he⟩
 ·have hN:bd P μ φ w id sz et es:=h;have hgg:∃g0,(φ id).g=some g0:=by
   cases hq:(φ id).g with
   |some g0=>exact⟨g0,rfl⟩
   |none=>have a7:=hN.2.2.2.2.2.2;rw[hq]at a7;rw[a7.1]at he;simp at he
  obtain⟨g0,Ot⟩:=hgg;obtain⟨c,_,x,_,_,c3,_⟩:=hN.cell Ot he hp;exact eY.SN (show eY P μ _ w s rs x from c3) hg
 ·obtain⟨g0,en,clock,kk,Ot,hh,hs,hk,hc,yE,hv⟩:=h;have hi:i<en.size:=by rw[hs];exact(IS.1 he).1
  have h3:=(hv i k _ en[i] he (T0 hi)).2;exact eY.SN (P:=P) (μ:=μ) (R:=(φ id).row i 0) (s:=s) (rs:=rs) (x:=en[i].val) ⟨⟨_,h3.1⟩,h3.2⟩ hg
theorem hU.off(h:SM μ μ')(vo:∀b o,μ b=some o→w.heap[b]?=some o){id:Nat}{b:bR}(hb:hU P μ φ w id b)(hw:∀g,b.ev (φ id) g→w'.heap[g]?=w.heap[g]?):hU P μ' φ w' id b:=by
 cases b with
 |nest sz et es=>exact bd.off h hb hw
 |fv kt e0 es=>
  obtain⟨g,en,clock,kk,hg,hh,hs,hk,hc,yE,hv⟩:=hb;refine⟨g,en,clock,kk,hg,by rw[hw g (.inl hg)];exact hh,hs,hk,hc,yE,fun i k v e h1 h2=>⟨(hv i k v e h1 h2).1.off h,?_⟩⟩;have h3:=(hv i k v e h1 h2).2;split at h3
  ·exact⟨h3.1.off h fun g' cO=>hw g' (.inr ⟨i,0,by rw[ky h1];rfl,cO⟩),h3.2.off h⟩
  ·exact h3.off h
 |box cs=>obtain⟨g,c,T,hg,hh,hs,hv,h1,BN⟩:=hb;exact⟨g,c,T,hg,by rw[hw g (.inl hg)];exact hh,hs,fun i v x hi hx=>(hv i v x hi hx).off h,h1,BN⟩
 |arr sz et es=>exact aN.off h hb fun g hg=>hw g (.inl hg)
 |ri sz et es=>refine⟨aN.off h hb.1 fun g hg=>hw g (.inl hg),fun g hg=>?_⟩;obtain⟨o,ho⟩:=ajR.1 (hb.2 g hg);obtain⟨_,_,_,_,_,_,a7⟩:=hb.1;rw[hg]at a7;obtain⟨c,_,c1,_⟩:=a7;have:=vo g o ho;rw[c1]at this;cases this;rw[h _ _ ho rfl];rfl
 |map kt es=>obtain⟨g,en,clock,kk,hg,hh,hs,hk,hc,yE,hv⟩:=hb;exact⟨g,en,clock,kk,hg,by rw[hw g (.inl hg)];exact hh,hs,hk,hc,yE,fun i k v e h1 h2=>⟨(hv i k v e h1 h2).1.off h,(hv i k v e h1 h2).2.off h⟩⟩
 |iter t es cur=>obtain⟨g,mg,en,clock,seen,hg,hh,Hd,yE,BN,hv,hcu⟩:=hb;exact⟨g,mg,en,clock,seen,hg,by rw[hw g (.inl hg)];exact hh,h _ _ Hd rfl,yE,BN,fun i k v e h1 h2=>⟨(hv i k v e h1 h2).1.off h,(hv i k v e h1 h2).2.off h⟩,fun k v hc=>let⟨i,e,h1,h2,h3,h4⟩:=hcu k v hc;⟨i,e,h1,h2,h3.off h,h4.off h⟩⟩
 |loop st=>obtain⟨g,rc,hg,hh⟩:=hb;exact⟨g,rc,hg,by rw[hw g (.inl hg)];exact hh⟩
def DB(μ:Ro)(D:Nat):Ro:=fun b=>if b=D then none else μ b
theorem SO{D:Nat}(hD:μ D=some (.deferred (some []))):SM μ (DB μ D):=by intro b o hb ho;unfold DB;rw[IN fun e=>by subst e;rw[hD]at hb;cases hb;cases ho];exact hb
theorem az.shut(hM:az P G w0 μ φ m w){D:Nat}(hB:w0.heap.size≤D)(hk:w0.dJ D=none)(hD:μ D=some (.deferred (some []))):az P G w0 (DB μ D) φ m (w.putObj D (.deferred none)):=by
 have hc:=SO hD;have hh:=hM.ro _ _ hD;have Fo:∀k,k≠D→(w.putObj D (.deferred none)).heap[k]?=w.heap[k]?:=fun k hk=>World.putObj_heap_other hk;have cY:∀id b g,m id=some b→b.ev (φ id) g→g≠D:=fun id b g hm hg e=>by
  subst e;have hR:=hM.dH id b hm;rcases hg with hg|⟨i,off,hr,hg⟩
  rotate_left
  ·obtain⟨c,T,z,h2⟩:=hR.Xj hr hg;rw[hh]at h2;cases h2
  cases b with
  |nest sz et es=>obtain⟨_,_,_,_,_,_,a7⟩:=hR;rw[hg]at a7;obtain⟨c,_,c1,_⟩:=a7;rw[hh]at c1;cases c1
  |fv kt e0 es=>obtain⟨g',en,clock,kk,cO,h2,_⟩:=hR;rw[hg]at cO;cases cO;rw[hh]at h2;cases h2
  |box cs=>obtain⟨g',c,T,cO,h2,_⟩:=hR;rw[hg]at cO;cases cO;rw[hh]at h2;cases h2
  |arr sz et es=>obtain⟨_,_,_,_,_,_,a7⟩:=hR;rw[hg]at a7;obtain⟨c,_,c1,_⟩:=a7;rw[hh]at c1;cases c1
  |ri sz et es=>obtain⟨⟨_,_,_,_,_,_,a7⟩,_⟩:=hR;rw[hg]at a7;obtain⟨c,_,c1,_⟩:=a7;rw[hh]at c1;cases c1
  |map kt es=>obtain⟨g',en,clock,kk,cO,h2,_⟩:=hR;rw[hg]at cO;cases cO;rw[hh]at h2;cases h2
  |loop st=>obtain⟨g',rc,cO,h2⟩:=hR;rw[hg]at cO;cases cO;rw[hh]at h2;cases h2
  |iter t es cur=>obtain⟨g',mg,en,clock,seen,cO,h2,_⟩:=hR;rw[hg]at cO;cases cO;rw[hh]at h2;cases h2
 refine⟨hM.below.trans ((lA.putObj w D _).mono hB),fun b o hb=>?_,fun g cs hg=>(hM.aM g cs hg).off hc,fun id b hm=>(hM.dH id b hm).off hc hM.ro fun g hg=>Fo g (cY id b g hm hg),fun id b g hm hg=>?_,hM.inj,hM.apart,hM.fY,fun b o hb cd=>?_,fun b o hb=>?_,fun id st hm=>?_⟩
 ·unfold DB at hb;split at hb
  ·cases hb
  ·rename_i e;rw[Fo b e];exact hM.ro b o hb
 ·obtain⟨h1,h2⟩:=hM.own id b g hm hg;refine⟨h1,fun Ow=>?_⟩;unfold DB;rw[IN (cY id b g hm hg)];exact h2 Ow
 ·unfold DB at hb;split at hb
  ·cases hb
  ·exact hM.base b o hb cd
 ·unfold DB;rw[IN fun e=>by subst e;rw[hk]at hb;cases hb];exact hM.dJ b o hb
 ·obtain⟨g,rc,h1,h2,h3⟩:=hM.Dc id st hm;exact⟨g,rc,h1,h2,by rw[Fo g (cY id _ g hm (.inl h1))];exact h3⟩
end
section
variable {E:Env} {w0:bI}
theorem Bg{R:Ending→World→Prop}{f:Fr}{m:Mem}{φ:Nat→aH}{fn:Func}{tmps:Array Value}:∀(Ds:List Nat){μ:Ro}{w:World},Ds.Nodup→(∀D∈Ds,w0.heap.size≤D∧w0.dJ D=none∧μ D=some (.deferred (some [])))→Rel E.P E.aM E.fn.ntmps w0 μ φ f m {tmps,defers:=[]} w→(∀μ' w',Rel E.P E.aM E.fn.ntmps w0 μ' φ f m {tmps,defers:=[]} w'→∃v,(results fn tmps).run E.P w'=.ok v w'∧R (.returned v) w')→LeavesInM (FR none) 0 E.P fn tmps R (Ds.map fun D=>{target:=.collected D,args:= #[]}) .returning w
 |[],μ,w,_,_,hR,UB=>UB μ w hR
 |D::Ds,μ,w,hn,hD,hR,UB=>by obtain⟨h1,h2,h3⟩:=hD D (by simp);obtain⟨n1,n2⟩:=alz.1 hn;have hM:=hR.toaz.shut h1 h2 h3;refine⟨by simp,.inl ⟨D,_,rfl,run_takeDeferred (hR.ro _ _ h3),?_⟩⟩;refine Bg Ds n2 (fun D' hd'=>?_) {toaz:=hM,size:=hR.size,defers:=.nil _ _ _,mY:=hR.mY,fr:=fun t=>(hR.fr t).off (SO h3),live:=hR.live} UB;obtain⟨a1,a2,a3⟩:=hD D' (by simp[hd']);refine⟨a1,a2,?_⟩;unfold DB;rw[IN fun e=>by subst e;exact n1 hd'];exact a3
theorem tD(hE:kv E)(hY:ur E.P E.aM E.fn.ntmps E.yl w0)(hko:∀b o,w0.dJ b=some o→w0.mY b=some o){g:FuncId}{c:Code}(hf:E.P.funcs[g]?=some E.fn)(hb:E.fn.body=some c){xs:Array Value}{R:Ending→World→Prop}{S:Type}{f:Fr}{m:Mem}{k:Ex→Fr→Mem→Option S}{r:S}(h:fM E c f m k=some r){μ:Ro}{φ:Nat→aH}{w:World}(hR:Rel E.P E.aM E.fn.ntmps w0 μ φ f m {tmps:=xs++Array.replicate (E.fn.ntmps-xs.size) undef,defers:=[]} w)(UB:∀e f' m' μ' φ' tmps w',k e f' m'=some r→Rel E.P E.aM E.fn.ntmps w0 μ' φ' f' m' {tmps,defers:=[]} w'→(∀id,e≠.exit id)∧∃v,(results E.fn tmps).run E.P w'=.ok v w'∧R (.returned v) w'):Calls E.P g xs w R:=by
 refine(callsIn_wide (n:=0)).1 (callsIn_of_wp_marks (F:=FR none) hf hb trivial ?_);refine Xi c hE hY (fun _=>rfl) h hR fun e f' m' μ' φ' a' w' hk j6=>?_;obtain⟨Ds,e1,e2,e3⟩:=j6.defers;have H3:Rel E.P E.aM E.fn.ntmps w0 μ' φ' f' m' {tmps:=a'.tmps,defers:=[]} w':={toaz:=j6.toaz,size:=j6.size,defers:=.nil _ _ _,mY:=j6.mY,fr:=j6.fr,live:=j6.live};have key:(∀id,e≠.exit id)→LeavesInM (FR none) 0 E.P E.fn a'.tmps R a'.defers .returning w':=fun _=>by
  rw[e1];refine Bg Ds e2 (fun D hd=>?_) H3 fun μ2 w2 hR3=>(UB e f' m' μ2 φ' a'.tmps w2 hk hR3).2;obtain⟨a1,a2,a3⟩:=e3 D hd;refine⟨a1,?_,a3⟩;cases hq:w0.dJ D with
  |none=>rfl
  |some o=>rw[hko D o hq]at a2;cases a2
 have cY:=(UB e f' m' μ' φ' a'.tmps w' hk H3).1;cases e with
 |normal=>exact key cY
 |ret=>exact key cY
 |exit id=>exact absurd rfl (cY id)
end
end Go.Ab
