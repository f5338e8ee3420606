import Derived.KernelRfl
import Derived.Test.YtmbihgjlollbeaaGreatAbFn
set_option linter.all false
namespace Go.Ab
structure yt where
 P:Program
 aW:Nat→Option (List PV)
 hint:Nat→Nat→List NL
 fnr:FuncId→Option FS:=fun _=>none
 UF:FuncId→Option ((R:Type)→List V→Fr→Mem→(V→Fr→Mem→Option R)→Option R):=fun _=>none
 Kc:Nat→Bool:=fun _=>false
abbrev bE:=List (Nat×(List PV→Option PV))
def look:bE→Nat→Option (List PV→Option PV)
 |[],_=>none
 |x::r,g=>bif Nat.beq g x.1 then some x.2 else look r g
def rounds:Nat:=18446744073709551616
def bd:bk:=⟨fun body s=>cE body rounds s,fun n=>Nat.ble n 9223372036854775807,fun n h=>by have h1:=avb h;have h2:IntKind.i64.max=9223372036854775807:=rfl;omega⟩
noncomputable def yt.UG(S:yt)(L:bk)(tM kn:bE):Nat→(R:Type)→FuncId→Nat→YL→List V→Fr→Mem→(V→Fr→Mem→Option R)→Option R
 |0=>fun _ _ _ _ _ _ _ _=>none
 |n+1=>fun _ g TN yl args f m k=>match S.P.funcs[g]? with
  |some fn=>Kh {P:=S.P,ctx:=look tM,aW:=S.aW,fid:=TN,fn,lp:=L,hint:=S.hint,u:=64,own:=look kn,inl:=fun R g TN args f m k=>match S.UF g with
   |some h=>h R args f m k
   |none=>yt.UG S L tM kn n R g TN HX args f m k,rng:=yt.UG S L tM kn n,yl,fnr:=S.fnr,Kc:=S.Kc} args f m k
  |none=>none
noncomputable def yt.ajw(S:yt)(L:bk)(tM kn:bE)(n fid:Nat)(fn:Func)(yl:YL):Env:=
 {P:=S.P,ctx:=look tM,aW:=S.aW,fid,fn,lp:=L,hint:=S.hint,u:=64,own:=look kn,inl:=fun R g TN args f m k=>match S.UF g with
  |some h=>h R args f m k
  |none=>yt.UG S L tM kn n R g TN HX args f m k,rng:=S.UG L tM kn n,yl,fnr:=S.fnr,Kc:=S.Kc}
noncomputable def yt.anb(S:yt)(L:bk)(tM kn:bE)(n fid:Nat)(fn:Func):Env:=S.ajw L tM kn n fid fn HX
noncomputable def yt.env(S:yt)(L:bk)(tM kn:bE)(fid:Nat)(fn:Func):Env:=S.anb L tM kn 8 fid fn
def aa(S:yt)(tM:bE):Prop:=∀x∈tM,Bb S.P S.aW x.1 x.2
def pT(S:yt)(tM:bE):Prop:=∀x∈tM,H9 S.P S.aW x.1 x.2
structure oL(S:yt):Prop where
 mixed:S.P.follows .mixedOrders=true
 UF:∀g h,S.UF g=some h→∀(R:Type)args f m(k:V→Fr→Mem→Option R)r,h R args f m k=some r→PA S.P S.aW g args f m k r
 names:(S.P.funcs.all fun fn=> !(fn.name== "runtime.NumGoroutine"))=true
theorem C1{M:List PV→Option PV}{g:Nat}:∀{tM:bE},look tM g=some M→(g,M)∈tM
 |[],h=>by cases h
 |x::r,h=>by
  simp only[look]at h;cases e:Nat.beq g x.1 with
  |true=>rw[e]at h;simp only[cond,cO]at h;have:=Ka e;subst this;subst h;exact List.mem_cons_self
  |false=>rw[e]at h;exact atJ _ (C1 h)
theorem aa.nil(S:yt):aa S []:=by intro x hx;cases hx
variable{G:Nat→Option (List PV)}{M M':List PV→Option PV}
theorem Bb.weaken{P:Program}{g:FuncId}(h:Bb P G g M)(hM:∀ps r,M' ps=some r→M ps=some r):Bb P G g M':=⟨h.1,fun ps r hr=>h.2 ps r (hM ps r hr)⟩
theorem pT.nil(S:yt):pT S []:=by intro x hx;cases hx
theorem H9.weaken{P:Program}{g:FuncId}(h:H9 P G g M)(hM:∀ps r,M' ps=some r→M ps=some r):H9 P G g M':=⟨h.1,fun fn t e h1 h2 h3 ps r hr=>h.2 fn t e h1 h2 h3 ps r (hM ps r hr)⟩
variable{g:Nat}{S:yt}{fn:Func}
theorem oL.name(h:oL S)(hf:S.P.funcs[g]?=some fn):(fn.name== "runtime.NumGoroutine")=false:=by have:=Array.all_eq_true_iff_forall_mem.1 h.names fn (avd hf);simpa using this
theorem WN{S:yt}{tM kn:bE}(hs:oL S)(h:aa S tM)(ho:pT S kn):∀(n fid:Nat)(fn:Func)(yl:YL),mb (S.ajw bd tM kn n fid fn yl)
 |n,fid,fn,yl=>by
  have hr:∀(R:Type)g TN yl args f m(k:V→Fr→Mem→Option R)r,S.UG bd tM kn n R g TN yl args f m k=some r→TZ S.P S.aW g yl args f m k r:=by
   intro R g TN yl args f m k r hk;cases n with
   |zero=>simp[yt.UG]at hk
   |succ n=>
    have hk:(match S.P.funcs[g]? with
     |some fn=>Kh (S.ajw bd tM kn n TN fn yl) args f m k
     |none=>none)=some r:=hk
    split at hk
    ·rename_i fn' hf;exact ai2 (WN hs h ho n TN fn' yl) hf (hs.name hf) hk
    ·cases hk
  refine⟨hs.mixed,fun _ _ body s r h=>⟨rounds,h⟩,fun g' M' hM'=>h _ (C1 hM'),fun g' M' hM'=>ho _ (C1 hM'),fun R g TN args f m k r hk=>?_,hr⟩
  have hk:(match S.UF g with
   |some h=>h R args f m k
   |none=>yt.UG S bd tM kn n R g TN HX args f m k)=some r:=hk
  split at hk
  ·rename_i h' hh;exact hs.UF g h' hh R args f m k r hk
  ·obtain⟨fn',c,h1,h2,h3,h4⟩:=hr _ _ _ _ _ _ _ _ _ hk;exact⟨⟨fn',c,h1,h2,h3⟩,fun w0 μ φ ρ w xs hM hF hlen nC Ji=>h4 w0 μ φ ρ w xs hM hF hlen nC Ji (GQ _ _ _ _)⟩
variable{tM kn:bE}
theorem WO(hs:oL S)(h:aa S tM)(ho:pT S kn)(n fid:Nat)(fn:Func):mb (S.anb bd tM kn n fid fn):=WN hs h ho n fid fn HX
theorem aa.step(hs:oL S)(h:aa S tM)(ho:pT S kn)(hf:S.P.funcs[g]?=some fn)(hb:fn.body.isSome=true)(he:∀ps r,M ps=some r→eQ (S.env bd tM kn g fn) ps=some r):aa S ((g,M)::tM):=by
 intro x hx;rcases asm.1 hx with rfl|hx
 ·obtain⟨c,hc⟩:=asA.1 hb;exact(ZM (WO hs h ho 8 g fn) rfl (g:=g) hf (hs.name hf) hc).weaken he
 ·exact h x hx
theorem pT.step(hs:oL S)(h:aa S tM)(ho:pT S kn)(hf:S.P.funcs[g]?=some fn)(hb:fn.body.isSome=true)(he:∀ps r,M ps=some r→Pr (S.env bd tM kn g fn) ps=some r):pT S ((g,M)::kn):=by
 intro x hx;rcases asm.1 hx with rfl|hx
 ·obtain⟨c,hc⟩:=asA.1 hb;exact(ZN (WO hs h ho 8 g fn) rfl (g:=g) hf (hs.name hf) hc).weaken he
 ·exact ho x hx
theorem aa.go(h:aa S tM)(hs:oL S)(ho:pT S kn)(hf:S.P.funcs[g]?=some fn)(hb:fn.body.isSome=true)(he:∀ps r,M ps=some r→eQ (S.env bd tM kn g fn) ps=some r):aa S ((g,M)::tM):=aa.step hs h ho hf hb he
theorem aa.s1(hs:oL S)(h:aa S tM)(ho:pT S kn)(hf:S.P.funcs[g]?=some fn)(F:bk→PV→Option PV)(hb:fn.body.isSome=true:=by kernel_rfl)(he:∀L a,eQ (S.env L tM kn g fn) [a]=F L a:=by intros;kernel_rfl):aa S ((g,fun l=>match l with|[a]=>F bd a|_=>none)::tM):=h.go hs ho hf hb fun ps r hp=>by
 split at hp
 ·rw[he];exact hp
 ·cases hp
theorem aa.s2(hs:oL S)(h:aa S tM)(ho:pT S kn)(hf:S.P.funcs[g]?=some fn)(F:bk→PV→PV→Option PV)(hb:fn.body.isSome=true:=by kernel_rfl)(he:∀L a b,eQ (S.env L tM kn g fn) [a,b]=F L a b:=by intros;kernel_rfl):aa S ((g,fun l=>match l with|[a,b]=>F bd a b|_=>none)::tM):=h.go hs ho hf hb fun ps r hp=>by
 split at hp
 ·rw[he];exact hp
 ·cases hp
theorem aa.s3(hs:oL S)(h:aa S tM)(ho:pT S kn)(hf:S.P.funcs[g]?=some fn)(F:bk→PV→PV→PV→Option PV)(hb:fn.body.isSome=true:=by kernel_rfl)(he:∀L a b c,eQ (S.env L tM kn g fn) [a,b,c]=F L a b c:=by intros;kernel_rfl):aa S ((g,fun l=>match l with|[a,b,c]=>F bd a b c|_=>none)::tM):=h.go hs ho hf hb fun ps r hp=>by
 split at hp
 ·rw[he];exact hp
 ·cases hp
theorem aa.s4(hs:oL S)(h:aa S tM)(ho:pT S kn)(hf:S.P.funcs[g]?=some fn)(F:bk→PV→PV→PV→PV→Option PV)(hb:fn.body.isSome=true:=by kernel_rfl)(he:∀L a b c d,eQ (S.env L tM kn g fn) [a,b,c,d]=F L a b c d:=by intros;kernel_rfl):aa S ((g,fun l=>match l with|[a,b,c,d]=>F bd a b c d|_=>none)::tM):=h.go hs ho hf hb fun ps r hp=>by
 split at hp
 ·rw[he];exact hp
 ·cases hp
theorem aa.s5(hs:oL S)(h:aa S tM)(ho:pT S kn)(hf:S.P.funcs[g]?=some fn)(F:bk→PV→PV→PV→PV→PV→Option PV)(hb:fn.body.isSome=true:=by kernel_rfl)(he:∀L a b c d e,eQ (S.env L tM kn g fn) [a,b,c,d,e]=F L a b c d e:=by intros;kernel_rfl):aa S ((g,fun l=>match l with|[a,b,c,d,e]=>F bd a b c d e|_=>none)::tM):=h.go hs ho hf hb fun ps r hp=>by
 split at hp
 ·rw[he];exact hp
 ·cases hp
theorem aa.s6(hs:oL S)(h:aa S tM)(ho:pT S kn)(hf:S.P.funcs[g]?=some fn)(F:bk→PV→PV→PV→PV→PV→PV→Option PV)(hb:fn.body.isSome=true:=by kernel_rfl)(he:∀L a b c d e f,eQ (S.env L tM kn g fn) [a,b,c,d,e,f]=F L a b c d e f:=by intros;kernel_rfl):aa S ((g,fun l=>match l with|[a,b,c,d,e,f]=>F bd a b c d e f|_=>none)::tM):=h.go hs ho hf hb fun ps r hp=>by
 split at hp
 ·rw[he];exact hp
 ·cases hp
end Go.Ab
