import Derived.KernelRfl
import Derived.Test.YtoaknfoobjnjgaaGreatAbFn
set_option linter.all false
namespace Go.Ab
structure vP where
 P:Program
 az:Nat→Option (List PV)
 hint:Nat→Nat→List Lf
 fnr:FuncId→Option FS:=fun _=>none
 Sb:FuncId→Option ((R:Type)→List V→Fr→Mem→(V→Fr→Mem→Option R)→Option R):=fun _=>none
 Fs:Nat→Bool:=fun _=>false
abbrev bH:=List (Nat×(List PV→Option PV))
def look:bH→Nat→Option (List PV→Option PV)
 |[],_=>none
 |x::r,g=>bif Nat.beq g x.1 then some x.2 else look r g
def rounds:Nat:=18446744073709551616
def aV:aX:=⟨fun body s=>dH body rounds s,fun n=>Nat.ble n 9223372036854775807,fun n h=>by have h1:=Nat.le_of_ble_eq_true h;have h2:IntKind.i64.max=9223372036854775807:=rfl;omega⟩
noncomputable def vP.Sc(S:vP)(L:aX)(rP jA:bH):Nat→(R:Type)→FuncId→Nat→YL→List V→Fr→Mem→(V→Fr→Mem→Option R)→Option R
 |0=>fun _ _ _ _ _ _ _ _=>none
 |n+1=>fun _ g Rg yl args f m k=>match S.P.funcs[g]? with
  |some fn=>HT {P:=S.P,ctx:=look rP,az:=S.az,fid:=Rg,fn,lp:=L,hint:=S.hint,u:=64,own:=look jA,inl:=fun R g Rg args f m k=>match S.Sb g with
   |some h=>h R args f m k
   |none=>vP.Sc S L rP jA n R g Rg Di args f m k,rng:=vP.Sc S L rP jA n,yl,fnr:=S.fnr,Fs:=S.Fs} args f m k
  |none=>none
noncomputable def vP.agh(S:vP)(L:aX)(rP jA:bH)(n fid:Nat)(fn:Func)(yl:YL):Env:=
 {P:=S.P,ctx:=look rP,az:=S.az,fid,fn,lp:=L,hint:=S.hint,u:=64,own:=look jA,inl:=fun R g Rg args f m k=>match S.Sb g with
  |some h=>h R args f m k
  |none=>vP.Sc S L rP jA n R g Rg Di args f m k,rng:=S.Sc L rP jA n,yl,fnr:=S.fnr,Fs:=S.Fs}
noncomputable def vP.ai3(S:vP)(L:aX)(rP jA:bH)(n fid:Nat)(fn:Func):Env:=S.agh L rP jA n fid fn Di
noncomputable def vP.env(S:vP)(L:aX)(rP jA:bH)(fid:Nat)(fn:Func):Env:=S.ai3 L rP jA 8 fid fn
def aa(S:vP)(rP:bH):Prop:=∀x∈rP,AR S.P S.az x.1 x.2
def fa(S:vP)(rP:bH):Prop:=∀x∈rP,FN S.P S.az x.1 x.2
structure ni(S:vP):Prop where
 mixed:S.P.follows .mixedOrders=true
 Sb:∀g h,S.Sb g=some h→∀(R:Type)args f m(k:V→Fr→Mem→Option R)r,h R args f m k=some r→M3 S.P S.az g args f m k r
 names:(S.P.funcs.all fun fn=> !(fn.name== "runtime.NumGoroutine"))=true
theorem Bb{M:List PV→Option PV}{g:Nat}:∀{rP:bH},look rP g=some M→(g,M)∈rP
 |[],h=>by cases h
 |x::r,h=>by
  simp only[look]at h;cases e:Nat.beq g x.1 with
  |true=>rw[e]at h;simp only[cond,tb]at h;have:=IT e;subst this;subst h;exact List.mem_cons_self
  |false=>rw[e]at h;exact apZ _ (Bb h)
theorem aa.nil(S:vP):aa S []:=by intro x hx;cases hx
variable{G:Nat→Option (List PV)}{M M':List PV→Option PV}
theorem AR.weaken{P:Program}{g:FuncId}(h:AR P G g M)(hM:∀ps r,M' ps=some r→M ps=some r):AR P G g M':=⟨h.1,fun ps r hr=>h.2 ps r (hM ps r hr)⟩
theorem fa.nil(S:vP):fa S []:=by intro x hx;cases hx
theorem FN.weaken{P:Program}{g:FuncId}(h:FN P G g M)(hM:∀ps r,M' ps=some r→M ps=some r):FN P G g M':=⟨h.1,fun fn t e h1 h2 h3 ps r hr=>h.2 fn t e h1 h2 h3 ps r (hM ps r hr)⟩
variable{g:Nat}{S:vP}{fn:Func}
theorem ni.name(h:ni S)(hf:S.P.funcs[g]?=some fn):(fn.name== "runtime.NumGoroutine")=false:=by have:=Array.all_eq_true_iff_forall_mem.1 h.names fn (aqY hf);simpa using this
theorem Uv{S:vP}{rP jA:bH}(hs:ni S)(h:aa S rP)(ho:fa S jA):∀(n fid:Nat)(fn:Func)(yl:YL),jM (S.agh aV rP jA n fid fn yl)
 |n,fid,fn,yl=>by
  have hr:∀(R:Type)g Rg yl args f m(k:V→Fr→Mem→Option R)r,S.Sc aV rP jA n R g Rg yl args f m k=some r→Rw S.P S.az g yl args f m k r:=by
   intro R g Rg yl args f m k r hk;cases n with
   |zero=>simp[vP.Sc]at hk
   |succ n=>
    have hk:(match S.P.funcs[g]? with
     |some fn=>HT (S.agh aV rP jA n Rg fn yl) args f m k
     |none=>none)=some r:=hk
    split at hk
    ·rename_i fn' hf;exact afB (Uv hs h ho n Rg fn' yl) hf (hs.name hf) hk
    ·cases hk
  refine⟨hs.mixed,fun _ _ body s r h=>⟨rounds,h⟩,fun g' M' YF=>h _ (Bb YF),fun g' M' YF=>ho _ (Bb YF),fun R g Rg args f m k r hk=>?_,hr⟩
  have hk:(match S.Sb g with
   |some h=>h R args f m k
   |none=>vP.Sc S aV rP jA n R g Rg Di args f m k)=some r:=hk
  split at hk
  ·rename_i h' hh;exact hs.Sb g h' hh R args f m k r hk
  ·obtain⟨fn',c,h1,h2,h3,h4⟩:=hr _ _ _ _ _ _ _ _ _ hk;exact⟨⟨fn',c,h1,h2,h3⟩,fun w0 μ φ ρ w xs hM hF hlen kF GR=>h4 w0 μ φ ρ w xs hM hF hlen kF GR (Ep _ _ _ _)⟩
variable{rP jA:bH}
theorem Uw(hs:ni S)(h:aa S rP)(ho:fa S jA)(n fid:Nat)(fn:Func):jM (S.ai3 aV rP jA n fid fn):=Uv hs h ho n fid fn Di
theorem aa.step(hs:ni S)(h:aa S rP)(ho:fa S jA)(hf:S.P.funcs[g]?=some fn)(hb:fn.body.isSome=true)(he:∀ps r,M ps=some r→eu (S.env aV rP jA g fn) ps=some r):aa S ((g,M)::rP):=by
 intro x hx;rcases aoc.1 hx with rfl|hx
 ·obtain⟨c,hc⟩:=aop.1 hb;exact(Wo (Uw hs h ho 8 g fn) rfl (g:=g) hf (hs.name hf) hc).weaken he
 ·exact h x hx
theorem fa.step(hs:ni S)(h:aa S rP)(ho:fa S jA)(hf:S.P.funcs[g]?=some fn)(hb:fn.body.isSome=true)(he:∀ps r,M ps=some r→oE (S.env aV rP jA g fn) ps=some r):fa S ((g,M)::jA):=by
 intro x hx;rcases aoc.1 hx with rfl|hx
 ·obtain⟨c,hc⟩:=aop.1 hb;exact(Wp (Uw hs h ho 8 g fn) rfl (g:=g) hf (hs.name hf) hc).weaken he
 ·exact ho x hx
theorem aa.go(h:aa S rP)(hs:ni S)(ho:fa S jA)(hf:S.P.funcs[g]?=some fn)(hb:fn.body.isSome=true)(he:∀ps r,M ps=some r→eu (S.env aV rP jA g fn) ps=some r):aa S ((g,M)::rP):=aa.step hs h ho hf hb he
theorem aa.s1(hs:ni S)(h:aa S rP)(ho:fa S jA)(hf:S.P.funcs[g]?=some fn)(F:aX→PV→Option PV)(hb:fn.body.isSome=true:=by kernel_rfl)(he:∀L a,eu (S.env L rP jA g fn) [a]=F L a:=by intros;kernel_rfl):aa S ((g,fun l=>match l with|[a]=>F aV a|_=>none)::rP):=h.go hs ho hf hb fun ps r hp=>by
 split at hp
 ·rw[he];exact hp
 ·cases hp
theorem aa.s2(hs:ni S)(h:aa S rP)(ho:fa S jA)(hf:S.P.funcs[g]?=some fn)(F:aX→PV→PV→Option PV)(hb:fn.body.isSome=true:=by kernel_rfl)(he:∀L a b,eu (S.env L rP jA g fn) [a,b]=F L a b:=by intros;kernel_rfl):aa S ((g,fun l=>match l with|[a,b]=>F aV a b|_=>none)::rP):=h.go hs ho hf hb fun ps r hp=>by
 split at hp
 ·rw[he];exact hp
 ·cases hp
theorem aa.s3(hs:ni S)(h:aa S rP)(ho:fa S jA)(hf:S.P.funcs[g]?=some fn)(F:aX→PV→PV→PV→Option PV)(hb:fn.body.isSome=true:=by kernel_rfl)(he:∀L a b c,eu (S.env L rP jA g fn) [a,b,c]=F L a b c:=by intros;kernel_rfl):aa S ((g,fun l=>match l with|[a,b,c]=>F aV a b c|_=>none)::rP):=h.go hs ho hf hb fun ps r hp=>by
 split at hp
 ·rw[he];exact hp
 ·cases hp
theorem aa.s4(hs:ni S)(h:aa S rP)(ho:fa S jA)(hf:S.P.funcs[g]?=some fn)(F:aX→PV→PV→PV→PV→Option PV)(hb:fn.body.isSome=true:=by kernel_rfl)(he:∀L a b c d,eu (S.env L rP jA g fn) [a,b,c,d]=F L a b c d:=by intros;kernel_rfl):aa S ((g,fun l=>match l with|[a,b,c,d]=>F aV a b c d|_=>none)::rP):=h.go hs ho hf hb fun ps r hp=>by
 split at hp
 ·rw[he];exact hp
 ·cases hp
theorem aa.s5(hs:ni S)(h:aa S rP)(ho:fa S jA)(hf:S.P.funcs[g]?=some fn)(F:aX→PV→PV→PV→PV→PV→Option PV)(hb:fn.body.isSome=true:=by kernel_rfl)(he:∀L a b c d e,eu (S.env L rP jA g fn) [a,b,c,d,e]=F L a b c d e:=by intros;kernel_rfl):aa S ((g,fun l=>match l with|[a,b,c,d,e]=>F aV a b c d e|_=>none)::rP):=h.go hs ho hf hb fun ps r hp=>by
 split at hp
 ·rw[he];exact hp
 ·cases hp
theorem aa.s6(hs:ni S)(h:aa S rP)(ho:fa S jA)(hf:S.P.funcs[g]?=some fn)(F:aX→PV→PV→PV→PV→PV→PV→Option PV)(hb:fn.body.isSome=true:=by kernel_rfl)(he:∀L a b c d e f,eu (S.env L rP jA g fn) [a,b,c,d,e,f]=F L a b c d e f:=by intros;kernel_rfl):aa S ((g,fun l=>match l with|[a,b,c,d,e,f]=>F aV a b c d e f|_=>none)::rP):=h.go hs ho hf hb fun ps r hp=>by
 split at hp
 ·rw[he];exact hp
 ·cases hp
end Go.Ab
