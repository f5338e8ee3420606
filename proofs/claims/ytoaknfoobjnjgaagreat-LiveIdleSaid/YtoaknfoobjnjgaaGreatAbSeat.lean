import Derived.KernelRfl
import Derived.Test.YtoaknfoobjnjgaaGreatAbFn
set_option linter.all false
namespace Go.Ab
structure uA where
 P:Program
 aF:Nat→Option (List PV)
 hint:Nat→Nat→List JF
 fnr:FuncId→Option FS:=fun _=>none
 Q4:FuncId→Option ((R:Type)→List V→Fr→Mem→(V→Fr→Mem→Option R)→Option R):=fun _=>none
 DR:Nat→Bool:=fun _=>false
abbrev cU:=List (Nat×(List PV→Option PV))
def look:cU→Nat→Option (List PV→Option PV)
 |[],_=>none
 |x::r,g=>bif Nat.beq g x.1 then some x.2 else look r g
def rounds:Nat:=18446744073709551616
def bd:bw:=⟨fun body s=>bX body rounds s,fun n=>Nat.ble n 9223372036854775807,fun n h=>by have h1:=Nat.le_of_ble_eq_true h;have h2:IntKind.i64.max=9223372036854775807:=rfl;omega⟩
noncomputable def uA.Q5(S:uA)(L:bw)(rn jG:cU):Nat→(R:Type)→FuncId→Nat→YL→List V→Fr→Mem→(V→Fr→Mem→Option R)→Option R
 |0=>fun _ _ _ _ _ _ _ _=>none
 |n+1=>fun _ g Qi yl args f m k=>match S.P.funcs[g]? with
  |some fn=>F6 {P:=S.P,ctx:=look rn,aF:=S.aF,fid:=Qi,fn,lp:=L,hint:=S.hint,u:=64,own:=look jG,inl:=fun R g Qi args f m k=>match S.Q4 g with
   |some h=>h R args f m k
   |none=>uA.Q5 S L rn jG n R g Qi Bx args f m k,rng:=uA.Q5 S L rn jG n,yl,fnr:=S.fnr,DR:=S.DR} args f m k
  |none=>none
noncomputable def uA.afK(S:uA)(L:bw)(rn jG:cU)(n fid:Nat)(fn:Func)(yl:YL):Env:=
 {P:=S.P,ctx:=look rn,aF:=S.aF,fid,fn,lp:=L,hint:=S.hint,u:=64,own:=look jG,inl:=fun R g Qi args f m k=>match S.Q4 g with
  |some h=>h R args f m k
  |none=>uA.Q5 S L rn jG n R g Qi Bx args f m k,rng:=S.Q5 L rn jG n,yl,fnr:=S.fnr,DR:=S.DR}
noncomputable def uA.ahX(S:uA)(L:bw)(rn jG:cU)(n fid:Nat)(fn:Func):Env:=S.afK L rn jG n fid fn Bx
noncomputable def uA.env(S:uA)(L:bw)(rn jG:cU)(fid:Nat)(fn:Func):Env:=S.ahX L rn jG 8 fid fn
def ab(S:uA)(rn:cU):Prop:=∀x∈rn,yR S.P S.aF x.1 x.2
def ff(S:uA)(rn:cU):Prop:=∀x∈rn,D5 S.P S.aF x.1 x.2
structure mY(S:uA):Prop where
 mixed:S.P.follows .mixedOrders=true
 Q4:∀g h,S.Q4 g=some h→∀(R:Type)args f m(k:V→Fr→Mem→Option R)r,h R args f m k=some r→Lw S.P S.aF g args f m k r
 names:(S.P.funcs.all fun fn=> !(fn.name== "runtime.NumGoroutine"))=true
theorem zg{M:List PV→Option PV}{g:Nat}:∀{rn:cU},look rn g=some M→(g,M)∈rn
 |[],h=>by cases h
 |x::r,h=>by
  simp only[look]at h;cases e:Nat.beq g x.1 with
  |true=>rw[e]at h;simp only[cond,tb]at h;have:=K5 e;subst this;subst h;exact List.mem_cons_self
  |false=>rw[e]at h;exact apu _ (zg h)
theorem ab.nil(S:uA):ab S []:=by intro x hx;cases hx
variable{G:Nat→Option (List PV)}{M M':List PV→Option PV}
theorem yR.weaken{P:Program}{g:FuncId}(h:yR P G g M)(hM:∀ps r,M' ps=some r→M ps=some r):yR P G g M':=⟨h.1,fun ps r hr=>h.2 ps r (hM ps r hr)⟩
theorem ff.nil(S:uA):ff S []:=by intro x hx;cases hx
theorem D5.weaken{P:Program}{g:FuncId}(h:D5 P G g M)(hM:∀ps r,M' ps=some r→M ps=some r):D5 P G g M':=⟨h.1,fun fn t e h1 h2 h3 ps r hr=>h.2 fn t e h1 h2 h3 ps r (hM ps r hr)⟩
variable{g:Nat}{S:uA}{fn:Func}
theorem mY.name(h:mY S)(hf:S.P.funcs[g]?=some fn):(fn.name== "runtime.NumGoroutine")=false:=by have:=Array.all_eq_true_iff_forall_mem.1 h.names fn (aqv hf);simpa using this
theorem Tc{S:uA}{rn jG:cU}(hs:mY S)(h:ab S rn)(ho:ff S jG):∀(n fid:Nat)(fn:Func)(yl:YL),jR (S.afK bd rn jG n fid fn yl)
 |n,fid,fn,yl=>by
  have hr:∀(R:Type)g Qi yl args f m(k:V→Fr→Mem→Option R)r,S.Q5 bd rn jG n R g Qi yl args f m k=some r→Qw S.P S.aF g yl args f m k r:=by
   intro R g Qi yl args f m k r hk;cases n with
   |zero=>simp[uA.Q5]at hk
   |succ n=>
    have hk:(match S.P.funcs[g]? with
     |some fn=>F6 (S.afK bd rn jG n Qi fn yl) args f m k
     |none=>none)=some r:=hk
    split at hk
    ·rename_i fn' hf;exact ae9 (Tc hs h ho n Qi fn' yl) hf (hs.name hf) hk
    ·cases hk
  refine⟨hs.mixed,fun _ _ body s r h=>⟨rounds,h⟩,fun g' M' WL=>h _ (zg WL),fun g' M' WL=>ho _ (zg WL),fun R g Qi args f m k r hk=>?_,hr⟩
  have hk:(match S.Q4 g with
   |some h=>h R args f m k
   |none=>uA.Q5 S bd rn jG n R g Qi Bx args f m k)=some r:=hk
  split at hk
  ·rename_i h' hh;exact hs.Q4 g h' hh R args f m k r hk
  ·obtain⟨fn',c,h1,h2,h3,h4⟩:=hr _ _ _ _ _ _ _ _ _ hk;exact⟨⟨fn',c,h1,h2,h3⟩,fun w0 μ φ ρ w xs hM hF hlen kL EW=>h4 w0 μ φ ρ w xs hM hF hlen kL EW (CF _ _ _ _)⟩
variable{rn jG:cU}
theorem Td(hs:mY S)(h:ab S rn)(ho:ff S jG)(n fid:Nat)(fn:Func):jR (S.ahX bd rn jG n fid fn):=Tc hs h ho n fid fn Bx
theorem ab.step(hs:mY S)(h:ab S rn)(ho:ff S jG)(hf:S.P.funcs[g]?=some fn)(hb:fn.body.isSome=true)(he:∀ps r,M ps=some r→fC (S.env bd rn jG g fn) ps=some r):ab S ((g,M)::rn):=by
 intro x hx;rcases anA.1 hx with rfl|hx
 ·obtain⟨c,hc⟩:=anK.1 hb;exact(Uw (Td hs h ho 8 g fn) rfl (g:=g) hf (hs.name hf) hc).weaken he
 ·exact h x hx
theorem ff.step(hs:mY S)(h:ab S rn)(ho:ff S jG)(hf:S.P.funcs[g]?=some fn)(hb:fn.body.isSome=true)(he:∀ps r,M ps=some r→ot (S.env bd rn jG g fn) ps=some r):ff S ((g,M)::jG):=by
 intro x hx;rcases anA.1 hx with rfl|hx
 ·obtain⟨c,hc⟩:=anK.1 hb;exact(Ux (Td hs h ho 8 g fn) rfl (g:=g) hf (hs.name hf) hc).weaken he
 ·exact ho x hx
theorem ab.go(h:ab S rn)(hs:mY S)(ho:ff S jG)(hf:S.P.funcs[g]?=some fn)(hb:fn.body.isSome=true)(he:∀ps r,M ps=some r→fC (S.env bd rn jG g fn) ps=some r):ab S ((g,M)::rn):=ab.step hs h ho hf hb he
theorem ab.s1(hs:mY S)(h:ab S rn)(ho:ff S jG)(hf:S.P.funcs[g]?=some fn)(F:bw→PV→Option PV)(hb:fn.body.isSome=true:=by kernel_rfl)(he:∀L a,fC (S.env L rn jG g fn) [a]=F L a:=by intros;kernel_rfl):ab S ((g,fun l=>match l with|[a]=>F bd a|_=>none)::rn):=h.go hs ho hf hb fun ps r hp=>by
 split at hp
 ·rw[he];exact hp
 ·cases hp
theorem ab.s2(hs:mY S)(h:ab S rn)(ho:ff S jG)(hf:S.P.funcs[g]?=some fn)(F:bw→PV→PV→Option PV)(hb:fn.body.isSome=true:=by kernel_rfl)(he:∀L a b,fC (S.env L rn jG g fn) [a,b]=F L a b:=by intros;kernel_rfl):ab S ((g,fun l=>match l with|[a,b]=>F bd a b|_=>none)::rn):=h.go hs ho hf hb fun ps r hp=>by
 split at hp
 ·rw[he];exact hp
 ·cases hp
theorem ab.s3(hs:mY S)(h:ab S rn)(ho:ff S jG)(hf:S.P.funcs[g]?=some fn)(F:bw→PV→PV→PV→Option PV)(hb:fn.body.isSome=true:=by kernel_rfl)(he:∀L a b c,fC (S.env L rn jG g fn) [a,b,c]=F L a b c:=by intros;kernel_rfl):ab S ((g,fun l=>match l with|[a,b,c]=>F bd a b c|_=>none)::rn):=h.go hs ho hf hb fun ps r hp=>by
 split at hp
 ·rw[he];exact hp
 ·cases hp
theorem ab.s4(hs:mY S)(h:ab S rn)(ho:ff S jG)(hf:S.P.funcs[g]?=some fn)(F:bw→PV→PV→PV→PV→Option PV)(hb:fn.body.isSome=true:=by kernel_rfl)(he:∀L a b c d,fC (S.env L rn jG g fn) [a,b,c,d]=F L a b c d:=by intros;kernel_rfl):ab S ((g,fun l=>match l with|[a,b,c,d]=>F bd a b c d|_=>none)::rn):=h.go hs ho hf hb fun ps r hp=>by
 split at hp
 ·rw[he];exact hp
 ·cases hp
theorem ab.s5(hs:mY S)(h:ab S rn)(ho:ff S jG)(hf:S.P.funcs[g]?=some fn)(F:bw→PV→PV→PV→PV→PV→Option PV)(hb:fn.body.isSome=true:=by kernel_rfl)(he:∀L a b c d e,fC (S.env L rn jG g fn) [a,b,c,d,e]=F L a b c d e:=by intros;kernel_rfl):ab S ((g,fun l=>match l with|[a,b,c,d,e]=>F bd a b c d e|_=>none)::rn):=h.go hs ho hf hb fun ps r hp=>by
 split at hp
 ·rw[he];exact hp
 ·cases hp
theorem ab.s6(hs:mY S)(h:ab S rn)(ho:ff S jG)(hf:S.P.funcs[g]?=some fn)(F:bw→PV→PV→PV→PV→PV→PV→Option PV)(hb:fn.body.isSome=true:=by kernel_rfl)(he:∀L a b c d e f,fC (S.env L rn jG g fn) [a,b,c,d,e,f]=F L a b c d e f:=by intros;kernel_rfl):ab S ((g,fun l=>match l with|[a,b,c,d,e,f]=>F bd a b c d e f|_=>none)::rn):=h.go hs ho hf hb fun ps r hp=>by
 split at hp
 ·rw[he];exact hp
 ·cases hp
end Go.Ab
