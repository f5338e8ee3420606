import Derived.Test.YtanikidijjaohaaGreatAbFn
set_option linter.unusedVariables false
namespace Go.Ab
structure rN where
 P:Program
 aD:Nat→Option (List PV)
 hint:Nat→Nat→List gi
 fnr:FuncId→Option FS:=fun _=>none
 MH:FuncId→Option ((R:Type)→List V→Fr→Mem→(V→Fr→Mem→Option R)→Option R):=fun _=>none
 Ak:Nat→Bool:=fun _=>false
abbrev dI:=List (Nat×(List PV→Option PV))
def look:dI→Nat→Option (List PV→Option PV)
 |[],_=>none
 |x::r,g=>bif Nat.beq g x.1 then some x.2 else look r g
def rounds:Nat:=18446744073709551616
def bC:bd:=⟨fun body s=>c7 body rounds s,fun n=>Nat.ble n 9223372036854775807,fun n h=>by have h1:=Nat.le_of_ble_eq_true h;have h2:IntKind.i64.max=9223372036854775807:=rfl;omega⟩
noncomputable def rN.MI(S:rN)(L:bd)(xH oW:dI):Nat→(R:Type)→FuncId→Nat→YL→List V→Fr→Mem→(V→Fr→Mem→Option R)→Option R
 |0=>fun _ _ _ _ _ _ _ _=>none
 |n+1=>fun _ g LN yl args f m k=>match S.P.funcs[g]? with
  |some fn=>CF {P:=S.P,ctx:=look xH,aD:=S.aD,fid:=LN,fn,lp:=L,hint:=S.hint,u:=64,own:=look oW,inl:=fun R g LN args f m k=>match S.MH g with
   |some h=>h R args f m k
   |none=>rN.MI S L xH oW n R g LN Aq args f m k,ZZ:=rN.MI S L xH oW n,yl,fnr:=S.fnr,Ak:=S.Ak} args f m k
  |none=>none
noncomputable def rN.aaE(S:rN)(L:bd)(xH oW:dI)(n fid:Nat)(fn:Func)(yl:YL):Env:=
 {P:=S.P,ctx:=look xH,aD:=S.aD,fid,fn,lp:=L,hint:=S.hint,u:=64,own:=look oW,inl:=fun R g LN args f m k=>match S.MH g with
  |some h=>h R args f m k
  |none=>rN.MI S L xH oW n R g LN Aq args f m k,ZZ:=S.MI L xH oW n,yl,fnr:=S.fnr,Ak:=S.Ak}
noncomputable def rN.ab8(S:rN)(L:bd)(xH oW:dI)(n fid:Nat)(fn:Func):Env:=S.aaE L xH oW n fid fn Aq
noncomputable def rN.env(S:rN)(L:bd)(xH oW:dI)(fid:Nat)(fn:Func):Env:=S.ab8 L xH oW 8 fid fn
def ab(S:rN)(xH:dI):Prop:=∀x∈xH,tX S.P S.aD x.1 x.2
def uZ(S:rN)(xH:dI):Prop:=∀x∈xH,AB S.P S.aD x.1 x.2
structure vR(S:rN):Prop where
 mixed:S.P.follows .mixedOrders=true
 MH:∀g h,S.MH g=some h→∀(R:Type)args f m(k:V→Fr→Mem→Option R)r,h R args f m k=some r→HB S.P S.aD g args f m k r
 names:(S.P.funcs.all fun fn=> !(fn.name== "runtime.NumGoroutine"))=true
theorem mw{M:List PV→Option PV}{g:Nat}:∀{xH:dI},look xH g=some M→(g,M)∈xH
 |[],h=>by cases h
 |x::r,h=>by
  simp only[look]at h;cases e:Nat.beq g x.1 with
  |true=>rw[e]at h;simp only[cond,Option.some.injEq]at h;have:=Nat.eq_of_beq_eq_true e;subst this;subst h;exact List.mem_cons_self
  |false=>rw[e]at h;exact List.mem_cons_of_mem _ (mw h)
theorem ab.nil(S:rN):ab S []:=by intro x hx;cases hx
variable{G:Nat→Option (List PV)}{M M':List PV→Option PV}
theorem tX.weaken{P:Program}{g:FuncId}(h:tX P G g M)(hM:∀ps r,M' ps=some r→M ps=some r):tX P G g M':=⟨h.1,fun ps r hr=>h.2 ps r (hM ps r hr)⟩
theorem uZ.nil(S:rN):uZ S []:=by intro x hx;cases hx
theorem AB.weaken{P:Program}{g:FuncId}(h:AB P G g M)(hM:∀ps r,M' ps=some r→M ps=some r):AB P G g M':=⟨h.1,fun fn t e h1 h2 h3 ps r hr=>h.2 fn t e h1 h2 h3 ps r (hM ps r hr)⟩
variable{S:rN}{fn:Func}
theorem vR.name(h:vR S){g:Nat}(hf:S.P.funcs[g]?=some fn):(fn.name== "runtime.NumGoroutine")=false:=by have:=Array.all_eq_true_iff_forall_mem.1 h.names fn (Array.mem_of_getElem? hf);simpa using this
theorem Qu{S:rN}{xH oW:dI}(hs:vR S)(h:ab S xH)(ho:uZ S oW):∀(n fid:Nat)(fn:Func)(yl:YL),jS (S.aaE bC xH oW n fid fn yl)
 |n,fid,fn,yl=>by
  have hr:∀(R:Type)g LN yl args f m(k:V→Fr→Mem→Option R)r,S.MI bC xH oW n R g LN yl args f m k=some r→L4 S.P S.aD g yl args f m k r:=by
   intro R g LN yl args f m k r hk;cases n with
   |zero=>simp[rN.MI]at hk
   |succ n=>
    have hk:(match S.P.funcs[g]? with
     |some fn=>CF (S.aaE bC xH oW n LN fn yl) args f m k
     |none=>none)=some r:=hk
    split at hk
    ·rename_i fn' hf;exact Z5 (Qu hs h ho n LN fn' yl) hf (hs.name hf) hk
    ·cases hk
  refine⟨hs.mixed,fun _ _ body s r h=>⟨rounds,h⟩,fun g' M' TT=>h _ (mw TT),fun g' M' TT=>ho _ (mw TT),fun R g LN args f m k r hk=>?_,hr⟩
  have hk:(match S.MH g with
   |some h=>h R args f m k
   |none=>rN.MI S bC xH oW n R g LN Aq args f m k)=some r:=hk
  split at hk
  ·rename_i h' hh;exact hs.MH g h' hh R args f m k r hk
  ·obtain⟨fn',c,h1,h2,h3,h4⟩:=hr _ _ _ _ _ _ _ _ _ hk;exact⟨⟨fn',c,h1,h2,h3⟩,fun w0 μ φ ρ w xs hM hF hlen jd BC=>h4 w0 μ φ ρ w xs hM hF hlen jd BC (zg _ _ _ _)⟩
variable{xH oW:dI}
theorem Qv(hs:vR S)(h:ab S xH)(ho:uZ S oW)(n fid:Nat)(fn:Func):jS (S.ab8 bC xH oW n fid fn):=Qu hs h ho n fid fn Aq
theorem ab.step(hs:vR S)(h:ab S xH)(ho:uZ S oW){g:Nat}(hf:S.P.funcs[g]?=some fn)(hb:fn.body.isSome=true)(he:∀ps r,M ps=some r→aq (S.env bC xH oW g fn) ps=some r):ab S ((g,M)::xH):=by
 intro x hx;rcases List.mem_cons.1 hx with rfl|hx
 ·obtain⟨c,hc⟩:=Option.isSome_iff_exists.1 hb;exact(Rq (Qv hs h ho 8 g fn) rfl (g:=g) hf (hs.name hf) hc).weaken he
 ·exact h x hx
theorem uZ.step(hs:vR S)(h:ab S xH)(ho:uZ S oW){g:Nat}(hf:S.P.funcs[g]?=some fn)(hb:fn.body.isSome=true)(he:∀ps r,M ps=some r→Hn (S.env bC xH oW g fn) ps=some r):uZ S ((g,M)::oW):=by
 intro x hx;rcases List.mem_cons.1 hx with rfl|hx
 ·obtain⟨c,hc⟩:=Option.isSome_iff_exists.1 hb;exact(Rr (Qv hs h ho 8 g fn) rfl (g:=g) hf (hs.name hf) hc).weaken he
 ·exact ho x hx
end Go.Ab
