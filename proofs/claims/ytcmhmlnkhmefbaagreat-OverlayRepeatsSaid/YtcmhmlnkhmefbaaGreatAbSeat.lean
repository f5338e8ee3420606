import Derived.Test.YtcmhmlnkhmefbaaGreatAbFn
set_option linter.unusedVariables false
namespace Go.Ab
structure pC where
 P:Program
 aI:Nat→Option (List PV)
 hint:Nat→Nat→List fg
 YO:FuncId→Option FS:=fun _=>none
 Jn:FuncId→Option ((R:Type)→List V→Fr→Mem→(V→Fr→Mem→Option R)→Option R):=fun _=>none
 y0:Nat→Bool:=fun _=>false
abbrev fF:=List (Nat×(List PV→Option PV))
def look:fF→Nat→Option (List PV→Option PV)
 |[],_=>none
 |x::r,g=>bif Nat.beq g x.1 then some x.2 else look r g
def rounds:Nat:=18446744073709551616
def cd:bB:=⟨fun body s=>cF body rounds s,fun n=>Nat.ble n 9223372036854775807,fun n h=>by have h1:=Nat.le_of_ble_eq_true h;have h2:IntKind.i64.max=9223372036854775807:=rfl;omega⟩
noncomputable def pC.Jo(S:pC)(L:bB)(vI nd:fF):Nat→(R:Type)→FuncId→Nat→YL→List V→Fr→Mem→(V→Fr→Mem→Option R)→Option R
 |0=>fun _ _ _ _ _ _ _ _=>none
 |n+1=>fun _ g Iw yl args f m k=>match S.P.funcs[g]? with
  |some fn=>Aw {P:=S.P,ctx:=look vI,aI:=S.aI,fid:=Iw,fn,lp:=L,hint:=S.hint,u:=64,own:=look nd,inl:=fun R g Iw args f m k=>match S.Jn g with
   |some h=>h R args f m k
   |none=>pC.Jo S L vI nd n R g Iw xT args f m k,Wy:=pC.Jo S L vI nd n,yl,YO:=S.YO,y0:=S.y0} args f m k
  |none=>none
noncomputable def pC.Xw(S:pC)(L:bB)(vI nd:fF)(n fid:Nat)(fn:Func)(yl:YL):Env:=
 {P:=S.P,ctx:=look vI,aI:=S.aI,fid,fn,lp:=L,hint:=S.hint,u:=64,own:=look nd,inl:=fun R g Iw args f m k=>match S.Jn g with
  |some h=>h R args f m k
  |none=>pC.Jo S L vI nd n R g Iw xT args f m k,Wy:=S.Jo L vI nd n,yl,YO:=S.YO,y0:=S.y0}
noncomputable def pC.aar(S:pC)(L:bB)(vI nd:fF)(n fid:Nat)(fn:Func):Env:=S.Xw L vI nd n fid fn xT
noncomputable def pC.env(S:pC)(L:bB)(vI nd:fF)(fid:Nat)(fn:Func):Env:=S.aar L vI nd 8 fid fn
def au(S:pC)(vI:fF):Prop:=∀x∈vI,tn S.P S.aI x.1 x.2
def fW(S:pC)(vI:fF):Prop:=∀x∈vI,yg S.P S.aI x.1 x.2
structure tK(S:pC):Prop where
 mixed:S.P.follows .mixedOrders=true
 Jn:∀g h,S.Jn g=some h→∀(R:Type)args f m(k:V→Fr→Mem→Option R)r,h R args f m k=some r→Ez S.P S.aI g args f m k r
 names:(S.P.funcs.all fun fn=> !(fn.name== "runtime.NumGoroutine"))=true
theorem tL{M:List PV→Option PV}{g:Nat}:∀{vI:fF},look vI g=some M→(g,M)∈vI
 |[],h=>by cases h
 |x::r,h=>by
  simp only[look]at h;cases e:Nat.beq g x.1 with
  |true=>rw[e]at h;simp only[cond,Option.some.injEq]at h;have:=Nat.eq_of_beq_eq_true e;subst this;subst h;exact List.mem_cons_self
  |false=>rw[e]at h;exact List.mem_cons_of_mem _ (tL h)
theorem au.nil(S:pC):au S []:=by intro x hx;cases hx
variable{G:Nat→Option (List PV)}{M M':List PV→Option PV}
theorem tn.weaken{P:Program}{g:FuncId}(h:tn P G g M)(hM:∀ps r,M' ps=some r→M ps=some r):tn P G g M':=⟨h.1,fun ps r hr=>h.2 ps r (hM ps r hr)⟩
theorem fW.nil(S:pC):fW S []:=by intro x hx;cases hx
theorem yg.weaken{P:Program}{g:FuncId}(h:yg P G g M)(hM:∀ps r,M' ps=some r→M ps=some r):yg P G g M':=⟨h.1,fun fn t e h1 h2 h3 ps r hr=>h.2 fn t e h1 h2 h3 ps r (hM ps r hr)⟩
variable{S:pC}{fn:Func}
theorem tK.name(h:tK S){g:Nat}(hf:S.P.funcs[g]?=some fn):(fn.name== "runtime.NumGoroutine")=false:=by have:=Array.all_eq_true_iff_forall_mem.1 h.names fn (Array.mem_of_getElem? hf);simpa using this
theorem MN{S:pC}{vI nd:fF}(hs:tK S)(h:au S vI)(ho:fW S nd):∀(n fid:Nat)(fn:Func)(yl:YL),iK (S.Xw cd vI nd n fid fn yl)
 |n,fid,fn,yl=>by
  have hr:∀(R:Type)g Iw yl args f m(k:V→Fr→Mem→Option R)r,S.Jo cd vI nd n R g Iw yl args f m k=some r→II S.P S.aI g yl args f m k r:=by
   intro R g Iw yl args f m k r hk;cases n with
   |zero=>simp[pC.Jo]at hk
   |succ n=>
    have hk:(match S.P.funcs[g]? with
     |some fn=>Aw (S.Xw cd vI nd n Iw fn yl) args f m k
     |none=>none)=some r:=hk
    split at hk
    ·rename_i fn' hf;exact WE (MN hs h ho n Iw fn' yl) hf (hs.name hf) hk
    ·cases hk
  refine⟨hs.mixed,fun _ _ body s r h=>⟨rounds,h⟩,fun g' M' Qx=>h _ (tL Qx),fun g' M' Qx=>ho _ (tL Qx),fun R g Iw args f m k r hk=>?_,hr⟩
  have hk:(match S.Jn g with
   |some h=>h R args f m k
   |none=>pC.Jo S cd vI nd n R g Iw xT args f m k)=some r:=hk
  split at hk
  ·rename_i h' hh;exact hs.Jn g h' hh R args f m k r hk
  ·obtain⟨fn',c,h1,h2,h3,h4⟩:=hr _ _ _ _ _ _ _ _ _ hk;exact⟨⟨fn',c,h1,h2,h3⟩,fun w0 μ φ ρ w xs hM hF hlen ja zb=>h4 w0 μ φ ρ w xs hM hF hlen ja zb (wR _ _ _ _)⟩
variable{vI nd:fF}
theorem MO(hs:tK S)(h:au S vI)(ho:fW S nd)(n fid:Nat)(fn:Func):iK (S.aar cd vI nd n fid fn):=MN hs h ho n fid fn xT
theorem au.step(hs:tK S)(h:au S vI)(ho:fW S nd){g:Nat}(hf:S.P.funcs[g]?=some fn)(hb:fn.body.isSome=true)(he:∀ps r,M ps=some r→aQ (S.env cd vI nd g fn) ps=some r):au S ((g,M)::vI):=by
 intro x hx;rcases List.mem_cons.1 hx with rfl|hx
 ·obtain⟨c,hc⟩:=Option.isSome_iff_exists.1 hb;exact(NN (MO hs h ho 8 g fn) rfl (g:=g) hf (hs.name hf) hc).weaken he
 ·exact h x hx
theorem fW.step(hs:tK S)(h:au S vI)(ho:fW S nd){g:Nat}(hf:S.P.funcs[g]?=some fn)(hb:fn.body.isSome=true)(he:∀ps r,M ps=some r→kN (S.env cd vI nd g fn) ps=some r):fW S ((g,M)::nd):=by
 intro x hx;rcases List.mem_cons.1 hx with rfl|hx
 ·obtain⟨c,hc⟩:=Option.isSome_iff_exists.1 hb;exact(NO (MO hs h ho 8 g fn) rfl (g:=g) hf (hs.name hf) hc).weaken he
 ·exact ho x hx
end Go.Ab
