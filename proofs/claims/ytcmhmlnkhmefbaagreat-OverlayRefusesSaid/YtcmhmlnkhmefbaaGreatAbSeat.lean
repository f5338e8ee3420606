import Derived.Test.YtcmhmlnkhmefbaaGreatAbFn
set_option linter.unusedVariables false
namespace Go.Ab
structure pA where
 P:Program
 aI:Nat→Option (List PV)
 hint:Nat→Nat→List fh
 YA:FuncId→Option FS:=fun _=>none
 Jf:FuncId→Option ((R:Type)→List V→Fr→Mem→(V→Fr→Mem→Option R)→Option R):=fun _=>none
 yU:Nat→Bool:=fun _=>false
abbrev fF:=List (Nat×(List PV→Option PV))
def look:fF→Nat→Option (List PV→Option PV)
 |[],_=>none
 |x::r,g=>bif Nat.beq g x.1 then some x.2 else look r g
def rounds:Nat:=18446744073709551616
def cd:bx:=⟨fun body s=>cF body rounds s,fun n=>Nat.ble n 9223372036854775807,fun n h=>by have h1:=Nat.le_of_ble_eq_true h;have h2:IntKind.i64.max=9223372036854775807:=rfl;omega⟩
noncomputable def pA.Jg(S:pA)(L:bx)(vD ng:fF):Nat→(R:Type)→FuncId→Nat→YL→List V→Fr→Mem→(V→Fr→Mem→Option R)→Option R
 |0=>fun _ _ _ _ _ _ _ _=>none
 |n+1=>fun _ g Im yl args f m k=>match S.P.funcs[g]? with
  |some fn=>Am {P:=S.P,ctx:=look vD,aI:=S.aI,fid:=Im,fn,lp:=L,hint:=S.hint,u:=64,own:=look ng,inl:=fun R g Im args f m k=>match S.Jf g with
   |some h=>h R args f m k
   |none=>pA.Jg S L vD ng n R g Im xN args f m k,Wm:=pA.Jg S L vD ng n,yl,YA:=S.YA,yU:=S.yU} args f m k
  |none=>none
noncomputable def pA.Xk(S:pA)(L:bx)(vD ng:fF)(n fid:Nat)(fn:Func)(yl:YL):Env:=
 {P:=S.P,ctx:=look vD,aI:=S.aI,fid,fn,lp:=L,hint:=S.hint,u:=64,own:=look ng,inl:=fun R g Im args f m k=>match S.Jf g with
  |some h=>h R args f m k
  |none=>pA.Jg S L vD ng n R g Im xN args f m k,Wm:=S.Jg L vD ng n,yl,YA:=S.YA,yU:=S.yU}
noncomputable def pA.aak(S:pA)(L:bx)(vD ng:fF)(n fid:Nat)(fn:Func):Env:=S.Xk L vD ng n fid fn xN
noncomputable def pA.env(S:pA)(L:bx)(vD ng:fF)(fid:Nat)(fn:Func):Env:=S.aak L vD ng 8 fid fn
def au(S:pA)(vD:fF):Prop:=∀x∈vD,te S.P S.aI x.1 x.2
def fV(S:pA)(vD:fF):Prop:=∀x∈vD,xX S.P S.aI x.1 x.2
structure tE(S:pA):Prop where
 mixed:S.P.follows .mixedOrders=true
 Jf:∀g h,S.Jf g=some h→∀(R:Type)args f m(k:V→Fr→Mem→Option R)r,h R args f m k=some r→Er S.P S.aI g args f m k r
 names:(S.P.funcs.all fun fn=> !(fn.name== "runtime.NumGoroutine"))=true
theorem tF{M:List PV→Option PV}{g:Nat}:∀{vD:fF},look vD g=some M→(g,M)∈vD
 |[],h=>by cases h
 |x::r,h=>by
  simp only[look]at h;cases e:Nat.beq g x.1 with
  |true=>rw[e]at h;simp only[cond,Option.some.injEq]at h;have:=Nat.eq_of_beq_eq_true e;subst this;subst h;exact List.mem_cons_self
  |false=>rw[e]at h;exact List.mem_cons_of_mem _ (tF h)
theorem au.nil(S:pA):au S []:=by intro x hx;cases hx
variable{G:Nat→Option (List PV)}{M M':List PV→Option PV}
theorem te.weaken{P:Program}{g:FuncId}(h:te P G g M)(hM:∀ps r,M' ps=some r→M ps=some r):te P G g M':=⟨h.1,fun ps r hr=>h.2 ps r (hM ps r hr)⟩
theorem fV.nil(S:pA):fV S []:=by intro x hx;cases hx
theorem xX.weaken{P:Program}{g:FuncId}(h:xX P G g M)(hM:∀ps r,M' ps=some r→M ps=some r):xX P G g M':=⟨h.1,fun fn t e h1 h2 h3 ps r hr=>h.2 fn t e h1 h2 h3 ps r (hM ps r hr)⟩
variable{S:pA}{fn:Func}
theorem tE.name(h:tE S){g:Nat}(hf:S.P.funcs[g]?=some fn):(fn.name== "runtime.NumGoroutine")=false:=by have:=Array.all_eq_true_iff_forall_mem.1 h.names fn (Array.mem_of_getElem? hf);simpa using this
theorem MD{S:pA}{vD ng:fF}(hs:tE S)(h:au S vD)(ho:fV S ng):∀(n fid:Nat)(fn:Func)(yl:YL),iK (S.Xk cd vD ng n fid fn yl)
 |n,fid,fn,yl=>by
  have hr:∀(R:Type)g Im yl args f m(k:V→Fr→Mem→Option R)r,S.Jg cd vD ng n R g Im yl args f m k=some r→Iz S.P S.aI g yl args f m k r:=by
   intro R g Im yl args f m k r hk;cases n with
   |zero=>simp[pA.Jg]at hk
   |succ n=>
    have hk:(match S.P.funcs[g]? with
     |some fn=>Am (S.Xk cd vD ng n Im fn yl) args f m k
     |none=>none)=some r:=hk
    split at hk
    ·rename_i fn' hf;exact Ws (MD hs h ho n Im fn' yl) hf (hs.name hf) hk
    ·cases hk
  refine⟨hs.mixed,fun _ _ body s r h=>⟨rounds,h⟩,fun g' M' Qm=>h _ (tF Qm),fun g' M' Qm=>ho _ (tF Qm),fun R g Im args f m k r hk=>?_,hr⟩
  have hk:(match S.Jf g with
   |some h=>h R args f m k
   |none=>pA.Jg S cd vD ng n R g Im xN args f m k)=some r:=hk
  split at hk
  ·rename_i h' hh;exact hs.Jf g h' hh R args f m k r hk
  ·obtain⟨fn',c,h1,h2,h3,h4⟩:=hr _ _ _ _ _ _ _ _ _ hk;exact⟨⟨fn',c,h1,h2,h3⟩,fun w0 μ φ ρ w xs hM hF hlen jb y5=>h4 w0 μ φ ρ w xs hM hF hlen jb y5 (wM _ _ _ _)⟩
variable{vD ng:fF}
theorem ME(hs:tE S)(h:au S vD)(ho:fV S ng)(n fid:Nat)(fn:Func):iK (S.aak cd vD ng n fid fn):=MD hs h ho n fid fn xN
theorem au.step(hs:tE S)(h:au S vD)(ho:fV S ng){g:Nat}(hf:S.P.funcs[g]?=some fn)(hb:fn.body.isSome=true)(he:∀ps r,M ps=some r→aQ (S.env cd vD ng g fn) ps=some r):au S ((g,M)::vD):=by
 intro x hx;rcases List.mem_cons.1 hx with rfl|hx
 ·obtain⟨c,hc⟩:=Option.isSome_iff_exists.1 hb;exact(NC (ME hs h ho 8 g fn) rfl (g:=g) hf (hs.name hf) hc).weaken he
 ·exact h x hx
theorem fV.step(hs:tE S)(h:au S vD)(ho:fV S ng){g:Nat}(hf:S.P.funcs[g]?=some fn)(hb:fn.body.isSome=true)(he:∀ps r,M ps=some r→kO (S.env cd vD ng g fn) ps=some r):fV S ((g,M)::ng):=by
 intro x hx;rcases List.mem_cons.1 hx with rfl|hx
 ·obtain⟨c,hc⟩:=Option.isSome_iff_exists.1 hb;exact(ND (ME hs h ho 8 g fn) rfl (g:=g) hf (hs.name hf) hc).weaken he
 ·exact ho x hx
end Go.Ab
