import Derived.Test.YtcmhmlnkhmefbaaGreatAbFn
set_option linter.unusedVariables false
namespace Go.Ab
structure pC where
 P:Program
 aH:Nat→Option (List PV)
 hint:Nat→Nat→List ff
 Y2:FuncId→Option FS:=fun _=>none
 Jy:FuncId→Option ((R:Type)→List V→Fr→Mem→(V→Fr→Mem→Option R)→Option R):=fun _=>none
 yW:Nat→Bool:=fun _=>false
abbrev fF:=List (Nat×(List PV→Option PV))
def look:fF→Nat→Option (List PV→Option PV)
 |[],_=>none
 |x::r,g=>bif Nat.beq g x.1 then some x.2 else look r g
def rounds:Nat:=18446744073709551616
def ca:bA:=⟨fun body s=>cE body rounds s,fun n=>Nat.ble n 9223372036854775807,fun n h=>by have h1:=Nat.le_of_ble_eq_true h;have h2:IntKind.i64.max=9223372036854775807:=rfl;omega⟩
noncomputable def pC.Jz(S:pC)(L:bA)(vE nf:fF):Nat→(R:Type)→FuncId→Nat→YL→List V→Fr→Mem→(V→Fr→Mem→Option R)→Option R
 |0=>fun _ _ _ _ _ _ _ _=>none
 |n+1=>fun _ g IF yl args f m k=>match S.P.funcs[g]? with
  |some fn=>Ap {P:=S.P,ctx:=look vE,aH:=S.aH,fid:=IF,fn,lp:=L,hint:=S.hint,u:=64,own:=look nf,inl:=fun R g IF args f m k=>match S.Jy g with
   |some h=>h R args f m k
   |none=>pC.Jz S L vE nf n R g IF xN args f m k,WR:=pC.Jz S L vE nf n,yl,Y2:=S.Y2,yW:=S.yW} args f m k
  |none=>none
noncomputable def pC.XK(S:pC)(L:bA)(vE nf:fF)(n fid:Nat)(fn:Func)(yl:YL):Env:=
 {P:=S.P,ctx:=look vE,aH:=S.aH,fid,fn,lp:=L,hint:=S.hint,u:=64,own:=look nf,inl:=fun R g IF args f m k=>match S.Jy g with
  |some h=>h R args f m k
  |none=>pC.Jz S L vE nf n R g IF xN args f m k,WR:=S.Jz L vE nf n,yl,Y2:=S.Y2,yW:=S.yW}
noncomputable def pC.aax(S:pC)(L:bA)(vE nf:fF)(n fid:Nat)(fn:Func):Env:=S.XK L vE nf n fid fn xN
noncomputable def pC.env(S:pC)(L:bA)(vE nf:fF)(fid:Nat)(fn:Func):Env:=S.aax L vE nf 8 fid fn
def ar(S:pC)(vE:fF):Prop:=∀x∈vE,tf S.P S.aH x.1 x.2
def fW(S:pC)(vE:fF):Prop:=∀x∈vE,xX S.P S.aH x.1 x.2
structure tF(S:pC):Prop where
 mixed:S.P.follows .mixedOrders=true
 Jy:∀g h,S.Jy g=some h→∀(R:Type)args f m(k:V→Fr→Mem→Option R)r,h R args f m k=some r→EA S.P S.aH g args f m k r
 names:(S.P.funcs.all fun fn=> !(fn.name== "runtime.NumGoroutine"))=true
theorem tG{M:List PV→Option PV}{g:Nat}:∀{vE:fF},look vE g=some M→(g,M)∈vE
 |[],h=>by cases h
 |x::r,h=>by
  simp only[look]at h;cases e:Nat.beq g x.1 with
  |true=>rw[e]at h;simp only[cond,Option.some.injEq]at h;have:=Nat.eq_of_beq_eq_true e;subst this;subst h;exact List.mem_cons_self
  |false=>rw[e]at h;exact List.mem_cons_of_mem _ (tG h)
theorem ar.nil(S:pC):ar S []:=by intro x hx;cases hx
variable{G:Nat→Option (List PV)}{M M':List PV→Option PV}
theorem tf.weaken{P:Program}{g:FuncId}(h:tf P G g M)(hM:∀ps r,M' ps=some r→M ps=some r):tf P G g M':=⟨h.1,fun ps r hr=>h.2 ps r (hM ps r hr)⟩
theorem fW.nil(S:pC):fW S []:=by intro x hx;cases hx
theorem xX.weaken{P:Program}{g:FuncId}(h:xX P G g M)(hM:∀ps r,M' ps=some r→M ps=some r):xX P G g M':=⟨h.1,fun fn t e h1 h2 h3 ps r hr=>h.2 fn t e h1 h2 h3 ps r (hM ps r hr)⟩
variable{S:pC}{fn:Func}
theorem tF.name(h:tF S){g:Nat}(hf:S.P.funcs[g]?=some fn):(fn.name== "runtime.NumGoroutine")=false:=by have:=Array.all_eq_true_iff_forall_mem.1 h.names fn (Array.mem_of_getElem? hf);simpa using this
theorem MX{S:pC}{vE nf:fF}(hs:tF S)(h:ar S vE)(ho:fW S nf):∀(n fid:Nat)(fn:Func)(yl:YL),iJ (S.XK ca vE nf n fid fn yl)
 |n,fid,fn,yl=>by
  have hr:∀(R:Type)g IF yl args f m(k:V→Fr→Mem→Option R)r,S.Jz ca vE nf n R g IF yl args f m k=some r→IX S.P S.aH g yl args f m k r:=by
   intro R g IF yl args f m k r hk;cases n with
   |zero=>simp[pC.Jz]at hk
   |succ n=>
    have hk:(match S.P.funcs[g]? with
     |some fn=>Ap (S.XK ca vE nf n IF fn yl) args f m k
     |none=>none)=some r:=hk
    split at hk
    ·rename_i fn' hf;exact WX (MX hs h ho n IF fn' yl) hf (hs.name hf) hk
    ·cases hk
  refine⟨hs.mixed,fun _ _ body s r h=>⟨rounds,h⟩,fun g' M' QD=>h _ (tG QD),fun g' M' QD=>ho _ (tG QD),fun R g IF args f m k r hk=>?_,hr⟩
  have hk:(match S.Jy g with
   |some h=>h R args f m k
   |none=>pC.Jz S ca vE nf n R g IF xN args f m k)=some r:=hk
  split at hk
  ·rename_i h' hh;exact hs.Jy g h' hh R args f m k r hk
  ·obtain⟨fn',c,h1,h2,h3,h4⟩:=hr _ _ _ _ _ _ _ _ _ hk;exact⟨⟨fn',c,h1,h2,h3⟩,fun w0 μ φ ρ w xs hM hF hlen iY y7=>h4 w0 μ φ ρ w xs hM hF hlen iY y7 (wL _ _ _ _)⟩
variable{vE nf:fF}
theorem MY(hs:tF S)(h:ar S vE)(ho:fW S nf)(n fid:Nat)(fn:Func):iJ (S.aax ca vE nf n fid fn):=MX hs h ho n fid fn xN
theorem ar.step(hs:tF S)(h:ar S vE)(ho:fW S nf){g:Nat}(hf:S.P.funcs[g]?=some fn)(hb:fn.body.isSome=true)(he:∀ps r,M ps=some r→aP (S.env ca vE nf g fn) ps=some r):ar S ((g,M)::vE):=by
 intro x hx;rcases List.mem_cons.1 hx with rfl|hx
 ·obtain⟨c,hc⟩:=Option.isSome_iff_exists.1 hb;exact(NY (MY hs h ho 8 g fn) rfl (g:=g) hf (hs.name hf) hc).weaken he
 ·exact h x hx
theorem fW.step(hs:tF S)(h:ar S vE)(ho:fW S nf){g:Nat}(hf:S.P.funcs[g]?=some fn)(hb:fn.body.isSome=true)(he:∀ps r,M ps=some r→kL (S.env ca vE nf g fn) ps=some r):fW S ((g,M)::nf):=by
 intro x hx;rcases List.mem_cons.1 hx with rfl|hx
 ·obtain⟨c,hc⟩:=Option.isSome_iff_exists.1 hb;exact(NZ (MY hs h ho 8 g fn) rfl (g:=g) hf (hs.name hf) hc).weaken he
 ·exact ho x hx
end Go.Ab
