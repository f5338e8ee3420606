import Derived.Test.YtcmhmlnkhmefbaaGreatAbFn
set_option linter.unusedVariables false
namespace Go.Ab
structure oZ where
 P:Program
 aD:Nat→Option (List PV)
 hint:Nat→Nat→List fB
 XF:FuncId→Option FS:=fun _=>none
 IJ:FuncId→Option ((R:Type)→List V→Fr→Mem→(V→Fr→Mem→Option R)→Option R):=fun _=>none
 yq:Nat→Bool:=fun _=>false
abbrev fR:=List (Nat×(List PV→Option PV))
def look:fR→Nat→Option (List PV→Option PV)
 |[],_=>none
 |x::r,g=>bif Nat.beq g x.1 then some x.2 else look r g
def rounds:Nat:=18446744073709551616
def cF:bL:=⟨fun body s=>cD body rounds s,fun n=>Nat.ble n 9223372036854775807,fun n h=>by have h1:=Nat.le_of_ble_eq_true h;have h2:IntKind.i64.max=9223372036854775807:=rfl;omega⟩
noncomputable def oZ.IK(S:oZ)(L:bL)(u9 mQ:fR):Nat→(R:Type)→FuncId→Nat→YL→List V→Fr→Mem→(V→Fr→Mem→Option R)→Option R
 |0=>fun _ _ _ _ _ _ _ _=>none
 |n+1=>fun _ g HQ yl args f m k=>match S.P.funcs[g]? with
  |some fn=>zJ {P:=S.P,ctx:=look u9,aD:=S.aD,fid:=HQ,fn,lp:=L,hint:=S.hint,u:=64,own:=look mQ,inl:=fun R g HQ args f m k=>match S.IJ g with
   |some h=>h R args f m k
   |none=>oZ.IK S L u9 mQ n R g HQ xj args f m k,Vs:=oZ.IK S L u9 mQ n,yl,XF:=S.XF,yq:=S.yq} args f m k
  |none=>none
noncomputable def oZ.Wn(S:oZ)(L:bL)(u9 mQ:fR)(n fid:Nat)(fn:Func)(yl:YL):Env:=
 {P:=S.P,ctx:=look u9,aD:=S.aD,fid,fn,lp:=L,hint:=S.hint,u:=64,own:=look mQ,inl:=fun R g HQ args f m k=>match S.IJ g with
  |some h=>h R args f m k
  |none=>oZ.IK S L u9 mQ n R g HQ xj args f m k,Vs:=S.IK L u9 mQ n,yl,XF:=S.XF,yq:=S.yq}
noncomputable def oZ.ZF(S:oZ)(L:bL)(u9 mQ:fR)(n fid:Nat)(fn:Func):Env:=S.Wn L u9 mQ n fid fn xj
noncomputable def oZ.env(S:oZ)(L:bL)(u9 mQ:fR)(fid:Nat)(fn:Func):Env:=S.ZF L u9 mQ 8 fid fn
def ar(S:oZ)(u9:fR):Prop:=∀x∈u9,sL S.P S.aD x.1 x.2
def fS(S:oZ)(u9:fR):Prop:=∀x∈u9,xw S.P S.aD x.1 x.2
structure td(S:oZ):Prop where
 mixed:S.P.follows .mixedOrders=true
 IJ:∀g h,S.IJ g=some h→∀(R:Type)args f m(k:V→Fr→Mem→Option R)r,h R args f m k=some r→DX S.P S.aD g args f m k r
 names:(S.P.funcs.all fun fn=> !(fn.name== "runtime.NumGoroutine"))=true
theorem te{M:List PV→Option PV}{g:Nat}:∀{u9:fR},look u9 g=some M→(g,M)∈u9
 |[],h=>by cases h
 |x::r,h=>by
  simp only[look]at h;cases e:Nat.beq g x.1 with
  |true=>rw[e]at h;simp only[cond,Option.some.injEq]at h;have:=Nat.eq_of_beq_eq_true e;subst this;subst h;exact List.mem_cons_self
  |false=>rw[e]at h;exact List.mem_cons_of_mem _ (te h)
theorem ar.nil(S:oZ):ar S []:=by intro x hx;cases hx
variable{G:Nat→Option (List PV)}{M M':List PV→Option PV}
theorem sL.weaken{P:Program}{g:FuncId}(h:sL P G g M)(hM:∀ps r,M' ps=some r→M ps=some r):sL P G g M':=⟨h.1,fun ps r hr=>h.2 ps r (hM ps r hr)⟩
theorem fS.nil(S:oZ):fS S []:=by intro x hx;cases hx
theorem xw.weaken{P:Program}{g:FuncId}(h:xw P G g M)(hM:∀ps r,M' ps=some r→M ps=some r):xw P G g M':=⟨h.1,fun fn t e h1 h2 h3 ps r hr=>h.2 fn t e h1 h2 h3 ps r (hM ps r hr)⟩
variable{S:oZ}{fn:Func}
theorem td.name(h:td S){g:Nat}(hf:S.P.funcs[g]?=some fn):(fn.name== "runtime.NumGoroutine")=false:=by have:=Array.all_eq_true_iff_forall_mem.1 h.names fn (Array.mem_of_getElem? hf);simpa using this
theorem L2{S:oZ}{u9 mQ:fR}(hs:td S)(h:ar S u9)(ho:fS S mQ):∀(n fid:Nat)(fn:Func)(yl:YL),iv (S.Wn cF u9 mQ n fid fn yl)
 |n,fid,fn,yl=>by
  have hr:∀(R:Type)g HQ yl args f m(k:V→Fr→Mem→Option R)r,S.IK cF u9 mQ n R g HQ yl args f m k=some r→H5 S.P S.aD g yl args f m k r:=by
   intro R g HQ yl args f m k r hk;cases n with
   |zero=>simp[oZ.IK]at hk
   |succ n=>
    have hk:(match S.P.funcs[g]? with
     |some fn=>zJ (S.Wn cF u9 mQ n HQ fn yl) args f m k
     |none=>none)=some r:=hk
    split at hk
    ·rename_i fn' hf;exact Vy (L2 hs h ho n HQ fn' yl) hf (hs.name hf) hk
    ·cases hk
  refine⟨hs.mixed,fun _ _ body s r h=>⟨rounds,h⟩,fun g' M' PD=>h _ (te PD),fun g' M' PD=>ho _ (te PD),fun R g HQ args f m k r hk=>?_,hr⟩
  have hk:(match S.IJ g with
   |some h=>h R args f m k
   |none=>oZ.IK S cF u9 mQ n R g HQ xj args f m k)=some r:=hk
  split at hk
  ·rename_i h' hh;exact hs.IJ g h' hh R args f m k r hk
  ·obtain⟨fn',c,h1,h2,h3,h4⟩:=hr _ _ _ _ _ _ _ _ _ hk;exact⟨⟨fn',c,h1,h2,h3⟩,fun w0 μ φ ρ w xs hM hF hlen iP yB=>h4 w0 μ φ ρ w xs hM hF hlen iP yB (wa _ _ _ _)⟩
variable{u9 mQ:fR}
theorem L3(hs:td S)(h:ar S u9)(ho:fS S mQ)(n fid:Nat)(fn:Func):iv (S.ZF cF u9 mQ n fid fn):=L2 hs h ho n fid fn xj
theorem ar.step(hs:td S)(h:ar S u9)(ho:fS S mQ){g:Nat}(hf:S.P.funcs[g]?=some fn)(hb:fn.body.isSome=true)(he:∀ps r,M ps=some r→aR (S.env cF u9 mQ g fn) ps=some r):ar S ((g,M)::u9):=by
 intro x hx;rcases List.mem_cons.1 hx with rfl|hx
 ·obtain⟨c,hc⟩:=Option.isSome_iff_exists.1 hb;exact(MT (L3 hs h ho 8 g fn) rfl (g:=g) hf (hs.name hf) hc).weaken he
 ·exact h x hx
theorem fS.step(hs:td S)(h:ar S u9)(ho:fS S mQ){g:Nat}(hf:S.P.funcs[g]?=some fn)(hb:fn.body.isSome=true)(he:∀ps r,M ps=some r→kC (S.env cF u9 mQ g fn) ps=some r):fS S ((g,M)::mQ):=by
 intro x hx;rcases List.mem_cons.1 hx with rfl|hx
 ·obtain⟨c,hc⟩:=Option.isSome_iff_exists.1 hb;exact(MU (L3 hs h ho 8 g fn) rfl (g:=g) hf (hs.name hf) hc).weaken he
 ·exact ho x hx
end Go.Ab
