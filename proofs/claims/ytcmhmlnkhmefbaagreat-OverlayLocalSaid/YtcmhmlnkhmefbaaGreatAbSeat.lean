import Derived.Test.YtcmhmlnkhmefbaaGreatAbFn
set_option linter.unusedVariables false
namespace Go.Ab
structure pD where
 P:Program
 aI:Nat→Option (List PV)
 hint:Nat→Nat→List fi
 YY:FuncId→Option FS:=fun _=>none
 Jr:FuncId→Option ((R:Type)→List V→Fr→Mem→(V→Fr→Mem→Option R)→Option R):=fun _=>none
 y6:Nat→Bool:=fun _=>false
abbrev fH:=List (Nat×(List PV→Option PV))
def look:fH→Nat→Option (List PV→Option PV)
 |[],_=>none
 |x::r,g=>bif Nat.beq g x.1 then some x.2 else look r g
def rounds:Nat:=18446744073709551616
def cd:bC:=⟨fun body s=>cG body rounds s,fun n=>Nat.ble n 9223372036854775807,fun n h=>by have h1:=Nat.le_of_ble_eq_true h;have h2:IntKind.i64.max=9223372036854775807:=rfl;omega⟩
noncomputable def pD.Js(S:pD)(L:bC)(vJ nm:fH):Nat→(R:Type)→FuncId→Nat→YL→List V→Fr→Mem→(V→Fr→Mem→Option R)→Option R
 |0=>fun _ _ _ _ _ _ _ _=>none
 |n+1=>fun _ g IC yl args f m k=>match S.P.funcs[g]? with
  |some fn=>Aw {P:=S.P,ctx:=look vJ,aI:=S.aI,fid:=IC,fn,lp:=L,hint:=S.hint,u:=64,own:=look nm,inl:=fun R g IC args f m k=>match S.Jr g with
   |some h=>h R args f m k
   |none=>pD.Js S L vJ nm n R g IC xV args f m k,WC:=pD.Js S L vJ nm n,yl,YY:=S.YY,y6:=S.y6} args f m k
  |none=>none
noncomputable def pD.XC(S:pD)(L:bC)(vJ nm:fH)(n fid:Nat)(fn:Func)(yl:YL):Env:=
 {P:=S.P,ctx:=look vJ,aI:=S.aI,fid,fn,lp:=L,hint:=S.hint,u:=64,own:=look nm,inl:=fun R g IC args f m k=>match S.Jr g with
  |some h=>h R args f m k
  |none=>pD.Js S L vJ nm n R g IC xV args f m k,WC:=S.Js L vJ nm n,yl,YY:=S.YY,y6:=S.y6}
noncomputable def pD.aau(S:pD)(L:bC)(vJ nm:fH)(n fid:Nat)(fn:Func):Env:=S.XC L vJ nm n fid fn xV
noncomputable def pD.env(S:pD)(L:bC)(vJ nm:fH)(fid:Nat)(fn:Func):Env:=S.aau L vJ nm 8 fid fn
def au(S:pD)(vJ:fH):Prop:=∀x∈vJ,tn S.P S.aI x.1 x.2
def fY(S:pD)(vJ:fH):Prop:=∀x∈vJ,yn S.P S.aI x.1 x.2
structure tL(S:pD):Prop where
 mixed:S.P.follows .mixedOrders=true
 Jr:∀g h,S.Jr g=some h→∀(R:Type)args f m(k:V→Fr→Mem→Option R)r,h R args f m k=some r→ED S.P S.aI g args f m k r
 names:(S.P.funcs.all fun fn=> !(fn.name== "runtime.NumGoroutine"))=true
theorem tM{M:List PV→Option PV}{g:Nat}:∀{vJ:fH},look vJ g=some M→(g,M)∈vJ
 |[],h=>by cases h
 |x::r,h=>by
  simp only[look]at h;cases e:Nat.beq g x.1 with
  |true=>rw[e]at h;simp only[cond,Option.some.injEq]at h;have:=Nat.eq_of_beq_eq_true e;subst this;subst h;exact List.mem_cons_self
  |false=>rw[e]at h;exact List.mem_cons_of_mem _ (tM h)
theorem au.nil(S:pD):au S []:=by intro x hx;cases hx
variable{G:Nat→Option (List PV)}{M M':List PV→Option PV}
theorem tn.weaken{P:Program}{g:FuncId}(h:tn P G g M)(hM:∀ps r,M' ps=some r→M ps=some r):tn P G g M':=⟨h.1,fun ps r hr=>h.2 ps r (hM ps r hr)⟩
theorem fY.nil(S:pD):fY S []:=by intro x hx;cases hx
theorem yn.weaken{P:Program}{g:FuncId}(h:yn P G g M)(hM:∀ps r,M' ps=some r→M ps=some r):yn P G g M':=⟨h.1,fun fn t e h1 h2 h3 ps r hr=>h.2 fn t e h1 h2 h3 ps r (hM ps r hr)⟩
variable{S:pD}{fn:Func}
theorem tL.name(h:tL S){g:Nat}(hf:S.P.funcs[g]?=some fn):(fn.name== "runtime.NumGoroutine")=false:=by have:=Array.all_eq_true_iff_forall_mem.1 h.names fn (Array.mem_of_getElem? hf);simpa using this
theorem MQ{S:pD}{vJ nm:fH}(hs:tL S)(h:au S vJ)(ho:fY S nm):∀(n fid:Nat)(fn:Func)(yl:YL),iO (S.XC cd vJ nm n fid fn yl)
 |n,fid,fn,yl=>by
  have hr:∀(R:Type)g IC yl args f m(k:V→Fr→Mem→Option R)r,S.Js cd vJ nm n R g IC yl args f m k=some r→IM S.P S.aI g yl args f m k r:=by
   intro R g IC yl args f m k r hk;cases n with
   |zero=>simp[pD.Js]at hk
   |succ n=>
    have hk:(match S.P.funcs[g]? with
     |some fn=>Aw (S.XC cd vJ nm n IC fn yl) args f m k
     |none=>none)=some r:=hk
    split at hk
    ·rename_i fn' hf;exact WJ (MQ hs h ho n IC fn' yl) hf (hs.name hf) hk
    ·cases hk
  refine⟨hs.mixed,fun _ _ body s r h=>⟨rounds,h⟩,fun g' M' QG=>h _ (tM QG),fun g' M' QG=>ho _ (tM QG),fun R g IC args f m k r hk=>?_,hr⟩
  have hk:(match S.Jr g with
   |some h=>h R args f m k
   |none=>pD.Js S cd vJ nm n R g IC xV args f m k)=some r:=hk
  split at hk
  ·rename_i h' hh;exact hs.Jr g h' hh R args f m k r hk
  ·obtain⟨fn',c,h1,h2,h3,h4⟩:=hr _ _ _ _ _ _ _ _ _ hk;exact⟨⟨fn',c,h1,h2,h3⟩,fun w0 μ φ ρ w xs hM hF hlen jd zf=>h4 w0 μ φ ρ w xs hM hF hlen jd zf (wT _ _ _ _)⟩
variable{vJ nm:fH}
theorem MR(hs:tL S)(h:au S vJ)(ho:fY S nm)(n fid:Nat)(fn:Func):iO (S.aau cd vJ nm n fid fn):=MQ hs h ho n fid fn xV
theorem au.step(hs:tL S)(h:au S vJ)(ho:fY S nm){g:Nat}(hf:S.P.funcs[g]?=some fn)(hb:fn.body.isSome=true)(he:∀ps r,M ps=some r→aQ (S.env cd vJ nm g fn) ps=some r):au S ((g,M)::vJ):=by
 intro x hx;rcases List.mem_cons.1 hx with rfl|hx
 ·obtain⟨c,hc⟩:=Option.isSome_iff_exists.1 hb;exact(NS (MR hs h ho 8 g fn) rfl (g:=g) hf (hs.name hf) hc).weaken he
 ·exact h x hx
theorem fY.step(hs:tL S)(h:au S vJ)(ho:fY S nm){g:Nat}(hf:S.P.funcs[g]?=some fn)(hb:fn.body.isSome=true)(he:∀ps r,M ps=some r→kQ (S.env cd vJ nm g fn) ps=some r):fY S ((g,M)::nm):=by
 intro x hx;rcases List.mem_cons.1 hx with rfl|hx
 ·obtain⟨c,hc⟩:=Option.isSome_iff_exists.1 hb;exact(NT (MR hs h ho 8 g fn) rfl (g:=g) hf (hs.name hf) hc).weaken he
 ·exact ho x hx
end Go.Ab
