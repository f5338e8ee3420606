import Derived.Test.YtcmhmlnkhmefbaaAbFn
set_option linter.unusedVariables false
namespace Go.Ab
structure nr where
 P:Program
 ax:Nat→Option (List PV)
 hint:Nat→Nat→List iL
 UC:FuncId→Option FS:=fun _=>none
 Gj:FuncId→Option ((R:Type)→List V→Fr→Mem→(V→Fr→Mem→Option R)→Option R):=fun _=>none
 u7:Nat→Bool:=fun _=>false
abbrev gJ:=List (Nat×(List PV→Option PV))
def look:gJ→Nat→Option (List PV→Option PV)
 |[],_=>none
 |x::r,g=>bif Nat.beq g x.1 then some x.2 else look r g
def rounds:Nat:=18446744073709551616
def dM:cp:=⟨fun body s=>cd body rounds s,fun n=>Nat.ble n 9223372036854775807,fun n h=>by have h1:=Nat.le_of_ble_eq_true h;have h2:IntKind.i64.max=9223372036854775807:=rfl;omega⟩
noncomputable def nr.Gk(S:nr)(L:cp)(sT lK:gJ):Nat→(R:Type)→FuncId→Nat→YL→List V→Fr→Mem→(V→Fr→Mem→Option R)→Option R
 |0=>fun _ _ _ _ _ _ _ _=>none
 |n+1=>fun _ g Fv yl args f m k=>match S.P.funcs[g]? with
  |some fn=>xJ {P:=S.P,ctx:=look sT,ax:=S.ax,fid:=Fv,fn,lp:=L,hint:=S.hint,u:=64,own:=look lK,inl:=fun R g Fv args f m k=>match S.Gj g with
   |some h=>h R args f m k
   |none=>nr.Gk S L sT lK n R g Fv vd args f m k,SL:=nr.Gk S L sT lK n,yl,UC:=S.UC,u7:=S.u7} args f m k
  |none=>none
noncomputable def nr.TL(S:nr)(L:cp)(sT lK:gJ)(n fid:Nat)(fn:Func)(yl:YL):Env:=
 {P:=S.P,ctx:=look sT,ax:=S.ax,fid,fn,lp:=L,hint:=S.hint,u:=64,own:=look lK,inl:=fun R g Fv args f m k=>match S.Gj g with
  |some h=>h R args f m k
  |none=>nr.Gk S L sT lK n R g Fv vd args f m k,SL:=S.Gk L sT lK n,yl,UC:=S.UC,u7:=S.u7}
noncomputable def nr.WD(S:nr)(L:cp)(sT lK:gJ)(n fid:Nat)(fn:Func):Env:=S.TL L sT lK n fid fn vd
noncomputable def nr.env(S:nr)(L:cp)(sT lK:gJ)(fid:Nat)(fn:Func):Env:=S.WD L sT lK 8 fid fn
def aC(S:nr)(sT:gJ):Prop:=∀x∈sT,qK S.P S.ax x.1 x.2
def fy(S:nr)(sT:gJ):Prop:=∀x∈sT,vo S.P S.ax x.1 x.2
structure q8(S:nr):Prop where
 mixed:S.P.follows .mixedOrders=true
 Gj:∀g h,S.Gj g=some h→∀(R:Type)args f m(k:V→Fr→Mem→Option R)r,h R args f m k=some r→Ct S.P S.ax g args f m k r
 names:(S.P.funcs.all fun fn=> !(fn.name== "runtime.NumGoroutine"))=true
theorem q9{M:List PV→Option PV}{g:Nat}:∀{sT:gJ},look sT g=some M→(g,M)∈sT
 |[],h=>by cases h
 |x::r,h=>by
  simp only[look]at h;cases e:Nat.beq g x.1 with
  |true=>rw[e]at h;simp only[cond,Option.some.injEq]at h;have:=Nat.eq_of_beq_eq_true e;subst this;subst h;exact List.mem_cons_self
  |false=>rw[e]at h;exact List.mem_cons_of_mem _ (q9 h)
theorem aC.nil(S:nr):aC S []:=by intro x hx;cases hx
variable{G:Nat→Option (List PV)}{M M':List PV→Option PV}
theorem qK.weaken{P:Program}{g:FuncId}(h:qK P G g M)(hM:∀ps r,M' ps=some r→M ps=some r):qK P G g M':=⟨h.1,fun ps r hr=>h.2 ps r (hM ps r hr)⟩
theorem fy.nil(S:nr):fy S []:=by intro x hx;cases hx
theorem vo.weaken{P:Program}{g:FuncId}(h:vo P G g M)(hM:∀ps r,M' ps=some r→M ps=some r):vo P G g M':=⟨h.1,fun fn t e h1 h2 h3 ps r hr=>h.2 fn t e h1 h2 h3 ps r (hM ps r hr)⟩
variable{S:nr}{fn:Func}
theorem q8.name(h:q8 S){g:Nat}(hf:S.P.funcs[g]?=some fn):(fn.name== "runtime.NumGoroutine")=false:=by have:=Array.all_eq_true_iff_forall_mem.1 h.names fn (Array.mem_of_getElem? hf);simpa using this
theorem Jp{S:nr}{sT lK:gJ}(hs:q8 S)(h:aC S sT)(ho:fy S lK):∀(n fid:Nat)(fn:Func)(yl:YL),gP (S.TL dM sT lK n fid fn yl)
 |n,fid,fn,yl=>by
  have hr:∀(R:Type)g Fv yl args f m(k:V→Fr→Mem→Option R)r,S.Gk dM sT lK n R g Fv yl args f m k=some r→FH S.P S.ax g yl args f m k r:=by
   intro R g Fv yl args f m k r hk;cases n with
   |zero=>simp[nr.Gk]at hk
   |succ n=>
    have hk:(match S.P.funcs[g]? with
     |some fn=>xJ (S.TL dM sT lK n Fv fn yl) args f m k
     |none=>none)=some r:=hk
    split at hk
    ·rename_i fn' hf;exact SR (Jp hs h ho n Fv fn' yl) hf (hs.name hf) hk
    ·cases hk
  refine⟨hs.mixed,fun _ _ body s r h=>⟨rounds,h⟩,fun g' M' MG=>h _ (q9 MG),fun g' M' MG=>ho _ (q9 MG),fun R g Fv args f m k r hk=>?_,hr⟩
  have hk:(match S.Gj g with
   |some h=>h R args f m k
   |none=>nr.Gk S dM sT lK n R g Fv vd args f m k)=some r:=hk
  split at hk
  ·rename_i h' hh;exact hs.Gj g h' hh R args f m k r hk
  ·obtain⟨fn',c,h1,h2,h3,h4⟩:=hr _ _ _ _ _ _ _ _ _ hk;exact⟨⟨fn',c,h1,h2,h3⟩,fun w0 μ φ ρ w xs hM hF hlen ib wA=>h4 w0 μ φ ρ w xs hM hF hlen ib wA (tZ _ _ _ _)⟩
variable{sT lK:gJ}
theorem Jq(hs:q8 S)(h:aC S sT)(ho:fy S lK)(n fid:Nat)(fn:Func):gP (S.WD dM sT lK n fid fn):=Jp hs h ho n fid fn vd
theorem aC.step(hs:q8 S)(h:aC S sT)(ho:fy S lK){g:Nat}(hf:S.P.funcs[g]?=some fn)(hb:fn.body.isSome=true)(he:∀ps r,M ps=some r→aS (S.env dM sT lK g fn) ps=some r):aC S ((g,M)::sT):=by
 intro x hx;rcases List.mem_cons.1 hx with rfl|hx
 ·obtain⟨c,hc⟩:=Option.isSome_iff_exists.1 hb;exact(Kb (Jq hs h ho 8 g fn) rfl (g:=g) hf (hs.name hf) hc).weaken he
 ·exact h x hx
theorem fy.step(hs:q8 S)(h:aC S sT)(ho:fy S lK){g:Nat}(hf:S.P.funcs[g]?=some fn)(hb:fn.body.isSome=true)(he:∀ps r,M ps=some r→jL (S.env dM sT lK g fn) ps=some r):fy S ((g,M)::lK):=by
 intro x hx;rcases List.mem_cons.1 hx with rfl|hx
 ·obtain⟨c,hc⟩:=Option.isSome_iff_exists.1 hb;exact(Kc (Jq hs h ho 8 g fn) rfl (g:=g) hf (hs.name hf) hc).weaken he
 ·exact ho x hx
end Go.Ab
