import Derived.Test.YtmbihgjlollbeaaGreatAbFn
set_option linter.unusedVariables false
set_option linter.unusedSimpArgs false
namespace Go.Ab
structure qZ where
 P:Program
 aF:Nat→Option (List PV)
 hint:Nat→Nat→List dM
 fnr:FuncId→Option FS:=fun _=>none
 Nk:FuncId→Option ((R:Type)→List V→Fr→Mem→(V→Fr→Mem→Option R)→Option R):=fun _=>none
 Ay:Nat→Bool:=fun _=>false
abbrev bX:=List (Nat×(List PV→Option PV))
def look:bX→Nat→Option (List PV→Option PV)
 |[],_=>none
 |x::r,g=>bif Nat.beq g x.1 then some x.2 else look r g
def rounds:Nat:=18446744073709551616
def bl:aL:=⟨fun body s=>cZ body rounds s,fun n=>Nat.ble n 9223372036854775807,fun n h=>by have h1:=alh h;have h2:IntKind.i64.max=9223372036854775807:=rfl;omega⟩
noncomputable def qZ.Nl(S:qZ)(L:aL)(xE ot:bX):Nat→(R:Type)→FuncId→Nat→YL→List V→Fr→Mem→(V→Fr→Mem→Option R)→Option R
 |0=>fun _ _ _ _ _ _ _ _=>none
 |n+1=>fun _ g Mr yl args f m k=>match S.P.funcs[g]? with
  |some fn=>CH {P:=S.P,ctx:=look xE,aF:=S.aF,fid:=Mr,fn,lp:=L,hint:=S.hint,u:=64,own:=look ot,inl:=fun R g Mr args f m k=>match S.Nk g with
   |some h=>h R args f m k
   |none=>qZ.Nl S L xE ot n R g Mr Ax args f m k,ZX:=qZ.Nl S L xE ot n,yl,fnr:=S.fnr,Ay:=S.Ay} args f m k
  |none=>none
noncomputable def qZ.aaA(S:qZ)(L:aL)(xE ot:bX)(n fid:Nat)(fn:Func)(yl:YL):Env:=
 {P:=S.P,ctx:=look xE,aF:=S.aF,fid,fn,lp:=L,hint:=S.hint,u:=64,own:=look ot,inl:=fun R g Mr args f m k=>match S.Nk g with
  |some h=>h R args f m k
  |none=>qZ.Nl S L xE ot n R g Mr Ax args f m k,ZX:=S.Nl L xE ot n,yl,fnr:=S.fnr,Ay:=S.Ay}
noncomputable def qZ.acY(S:qZ)(L:aL)(xE ot:bX)(n fid:Nat)(fn:Func):Env:=S.aaA L xE ot n fid fn Ax
noncomputable def qZ.env(S:qZ)(L:aL)(xE ot:bX)(fid:Nat)(fn:Func):Env:=S.acY L xE ot 8 fid fn
def aa(S:qZ)(xE:bX):Prop:=∀x∈xE,tz S.P S.aF x.1 x.2
def ux(S:qZ)(xE:bX):Prop:=∀x∈xE,AK S.P S.aF x.1 x.2
structure vO(S:qZ):Prop where
 mixed:S.P.follows .mixedOrders=true
 Nk:∀g h,S.Nk g=some h→∀(R:Type)args f m(k:V→Fr→Mem→Option R)r,h R args f m k=some r→Hf S.P S.aF g args f m k r
 names:(S.P.funcs.all fun fn=> !(fn.name== "runtime.NumGoroutine"))=true
theorem vP{M:List PV→Option PV}{g:Nat}:∀{xE:bX},look xE g=some M→(g,M)∈xE
 |[],h=>by cases h
 |x::r,h=>by
  simp only[look]at h;cases e:Nat.beq g x.1 with
  |true=>rw[e]at h;simp only[cond,cN]at h;have:=BY e;subst this;subst h;exact List.mem_cons_self
  |false=>rw[e]at h;exact akF _ (vP h)
theorem aa.nil(S:qZ):aa S []:=by intro x hx;cases hx
variable{G:Nat→Option (List PV)}{M M':List PV→Option PV}
theorem tz.weaken{P:Program}{g:FuncId}(h:tz P G g M)(hM:∀ps r,M' ps=some r→M ps=some r):tz P G g M':=⟨h.1,fun ps r hr=>h.2 ps r (hM ps r hr)⟩
theorem ux.nil(S:qZ):ux S []:=by intro x hx;cases hx
theorem AK.weaken{P:Program}{g:FuncId}(h:AK P G g M)(hM:∀ps r,M' ps=some r→M ps=some r):AK P G g M':=⟨h.1,fun fn t e h1 h2 h3 ps r hr=>h.2 fn t e h1 h2 h3 ps r (hM ps r hr)⟩
variable{S:qZ}{fn:Func}
theorem vO.name(h:vO S){g:Nat}(hf:S.P.funcs[g]?=some fn):(fn.name== "runtime.NumGoroutine")=false:=by have:=Array.all_eq_true_iff_forall_mem.1 h.names fn (akw hf);simpa using this
theorem QU{S:qZ}{xE ot:bX}(hs:vO S)(h:aa S xE)(ho:ux S ot):∀(n fid:Nat)(fn:Func)(yl:YL),je (S.aaA bl xE ot n fid fn yl)
 |n,fid,fn,yl=>by
  have hr:∀(R:Type)g Mr yl args f m(k:V→Fr→Mem→Option R)r,S.Nl bl xE ot n R g Mr yl args f m k=some r→MG S.P S.aF g yl args f m k r:=by
   intro R g Mr yl args f m k r hk;cases n with
   |zero=>simp[qZ.Nl]at hk
   |succ n=>
    have hk:(match S.P.funcs[g]? with
     |some fn=>CH (S.aaA bl xE ot n Mr fn yl) args f m k
     |none=>none)=some r:=hk
    split at hk
    ·rename_i fn' hf;exact Z3 (QU hs h ho n Mr fn' yl) hf (hs.name hf) hk
    ·cases hk
  refine⟨hs.mixed,fun _ _ body s r h=>⟨rounds,h⟩,fun g' M' Ui=>h _ (vP Ui),fun g' M' Ui=>ho _ (vP Ui),fun R g Mr args f m k r hk=>?_,hr⟩
  have hk:(match S.Nk g with
   |some h=>h R args f m k
   |none=>qZ.Nl S bl xE ot n R g Mr Ax args f m k)=some r:=hk
  split at hk
  ·rename_i h' hh;exact hs.Nk g h' hh R args f m k r hk
  ·obtain⟨fn',c,h1,h2,h3,h4⟩:=hr _ _ _ _ _ _ _ _ _ hk;exact⟨⟨fn',c,h1,h2,h3⟩,fun w0 μ φ ρ w xs hM hF hlen jR BG=>h4 w0 μ φ ρ w xs hM hF hlen jR BG (zg _ _ _ _)⟩
variable{xE ot:bX}
theorem QV(hs:vO S)(h:aa S xE)(ho:ux S ot)(n fid:Nat)(fn:Func):je (S.acY bl xE ot n fid fn):=QU hs h ho n fid fn Ax
theorem aa.step(hs:vO S)(h:aa S xE)(ho:ux S ot){g:Nat}(hf:S.P.funcs[g]?=some fn)(hb:fn.body.isSome=true)(he:∀ps r,M ps=some r→ab (S.env bl xE ot g fn) ps=some r):aa S ((g,M)::xE):=by
 intro x hx;rcases abX.1 hx with rfl|hx
 ·obtain⟨c,hc⟩:=aiO.1 hb;exact(RL (QV hs h ho 8 g fn) rfl (g:=g) hf (hs.name hf) hc).weaken he
 ·exact h x hx
theorem ux.step(hs:vO S)(h:aa S xE)(ho:ux S ot){g:Nat}(hf:S.P.funcs[g]?=some fn)(hb:fn.body.isSome=true)(he:∀ps r,M ps=some r→G6 (S.env bl xE ot g fn) ps=some r):ux S ((g,M)::ot):=by
 intro x hx;rcases abX.1 hx with rfl|hx
 ·obtain⟨c,hc⟩:=aiO.1 hb;exact(RM (QV hs h ho 8 g fn) rfl (g:=g) hf (hs.name hf) hc).weaken he
 ·exact ho x hx
end Go.Ab
