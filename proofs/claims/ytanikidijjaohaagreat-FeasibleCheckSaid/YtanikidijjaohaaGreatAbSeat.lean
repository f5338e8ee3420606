import Derived.Test.YtanikidijjaohaaGreatAbFn
set_option linter.unusedVariables false
set_option linter.unusedSimpArgs false
namespace Go.Ab
structure q7 where
 P:Program
 aH:Nat→Option (List PV)
 hint:Nat→Nat→List eW
 fnr:FuncId→Option FS:=fun _=>none
 LX:FuncId→Option ((R:Type)→List V→Fr→Mem→(V→Fr→Mem→Option R)→Option R):=fun _=>none
 zO:Nat→Bool:=fun _=>false
abbrev dv:=List (Nat×(List PV→Option PV))
def look:dv→Nat→Option (List PV→Option PV)
 |[],_=>none
 |x::r,g=>bif Nat.beq g x.1 then some x.2 else look r g
def rounds:Nat:=18446744073709551616
def bx:bd:=⟨fun body s=>cY body rounds s,fun n=>Nat.ble n 9223372036854775807,fun n h=>by have h1:=ajC h;have h2:IntKind.i64.max=9223372036854775807:=rfl;omega⟩
noncomputable def q7.LY(S:q7)(L:bd)(xp oE:dv):Nat→(R:Type)→FuncId→Nat→YL→List V→Fr→Mem→(V→Fr→Mem→Option R)→Option R
 |0=>fun _ _ _ _ _ _ _ _=>none
 |n+1=>fun _ g K1 yl args f m k=>match S.P.funcs[g]? with
  |some fn=>B1 {P:=S.P,ctx:=look xp,aH:=S.aH,fid:=K1,fn,lp:=L,hint:=S.hint,u:=64,own:=look oE,inl:=fun R g K1 args f m k=>match S.LX g with
   |some h=>h R args f m k
   |none=>q7.LY S L xp oE n R g K1 zN args f m k,YW:=q7.LY S L xp oE n,yl,fnr:=S.fnr,zO:=S.zO} args f m k
  |none=>none
noncomputable def q7.ZX(S:q7)(L:bd)(xp oE:dv)(n fid:Nat)(fn:Func)(yl:YL):Env:=
 {P:=S.P,ctx:=look xp,aH:=S.aH,fid,fn,lp:=L,hint:=S.hint,u:=64,own:=look oE,inl:=fun R g K1 args f m k=>match S.LX g with
  |some h=>h R args f m k
  |none=>q7.LY S L xp oE n R g K1 zN args f m k,YW:=S.LY L xp oE n,yl,fnr:=S.fnr,zO:=S.zO}
noncomputable def q7.abI(S:q7)(L:bd)(xp oE:dv)(n fid:Nat)(fn:Func):Env:=S.ZX L xp oE n fid fn zN
noncomputable def q7.env(S:q7)(L:bd)(xp oE:dv)(fid:Nat)(fn:Func):Env:=S.abI L xp oE 8 fid fn
def aa(S:q7)(xp:dv):Prop:=∀x∈xp,tr S.P S.aH x.1 x.2
def uo(S:q7)(xp:dv):Prop:=∀x∈xp,zY S.P S.aH x.1 x.2
structure vg(S:q7):Prop where
 mixed:S.P.follows .mixedOrders=true
 LX:∀g h,S.LX g=some h→∀(R:Type)args f m(k:V→Fr→Mem→Option R)r,h R args f m k=some r→GQ S.P S.aH g args f m k r
 names:(S.P.funcs.all fun fn=> !(fn.name== "runtime.NumGoroutine"))=true
theorem vh{M:List PV→Option PV}{g:Nat}:∀{xp:dv},look xp g=some M→(g,M)∈xp
 |[],h=>by cases h
 |x::r,h=>by
  simp only[look]at h;cases e:Nat.beq g x.1 with
  |true=>rw[e]at h;simp only[cond,AI]at h;have:=IT e;subst this;subst h;exact List.mem_cons_self
  |false=>rw[e]at h;exact aiW _ (vh h)
theorem aa.nil(S:q7):aa S []:=by intro x hx;cases hx
variable{G:Nat→Option (List PV)}{M M':List PV→Option PV}
theorem tr.weaken{P:Program}{g:FuncId}(h:tr P G g M)(hM:∀ps r,M' ps=some r→M ps=some r):tr P G g M':=⟨h.1,fun ps r hr=>h.2 ps r (hM ps r hr)⟩
theorem uo.nil(S:q7):uo S []:=by intro x hx;cases hx
theorem zY.weaken{P:Program}{g:FuncId}(h:zY P G g M)(hM:∀ps r,M' ps=some r→M ps=some r):zY P G g M':=⟨h.1,fun fn t e h1 h2 h3 ps r hr=>h.2 fn t e h1 h2 h3 ps r (hM ps r hr)⟩
variable{S:q7}{fn:Func}
theorem vg.name(h:vg S){g:Nat}(hf:S.P.funcs[g]?=some fn):(fn.name== "runtime.NumGoroutine")=false:=by have:=Array.all_eq_true_iff_forall_mem.1 h.names fn (aiL hf);simpa using this
theorem PK{S:q7}{xp oE:dv}(hs:vg S)(h:aa S xp)(ho:uo S oE):∀(n fid:Nat)(fn:Func)(yl:YL),jJ (S.ZX bx xp oE n fid fn yl)
 |n,fid,fn,yl=>by
  have hr:∀(R:Type)g K1 yl args f m(k:V→Fr→Mem→Option R)r,S.LY bx xp oE n R g K1 yl args f m k=some r→Lg S.P S.aH g yl args f m k r:=by
   intro R g K1 yl args f m k r hk;cases n with
   |zero=>simp[q7.LY]at hk
   |succ n=>
    have hk:(match S.P.funcs[g]? with
     |some fn=>B1 (S.ZX bx xp oE n K1 fn yl) args f m k
     |none=>none)=some r:=hk
    split at hk
    ·rename_i fn' hf;exact Y2 (PK hs h ho n K1 fn' yl) hf (hs.name hf) hk
    ·cases hk
  refine⟨hs.mixed,fun _ _ body s r h=>⟨rounds,h⟩,fun g' M' SR=>h _ (vh SR),fun g' M' SR=>ho _ (vh SR),fun R g K1 args f m k r hk=>?_,hr⟩
  have hk:(match S.LX g with
   |some h=>h R args f m k
   |none=>q7.LY S bx xp oE n R g K1 zN args f m k)=some r:=hk
  split at hk
  ·rename_i h' hh;exact hs.LX g h' hh R args f m k r hk
  ·obtain⟨fn',c,h1,h2,h3,h4⟩:=hr _ _ _ _ _ _ _ _ _ hk;exact⟨⟨fn',c,h1,h2,h3⟩,fun w0 μ φ ρ w xs hM hF hlen jI A4=>h4 w0 μ φ ρ w xs hM hF hlen jI A4 (yT _ _ _ _)⟩
variable{xp oE:dv}
theorem PL(hs:vg S)(h:aa S xp)(ho:uo S oE)(n fid:Nat)(fn:Func):jJ (S.abI bx xp oE n fid fn):=PK hs h ho n fid fn zN
theorem aa.step(hs:vg S)(h:aa S xp)(ho:uo S oE){g:Nat}(hf:S.P.funcs[g]?=some fn)(hb:fn.body.isSome=true)(he:∀ps r,M ps=some r→aq (S.env bx xp oE g fn) ps=some r):aa S ((g,M)::xp):=by
 intro x hx;rcases afh.1 hx with rfl|hx
 ·obtain⟨c,hc⟩:=agT.1 hb;exact(Qz (PL hs h ho 8 g fn) rfl (g:=g) hf (hs.name hf) hc).weaken he
 ·exact h x hx
theorem uo.step(hs:vg S)(h:aa S xp)(ho:uo S oE){g:Nat}(hf:S.P.funcs[g]?=some fn)(hb:fn.body.isSome=true)(he:∀ps r,M ps=some r→GG (S.env bx xp oE g fn) ps=some r):uo S ((g,M)::oE):=by
 intro x hx;rcases afh.1 hx with rfl|hx
 ·obtain⟨c,hc⟩:=agT.1 hb;exact(QA (PL hs h ho 8 g fn) rfl (g:=g) hf (hs.name hf) hc).weaken he
 ·exact ho x hx
end Go.Ab
