import Derived.Test.YtcmhmlnkhmefbaaGreatAbFn
set_option linter.unusedVariables false
namespace Go.Ab
structure qd where
 P:Program
 aH:Nat→Option (List PV)
 hint:Nat→Nat→List eY
 fnr:FuncId→Option FS:=fun _=>none
 Kc:FuncId→Option ((R:Type)→List V→Fr→Mem→(V→Fr→Mem→Option R)→Option R):=fun _=>none
 zF:Nat→Bool:=fun _=>false
abbrev eZ:=List (Nat×(List PV→Option PV))
def look:eZ→Nat→Option (List PV→Option PV)
 |[],_=>none
 |x::r,g=>bif Nat.beq g x.1 then some x.2 else look r g
def rounds:Nat:=18446744073709551616
def bK:bk:=⟨fun body s=>cj body rounds s,fun n=>Nat.ble n 9223372036854775807,fun n h=>by have h1:=Nat.le_of_ble_eq_true h;have h2:IntKind.i64.max=9223372036854775807:=rfl;omega⟩
noncomputable def qd.Ke(S:qd)(L:bk)(we nB:eZ):Nat→(R:Type)→FuncId→Nat→YL→List V→Fr→Mem→(V→Fr→Mem→Option R)→Option R
 |0=>fun _ _ _ _ _ _ _ _=>none
 |n+1=>fun _ g Jn yl args f m k=>match S.P.funcs[g]? with
  |some fn=>A2 {P:=S.P,ctx:=look we,aH:=S.aH,fid:=Jn,fn,lp:=L,hint:=S.hint,u:=64,own:=look nB,inl:=fun R g Jn args f m k=>match S.Kc g with
   |some h=>h R args f m k
   |none=>qd.Ke S L we nB n R g Jn yD args f m k,Yb:=qd.Ke S L we nB n,yl,fnr:=S.fnr,zF:=S.zF} args f m k
  |none=>none
noncomputable def qd.Y8(S:qd)(L:bk)(we nB:eZ)(n fid:Nat)(fn:Func)(yl:YL):Env:=
 {P:=S.P,ctx:=look we,aH:=S.aH,fid,fn,lp:=L,hint:=S.hint,u:=64,own:=look nB,inl:=fun R g Jn args f m k=>match S.Kc g with
  |some h=>h R args f m k
  |none=>qd.Ke S L we nB n R g Jn yD args f m k,Yb:=S.Ke L we nB n,yl,fnr:=S.fnr,zF:=S.zF}
noncomputable def qd.aaW(S:qd)(L:bk)(we nB:eZ)(n fid:Nat)(fn:Func):Env:=S.Y8 L we nB n fid fn yD
noncomputable def qd.env(S:qd)(L:bk)(we nB:eZ)(fid:Nat)(fn:Func):Env:=S.aaW L we nB 8 fid fn
def ao(S:qd)(we:eZ):Prop:=∀x∈we,tG S.P S.aH x.1 x.2
def fx(S:qd)(we:eZ):Prop:=∀x∈we,yN S.P S.aH x.1 x.2
structure ua(S:qd):Prop where
 mixed:S.P.follows .mixedOrders=true
 Kc:∀g h,S.Kc g=some h→∀(R:Type)args f m(k:V→Fr→Mem→Option R)r,h R args f m k=some r→Fj S.P S.aH g args f m k r
 names:(S.P.funcs.all fun fn=> !(fn.name== "runtime.NumGoroutine"))=true
theorem ub{M:List PV→Option PV}{g:Nat}:∀{we:eZ},look we g=some M→(g,M)∈we
 |[],h=>by cases h
 |x::r,h=>by
  simp only[look]at h;cases e:Nat.beq g x.1 with
  |true=>rw[e]at h;simp only[cond,Option.some.injEq]at h;have:=Nat.eq_of_beq_eq_true e;subst this;subst h;exact List.mem_cons_self
  |false=>rw[e]at h;exact List.mem_cons_of_mem _ (ub h)
theorem ao.nil(S:qd):ao S []:=by intro x hx;cases hx
variable{G:Nat→Option (List PV)}{M M':List PV→Option PV}
theorem tG.weaken{P:Program}{g:FuncId}(h:tG P G g M)(hM:∀ps r,M' ps=some r→M ps=some r):tG P G g M':=⟨h.1,fun ps r hr=>h.2 ps r (hM ps r hr)⟩
theorem fx.nil(S:qd):fx S []:=by intro x hx;cases hx
theorem yN.weaken{P:Program}{g:FuncId}(h:yN P G g M)(hM:∀ps r,M' ps=some r→M ps=some r):yN P G g M':=⟨h.1,fun fn t e h1 h2 h3 ps r hr=>h.2 fn t e h1 h2 h3 ps r (hM ps r hr)⟩
variable{S:qd}{fn:Func}
theorem ua.name(h:ua S){g:Nat}(hf:S.P.funcs[g]?=some fn):(fn.name== "runtime.NumGoroutine")=false:=by have:=Array.all_eq_true_iff_forall_mem.1 h.names fn (Array.mem_of_getElem? hf);simpa using this
theorem N7{S:qd}{we nB:eZ}(hs:ua S)(h:ao S we)(ho:fx S nB):∀(n fid:Nat)(fn:Func)(yl:YL),iP (S.Y8 bK we nB n fid fn yl)
 |n,fid,fn,yl=>by
  have hr:∀(R:Type)g Jn yl args f m(k:V→Fr→Mem→Option R)r,S.Ke bK we nB n R g Jn yl args f m k=some r→JB S.P S.aH g yl args f m k r:=by
   intro R g Jn yl args f m k r hk;cases n with
   |zero=>simp[qd.Ke]at hk
   |succ n=>
    have hk:(match S.P.funcs[g]? with
     |some fn=>A2 (S.Y8 bK we nB n Jn fn yl) args f m k
     |none=>none)=some r:=hk
    split at hk
    ·rename_i fn' hf;exact Yh (N7 hs h ho n Jn fn' yl) hf (hs.name hf) hk
    ·cases hk
  refine⟨hs.mixed,fun _ _ body s r h=>⟨rounds,h⟩,fun g' M' RF=>h _ (ub RF),fun g' M' RF=>ho _ (ub RF),fun R g Jn args f m k r hk=>?_,hr⟩
  have hk:(match S.Kc g with
   |some h=>h R args f m k
   |none=>qd.Ke S bK we nB n R g Jn yD args f m k)=some r:=hk
  split at hk
  ·rename_i h' hh;exact hs.Kc g h' hh R args f m k r hk
  ·obtain⟨fn',c,h1,h2,h3,h4⟩:=hr _ _ _ _ _ _ _ _ _ hk;exact⟨⟨fn',c,h1,h2,h3⟩,fun w0 μ φ ρ w xs hM hF hlen jf zN=>h4 w0 μ φ ρ w xs hM hF hlen jf zN (xp _ _ _ _)⟩
variable{we nB:eZ}
theorem N8(hs:ua S)(h:ao S we)(ho:fx S nB)(n fid:Nat)(fn:Func):iP (S.aaW bK we nB n fid fn):=N7 hs h ho n fid fn yD
theorem ao.step(hs:ua S)(h:ao S we)(ho:fx S nB){g:Nat}(hf:S.P.funcs[g]?=some fn)(hb:fn.body.isSome=true)(he:∀ps r,M ps=some r→aM (S.env bK we nB g fn) ps=some r):ao S ((g,M)::we):=by
 intro x hx;rcases List.mem_cons.1 hx with rfl|hx
 ·obtain⟨c,hc⟩:=Option.isSome_iff_exists.1 hb;exact(O1 (N8 hs h ho 8 g fn) rfl (g:=g) hf (hs.name hf) hc).weaken he
 ·exact h x hx
theorem fx.step(hs:ua S)(h:ao S we)(ho:fx S nB){g:Nat}(hf:S.P.funcs[g]?=some fn)(hb:fn.body.isSome=true)(he:∀ps r,M ps=some r→jZ (S.env bK we nB g fn) ps=some r):fx S ((g,M)::nB):=by
 intro x hx;rcases List.mem_cons.1 hx with rfl|hx
 ·obtain⟨c,hc⟩:=Option.isSome_iff_exists.1 hb;exact(O2 (N8 hs h ho 8 g fn) rfl (g:=g) hf (hs.name hf) hc).weaken he
 ·exact ho x hx
end Go.Ab
