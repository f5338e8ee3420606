import Derived.Test.YtcmhmlnkhmefbaaGreatAbFn
set_option linter.unusedVariables false
namespace Go.Ab
structure qj where
 P:Program
 aH:Nat→Option (List PV)
 hint:Nat→Nat→List eO
 fnr:FuncId→Option FS:=fun _=>none
 Kr:FuncId→Option ((R:Type)→List V→Fr→Mem→(V→Fr→Mem→Option R)→Option R):=fun _=>none
 zy:Nat→Bool:=fun _=>false
abbrev eW:=List (Nat×(List PV→Option PV))
def look:eW→Nat→Option (List PV→Option PV)
 |[],_=>none
 |x::r,g=>bif Nat.beq g x.1 then some x.2 else look r g
def rounds:Nat:=18446744073709551616
def bI:bk:=⟨fun body s=>bW body rounds s,fun n=>Nat.ble n 9223372036854775807,fun n h=>by have h1:=Nat.le_of_ble_eq_true h;have h2:IntKind.i64.max=9223372036854775807:=rfl;omega⟩
noncomputable def qj.Ks(S:qj)(L:bk)(wg nG:eW):Nat→(R:Type)→FuncId→Nat→YL→List V→Fr→Mem→(V→Fr→Mem→Option R)→Option R
 |0=>fun _ _ _ _ _ _ _ _=>none
 |n+1=>fun _ g JB yl args f m k=>match S.P.funcs[g]? with
  |some fn=>A8 {P:=S.P,ctx:=look wg,aH:=S.aH,fid:=JB,fn,lp:=L,hint:=S.hint,u:=64,own:=look nG,inl:=fun R g JB args f m k=>match S.Kr g with
   |some h=>h R args f m k
   |none=>qj.Ks S L wg nG n R g JB yF args f m k,Yu:=qj.Ks S L wg nG n,yl,fnr:=S.fnr,zy:=S.zy} args f m k
  |none=>none
noncomputable def qj.Zr(S:qj)(L:bk)(wg nG:eW)(n fid:Nat)(fn:Func)(yl:YL):Env:=
 {P:=S.P,ctx:=look wg,aH:=S.aH,fid,fn,lp:=L,hint:=S.hint,u:=64,own:=look nG,inl:=fun R g JB args f m k=>match S.Kr g with
  |some h=>h R args f m k
  |none=>qj.Ks S L wg nG n R g JB yF args f m k,Yu:=S.Ks L wg nG n,yl,fnr:=S.fnr,zy:=S.zy}
noncomputable def qj.aa5(S:qj)(L:bk)(wg nG:eW)(n fid:Nat)(fn:Func):Env:=S.Zr L wg nG n fid fn yF
noncomputable def qj.env(S:qj)(L:bk)(wg nG:eW)(fid:Nat)(fn:Func):Env:=S.aa5 L wg nG 8 fid fn
def an(S:qj)(wg:eW):Prop:=∀x∈wg,tI S.P S.aH x.1 x.2
def fv(S:qj)(wg:eW):Prop:=∀x∈wg,yP S.P S.aH x.1 x.2
structure uc(S:qj):Prop where
 mixed:S.P.follows .mixedOrders=true
 Kr:∀g h,S.Kr g=some h→∀(R:Type)args f m(k:V→Fr→Mem→Option R)r,h R args f m k=some r→Fz S.P S.aH g args f m k r
 names:(S.P.funcs.all fun fn=> !(fn.name== "runtime.NumGoroutine"))=true
theorem ud{M:List PV→Option PV}{g:Nat}:∀{wg:eW},look wg g=some M→(g,M)∈wg
 |[],h=>by cases h
 |x::r,h=>by
  simp only[look]at h;cases e:Nat.beq g x.1 with
  |true=>rw[e]at h;simp only[cond,Option.some.injEq]at h;have:=Nat.eq_of_beq_eq_true e;subst this;subst h;exact List.mem_cons_self
  |false=>rw[e]at h;exact List.mem_cons_of_mem _ (ud h)
theorem an.nil(S:qj):an S []:=by intro x hx;cases hx
variable{G:Nat→Option (List PV)}{M M':List PV→Option PV}
theorem tI.weaken{P:Program}{g:FuncId}(h:tI P G g M)(hM:∀ps r,M' ps=some r→M ps=some r):tI P G g M':=⟨h.1,fun ps r hr=>h.2 ps r (hM ps r hr)⟩
theorem fv.nil(S:qj):fv S []:=by intro x hx;cases hx
theorem yP.weaken{P:Program}{g:FuncId}(h:yP P G g M)(hM:∀ps r,M' ps=some r→M ps=some r):yP P G g M':=⟨h.1,fun fn t e h1 h2 h3 ps r hr=>h.2 fn t e h1 h2 h3 ps r (hM ps r hr)⟩
variable{S:qj}{fn:Func}
theorem uc.name(h:uc S){g:Nat}(hf:S.P.funcs[g]?=some fn):(fn.name== "runtime.NumGoroutine")=false:=by have:=Array.all_eq_true_iff_forall_mem.1 h.names fn (Array.mem_of_getElem? hf);simpa using this
theorem Ot{S:qj}{wg nG:eW}(hs:uc S)(h:an S wg)(ho:fv S nG):∀(n fid:Nat)(fn:Func)(yl:YL),iQ (S.Zr bI wg nG n fid fn yl)
 |n,fid,fn,yl=>by
  have hr:∀(R:Type)g JB yl args f m(k:V→Fr→Mem→Option R)r,S.Ks bI wg nG n R g JB yl args f m k=some r→JO S.P S.aH g yl args f m k r:=by
   intro R g JB yl args f m k r hk;cases n with
   |zero=>simp[qj.Ks]at hk
   |succ n=>
    have hk:(match S.P.funcs[g]? with
     |some fn=>A8 (S.Zr bI wg nG n JB fn yl) args f m k
     |none=>none)=some r:=hk
    split at hk
    ·rename_i fn' hf;exact YA (Ot hs h ho n JB fn' yl) hf (hs.name hf) hk
    ·cases hk
  refine⟨hs.mixed,fun _ _ body s r h=>⟨rounds,h⟩,fun g' M' R0=>h _ (ud R0),fun g' M' R0=>ho _ (ud R0),fun R g JB args f m k r hk=>?_,hr⟩
  have hk:(match S.Kr g with
   |some h=>h R args f m k
   |none=>qj.Ks S bI wg nG n R g JB yF args f m k)=some r:=hk
  split at hk
  ·rename_i h' hh;exact hs.Kr g h' hh R args f m k r hk
  ·obtain⟨fn',c,h1,h2,h3,h4⟩:=hr _ _ _ _ _ _ _ _ _ hk;exact⟨⟨fn',c,h1,h2,h3⟩,fun w0 μ φ ρ w xs hM hF hlen jf zH=>h4 w0 μ φ ρ w xs hM hF hlen jf zH (xp _ _ _ _)⟩
variable{wg nG:eW}
theorem Ou(hs:uc S)(h:an S wg)(ho:fv S nG)(n fid:Nat)(fn:Func):iQ (S.aa5 bI wg nG n fid fn):=Ot hs h ho n fid fn yF
theorem an.step(hs:uc S)(h:an S wg)(ho:fv S nG){g:Nat}(hf:S.P.funcs[g]?=some fn)(hb:fn.body.isSome=true)(he:∀ps r,M ps=some r→aL (S.env bI wg nG g fn) ps=some r):an S ((g,M)::wg):=by
 intro x hx;rcases List.mem_cons.1 hx with rfl|hx
 ·obtain⟨c,hc⟩:=Option.isSome_iff_exists.1 hb;exact(Pm (Ou hs h ho 8 g fn) rfl (g:=g) hf (hs.name hf) hc).weaken he
 ·exact h x hx
theorem fv.step(hs:uc S)(h:an S wg)(ho:fv S nG){g:Nat}(hf:S.P.funcs[g]?=some fn)(hb:fn.body.isSome=true)(he:∀ps r,M ps=some r→j3 (S.env bI wg nG g fn) ps=some r):fv S ((g,M)::nG):=by
 intro x hx;rcases List.mem_cons.1 hx with rfl|hx
 ·obtain⟨c,hc⟩:=Option.isSome_iff_exists.1 hb;exact(Pn (Ou hs h ho 8 g fn) rfl (g:=g) hf (hs.name hf) hc).weaken he
 ·exact ho x hx
end Go.Ab
