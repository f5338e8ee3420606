import Derived.Test.YtanikidijjaohaaGreatAbFn
set_option linter.unusedVariables false
set_option linter.unusedSimpArgs false
namespace Go.Ab
structure tc where
 P:Program
 aM:Nat→Option (List PV)
 hint:Nat→Nat→List eA
 fnr:FuncId→Option FS:=fun _=>none
 O4:FuncId→Option ((R:Type)→List V→Fr→Mem→(V→Fr→Mem→Option R)→Option R):=fun _=>none
 BU:Nat→Bool:=fun _=>false
abbrev dn:=List (Nat×(List PV→Option PV))
def look:dn→Nat→Option (List PV→Option PV)
 |[],_=>none
 |x::r,g=>bif Nat.beq g x.1 then some x.2 else look r g
def rounds:Nat:=18446744073709551616
def bn:aX:=⟨fun body s=>cR body rounds s,fun n=>Nat.ble n 9223372036854775807,fun n h=>by have h1:=amM h;have h2:IntKind.i64.max=9223372036854775807:=rfl;omega⟩
noncomputable def tc.O5(S:tc)(L:aX)(zx qk:dn):Nat→(R:Type)→FuncId→Nat→YL→List V→Fr→Mem→(V→Fr→Mem→Option R)→Option R
 |0=>fun _ _ _ _ _ _ _ _=>none
 |n+1=>fun _ g Oa yl args f m k=>match S.P.funcs[g]? with
  |some fn=>Eg {P:=S.P,ctx:=look zx,aM:=S.aM,fid:=Oa,fn,lp:=L,hint:=S.hint,u:=64,own:=look qk,inl:=fun R g Oa args f m k=>match S.O4 g with
   |some h=>h R args f m k
   |none=>tc.O5 S L zx qk n R g Oa BT args f m k,rng:=tc.O5 S L zx qk n,yl,fnr:=S.fnr,BU:=S.BU} args f m k
  |none=>none
noncomputable def tc.acj(S:tc)(L:aX)(zx qk:dn)(n fid:Nat)(fn:Func)(yl:YL):Env:=
 {P:=S.P,ctx:=look zx,aM:=S.aM,fid,fn,lp:=L,hint:=S.hint,u:=64,own:=look qk,inl:=fun R g Oa args f m k=>match S.O4 g with
  |some h=>h R args f m k
  |none=>tc.O5 S L zx qk n R g Oa BT args f m k,rng:=S.O5 L zx qk n,yl,fnr:=S.fnr,BU:=S.BU}
noncomputable def tc.ael(S:tc)(L:aX)(zx qk:dn)(n fid:Nat)(fn:Func):Env:=S.acj L zx qk n fid fn BT
noncomputable def tc.env(S:tc)(L:aX)(zx qk:dn)(fid:Nat)(fn:Func):Env:=S.ael L zx qk 8 fid fn
def aa(S:tc)(zx:dn):Prop:=∀x∈zx,vp S.P S.aM x.1 x.2
def tq(S:tc)(zx:dn):Prop:=∀x∈zx,B5 S.P S.aM x.1 x.2
structure xv(S:tc):Prop where
 mixed:S.P.follows .mixedOrders=true
 O4:∀g h,S.O4 g=some h→∀(R:Type)args f m(k:V→Fr→Mem→Option R)r,h R args f m k=some r→Jr S.P S.aM g args f m k r
 names:(S.P.funcs.all fun fn=> !(fn.name== "runtime.NumGoroutine"))=true
theorem xw{M:List PV→Option PV}{g:Nat}:∀{zx:dn},look zx g=some M→(g,M)∈zx
 |[],h=>by cases h
 |x::r,h=>by
  simp only[look]at h;cases e:Nat.beq g x.1 with
  |true=>rw[e]at h;simp only[cond,AT]at h;have:=No e;subst this;subst h;exact List.mem_cons_self
  |false=>rw[e]at h;exact alZ _ (xw h)
theorem aa.nil(S:tc):aa S []:=by intro x hx;cases hx
variable{G:Nat→Option (List PV)}{M M':List PV→Option PV}
theorem vp.weaken{P:Program}{g:FuncId}(h:vp P G g M)(hM:∀ps r,M' ps=some r→M ps=some r):vp P G g M':=⟨h.1,fun ps r hr=>h.2 ps r (hM ps r hr)⟩
theorem tq.nil(S:tc):tq S []:=by intro x hx;cases hx
theorem B5.weaken{P:Program}{g:FuncId}(h:B5 P G g M)(hM:∀ps r,M' ps=some r→M ps=some r):B5 P G g M':=⟨h.1,fun fn t e h1 h2 h3 ps r hr=>h.2 fn t e h1 h2 h3 ps r (hM ps r hr)⟩
variable{S:tc}{fn:Func}
theorem xv.name(h:xv S){g:Nat}(hf:S.P.funcs[g]?=some fn):(fn.name== "runtime.NumGoroutine")=false:=by have:=Array.all_eq_true_iff_forall_mem.1 h.names fn (alP hf);simpa using this
theorem SQ{S:tc}{zx qk:dn}(hs:xv S)(h:aa S zx)(ho:tq S qk):∀(n fid:Nat)(fn:Func)(yl:YL),kv (S.acj bn zx qk n fid fn yl)
 |n,fid,fn,yl=>by
  have hr:∀(R:Type)g Oa yl args f m(k:V→Fr→Mem→Option R)r,S.O5 bn zx qk n R g Oa yl args f m k=some r→On S.P S.aM g yl args f m k r:=by
   intro R g Oa yl args f m k r hk;cases n with
   |zero=>simp[tc.O5]at hk
   |succ n=>
    have hk:(match S.P.funcs[g]? with
     |some fn=>Eg (S.acj bn zx qk n Oa fn yl) args f m k
     |none=>none)=some r:=hk
    split at hk
    ·rename_i fn' hf;exact abN (SQ hs h ho n Oa fn' yl) hf (hs.name hf) hk
    ·cases hk
  refine⟨hs.mixed,fun _ _ body s r h=>⟨rounds,h⟩,fun g' M' Wo=>h _ (xw Wo),fun g' M' Wo=>ho _ (xw Wo),fun R g Oa args f m k r hk=>?_,hr⟩
  have hk:(match S.O4 g with
   |some h=>h R args f m k
   |none=>tc.O5 S bn zx qk n R g Oa BT args f m k)=some r:=hk
  split at hk
  ·rename_i h' hh;exact hs.O4 g h' hh R args f m k r hk
  ·obtain⟨fn',c,h1,h2,h3,h4⟩:=hr _ _ _ _ _ _ _ _ _ hk;exact⟨⟨fn',c,h1,h2,h3⟩,fun w0 μ φ ρ w xs hM hF hlen ku Db=>h4 w0 μ φ ρ w xs hM hF hlen ku Db (AV _ _ _ _)⟩
variable{zx qk:dn}
theorem SR(hs:xv S)(h:aa S zx)(ho:tq S qk)(n fid:Nat)(fn:Func):kv (S.ael bn zx qk n fid fn):=SQ hs h ho n fid fn BT
theorem aa.step(hs:xv S)(h:aa S zx)(ho:tq S qk){g:Nat}(hf:S.P.funcs[g]?=some fn)(hb:fn.body.isSome=true)(he:∀ps r,M ps=some r→al (S.env bn zx qk g fn) ps=some r):aa S ((g,M)::zx):=by
 intro x hx;rcases ah4.1 hx with rfl|hx
 ·obtain⟨c,hc⟩:=ajR.1 hb;exact(TP (SR hs h ho 8 g fn) rfl (g:=g) hf (hs.name hf) hc).weaken he
 ·exact h x hx
theorem tq.step(hs:xv S)(h:aa S zx)(ho:tq S qk){g:Nat}(hf:S.P.funcs[g]?=some fn)(hb:fn.body.isSome=true)(he:∀ps r,M ps=some r→Eh (S.env bn zx qk g fn) ps=some r):tq S ((g,M)::qk):=by
 intro x hx;rcases ah4.1 hx with rfl|hx
 ·obtain⟨c,hc⟩:=ajR.1 hb;exact(TQ (SR hs h ho 8 g fn) rfl (g:=g) hf (hs.name hf) hc).weaken he
 ·exact ho x hx
end Go.Ab
