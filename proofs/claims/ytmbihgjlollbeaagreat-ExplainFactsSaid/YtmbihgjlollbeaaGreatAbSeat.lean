import Derived.KernelRfl
import Derived.Test.YtmbihgjlollbeaaGreatAbFn
set_option linter.all false
namespace Go.Ab
structure yo where
 P:Program
 aW:Nat→Option (List PV)
 hint:Nat→Nat→List NH
 fnr:FuncId→Option FS:=fun _=>none
 Uw:FuncId→Option ((R:Type)→List V→Fr→Mem→(V→Fr→Mem→Option R)→Option R):=fun _=>none
 J4:Nat→Bool:=fun _=>false
abbrev bE:=List (Nat×(List PV→Option PV))
def look:bE→Nat→Option (List PV→Option PV)
 |[],_=>none
 |x::r,g=>bif Nat.beq g x.1 then some x.2 else look r g
def rounds:Nat:=18446744073709551616
def ba:bk:=⟨fun body s=>cE body rounds s,fun n=>Nat.ble n 9223372036854775807,fun n h=>by have h1:=au2 h;have h2:IntKind.i64.max=9223372036854775807:=rfl;omega⟩
noncomputable def yo.Ux(S:yo)(L:bk)(tH kh:bE):Nat→(R:Type)→FuncId→Nat→YL→List V→Fr→Mem→(V→Fr→Mem→Option R)→Option R
 |0=>fun _ _ _ _ _ _ _ _=>none
 |n+1=>fun _ g TE yl args f m k=>match S.P.funcs[g]? with
  |some fn=>J8 {P:=S.P,ctx:=look tH,aW:=S.aW,fid:=TE,fn,lp:=L,hint:=S.hint,u:=64,own:=look kh,inl:=fun R g TE args f m k=>match S.Uw g with
   |some h=>h R args f m k
   |none=>yo.Ux S L tH kh n R g TE HS args f m k,rng:=yo.Ux S L tH kh n,yl,fnr:=S.fnr,J4:=S.J4} args f m k
  |none=>none
noncomputable def yo.ajh(S:yo)(L:bk)(tH kh:bE)(n fid:Nat)(fn:Func)(yl:YL):Env:=
 {P:=S.P,ctx:=look tH,aW:=S.aW,fid,fn,lp:=L,hint:=S.hint,u:=64,own:=look kh,inl:=fun R g TE args f m k=>match S.Uw g with
  |some h=>h R args f m k
  |none=>yo.Ux S L tH kh n R g TE HS args f m k,rng:=S.Ux L tH kh n,yl,fnr:=S.fnr,J4:=S.J4}
noncomputable def yo.am1(S:yo)(L:bk)(tH kh:bE)(n fid:Nat)(fn:Func):Env:=S.ajh L tH kh n fid fn HS
noncomputable def yo.env(S:yo)(L:bk)(tH kh:bE)(fid:Nat)(fn:Func):Env:=S.am1 L tH kh 8 fid fn
def aa(S:yo)(tH:bE):Prop:=∀x∈tH,AX S.P S.aW x.1 x.2
def pS(S:yo)(tH:bE):Prop:=∀x∈tH,H4 S.P S.aW x.1 x.2
structure oL(S:yo):Prop where
 mixed:S.P.follows .mixedOrders=true
 Uw:∀g h,S.Uw g=some h→∀(R:Type)args f m(k:V→Fr→Mem→Option R)r,h R args f m k=some r→Pt S.P S.aW g args f m k r
 names:(S.P.funcs.all fun fn=> !(fn.name== "runtime.NumGoroutine"))=true
theorem CW{M:List PV→Option PV}{g:Nat}:∀{tH:bE},look tH g=some M→(g,M)∈tH
 |[],h=>by cases h
 |x::r,h=>by
  simp only[look]at h;cases e:Nat.beq g x.1 with
  |true=>rw[e]at h;simp only[cond,cO]at h;have:=OF e;subst this;subst h;exact List.mem_cons_self
  |false=>rw[e]at h;exact atE _ (CW h)
theorem aa.nil(S:yo):aa S []:=by intro x hx;cases hx
variable{G:Nat→Option (List PV)}{M M':List PV→Option PV}
theorem AX.weaken{P:Program}{g:FuncId}(h:AX P G g M)(hM:∀ps r,M' ps=some r→M ps=some r):AX P G g M':=⟨h.1,fun ps r hr=>h.2 ps r (hM ps r hr)⟩
theorem pS.nil(S:yo):pS S []:=by intro x hx;cases hx
theorem H4.weaken{P:Program}{g:FuncId}(h:H4 P G g M)(hM:∀ps r,M' ps=some r→M ps=some r):H4 P G g M':=⟨h.1,fun fn t e h1 h2 h3 ps r hr=>h.2 fn t e h1 h2 h3 ps r (hM ps r hr)⟩
variable{g:Nat}{S:yo}{fn:Func}
theorem oL.name(h:oL S)(hf:S.P.funcs[g]?=some fn):(fn.name== "runtime.NumGoroutine")=false:=by have:=Array.all_eq_true_iff_forall_mem.1 h.names fn (ava hf);simpa using this
theorem WE{S:yo}{tH kh:bE}(hs:oL S)(h:aa S tH)(ho:pS S kh):∀(n fid:Nat)(fn:Func)(yl:YL),ma (S.ajh ba tH kh n fid fn yl)
 |n,fid,fn,yl=>by
  have hr:∀(R:Type)g TE yl args f m(k:V→Fr→Mem→Option R)r,S.Ux ba tH kh n R g TE yl args f m k=some r→TR S.P S.aW g yl args f m k r:=by
   intro R g TE yl args f m k r hk;cases n with
   |zero=>simp[yo.Ux]at hk
   |succ n=>
    have hk:(match S.P.funcs[g]? with
     |some fn=>J8 (S.ajh ba tH kh n TE fn yl) args f m k
     |none=>none)=some r:=hk
    split at hk
    ·rename_i fn' hf;exact aiN (WE hs h ho n TE fn' yl) hf (hs.name hf) hk
    ·cases hk
  refine⟨hs.mixed,fun _ _ body s r h=>⟨rounds,h⟩,fun g' M' hM'=>h _ (CW hM'),fun g' M' hM'=>ho _ (CW hM'),fun R g TE args f m k r hk=>?_,hr⟩
  have hk:(match S.Uw g with
   |some h=>h R args f m k
   |none=>yo.Ux S ba tH kh n R g TE HS args f m k)=some r:=hk
  split at hk
  ·rename_i h' hh;exact hs.Uw g h' hh R args f m k r hk
  ·obtain⟨fn',c,h1,h2,h3,h4⟩:=hr _ _ _ _ _ _ _ _ _ hk;exact⟨⟨fn',c,h1,h2,h3⟩,fun w0 μ φ ρ w xs hM hF hlen nB Ja=>h4 w0 μ φ ρ w xs hM hF hlen nB Ja (GL _ _ _ _)⟩
variable{tH kh:bE}
theorem WG(hs:oL S)(h:aa S tH)(ho:pS S kh)(n fid:Nat)(fn:Func):ma (S.am1 ba tH kh n fid fn):=WE hs h ho n fid fn HS
theorem aa.step(hs:oL S)(h:aa S tH)(ho:pS S kh)(hf:S.P.funcs[g]?=some fn)(hb:fn.body.isSome=true)(he:∀ps r,M ps=some r→eP (S.env ba tH kh g fn) ps=some r):aa S ((g,M)::tH):=by
 intro x hx;rcases asg.1 hx with rfl|hx
 ·obtain⟨c,hc⟩:=asv.1 hb;exact(ZC (WG hs h ho 8 g fn) rfl (g:=g) hf (hs.name hf) hc).weaken he
 ·exact h x hx
theorem pS.step(hs:oL S)(h:aa S tH)(ho:pS S kh)(hf:S.P.funcs[g]?=some fn)(hb:fn.body.isSome=true)(he:∀ps r,M ps=some r→Pk (S.env ba tH kh g fn) ps=some r):pS S ((g,M)::kh):=by
 intro x hx;rcases asg.1 hx with rfl|hx
 ·obtain⟨c,hc⟩:=asv.1 hb;exact(ZD (WG hs h ho 8 g fn) rfl (g:=g) hf (hs.name hf) hc).weaken he
 ·exact ho x hx
theorem aa.go(h:aa S tH)(hs:oL S)(ho:pS S kh)(hf:S.P.funcs[g]?=some fn)(hb:fn.body.isSome=true)(he:∀ps r,M ps=some r→eP (S.env ba tH kh g fn) ps=some r):aa S ((g,M)::tH):=aa.step hs h ho hf hb he
theorem aa.s1(hs:oL S)(h:aa S tH)(ho:pS S kh)(hf:S.P.funcs[g]?=some fn)(F:bk→PV→Option PV)(hb:fn.body.isSome=true:=by kernel_rfl)(he:∀L a,eP (S.env L tH kh g fn) [a]=F L a:=by intros;kernel_rfl):aa S ((g,fun l=>match l with|[a]=>F ba a|_=>none)::tH):=h.go hs ho hf hb fun ps r hp=>by
 split at hp
 ·rw[he];exact hp
 ·cases hp
theorem aa.s2(hs:oL S)(h:aa S tH)(ho:pS S kh)(hf:S.P.funcs[g]?=some fn)(F:bk→PV→PV→Option PV)(hb:fn.body.isSome=true:=by kernel_rfl)(he:∀L a b,eP (S.env L tH kh g fn) [a,b]=F L a b:=by intros;kernel_rfl):aa S ((g,fun l=>match l with|[a,b]=>F ba a b|_=>none)::tH):=h.go hs ho hf hb fun ps r hp=>by
 split at hp
 ·rw[he];exact hp
 ·cases hp
theorem aa.s3(hs:oL S)(h:aa S tH)(ho:pS S kh)(hf:S.P.funcs[g]?=some fn)(F:bk→PV→PV→PV→Option PV)(hb:fn.body.isSome=true:=by kernel_rfl)(he:∀L a b c,eP (S.env L tH kh g fn) [a,b,c]=F L a b c:=by intros;kernel_rfl):aa S ((g,fun l=>match l with|[a,b,c]=>F ba a b c|_=>none)::tH):=h.go hs ho hf hb fun ps r hp=>by
 split at hp
 ·rw[he];exact hp
 ·cases hp
theorem aa.s4(hs:oL S)(h:aa S tH)(ho:pS S kh)(hf:S.P.funcs[g]?=some fn)(F:bk→PV→PV→PV→PV→Option PV)(hb:fn.body.isSome=true:=by kernel_rfl)(he:∀L a b c d,eP (S.env L tH kh g fn) [a,b,c,d]=F L a b c d:=by intros;kernel_rfl):aa S ((g,fun l=>match l with|[a,b,c,d]=>F ba a b c d|_=>none)::tH):=h.go hs ho hf hb fun ps r hp=>by
 split at hp
 ·rw[he];exact hp
 ·cases hp
theorem aa.s5(hs:oL S)(h:aa S tH)(ho:pS S kh)(hf:S.P.funcs[g]?=some fn)(F:bk→PV→PV→PV→PV→PV→Option PV)(hb:fn.body.isSome=true:=by kernel_rfl)(he:∀L a b c d e,eP (S.env L tH kh g fn) [a,b,c,d,e]=F L a b c d e:=by intros;kernel_rfl):aa S ((g,fun l=>match l with|[a,b,c,d,e]=>F ba a b c d e|_=>none)::tH):=h.go hs ho hf hb fun ps r hp=>by
 split at hp
 ·rw[he];exact hp
 ·cases hp
theorem aa.s6(hs:oL S)(h:aa S tH)(ho:pS S kh)(hf:S.P.funcs[g]?=some fn)(F:bk→PV→PV→PV→PV→PV→PV→Option PV)(hb:fn.body.isSome=true:=by kernel_rfl)(he:∀L a b c d e f,eP (S.env L tH kh g fn) [a,b,c,d,e,f]=F L a b c d e f:=by intros;kernel_rfl):aa S ((g,fun l=>match l with|[a,b,c,d,e,f]=>F ba a b c d e f|_=>none)::tH):=h.go hs ho hf hb fun ps r hp=>by
 split at hp
 ·rw[he];exact hp
 ·cases hp
end Go.Ab
