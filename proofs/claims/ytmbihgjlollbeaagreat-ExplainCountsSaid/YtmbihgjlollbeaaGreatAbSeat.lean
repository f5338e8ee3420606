import Derived.KernelRfl
import Derived.Test.YtmbihgjlollbeaaGreatAbFn
set_option linter.unusedVariables false
set_option linter.unusedSimpArgs false
namespace Go.Ab
structure sM where
 P:Program
 aG:Nat→Option (List PV)
 hint:Nat→Nat→List G4
 fnr:FuncId→Option FS:=fun _=>none
 Ns:FuncId→Option ((R:Type)→List V→Fr→Mem→(V→Fr→Mem→Option R)→Option R):=fun _=>none
 DJ:Nat→Bool:=fun _=>false
abbrev cw:=List (Nat×(List PV→Option PV))
def look:cw→Nat→Option (List PV→Option PV)
 |[],_=>none
 |x::r,g=>bif Nat.beq g x.1 then some x.2 else look r g
def rounds:Nat:=18446744073709551616
def bn:bB:=⟨fun body s=>cA body rounds s,fun n=>Nat.ble n 9223372036854775807,fun n h=>by have h1:=al3 h;have h2:IntKind.i64.max=9223372036854775807:=rfl;omega⟩
noncomputable def sM.Nt(S:sM)(L:bB)(pG jc:cw):Nat→(R:Type)→FuncId→Nat→YL→List V→Fr→Mem→(V→Fr→Mem→Option R)→Option R
 |0=>fun _ _ _ _ _ _ _ _=>none
 |n+1=>fun _ g MC yl args f m k=>match S.P.funcs[g]? with
  |some fn=>DN {P:=S.P,ctx:=look pG,aG:=S.aG,fid:=MC,fn,lp:=L,hint:=S.hint,u:=64,own:=look jc,inl:=fun R g MC args f m k=>match S.Ns g with
   |some h=>h R args f m k
   |none=>sM.Nt S L pG jc n R g MC BS args f m k,rng:=sM.Nt S L pG jc n,yl,fnr:=S.fnr,DJ:=S.DJ} args f m k
  |none=>none
noncomputable def sM.abS(S:sM)(L:bB)(pG jc:cw)(n fid:Nat)(fn:Func)(yl:YL):Env:=
 {P:=S.P,ctx:=look pG,aG:=S.aG,fid,fn,lp:=L,hint:=S.hint,u:=64,own:=look jc,inl:=fun R g MC args f m k=>match S.Ns g with
  |some h=>h R args f m k
  |none=>sM.Nt S L pG jc n R g MC BS args f m k,rng:=S.Nt L pG jc n,yl,fnr:=S.fnr,DJ:=S.DJ}
noncomputable def sM.aef(S:sM)(L:bB)(pG jc:cw)(n fid:Nat)(fn:Func):Env:=S.abS L pG jc n fid fn BS
noncomputable def sM.env(S:sM)(L:bB)(pG jc:cw)(fid:Nat)(fn:Func):Env:=S.aef L pG jc 8 fid fn
def ab(S:sM)(pG:cw):Prop:=∀x∈pG,vc S.P S.aG x.1 x.2
def nm(S:sM)(pG:cw):Prop:=∀x∈pG,B4 S.P S.aG x.1 x.2
structure mw(S:sM):Prop where
 mixed:S.P.follows .mixedOrders=true
 Ns:∀g h,S.Ns g=some h→∀(R:Type)args f m(k:V→Fr→Mem→Option R)r,h R args f m k=some r→IJ S.P S.aG g args f m k r
 names:(S.P.funcs.all fun fn=> !(fn.name== "runtime.NumGoroutine"))=true
theorem xm{M:List PV→Option PV}{g:Nat}:∀{pG:cw},look pG g=some M→(g,M)∈pG
 |[],h=>by cases h
 |x::r,h=>by
  simp only[look]at h;cases e:Nat.beq g x.1 with
  |true=>rw[e]at h;simp only[cond,cN]at h;have:=AI e;subst this;subst h;exact List.mem_cons_self
  |false=>rw[e]at h;exact akD _ (xm h)
theorem ab.nil(S:sM):ab S []:=by intro x hx;cases hx
variable{G:Nat→Option (List PV)}{M M':List PV→Option PV}
theorem vc.weaken{P:Program}{g:FuncId}(h:vc P G g M)(hM:∀ps r,M' ps=some r→M ps=some r):vc P G g M':=⟨h.1,fun ps r hr=>h.2 ps r (hM ps r hr)⟩
theorem nm.nil(S:sM):nm S []:=by intro x hx;cases hx
theorem B4.weaken{P:Program}{g:FuncId}(h:B4 P G g M)(hM:∀ps r,M' ps=some r→M ps=some r):B4 P G g M':=⟨h.1,fun fn t e h1 h2 h3 ps r hr=>h.2 fn t e h1 h2 h3 ps r (hM ps r hr)⟩
variable{g:Nat}{S:sM}{fn:Func}
theorem mw.name(h:mw S)(hf:S.P.funcs[g]?=some fn):(fn.name== "runtime.NumGoroutine")=false:=by have:=Array.all_eq_true_iff_forall_mem.1 h.names fn (alV hf);simpa using this
theorem Pw{S:sM}{pG jc:cw}(hs:mw S)(h:ab S pG)(ho:nm S jc):∀(n fid:Nat)(fn:Func)(yl:YL),ke (S.abS bn pG jc n fid fn yl)
 |n,fid,fn,yl=>by
  have hr:∀(R:Type)g MC yl args f m(k:V→Fr→Mem→Option R)r,S.Nt bn pG jc n R g MC yl args f m k=some r→MN S.P S.aG g yl args f m k r:=by
   intro R g MC yl args f m k r hk;cases n with
   |zero=>simp[sM.Nt]at hk
   |succ n=>
    have hk:(match S.P.funcs[g]? with
     |some fn=>DN (S.abS bn pG jc n MC fn yl) args f m k
     |none=>none)=some r:=hk
    split at hk
    ·rename_i fn' hf;exact abo (Pw hs h ho n MC fn' yl) hf (hs.name hf) hk
    ·cases hk
  refine⟨hs.mixed,fun _ _ body s r h=>⟨rounds,h⟩,fun g' M' T0=>h _ (xm T0),fun g' M' T0=>ho _ (xm T0),fun R g MC args f m k r hk=>?_,hr⟩
  have hk:(match S.Ns g with
   |some h=>h R args f m k
   |none=>sM.Nt S bn pG jc n R g MC BS args f m k)=some r:=hk
  split at hk
  ·rename_i h' hh;exact hs.Ns g h' hh R args f m k r hk
  ·obtain⟨fn',c,h1,h2,h3,h4⟩:=hr _ _ _ _ _ _ _ _ _ hk;exact⟨⟨fn',c,h1,h2,h3⟩,fun w0 μ φ ρ w xs hM hF hlen lC CN=>h4 w0 μ φ ρ w xs hM hF hlen lC CN (AA _ _ _ _)⟩
variable{pG jc:cw}
theorem Px(hs:mw S)(h:ab S pG)(ho:nm S jc)(n fid:Nat)(fn:Func):ke (S.aef bn pG jc n fid fn):=Pw hs h ho n fid fn BS
theorem ab.step(hs:mw S)(h:ab S pG)(ho:nm S jc)(hf:S.P.funcs[g]?=some fn)(hb:fn.body.isSome=true)(he:∀ps r,M ps=some r→ee (S.env bn pG jc g fn) ps=some r):ab S ((g,M)::pG):=by
 intro x hx;rcases aih.1 hx with rfl|hx
 ·obtain⟨c,hc⟩:=ajv.1 hb;exact(Q8 (Px hs h ho 8 g fn) rfl (g:=g) hf (hs.name hf) hc).weaken he
 ·exact h x hx
theorem nm.step(hs:mw S)(h:ab S pG)(ho:nm S jc)(hf:S.P.funcs[g]?=some fn)(hb:fn.body.isSome=true)(he:∀ps r,M ps=some r→IA (S.env bn pG jc g fn) ps=some r):nm S ((g,M)::jc):=by
 intro x hx;rcases aih.1 hx with rfl|hx
 ·obtain⟨c,hc⟩:=ajv.1 hb;exact(Q9 (Px hs h ho 8 g fn) rfl (g:=g) hf (hs.name hf) hc).weaken he
 ·exact ho x hx
theorem ab.go(h:ab S pG)(hs:mw S)(ho:nm S jc)(hf:S.P.funcs[g]?=some fn)(hb:fn.body.isSome=true)(he:∀ps r,M ps=some r→ee (S.env bn pG jc g fn) ps=some r):ab S ((g,M)::pG):=ab.step hs h ho hf hb he
theorem ab.s1(hs:mw S)(h:ab S pG)(ho:nm S jc)(hf:S.P.funcs[g]?=some fn)(F:bB→PV→Option PV)(hb:fn.body.isSome=true:=by kernel_rfl)(he:∀L a,ee (S.env L pG jc g fn) [a]=F L a:=by intros;kernel_rfl):ab S ((g,fun l=>match l with|[a]=>F bn a|_=>none)::pG):=h.go hs ho hf hb fun ps r hp=>by
 split at hp
 ·rw[he];exact hp
 ·cases hp
theorem ab.s2(hs:mw S)(h:ab S pG)(ho:nm S jc)(hf:S.P.funcs[g]?=some fn)(F:bB→PV→PV→Option PV)(hb:fn.body.isSome=true:=by kernel_rfl)(he:∀L a b,ee (S.env L pG jc g fn) [a,b]=F L a b:=by intros;kernel_rfl):ab S ((g,fun l=>match l with|[a,b]=>F bn a b|_=>none)::pG):=h.go hs ho hf hb fun ps r hp=>by
 split at hp
 ·rw[he];exact hp
 ·cases hp
theorem ab.s3(hs:mw S)(h:ab S pG)(ho:nm S jc)(hf:S.P.funcs[g]?=some fn)(F:bB→PV→PV→PV→Option PV)(hb:fn.body.isSome=true:=by kernel_rfl)(he:∀L a b c,ee (S.env L pG jc g fn) [a,b,c]=F L a b c:=by intros;kernel_rfl):ab S ((g,fun l=>match l with|[a,b,c]=>F bn a b c|_=>none)::pG):=h.go hs ho hf hb fun ps r hp=>by
 split at hp
 ·rw[he];exact hp
 ·cases hp
theorem ab.s4(hs:mw S)(h:ab S pG)(ho:nm S jc)(hf:S.P.funcs[g]?=some fn)(F:bB→PV→PV→PV→PV→Option PV)(hb:fn.body.isSome=true:=by kernel_rfl)(he:∀L a b c d,ee (S.env L pG jc g fn) [a,b,c,d]=F L a b c d:=by intros;kernel_rfl):ab S ((g,fun l=>match l with|[a,b,c,d]=>F bn a b c d|_=>none)::pG):=h.go hs ho hf hb fun ps r hp=>by
 split at hp
 ·rw[he];exact hp
 ·cases hp
theorem ab.s5(hs:mw S)(h:ab S pG)(ho:nm S jc)(hf:S.P.funcs[g]?=some fn)(F:bB→PV→PV→PV→PV→PV→Option PV)(hb:fn.body.isSome=true:=by kernel_rfl)(he:∀L a b c d e,ee (S.env L pG jc g fn) [a,b,c,d,e]=F L a b c d e:=by intros;kernel_rfl):ab S ((g,fun l=>match l with|[a,b,c,d,e]=>F bn a b c d e|_=>none)::pG):=h.go hs ho hf hb fun ps r hp=>by
 split at hp
 ·rw[he];exact hp
 ·cases hp
theorem ab.s6(hs:mw S)(h:ab S pG)(ho:nm S jc)(hf:S.P.funcs[g]?=some fn)(F:bB→PV→PV→PV→PV→PV→PV→Option PV)(hb:fn.body.isSome=true:=by kernel_rfl)(he:∀L a b c d e f,ee (S.env L pG jc g fn) [a,b,c,d,e,f]=F L a b c d e f:=by intros;kernel_rfl):ab S ((g,fun l=>match l with|[a,b,c,d,e,f]=>F bn a b c d e f|_=>none)::pG):=h.go hs ho hf hb fun ps r hp=>by
 split at hp
 ·rw[he];exact hp
 ·cases hp
end Go.Ab
