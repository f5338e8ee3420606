import Derived.KernelRfl
import Derived.Test.YtmbihgjlollbeaaGreatAbFn
set_option linter.all false
namespace Go.Ab
structure tu where
 P:Program
 aG:Nat→Option (List PV)
 hint:Nat→Nat→List Hs
 fnr:FuncId→Option FS:=fun _=>none
 N6:FuncId→Option ((R:Type)→List V→Fr→Mem→(V→Fr→Mem→Option R)→Option R):=fun _=>none
 B9:Nat→Bool:=fun _=>false
abbrev cA:=List (Nat×(List PV→Option PV))
def look:cA→Nat→Option (List PV→Option PV)
 |[],_=>none
 |x::r,g=>bif Nat.beq g x.1 then some x.2 else look r g
def rounds:Nat:=18446744073709551616
def bk:bD:=⟨fun body s=>cg body rounds s,fun n=>Nat.ble n 9223372036854775807,fun n h=>by have h1:=amP h;have h2:IntKind.i64.max=9223372036854775807:=rfl;omega⟩
noncomputable def tu.N7(S:tu)(L:bD)(pU jh:cA):Nat→(R:Type)→FuncId→Nat→YL→List V→Fr→Mem→(V→Fr→Mem→Option R)→Option R
 |0=>fun _ _ _ _ _ _ _ _=>none
 |n+1=>fun _ g Ng yl args f m k=>match S.P.funcs[g]? with
  |some fn=>D9 {P:=S.P,ctx:=look pU,aG:=S.aG,fid:=Ng,fn,lp:=L,hint:=S.hint,u:=64,own:=look jh,inl:=fun R g Ng args f m k=>match S.N6 g with
   |some h=>h R args f m k
   |none=>tu.N7 S L pU jh n R g Ng B8 args f m k,rng:=tu.N7 S L pU jh n,yl,fnr:=S.fnr,B9:=S.B9} args f m k
  |none=>none
noncomputable def tu.ade(S:tu)(L:bD)(pU jh:cA)(n fid:Nat)(fn:Func)(yl:YL):Env:=
 {P:=S.P,ctx:=look pU,aG:=S.aG,fid,fn,lp:=L,hint:=S.hint,u:=64,own:=look jh,inl:=fun R g Ng args f m k=>match S.N6 g with
  |some h=>h R args f m k
  |none=>tu.N7 S L pU jh n R g Ng B8 args f m k,rng:=S.N7 L pU jh n,yl,fnr:=S.fnr,B9:=S.B9}
noncomputable def tu.afp(S:tu)(L:bD)(pU jh:cA)(n fid:Nat)(fn:Func):Env:=S.ade L pU jh n fid fn B8
noncomputable def tu.env(S:tu)(L:bD)(pU jh:cA)(fid:Nat)(fn:Func):Env:=S.afp L pU jh 8 fid fn
def aa(S:tu)(pU:cA):Prop:=∀x∈pU,vA S.P S.aG x.1 x.2
def nE(S:tu)(pU:cA):Prop:=∀x∈pU,Ck S.P S.aG x.1 x.2
structure mK(S:tu):Prop where
 mixed:S.P.follows .mixedOrders=true
 N6:∀g h,S.N6 g=some h→∀(R:Type)args f m(k:V→Fr→Mem→Option R)r,h R args f m k=some r→Ji S.P S.aG g args f m k r
 names:(S.P.funcs.all fun fn=> !(fn.name== "runtime.NumGoroutine"))=true
theorem xV{M:List PV→Option PV}{g:Nat}:∀{pU:cA},look pU g=some M→(g,M)∈pU
 |[],h=>by cases h
 |x::r,h=>by
  simp only[look]at h;cases e:Nat.beq g x.1 with
  |true=>rw[e]at h;simp only[cond,cO]at h;have:=IN e;subst this;subst h;exact List.mem_cons_self
  |false=>rw[e]at h;exact aly _ (xV h)
theorem aa.nil(S:tu):aa S []:=by intro x hx;cases hx
variable{G:Nat→Option (List PV)}{M M':List PV→Option PV}
theorem vA.weaken{P:Program}{g:FuncId}(h:vA P G g M)(hM:∀ps r,M' ps=some r→M ps=some r):vA P G g M':=⟨h.1,fun ps r hr=>h.2 ps r (hM ps r hr)⟩
theorem nE.nil(S:tu):nE S []:=by intro x hx;cases hx
theorem Ck.weaken{P:Program}{g:FuncId}(h:Ck P G g M)(hM:∀ps r,M' ps=some r→M ps=some r):Ck P G g M':=⟨h.1,fun fn t e h1 h2 h3 ps r hr=>h.2 fn t e h1 h2 h3 ps r (hM ps r hr)⟩
variable{g:Nat}{S:tu}{fn:Func}
theorem mK.name(h:mK S)(hf:S.P.funcs[g]?=some fn):(fn.name== "runtime.NumGoroutine")=false:=by have:=Array.all_eq_true_iff_forall_mem.1 h.names fn (amU hf);simpa using this
theorem Qq{S:tu}{pU jh:cA}(hs:mK S)(h:aa S pU)(ho:nE S jh):∀(n fid:Nat)(fn:Func)(yl:YL),ku (S.ade bk pU jh n fid fn yl)
 |n,fid,fn,yl=>by
  have hr:∀(R:Type)g Ng yl args f m(k:V→Fr→Mem→Option R)r,S.N7 bk pU jh n R g Ng yl args f m k=some r→Nu S.P S.aG g yl args f m k r:=by
   intro R g Ng yl args f m k r hk;cases n with
   |zero=>simp[tu.N7]at hk
   |succ n=>
    have hk:(match S.P.funcs[g]? with
     |some fn=>D9 (S.ade bk pU jh n Ng fn yl) args f m k
     |none=>none)=some r:=hk
    split at hk
    ·rename_i fn' hf;exact acL (Qq hs h ho n Ng fn' yl) hf (hs.name hf) hk
    ·cases hk
  refine⟨hs.mixed,fun _ _ body s r h=>⟨rounds,h⟩,fun g' M' U8=>h _ (xV U8),fun g' M' U8=>ho _ (xV U8),fun R g Ng args f m k r hk=>?_,hr⟩
  have hk:(match S.N6 g with
   |some h=>h R args f m k
   |none=>tu.N7 S bk pU jh n R g Ng B8 args f m k)=some r:=hk
  split at hk
  ·rename_i h' hh;exact hs.N6 g h' hh R args f m k r hk
  ·obtain⟨fn',c,h1,h2,h3,h4⟩:=hr _ _ _ _ _ _ _ _ _ hk;exact⟨⟨fn',c,h1,h2,h3⟩,fun w0 μ φ ρ w xs hM hF hlen lL C4=>h4 w0 μ φ ρ w xs hM hF hlen lL C4 (A6 _ _ _ _)⟩
variable{pU jh:cA}
theorem Qr(hs:mK S)(h:aa S pU)(ho:nE S jh)(n fid:Nat)(fn:Func):ku (S.afp bk pU jh n fid fn):=Qq hs h ho n fid fn B8
theorem aa.step(hs:mK S)(h:aa S pU)(ho:nE S jh)(hf:S.P.funcs[g]?=some fn)(hb:fn.body.isSome=true)(he:∀ps r,M ps=some r→ei (S.env bk pU jh g fn) ps=some r):aa S ((g,M)::pU):=by
 intro x hx;rcases ake.1 hx with rfl|hx
 ·obtain⟨c,hc⟩:=akq.1 hb;exact(Sd (Qr hs h ho 8 g fn) rfl (g:=g) hf (hs.name hf) hc).weaken he
 ·exact h x hx
theorem nE.step(hs:mK S)(h:aa S pU)(ho:nE S jh)(hf:S.P.funcs[g]?=some fn)(hb:fn.body.isSome=true)(he:∀ps r,M ps=some r→I9 (S.env bk pU jh g fn) ps=some r):nE S ((g,M)::jh):=by
 intro x hx;rcases ake.1 hx with rfl|hx
 ·obtain⟨c,hc⟩:=akq.1 hb;exact(Se (Qr hs h ho 8 g fn) rfl (g:=g) hf (hs.name hf) hc).weaken he
 ·exact ho x hx
theorem aa.go(h:aa S pU)(hs:mK S)(ho:nE S jh)(hf:S.P.funcs[g]?=some fn)(hb:fn.body.isSome=true)(he:∀ps r,M ps=some r→ei (S.env bk pU jh g fn) ps=some r):aa S ((g,M)::pU):=aa.step hs h ho hf hb he
theorem aa.s1(hs:mK S)(h:aa S pU)(ho:nE S jh)(hf:S.P.funcs[g]?=some fn)(F:bD→PV→Option PV)(hb:fn.body.isSome=true:=by kernel_rfl)(he:∀L a,ei (S.env L pU jh g fn) [a]=F L a:=by intros;kernel_rfl):aa S ((g,fun l=>match l with|[a]=>F bk a|_=>none)::pU):=h.go hs ho hf hb fun ps r hp=>by
 split at hp
 ·rw[he];exact hp
 ·cases hp
theorem aa.s2(hs:mK S)(h:aa S pU)(ho:nE S jh)(hf:S.P.funcs[g]?=some fn)(F:bD→PV→PV→Option PV)(hb:fn.body.isSome=true:=by kernel_rfl)(he:∀L a b,ei (S.env L pU jh g fn) [a,b]=F L a b:=by intros;kernel_rfl):aa S ((g,fun l=>match l with|[a,b]=>F bk a b|_=>none)::pU):=h.go hs ho hf hb fun ps r hp=>by
 split at hp
 ·rw[he];exact hp
 ·cases hp
theorem aa.s3(hs:mK S)(h:aa S pU)(ho:nE S jh)(hf:S.P.funcs[g]?=some fn)(F:bD→PV→PV→PV→Option PV)(hb:fn.body.isSome=true:=by kernel_rfl)(he:∀L a b c,ei (S.env L pU jh g fn) [a,b,c]=F L a b c:=by intros;kernel_rfl):aa S ((g,fun l=>match l with|[a,b,c]=>F bk a b c|_=>none)::pU):=h.go hs ho hf hb fun ps r hp=>by
 split at hp
 ·rw[he];exact hp
 ·cases hp
theorem aa.s4(hs:mK S)(h:aa S pU)(ho:nE S jh)(hf:S.P.funcs[g]?=some fn)(F:bD→PV→PV→PV→PV→Option PV)(hb:fn.body.isSome=true:=by kernel_rfl)(he:∀L a b c d,ei (S.env L pU jh g fn) [a,b,c,d]=F L a b c d:=by intros;kernel_rfl):aa S ((g,fun l=>match l with|[a,b,c,d]=>F bk a b c d|_=>none)::pU):=h.go hs ho hf hb fun ps r hp=>by
 split at hp
 ·rw[he];exact hp
 ·cases hp
theorem aa.s5(hs:mK S)(h:aa S pU)(ho:nE S jh)(hf:S.P.funcs[g]?=some fn)(F:bD→PV→PV→PV→PV→PV→Option PV)(hb:fn.body.isSome=true:=by kernel_rfl)(he:∀L a b c d e,ei (S.env L pU jh g fn) [a,b,c,d,e]=F L a b c d e:=by intros;kernel_rfl):aa S ((g,fun l=>match l with|[a,b,c,d,e]=>F bk a b c d e|_=>none)::pU):=h.go hs ho hf hb fun ps r hp=>by
 split at hp
 ·rw[he];exact hp
 ·cases hp
theorem aa.s6(hs:mK S)(h:aa S pU)(ho:nE S jh)(hf:S.P.funcs[g]?=some fn)(F:bD→PV→PV→PV→PV→PV→PV→Option PV)(hb:fn.body.isSome=true:=by kernel_rfl)(he:∀L a b c d e f,ei (S.env L pU jh g fn) [a,b,c,d,e,f]=F L a b c d e f:=by intros;kernel_rfl):aa S ((g,fun l=>match l with|[a,b,c,d,e,f]=>F bk a b c d e f|_=>none)::pU):=h.go hs ho hf hb fun ps r hp=>by
 split at hp
 ·rw[he];exact hp
 ·cases hp
end Go.Ab
