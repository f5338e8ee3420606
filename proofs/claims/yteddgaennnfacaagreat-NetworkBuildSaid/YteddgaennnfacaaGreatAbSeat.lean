import Derived.KernelRfl
import Derived.Test.YteddgaennnfacaaGreatAbFn
set_option linter.all false
namespace Go.Ab
structure vw where
 P:Program
 aM:Nat→Option (List PV)
 hint:Nat→Nat→List Kj
 fnr:FuncId→Option FS:=fun _=>none
 QG:FuncId→Option ((R:Type)→List V→Fr→Mem→(V→Fr→Mem→Option R)→Option R):=fun _=>none
 EW:Nat→Bool:=fun _=>false
abbrev bU:=List (Nat×(List PV→Option PV))
def look:bU→Nat→Option (List PV→Option PV)
 |[],_=>none
 |x::r,g=>bif Nat.beq g x.1 then some x.2 else look r g
def rounds:Nat:=18446744073709551616
def aX:bj:=⟨fun body s=>dQ body rounds s,fun n=>Nat.ble n 9223372036854775807,fun n h=>by have h1:=aoc h;have h2:IntKind.i64.max=9223372036854775807:=rfl;omega⟩
noncomputable def vw.QH(S:vw)(L:bj)(rF jl:bU):Nat→(R:Type)→FuncId→Nat→YL→List V→Fr→Mem→(V→Fr→Mem→Option R)→Option R
 |0=>fun _ _ _ _ _ _ _ _=>none
 |n+1=>fun _ g PS yl args f m k=>match S.P.funcs[g]? with
  |some fn=>Hb {P:=S.P,ctx:=look rF,aM:=S.aM,fid:=PS,fn,lp:=L,hint:=S.hint,u:=64,own:=look jl,inl:=fun R g PS args f m k=>match S.QG g with
   |some h=>h R args f m k
   |none=>vw.QH S L rF jl n R g PS EV args f m k,rng:=vw.QH S L rF jl n,yl,fnr:=S.fnr,EW:=S.EW} args f m k
  |none=>none
noncomputable def vw.ad8(S:vw)(L:bj)(rF jl:bU)(n fid:Nat)(fn:Func)(yl:YL):Env:=
 {P:=S.P,ctx:=look rF,aM:=S.aM,fid,fn,lp:=L,hint:=S.hint,u:=64,own:=look jl,inl:=fun R g PS args f m k=>match S.QG g with
  |some h=>h R args f m k
  |none=>vw.QH S L rF jl n R g PS EV args f m k,rng:=S.QH L rF jl n,yl,fnr:=S.fnr,EW:=S.EW}
noncomputable def vw.agB(S:vw)(L:bj)(rF jl:bU)(n fid:Nat)(fn:Func):Env:=S.ad8 L rF jl n fid fn EV
noncomputable def vw.env(S:vw)(L:bj)(rF jl:bU)(fid:Nat)(fn:Func):Env:=S.agB L rF jl 8 fid fn
def aa(S:vw)(rF:bU):Prop:=∀x∈rF,Ad S.P S.aM x.1 x.2
def fx(S:vw)(rF:bU):Prop:=∀x∈rF,E7 S.P S.aM x.1 x.2
structure mK(S:vw):Prop where
 mixed:S.P.follows .mixedOrders=true
 QG:∀g h,S.QG g=some h→∀(R:Type)args f m(k:V→Fr→Mem→Option R)r,h R args f m k=some r→L2 S.P S.aM g args f m k r
 names:(S.P.funcs.all fun fn=> !(fn.name== "runtime.NumGoroutine"))=true
theorem Ay{M:List PV→Option PV}{g:Nat}:∀{rF:bU},look rF g=some M→(g,M)∈rF
 |[],h=>by cases h
 |x::r,h=>by
  simp only[look]at h;cases e:Nat.beq g x.1 with
  |true=>rw[e]at h;simp only[cond,By]at h;have:=acA e;subst this;subst h;exact List.mem_cons_self
  |false=>rw[e]at h;exact anH _ (Ay h)
theorem aa.nil(S:vw):aa S []:=by intro x hx;cases hx
variable{G:Nat→Option (List PV)}{M M':List PV→Option PV}
theorem Ad.weaken{P:Program}{g:FuncId}(h:Ad P G g M)(hM:∀ps r,M' ps=some r→M ps=some r):Ad P G g M':=⟨h.1,fun ps r hr=>h.2 ps r (hM ps r hr)⟩
theorem fx.nil(S:vw):fx S []:=by intro x hx;cases hx
theorem E7.weaken{P:Program}{g:FuncId}(h:E7 P G g M)(hM:∀ps r,M' ps=some r→M ps=some r):E7 P G g M':=⟨h.1,fun fn t e h1 h2 h3 ps r hr=>h.2 fn t e h1 h2 h3 ps r (hM ps r hr)⟩
variable{g:Nat}{S:vw}{fn:Func}
theorem mK.name(h:mK S)(hf:S.P.funcs[g]?=some fn):(fn.name== "runtime.NumGoroutine")=false:=by have:=Array.all_eq_true_iff_forall_mem.1 h.names fn (aoe hf);simpa using this
theorem SL{S:vw}{rF jl:bU}(hs:mK S)(h:aa S rF)(ho:fx S jl):∀(n fid:Nat)(fn:Func)(yl:YL),ku (S.ad8 aX rF jl n fid fn yl)
 |n,fid,fn,yl=>by
  have hr:∀(R:Type)g PS yl args f m(k:V→Fr→Mem→Option R)r,S.QH aX rF jl n R g PS yl args f m k=some r→P7 S.P S.aM g yl args f m k r:=by
   intro R g PS yl args f m k r hk;cases n with
   |zero=>simp[vw.QH]at hk
   |succ n=>
    have hk:(match S.P.funcs[g]? with
     |some fn=>Hb (S.ad8 aX rF jl n PS fn yl) args f m k
     |none=>none)=some r:=hk
    split at hk
    ·rename_i fn' hf;exact adF (SL hs h ho n PS fn' yl) hf (hs.name hf) hk
    ·cases hk
  refine⟨hs.mixed,fun _ _ body s r h=>⟨rounds,h⟩,fun g' M' Xm=>h _ (Ay Xm),fun g' M' Xm=>ho _ (Ay Xm),fun R g PS args f m k r hk=>?_,hr⟩
  have hk:(match S.QG g with
   |some h=>h R args f m k
   |none=>vw.QH S aX rF jl n R g PS EV args f m k)=some r:=hk
  split at hk
  ·rename_i h' hh;exact hs.QG g h' hh R args f m k r hk
  ·obtain⟨fn',c,h1,h2,h3,h4⟩:=hr _ _ _ _ _ _ _ _ _ hk;exact⟨⟨fn',c,h1,h2,h3⟩,fun w0 μ φ ρ w xs hM hF hlen gL Gc=>h4 w0 μ φ ρ w xs hM hF hlen gL Gc (DT _ _ _ _)⟩
variable{rF jl:bU}
theorem SM(hs:mK S)(h:aa S rF)(ho:fx S jl)(n fid:Nat)(fn:Func):ku (S.agB aX rF jl n fid fn):=SL hs h ho n fid fn EV
theorem aa.step(hs:mK S)(h:aa S rF)(ho:fx S jl)(hf:S.P.funcs[g]?=some fn)(hb:fn.body.isSome=true)(he:∀ps r,M ps=some r→fm (S.env aX rF jl g fn) ps=some r):aa S ((g,M)::rF):=by
 intro x hx;rcases alq.1 hx with rfl|hx
 ·obtain⟨c,hc⟩:=alK.1 hb;exact(Uu (SM hs h ho 8 g fn) rfl (g:=g) hf (hs.name hf) hc).weaken he
 ·exact h x hx
theorem fx.step(hs:mK S)(h:aa S rF)(ho:fx S jl)(hf:S.P.funcs[g]?=some fn)(hb:fn.body.isSome=true)(he:∀ps r,M ps=some r→qt (S.env aX rF jl g fn) ps=some r):fx S ((g,M)::jl):=by
 intro x hx;rcases alq.1 hx with rfl|hx
 ·obtain⟨c,hc⟩:=alK.1 hb;exact(Uv (SM hs h ho 8 g fn) rfl (g:=g) hf (hs.name hf) hc).weaken he
 ·exact ho x hx
theorem aa.go(h:aa S rF)(hs:mK S)(ho:fx S jl)(hf:S.P.funcs[g]?=some fn)(hb:fn.body.isSome=true)(he:∀ps r,M ps=some r→fm (S.env aX rF jl g fn) ps=some r):aa S ((g,M)::rF):=aa.step hs h ho hf hb he
theorem aa.s1(hs:mK S)(h:aa S rF)(ho:fx S jl)(hf:S.P.funcs[g]?=some fn)(F:bj→PV→Option PV)(hb:fn.body.isSome=true:=by kernel_rfl)(he:∀L a,fm (S.env L rF jl g fn) [a]=F L a:=by intros;kernel_rfl):aa S ((g,fun l=>match l with|[a]=>F aX a|_=>none)::rF):=h.go hs ho hf hb fun ps r hp=>by
 split at hp
 ·rw[he];exact hp
 ·cases hp
theorem aa.s2(hs:mK S)(h:aa S rF)(ho:fx S jl)(hf:S.P.funcs[g]?=some fn)(F:bj→PV→PV→Option PV)(hb:fn.body.isSome=true:=by kernel_rfl)(he:∀L a b,fm (S.env L rF jl g fn) [a,b]=F L a b:=by intros;kernel_rfl):aa S ((g,fun l=>match l with|[a,b]=>F aX a b|_=>none)::rF):=h.go hs ho hf hb fun ps r hp=>by
 split at hp
 ·rw[he];exact hp
 ·cases hp
theorem aa.s3(hs:mK S)(h:aa S rF)(ho:fx S jl)(hf:S.P.funcs[g]?=some fn)(F:bj→PV→PV→PV→Option PV)(hb:fn.body.isSome=true:=by kernel_rfl)(he:∀L a b c,fm (S.env L rF jl g fn) [a,b,c]=F L a b c:=by intros;kernel_rfl):aa S ((g,fun l=>match l with|[a,b,c]=>F aX a b c|_=>none)::rF):=h.go hs ho hf hb fun ps r hp=>by
 split at hp
 ·rw[he];exact hp
 ·cases hp
theorem aa.s4(hs:mK S)(h:aa S rF)(ho:fx S jl)(hf:S.P.funcs[g]?=some fn)(F:bj→PV→PV→PV→PV→Option PV)(hb:fn.body.isSome=true:=by kernel_rfl)(he:∀L a b c d,fm (S.env L rF jl g fn) [a,b,c,d]=F L a b c d:=by intros;kernel_rfl):aa S ((g,fun l=>match l with|[a,b,c,d]=>F aX a b c d|_=>none)::rF):=h.go hs ho hf hb fun ps r hp=>by
 split at hp
 ·rw[he];exact hp
 ·cases hp
theorem aa.s5(hs:mK S)(h:aa S rF)(ho:fx S jl)(hf:S.P.funcs[g]?=some fn)(F:bj→PV→PV→PV→PV→PV→Option PV)(hb:fn.body.isSome=true:=by kernel_rfl)(he:∀L a b c d e,fm (S.env L rF jl g fn) [a,b,c,d,e]=F L a b c d e:=by intros;kernel_rfl):aa S ((g,fun l=>match l with|[a,b,c,d,e]=>F aX a b c d e|_=>none)::rF):=h.go hs ho hf hb fun ps r hp=>by
 split at hp
 ·rw[he];exact hp
 ·cases hp
theorem aa.s6(hs:mK S)(h:aa S rF)(ho:fx S jl)(hf:S.P.funcs[g]?=some fn)(F:bj→PV→PV→PV→PV→PV→PV→Option PV)(hb:fn.body.isSome=true:=by kernel_rfl)(he:∀L a b c d e f,fm (S.env L rF jl g fn) [a,b,c,d,e,f]=F L a b c d e f:=by intros;kernel_rfl):aa S ((g,fun l=>match l with|[a,b,c,d,e,f]=>F aX a b c d e f|_=>none)::rF):=h.go hs ho hf hb fun ps r hp=>by
 split at hp
 ·rw[he];exact hp
 ·cases hp
end Go.Ab
