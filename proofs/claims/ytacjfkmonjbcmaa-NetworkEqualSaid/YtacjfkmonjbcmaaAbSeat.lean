/- A table of contracts of a program's functions, built up function by function. -/
import Derived.Test.YtacjfkmonjbcmaaAbFn
set_option linter.unusedVariables false
namespace Go.Ab

structure Seat where
  P : Program
  glob : Nat → Option (List PV)
  hint : Nat → Nat → List Tpl
  fnr : FuncId → Option FS := fun _ => none
  hook : FuncId → Option ((R : Type) → List V → Fr → Mem → (V → Fr → Mem → Option R) → Option R) := fun _ => none
  nst : Nat → Bool := fun _ => false

abbrev Tab := List (Nat × (List PV → Option PV))
def look : Tab → Nat → Option (List PV → Option PV)
  | [], _ => none
  | x :: r, g => bif Nat.beq g x.1 then some x.2 else look r g
def rounds : Nat := 18446744073709551616
def lpS : Lps := ⟨fun body s => loopS body rounds s, fun n => Nat.ble n 9223372036854775807, fun n h => by
  have h1 := Nat.le_of_ble_eq_true h
  have h2 : IntKind.i64.max = 9223372036854775807 := rfl
  omega⟩
noncomputable def Seat.rngN (S : Seat) (L : Lps) (tab otab : Tab) : Nat → (R : Type) → FuncId → Nat → YL → List V → Fr → Mem → (V → Fr → Mem → Option R) → Option R
  | 0 => fun _ _ _ _ _ _ _ _ => none
  | n + 1 => fun _ g cid yl args f m k => match S.P.funcs[g]? with
    | some fn => inlBody { P := S.P, ctx := look tab, glob := S.glob, fid := cid, fn, lp := L, hint := S.hint, u := 64, own := look otab, inl := fun R g cid args f m k => match S.hook g with
        | some h => h R args f m k
        | none => Seat.rngN S L tab otab n R g cid noYl args f m k, rng := Seat.rngN S L tab otab n, yl, fnr := S.fnr, nst := S.nst } args f m k
    | none => none
noncomputable def Seat.envY (S : Seat) (L : Lps) (tab otab : Tab) (n fid : Nat) (fn : Func) (yl : YL) : Env :=
  { P := S.P, ctx := look tab, glob := S.glob, fid, fn, lp := L, hint := S.hint, u := 64, own := look otab, inl := fun R g cid args f m k => match S.hook g with
        | some h => h R args f m k
        | none => Seat.rngN S L tab otab n R g cid noYl args f m k, rng := S.rngN L tab otab n, yl, fnr := S.fnr, nst := S.nst }
noncomputable def Seat.envN (S : Seat) (L : Lps) (tab otab : Tab) (n fid : Nat) (fn : Func) : Env := S.envY L tab otab n fid fn noYl
noncomputable def Seat.env (S : Seat) (L : Lps) (tab otab : Tab) (fid : Nat) (fn : Func) : Env := S.envN L tab otab 8 fid fn
def OkTab (S : Seat) (tab : Tab) : Prop := ∀ x ∈ tab, SoundF S.P S.glob x.1 x.2
def OkOwn (S : Seat) (tab : Tab) : Prop := ∀ x ∈ tab, SoundO S.P S.glob x.1 x.2
structure SeatOk (S : Seat) : Prop where
  mixed : S.P.follows .mixedOrders = true
  hook : ∀ g h, S.hook g = some h → ∀ (R : Type) args f m (k : V → Fr → Mem → Option R) r, h R args f m k = some r → InlAll S.P S.glob g args f m k r
  names : (S.P.funcs.all fun fn => !(fn.name == "runtime.NumGoroutine")) = true

theorem look_mem {M : List PV → Option PV} {g : Nat} : ∀ {tab : Tab}, look tab g = some M → (g, M) ∈ tab
  | [], h => by cases h
  | x :: r, h => by
    simp only [look] at h
    cases e : Nat.beq g x.1 with
    | true =>
      rw [e] at h
      simp only [cond, Option.some.injEq] at h
      have := Nat.eq_of_beq_eq_true e
      subst this; subst h
      exact List.mem_cons_self
    | false => rw [e] at h; exact List.mem_cons_of_mem _ (look_mem h)

theorem OkTab.nil (S : Seat) : OkTab S [] := by intro x hx; cases hx

theorem SoundF.weaken {P : Program} {G : Nat → Option (List PV)} {g : FuncId} {M M' : List PV → Option PV} (h : SoundF P G g M) (hM : ∀ ps r, M' ps = some r → M ps = some r) : SoundF P G g M' :=
  ⟨h.1, fun ps r hr => h.2 ps r (hM ps r hr)⟩

theorem OkOwn.nil (S : Seat) : OkOwn S [] := by intro x hx; cases hx
theorem SoundO.weaken {P : Program} {G : Nat → Option (List PV)} {g : FuncId} {M M' : List PV → Option PV} (h : SoundO P G g M) (hM : ∀ ps r, M' ps = some r → M ps = some r) : SoundO P G g M' :=
  ⟨h.1, fun fn t e h1 h2 h3 ps r hr => h.2 fn t e h1 h2 h3 ps r (hM ps r hr)⟩
theorem SeatOk.name {S : Seat} (h : SeatOk S) {g : Nat} {fn : Func} (hf : S.P.funcs[g]? = some fn) : (fn.name == "runtime.NumGoroutine") = false := by
  have := Array.all_eq_true_iff_forall_mem.1 h.names fn (Array.mem_of_getElem? hf)
  simpa using this
theorem envY_ok {S : Seat} {tab otab : Tab} (hs : SeatOk S) (h : OkTab S tab) (ho : OkOwn S otab) : ∀ (n fid : Nat) (fn : Func) (yl : YL), EnvOk (S.envY lpS tab otab n fid fn yl)
  | n, fid, fn, yl => by
    have hr : ∀ (R : Type) g cid yl args f m (k : V → Fr → Mem → Option R) r, S.rngN lpS tab otab n R g cid yl args f m k = some r → RngAll S.P S.glob g yl args f m k r := by
      intro R g cid yl args f m k r hk
      cases n with
      | zero => simp [Seat.rngN] at hk
      | succ n =>
        have hk : (match S.P.funcs[g]? with
          | some fn => inlBody (S.envY lpS tab otab n cid fn yl) args f m k
          | none => none) = some r := hk
        split at hk
        · rename_i fn' hf
          exact rng_ok (envY_ok hs h ho n cid fn' yl) hf (hs.name hf) hk
        · cases hk
    refine ⟨hs.mixed, fun _ _ body s r h => ⟨rounds, h⟩, fun g' M' hM' => h _ (look_mem hM'), fun g' M' hM' => ho _ (look_mem hM'), fun R g cid args f m k r hk => ?_, hr⟩
    have hk : (match S.hook g with
      | some h => h R args f m k
      | none => Seat.rngN S lpS tab otab n R g cid noYl args f m k) = some r := hk
    split at hk
    · rename_i h' hh
      exact hs.hook g h' hh R args f m k r hk
    · obtain ⟨fn', c, h1, h2, h3, h4⟩ := hr _ _ _ _ _ _ _ _ _ hk
      exact ⟨⟨fn', c, h1, h2, h3⟩, fun w0 μ φ ρ w xs hM hF hlen hrep hlive => h4 w0 μ φ ρ w xs hM hF hlen hrep hlive (ylOk_no _ _ _ _)⟩
theorem envN_ok {S : Seat} {tab otab : Tab} (hs : SeatOk S) (h : OkTab S tab) (ho : OkOwn S otab) (n fid : Nat) (fn : Func) : EnvOk (S.envN lpS tab otab n fid fn) := envY_ok hs h ho n fid fn noYl

theorem OkTab.step {S : Seat} {tab otab : Tab} (hs : SeatOk S) (h : OkTab S tab) (ho : OkOwn S otab) {g : Nat} {fn : Func} (hf : S.P.funcs[g]? = some fn) (hb : fn.body.isSome = true)
    {M : List PV → Option PV} (he : ∀ ps r, M ps = some r → evalFn (S.env lpS tab otab g fn) ps = some r) : OkTab S ((g, M) :: tab) := by
  intro x hx
  rcases List.mem_cons.1 hx with rfl | hx
  · obtain ⟨c, hc⟩ := Option.isSome_iff_exists.1 hb
    exact (soundF_of (envN_ok hs h ho 8 g fn) rfl (g := g) hf (hs.name hf) hc).weaken he
  · exact h x hx
theorem OkOwn.step {S : Seat} {tab otab : Tab} (hs : SeatOk S) (h : OkTab S tab) (ho : OkOwn S otab) {g : Nat} {fn : Func} (hf : S.P.funcs[g]? = some fn) (hb : fn.body.isSome = true)
    {M : List PV → Option PV} (he : ∀ ps r, M ps = some r → evalFnO (S.env lpS tab otab g fn) ps = some r) : OkOwn S ((g, M) :: otab) := by
  intro x hx
  rcases List.mem_cons.1 hx with rfl | hx
  · obtain ⟨c, hc⟩ := Option.isSome_iff_exists.1 hb
    exact (soundO_of (envN_ok hs h ho 8 g fn) rfl (g := g) hf (hs.name hf) hc).weaken he
  · exact ho x hx
end Go.Ab
