/- A table of contracts of a program's functions, built up function by function. -/
import Derived.Test.YtlgcompmkliiaaaAbFn
namespace Go.Ab

structure Seat where
  P : Program
  glob : Nat → Option (List PV)
  hint : Nat → Nat → Option Tpl

abbrev Tab := List (Nat × (List PV → Option PV))
def look : Tab → Nat → Option (List PV → Option PV)
  | [], _ => none
  | x :: r, g => bif Nat.beq g x.1 then some x.2 else look r g
def rounds : Nat := 18446744073709551616
/-- the loops, as they are run -/
def lpS : Lps := ⟨fun body s => loopS body rounds s⟩
def Seat.env (S : Seat) (L : Lps) (tab : Tab) (fid : Nat) (fn : Func) : Env :=
  { P := S.P, ctx := look tab, glob := S.glob, fid, fn, lp := L, hint := S.hint, u := 64, inl := fun _ _ _ _ _ => none }
def OkTab (S : Seat) (tab : Tab) : Prop := ∀ x ∈ tab, SoundF S.P S.glob x.1 x.2

theorem look_mem {M : List PV → Option PV} {g : Nat} : ∀ {tab : Tab}, look tab g = some M → (g, M) ∈ tab
  | [], h => by cases h
  | x :: r, h => by
    simp only [look] at h
    cases e : Nat.beq g x.1 with
    | true =>
      rw [e] at h
      simp only [cond, Option.some.injEq] at h
      have := Nat.eq_of_beq_eq_true e
      subst this; subst h
      exact List.mem_cons_self
    | false => rw [e] at h; exact List.mem_cons_of_mem _ (look_mem h)

theorem OkTab.nil (S : Seat) : OkTab S [] := by intro x hx; cases hx

theorem SoundF.weaken {P : Program} {G : Nat → Option (List PV)} {g : FuncId} {M M' : List PV → Option PV} (h : SoundF P G g M) (hM : ∀ ps r, M' ps = some r → M ps = some r) : SoundF P G g M' :=
  ⟨h.1, fun ps r hr => h.2 ps r (hM ps r hr)⟩

theorem OkTab.step {S : Seat} {tab : Tab} (hm : S.P.follows .mixedOrders = true) (h : OkTab S tab) {g : Nat} {fn : Func} (hf : S.P.funcs[g]? = some fn) (hn : (fn.name == "runtime.NumGoroutine") = false) (hb : fn.body.isSome = true)
    {M : List PV → Option PV} (he : ∀ ps r, M ps = some r → evalFn (S.env lpS tab g fn) ps = some r) : OkTab S ((g, M) :: tab) := by
  intro x hx
  rcases List.mem_cons.1 hx with rfl | hx
  · obtain ⟨c, hc⟩ := Option.isSome_iff_exists.1 hb
    have hE : EnvOk (S.env lpS tab g fn) := ⟨hm, fun _ _ body s r h => ⟨rounds, h⟩, fun g' M' hM' => h _ (look_mem hM'), fun _ _ _ _ _ => rfl⟩
    exact (soundF_of hE (g := g) hf hn hc).weaken he
  · exact h x hx
end Go.Ab
