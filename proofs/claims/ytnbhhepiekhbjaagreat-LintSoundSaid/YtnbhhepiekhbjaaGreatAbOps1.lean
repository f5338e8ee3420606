/- The abstract operations are right, first part: operands, loads, addresses, numbers. -/
import Derived.Test.YtnbhhepiekhbjaaGreatAbRep
import Derived.Laws.CopyRow
import Derived.Deep.MidRow
set_option linter.unusedVariables false
namespace Go.Ab
open Go.RowKit (Below)

section
variable {P : Program} {G : Nat → Option (List PV)} {w0 : Base} {μ : Ro} {φ : Nat → Phys} {f : Fr} {m : Mem} {w : World}

@[simp] theorem has_pv (p : PV) (id : Nat) : (V.pv p).has id = false := by simp [V.has]
@[simp] theorem has_top (id : Nat) : V.top.has id = false := by simp [V.has]
@[simp] theorem has_nils (id : Nat) : V.nils.has id = false := by simp [V.has]
theorem hasL_pv (cs : List PV) (id : Nat) : hasL id (cs.map .pv) = false := by
  induction cs with
  | nil => rfl
  | cons c r ih => simp [hasL, ih]

theorem wf_bool (k : IntKind) (n : Int) : (Lit.int k n).wf = true ↔ k.min ≤ n ∧ n ≤ k.max := by simp [Lit.wf]
theorem wf_wrap (k : IntKind) (n : Int) : (Lit.int k (k.wrap n)).wf = true := by
  rw [wf_bool]
  cases k <;> simp only [IntKind.wrap, IntKind.min, IntKind.max, IntKind.signed, IntKind.bits] <;> simp <;> (try split) <;> omega

theorem RepPV.one {p : PV} {x : Value} (h : RepPV P μ p x) (h1 : ∀ cs, p ≠ .agg cs) (h2 : ∀ cs, p ≠ .tup cs) (h3 : p ≠ .bad) : x.oneCell' = true := by
  cases h <;> first | rfl | exact absurd rfl (h1 _) | exact absurd rfl (h2 _) | exact absurd rfl h3

theorem ofVal1_rep (c : Value) : RepV P μ φ (ofVal1 c) c := by
  unfold ofVal1
  split
  · split
    · exact .pv (.int (by assumption))
    · exact .top
  · exact .pv .bool
  · rename_i s
    split
    · exact .pv (.str (by assumption))
    · exact .top
  · exact .pv .nilp
  · exact .nils
  · exact .pv .nilm
  · exact .pv .nilf
  · exact .top
theorem ofVal1_has (c : Value) (id : Nat) : (ofVal1 c).has id = false := by
  unfold ofVal1
  split <;> (try split) <;> simp
theorem ofVal_has (c : Value) (id : Nat) : (ofVal c).has id = false := by
  unfold ofVal
  split
  · rename_i cs
    split
    · simp only [V.has]
      rw [Bool.eq_false_iff]
      intro h
      obtain ⟨v, hv, hh⟩ := hasL_iff.1 h
      obtain ⟨x, _, rfl⟩ := List.mem_map.1 hv
      rw [ofVal1_has] at hh; cases hh
    · simp
  · exact ofVal1_has _ _
theorem ofVal_rep (c : Value) : RepV P μ φ (ofVal c) c := by
  unfold ofVal
  split
  · rename_i cs
    split
    · rename_i hc
      refine .agg (by simp) (fun i p x hi hx => ?_) (fun i x hx => ?_)
      · simp only [List.getElem?_map, Array.getElem?_toList, hx, Option.map_some, Option.some.injEq] at hi
        subst hi
        exact ofVal1_rep x
      · rw [List.all_eq_true] at hc
        have := hc x (by rw [← Array.getElem?_toList] at hx; exact List.mem_of_getElem? hx)
        cases x <;> first | rfl | (simp at this)
    · exact .top
  · exact ofVal1_rep _

theorem RelM.refs_pv (_ : RelM P G w0 μ φ m w) (id : Nat) (p : PV) : (V.pv p).has id = true → (m id).isSome = true := by simp

end
section
variable {R : Type} {E : Env} {w0 : Base} {μ : Ro} {φ : Nat → Phys} {f : Fr} {m : Mem} {a : Act} {w : World}
theorem opd_rep (h : Rel E.P E.glob E.fn.ntmps w0 μ φ f m a w) (x : Operand) : RepV E.P μ φ (opd E f x) (a.eval x) ∧ ∀ id, (opd E f x).has id = true → (m id).isSome = true := by
  cases x with
  | tmp t =>
    simp only [opd]
    cases e : Nat.blt t E.fn.ntmps with
    | true =>
      have hlt : t < E.fn.ntmps := by rwa [Nat.blt_eq] at e
      have := h.fr t
      rw [slots_lt hlt] at this
      exact ⟨this, h.live t⟩
    | false => exact ⟨.top, fun id hid => by cases hid⟩
  | const c => exact ⟨ofVal_rep c, fun id hid => by simp only [opd] at hid; rw [ofVal_has] at hid; cases hid⟩
  | global g =>
    simp only [opd]
    cases hg : E.glob g with
    | none => exact ⟨.top, by simp⟩
    | some cs => exact ⟨.pv (h.glob g cs hg), by simp⟩
  | func g => exact ⟨.fn (by simp) (by simp), by simp [opd, V.has, hasL]⟩
theorem elemCells_get {sz j : Nat} {p q : PV} (h : (elemCells sz p)[j]? = some q) : j < sz ∧ q = cell p j := by
  unfold elemCells at h
  have key : ∀ (n o j : Nat), (cellsFrom p o n)[j]? = some q → j < n ∧ q = cell p (o + j) := by
    intro n
    induction n with
    | zero => intro o j hj; simp [cellsFrom] at hj
    | succ n ih =>
      intro o j hj
      cases j with
      | zero => simp [cellsFrom] at hj; exact ⟨by omega, by simp [hj]⟩
      | succ j =>
        simp only [cellsFrom, List.getElem?_cons_succ] at hj
        obtain ⟨h1, h2⟩ := ih (o + 1) j hj
        exact ⟨by omega, by rw [h2]; congr 1; omega⟩
  have := key sz 0 j h
  simpa using this
theorem elemCells_length (sz : Nat) (p : PV) : (elemCells sz p).length = sz := by
  unfold elemCells
  have : ∀ n o, (cellsFrom p o n).length = n := by
    intro n
    induction n with
    | zero => intro o; rfl
    | succ n ih => intro o; simp [cellsFrom, ih]
  exact this _ _
theorem elemCells_eq {sz : Nat} {p : PV} (h : p.cells.length = sz) : elemCells sz p = p.cells := by
  apply List.ext_getElem?
  intro j
  by_cases hj : j < sz
  · have h1 : j < (elemCells sz p).length := by rw [elemCells_length]; exact hj
    have h2 := elemCells_get (List.getElem?_eq_getElem h1)
    rw [List.getElem?_eq_getElem h1, h2.2, cell, List.getD_eq_getElem?_getD, List.getElem?_eq_getElem (by omega)]
    rfl
  · rw [List.getElem?_eq_none (by rw [elemCells_length]; omega), List.getElem?_eq_none (by omega)]

theorem RepPV.agg_elemCells {P : Program} {μ : Ro} {n : Nat} {cs : List PV} {x : Value} (h : RepPV P μ (.agg cs) x) (hn : cs.length = n) : RepPV P μ (.agg (elemCells n (.agg cs))) x := by
  rw [elemCells_eq (p := .agg cs) (by simpa [PV.cells] using hn)]
  exact h
theorem ldTy_ok {t : TypeId} {p : PV} {k : PV → Option R} {r : R} (h : ldTy E t p k = some r) :
    ∃ q, (∀ (R' : Type) (k' : PV → Option R'), ldTy E t p k' = k' q) ∧ k q = some r ∧ (∀ (P : Program) (μ : Ro) x, RepPV P μ p x → RepPV P μ q x) ∧ q ≠ .bad ∧ (∀ cs, q ≠ .tup cs) ∧ (isAggT E.P t = false → ∀ cs, q ≠ .agg cs) := by
  unfold ldTy at h
  split at h
  · rename_i q hu
    obtain ⟨n, hn, hk⟩ := Option.bind_eq_some_iff.1 h
    have hp : p = .int q n := by
      cases p <;> simp [asInt] at hn
      obtain ⟨rfl, rfl⟩ := hn; rfl
    exact ⟨.int q n, fun R' k' => by simp [ldTy, hu, hn], hk, fun P μ x hx => hp ▸ hx, by simp, by simp, by simp⟩
  · rename_i hu
    obtain ⟨n, hn, hk⟩ := Option.bind_eq_some_iff.1 h
    have hp : p = .bool n := by
      cases p <;> simp [asBool] at hn
      subst hn; rfl
    exact ⟨.bool n, fun R' k' => by simp [ldTy, hu, hn], hk, fun P μ x hx => hp ▸ hx, by simp, by simp, by simp⟩
  · rename_i hu
    obtain ⟨n, hn, hk⟩ := Option.bind_eq_some_iff.1 h
    have hp : p = .str n := by
      cases p <;> simp [asStr] at hn
      subst hn; rfl
    exact ⟨.str n, fun R' k' => by simp [ldTy, hu, hn], hk, fun P μ x hx => hp ▸ hx, by simp, by simp, by simp⟩
  · rename_i e hu
    obtain ⟨es, hn, hk⟩ := Option.bind_eq_some_iff.1 h
    refine ⟨.rs (csz E.P e) es, fun R' k' => by simp [ldTy, hu, hn], hk, fun P μ x hx => ?_, by simp, by simp, by simp⟩
    cases p <;> simp [asSl] at hn
    split at hn
    · rename_i hs; simp only [Option.some.injEq] at hn; rw [← hs, ← hn]; exact hx
    · split at hn
      · simp only [Option.some.injEq] at hn
        subst hn
        cases hx with
        | rsNil => exact .rsNil
        | rsE h => exact .rsE h
        | rs X h1 h2 _ _ _ _ => exact .rsE h2
      · cases hn
  · rename_i fs hu
    obtain ⟨u, hn, hk⟩ := Option.bind_eq_some_iff.1 h
    refine ⟨_, fun R' k' => by simp [ldTy, hu, hn], hk, fun P μ x hx => ?_, by simp, by simp, by simp [isAggT, hu]⟩
    cases p <;> simp [asAgg] at hn
    exact hx.agg_elemCells hn
  · rename_i n e hu
    obtain ⟨u, hn, hk⟩ := Option.bind_eq_some_iff.1 h
    refine ⟨_, fun R' k' => by simp [ldTy, hu, hn], hk, fun P μ x hx => ?_, by simp, by simp, by simp [isAggT, hu]⟩
    cases p <;> simp [asAgg] at hn
    exact hx.agg_elemCells hn
  · rename_i e hu
    split at h
    · exact ⟨.nilp, fun R' k' => by simp [ldTy, hu], h, fun P μ x hx => hx, by simp, by simp, by simp⟩
    · rename_i cs
      exact ⟨.rp cs, fun R' k' => by simp [ldTy, hu], h, fun P μ x hx => hx, by simp, by simp, by simp⟩
    · cases h
  · rename_i kt et hu
    unfold mapCase at h
    split at h
    · exact ⟨.nilm, fun R' k' => by simp [ldTy, hu, mapCase], h, fun P μ x hx => hx, by simp, by simp, by simp⟩
    · rename_i kt' ks vs
      split at h
      · rename_i he
        subst he
        exact ⟨.rm _ ks vs, fun R' k' => by simp [ldTy, hu, mapCase], h, fun P μ x hx => hx, by simp, by simp, by simp⟩
      · cases h
    · cases h
  · rename_i ps rs vr hu
    split at h
    · exact ⟨.nilf, fun R' k' => by simp [ldTy, hu], h, fun P μ x hx => hx, by simp, by simp, by simp⟩
    · rename_i g cs
      exact ⟨.fn g cs, fun R' k' => by simp [ldTy, hu], h, fun P μ x hx => hx, by simp, by simp, by simp⟩
    · cases h
  · cases h

theorem ldTyV_ok {t : TypeId} {v : V} {k : V → Option R} {r : R} (h : ldTyV E t v k = some r) :
    ∃ u, (∀ (R' : Type) (k' : V → Option R'), ldTyV E t v k' = k' u) ∧ k u = some r ∧ (∀ (P : Program) (μ : Ro) (φ : Nat → Phys) x, RepV P μ φ v x → RepV P μ φ u x) ∧ (∀ id, u.has id = true → v.has id = true) := by
  unfold ldTyV at h
  split at h
  · obtain ⟨q, h1, h2, h3, _⟩ := ldTy_ok h
    exact ⟨.pv q, fun R' k' => by simp [ldTyV, h1], h2, fun P μ φ x hx => by cases hx with | pv hp => exact .pv (h3 _ _ _ hp), by simp⟩
  · cases h
  · rename_i h1 h2
    split at h
    · rename_i hu
      refine ⟨v, fun R' k' => ?_, h, fun _ _ _ _ hx => hx, fun _ h => h⟩
      unfold ldTyV
      cases v <;> first | (simp only [hu, if_true]; done) | exact absurd rfl (h1 _) | exact absurd rfl h2
    · cases h
theorem ldTy_und {t : TypeId} {p : PV} {k : PV → Option R} {r : R} (h : ldTy E t p k = some r) : ∃ d, E.P.underlying t = some d := by
  unfold ldTy at h
  cases hq : E.P.underlying t with
  | none => simp [hq] at h
  | some d => exact ⟨d, rfl⟩
theorem ldTyV_und {t : TypeId} {v : V} {k : V → Option R} {r : R} (h : ldTyV E t v k = some r) : ∃ d, E.P.underlying t = some d := by
  unfold ldTyV at h
  split at h
  · exact ldTy_und h
  · cases h
  · split at h
    · rename_i hu; exact Option.isSome_iff_exists.1 hu
    · cases h

end
end Go.Ab
