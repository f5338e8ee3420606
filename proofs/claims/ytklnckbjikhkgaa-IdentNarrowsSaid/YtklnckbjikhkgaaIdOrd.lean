/- Compare is a total order; the methods of a nil table. -/
import Derived.Test.YtklnckbjikhkgaaIdTb
namespace Go.Ab.Tt
set_option maxRecDepth 100000
set_option linter.unusedVariables false
set_option linter.unusedSimpArgs false

theorem cmpB_cases (a b : Bytes) : (cmpB a b = -1 ∧ Op.bytesLess a b = true) ∨ (cmpB a b = 0 ∧ a = b) ∨ (cmpB a b = 1 ∧ Op.bytesLess b a = true) := by
  unfold cmpB
  by_cases h : Op.bytesLess a b = true
  · simp [h]
  · by_cases e : a = b
    · subst e; simp [less_irrefl]
    · refine .inr (.inr ⟨by simp [h, e], ?_⟩)
      cases h2 : Op.bytesLess b a with
      | true => rfl
      | false => exact absurd (less_total _ _ (by simpa using h) h2) e
theorem cmpB_zero (a b : Bytes) : cmpB a b = 0 ↔ a = b := by
  rcases cmpB_cases a b with ⟨h, h2⟩ | ⟨h, h2⟩ | ⟨h, h2⟩
  · rw [h]; exact ⟨fun e => by omega, fun e => by subst e; rw [less_irrefl] at h2; cases h2⟩
  · rw [h]; simp [h2]
  · rw [h]; exact ⟨fun e => by omega, fun e => by subst e; rw [less_irrefl] at h2; cases h2⟩
theorem cmpB_swap (a b : Bytes) : cmpB b a = - cmpB a b := by
  rcases cmpB_cases a b with ⟨h, h2⟩ | ⟨h, h2⟩ | ⟨h, h2⟩ <;> rcases cmpB_cases b a with ⟨k, k2⟩ | ⟨k, k2⟩ | ⟨k, k2⟩ <;> rw [h, k]
  all_goals first
    | (exfalso; have := less_trans h2 k2; rw [less_irrefl] at this; cases this)
    | (exfalso; subst h2; rw [less_irrefl] at k2; cases k2)
    | (exfalso; subst k2; rw [less_irrefl] at h2; cases h2)
    | rfl
theorem cmpB_trans (a b c : Bytes) (h1 : cmpB a b ≤ 0) (h2 : cmpB b c ≤ 0) : cmpB a c ≤ 0 := by
  rcases cmpB_cases a b with ⟨h, k⟩ | ⟨h, k⟩ | ⟨h, k⟩ <;> rcases cmpB_cases b c with ⟨h', k'⟩ | ⟨h', k'⟩ | ⟨h', k'⟩ <;> try omega
  · have := (cmpB_neg a c).2 (less_trans k k'); omega
  · subst k'; omega
  · subst k; omega
  · subst k; subst k'; omega
theorem orders_law (a b c : Bytes) : law05_IdentOrders_M [.str a, .str b, .str c] = some (.bool true) := by
  simp only [law05_IdentOrders_M, law05_IdentOrders, asStr, bind_some', cmp_prog, Ab.asInt, if_true, ex_holds, Ab.asBool, bif_or']
  have hw : IntKind.i64.wrap (0 - cmpB a b) = - cmpB a b := by
    rw [wrap_in (by rcases cmpB_cases a b with ⟨h, _⟩ | ⟨h, _⟩ | ⟨h, _⟩ <;> omega) (by rcases cmpB_cases a b with ⟨h, _⟩ | ⟨h, _⟩ | ⟨h, _⟩ <;> omega)]; omega
  have hz : (cmpB a b == 0) = (a == b) := by
    rw [Bool.eq_iff_iff]; simp [cmpB_zero]
  have h1 : decide (cmpB a b < -1) = false := by simp; rcases cmpB_cases a b with ⟨h, _⟩ | ⟨h, _⟩ | ⟨h, _⟩ <;> omega
  have h2 : decide (cmpB a b > 1) = false := by simp; rcases cmpB_cases a b with ⟨h, _⟩ | ⟨h, _⟩ | ⟨h, _⟩ <;> omega
  have h3 : (decide (cmpB a b > 0) || decide (cmpB b c > 0) || decide (cmpB a c ≤ 0)) = true := by
    by_cases e1 : cmpB a b > 0
    · simp [e1]
    · by_cases e2 : cmpB b c > 0
      · simp [e2]
      · simp [cmpB_trans a b c (by omega) (by omega)]
  generalize (decide ((↑(List.length a) : Int) > 4096) || decide ((↑(List.length b) : Int) > 4096) || decide ((↑(List.length c) : Int) > 4096)) = big
  cases big
  · simp only [Bool.false_eq_true, if_false, h1, h2, hz, beq_self_eq_true, Bool.not_true, Bool.or_self, cond_false, cmpB_swap a b, hw, bne_self_eq_false, bind_some', h3, cond_true, Bool.true_or]
  · simp

theorem nils_law (s : Bytes) (i : Int) : law05_IdentNils_M [.str s, .int .i64 i] = some (.bool true) := by
  simp only [law05_IdentNils_M, law05_IdentNils, asStr, bind_some', Ab.asInt, if_true, ident_Table_Find_M, ident_Table_Find, ident_Table_Name_M, ident_Table_Name, ident_Table_Len_M, ident_Table_Len, ident_Table_Sorted_M, ident_Table_Sorted, ident_Table_Prefix_M, ident_Table_Prefix, ptrCase, asTup, List.length_cons, List.length_nil, List.getD_cons_zero, List.getD_cons_succ, Ab.asBool, asSl, ex_holds, List.map_nil]
  rfl
end Go.Ab.Tt
