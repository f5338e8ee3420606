/- Decimal numerals: what a list of digits spells, and the digits of a number; insertion into a list. Plain laws. -/
import Derived.Test.YtinbhofpofcmeaaGreatDoorAbLib
import Derived.Lib.ItoaNum
import Derived.Lib.AtoiAll
namespace Go.Ab.Tt
set_option linter.unusedVariables false

/-! ### insertion from the right -/
/-- behind how many of the first k a number is to stand -/
def posR (t : Int) (l : List Int) : Nat → Nat
  | 0 => 0
  | k + 1 => if l.getD k 0 > t then posR t l k else k + 1
def insR (t : Int) (l : List Int) : List Int := l.take (posR t l l.length) ++ t :: l.drop (posR t l l.length)
theorem posR_le (t : Int) (l : List Int) : ∀ k, posR t l k ≤ k
  | 0 => Nat.le_refl _
  | k + 1 => by
    unfold posR
    split
    · exact Nat.le_succ_of_le (posR_le t l k)
    · exact Nat.le_refl _
theorem insR_len (t : Int) (l : List Int) : (insR t l).length = l.length + 1 := by
  have := posR_le t l l.length
  simp [insR]; omega
theorem insR_mem (t x : Int) (l : List Int) : x ∈ insR t l ↔ x = t ∨ x ∈ l := by
  unfold insR
  have : x ∈ l ↔ x ∈ l.take (posR t l l.length) ∨ x ∈ l.drop (posR t l l.length) := by rw [← List.mem_append, List.take_append_drop]
  rw [this]
  simp only [List.mem_append, List.mem_cons]
  constructor
  · rintro (h | h | h)
    · exact .inr (.inl h)
    · exact .inl h
    · exact .inr (.inr h)
  · rintro (h | h | h)
    · exact .inr (.inl h)
    · exact .inl h
    · exact .inr (.inr h)
end Go.Ab.Tt
