/- Decimal numerals: what a list of digits spells, and the digits of a number; insertion into a list. Plain laws. -/
import Derived.Test.YtinbhofpofcmeaaGreatDoorAbLib
import Derived.Lib.ItoaNum
import Derived.Lib.AtoiAll
namespace Go.Ab.Tt
set_option linter.unusedVariables false

def isD (b : UInt8) : Bool := decide (48 ≤ b.toNat) && decide (b.toNat ≤ 57)
def natF (acc : Nat) (l : Bytes) : Nat := l.foldl (fun a c => a * 10 + (c.toNat - 48)) acc
theorem natF_nil (acc : Nat) : natF acc [] = acc := rfl
theorem natF_cons (acc : Nat) (c : UInt8) (l : Bytes) : natF acc (c :: l) = natF (acc * 10 + (c.toNat - 48)) l := List.foldl_cons ..
def canonB (l : Bytes) : Bool := decide (l = [48]) || (!decide (l = []) && !decide (l[0]? = some 48))
theorem isD_iff (b : UInt8) : isD b = true ↔ 48 ≤ b.toNat ∧ b.toNat ≤ 57 := by simp [isD]
theorem natF_append (a b : Bytes) (acc : Nat) : natF acc (a ++ b) = natF (natF acc a) b := List.foldl_append ..
theorem natF_snoc (a : Bytes) (c : UInt8) (acc : Nat) : natF acc (a ++ [c]) = natF acc a * 10 + (c.toNat - 48) := by rw [natF_append, natF_cons, natF_nil]
theorem mul_le_aux (acc d p : Nat) : acc * (p * 10) ≤ (acc * 10 + d) * p := by
  rw [Nat.add_mul, Nat.mul_comm p 10, ← Nat.mul_assoc]
  exact Nat.le_add_right _ _
theorem natF_low (l : Bytes) (acc : Nat) : acc * 10 ^ l.length ≤ natF acc l := by
  revert acc
  induction l with
  | nil => intro acc; rw [natF_nil, List.length_nil, Nat.pow_zero, Nat.mul_one]; exact Nat.le_refl _
  | cons c l ih =>
    intro acc
    rw [natF_cons, List.length_cons, Nat.pow_succ]
    exact Nat.le_trans (mul_le_aux _ _ _) (ih _)
theorem natF_high (l : Bytes) (h : l.all isD = true) : ∀ acc, natF acc l < (acc + 1) * 10 ^ l.length := by
  induction l with
  | nil => intro acc; rw [natF_nil]; simp
  | cons c l ih =>
    intro acc
    simp only [List.all_cons, Bool.and_eq_true] at h
    have hc := (isD_iff c).1 h.1
    have := ih h.2 (acc * 10 + (c.toNat - 48))
    rw [natF_cons, List.length_cons, Nat.pow_succ]
    generalize 10 ^ l.length = p at *
    refine Nat.lt_of_lt_of_le this ?_
    rw [Nat.mul_comm p 10, ← Nat.mul_assoc]
    exact Nat.mul_le_mul_right _ (by omega)
theorem natF_mono (l : Bytes) : ∀ a b, a ≤ b → natF a l ≤ natF b l := by
  induction l with
  | nil => intro a b h; exact h
  | cons c l ih => intro a b h; rw [natF_cons, natF_cons]; exact ih _ _ (by omega)

def dgt (n : Nat) : UInt8 := UInt8.ofNat (48 + n)
theorem dgt_nat {n : Nat} (h : n < 10) : (dgt n).toNat = 48 + n := by
  unfold dgt; rw [UInt8.toNat_ofNat']; omega
theorem dgt_is {n : Nat} (h : n < 10) : isD (dgt n) = true := by rw [isD_iff, dgt_nat h]; omega
theorem dgt_of {c : UInt8} (h : isD c = true) : dgt (c.toNat - 48) = c := by
  obtain ⟨h1, h2⟩ := (isD_iff c).1 h
  apply UInt8.toNat_inj.1
  rw [dgt_nat (by omega)]; omega
theorem dec_small {n : Nat} (h : n < 10) : Lib.decDigits n = [dgt n] := by rw [Lib.decDigits, dif_pos h]; rfl
theorem dec_big {n : Nat} (h : ¬ n < 10) : Lib.decDigits n = Lib.decDigits (n / 10) ++ [dgt (n % 10)] := by rw [Lib.decDigits, dif_neg h]; rfl
theorem dec_all (n : Nat) : (Lib.decDigits n).all isD = true := by
  induction n using Nat.strongRecOn with
  | ind n ih =>
    by_cases h : n < 10
    · rw [dec_small h]; simp [dgt_is h]
    · rw [dec_big h]; simp [List.all_append, ih (n / 10) (by omega), dgt_is (show n % 10 < 10 by omega)]
theorem dec_ne (n : Nat) : Lib.decDigits n ≠ [] := by
  by_cases h : n < 10
  · rw [dec_small h]; simp
  · rw [dec_big h]; simp
theorem natF_dec (n : Nat) : natF 0 (Lib.decDigits n) = n := by
  induction n using Nat.strongRecOn with
  | ind n ih =>
    by_cases h : n < 10
    · rw [dec_small h, natF_cons, natF_nil, dgt_nat h]; omega
    · rw [dec_big h, natF_snoc, ih (n / 10) (by omega), dgt_nat (by omega)]; omega
theorem dec_head (n : Nat) (h : 0 < n) : (Lib.decDigits n)[0]? ≠ some 48 := by
  induction n using Nat.strongRecOn with
  | ind n ih =>
    by_cases h1 : n < 10
    · rw [dec_small h1]
      simp only [List.getElem?_cons_zero, ne_eq, Option.some.injEq]
      intro e
      have := congrArg UInt8.toNat e
      rw [dgt_nat h1] at this
      simp at this; omega
    · rw [dec_big h1, List.getElem?_append_left (by have := dec_ne (n / 10); cases hx : Lib.decDigits (n / 10) with | nil => exact absurd hx this | cons => simp)]
      exact ih (n / 10) (by omega) (by omega)
theorem dec_canon (n : Nat) : canonB (Lib.decDigits n) = true := by
  unfold canonB
  by_cases h : n = 0
  · subst h; rw [dec_small (by omega)]; simp [dgt]
  · simp [dec_ne n, dec_head n (by omega)]
theorem dec_natF (d : Bytes) : d.all isD = true → canonB d = true → Lib.decDigits (natF 0 d) = d := by
  have key : ∀ (n : Nat) (d : Bytes), d.length = n → d.all isD = true → d ≠ [] → d[0]? ≠ some 48 → Lib.decDigits (natF 0 d) = d ∧ 0 < natF 0 d := by
    intro n
    induction n with
    | zero => intro d h _ hne; exact absurd (List.length_eq_zero_iff.1 h) hne
    | succ n ih =>
      intro d hl ha hne h0
      obtain ⟨e, c, rfl⟩ : ∃ e c, d = e ++ [c] := ⟨d.dropLast, d.getLast hne, (List.dropLast_concat_getLast hne).symm⟩
      simp only [List.all_append, List.all_cons, List.all_nil, Bool.and_true, Bool.and_eq_true] at ha
      have hc := (isD_iff c).1 ha.2
      simp only [List.length_append, List.length_cons, List.length_nil, Nat.zero_add, Nat.add_right_cancel_iff] at hl
      rw [natF_snoc]
      cases e with
      | nil =>
        simp only [natF_nil, Nat.zero_mul, Nat.zero_add, List.nil_append] at *
        rw [dec_small (by omega), dgt_of ha.2]
        refine ⟨rfl, ?_⟩
        rcases Nat.eq_zero_or_pos (c.toNat - 48) with hz | hz
        · exact absurd (by simp; exact UInt8.toNat_inj.1 (by simp; omega)) h0
        · exact hz
      | cons x e =>
        obtain ⟨h1, h2⟩ := ih (x :: e) hl ha.1 (by simp) (by simpa using h0)
        rw [dec_big (by omega), show (natF 0 (x :: e) * 10 + (c.toNat - 48)) / 10 = natF 0 (x :: e) by omega, h1, show (natF 0 (x :: e) * 10 + (c.toNat - 48)) % 10 = c.toNat - 48 by omega, dgt_of ha.2]
        exact ⟨rfl, by omega⟩
  intro ha hc
  unfold canonB at hc
  by_cases h : d = [48]
  · subst h; exact dec_small (n := 0) (by decide)
  · simp only [h, decide_false, Bool.false_or, Bool.and_eq_true, Bool.not_eq_true', decide_eq_false_iff_not] at hc
    exact (key _ d rfl ha hc.1 hc.2).1

/-- what strconv.Atoi makes of digits -/
theorem parse10 (l : Bytes) (h : l.all isD = true) : ∀ acc, acc < 18446744073709551616 → Lib.parseUint10 acc l = if natF acc l < 18446744073709551616 then .ok (natF acc l) else .range := by
  induction l with
  | nil => intro acc ha; rw [natF_nil, if_pos ha]; rfl
  | cons c l ih =>
    intro acc ha
    simp only [List.all_cons, Bool.and_eq_true] at h
    have hc := (isD_iff c).1 h.1
    rw [natF_cons]
    simp only [Lib.parseUint10]
    rw [if_pos hc]
    have hm : acc * 10 + (c.toNat - 48) ≤ natF (acc * 10 + (c.toNat - 48)) l := by
      have := natF_low l (acc * 10 + (c.toNat - 48))
      refine Nat.le_trans ?_ this
      exact Nat.le_mul_of_pos_right _ (Nat.pow_pos (by omega))
    split
    · rename_i h1
      rw [if_neg (by omega)]
    · split
      · rw [if_neg (by omega)]
      · exact ih h.2 _ (by omega)
theorem atoi_dig (d : Bytes) (h : d.all isD = true) (hne : d ≠ []) : Lib.atoiAll d = if natF 0 d < 9223372036854775808 then .ok (natF 0 d : Int) else .range := by
  cases d with
  | nil => exact absurd rfl hne
  | cons c r =>
    have hc := (isD_iff c).1 (by simp only [List.all_cons, Bool.and_eq_true] at h; exact h.1)
    unfold Lib.atoiAll
    simp only
    rw [if_neg (show ¬ (c.toNat = 43 ∨ c.toNat = 45) by omega)]
    unfold Lib.parseMag
    rw [if_neg (by simp), parse10 _ h 0 (by omega)]
    have h45 : ¬ c.toNat = 45 := by omega
    by_cases h1 : natF 0 (c :: r) < 18446744073709551616
    · rw [if_pos h1]
      simp only [h45, not_false_eq_true, true_and, false_and, if_false]
      by_cases h2 : natF 0 (c :: r) < 9223372036854775808
      · rw [if_neg (by omega), if_pos h2]
      · rw [if_pos (by omega), if_neg h2]
    · rw [if_neg h1]
      simp only
      rw [if_neg (by omega)]

/-- of two lists of digits of one length the lesser one spells the lesser number -/
theorem less_natF : ∀ (x y : Bytes), x.length = y.length → x.all isD = true → y.all isD = true → ∀ a, (Op.bytesLess x y = true ↔ natF a x < natF a y)
  | [], [], _, _, _, a => by simp [Op.bytesLess]
  | [], _ :: _, h, _, _, _ => by simp at h
  | _ :: _, [], h, _, _, _ => by simp at h
  | c :: x, d :: y, h, hx, hy, a => by
    simp only [List.all_cons, Bool.and_eq_true] at hx hy
    have hc := (isD_iff c).1 hx.1
    have hd := (isD_iff d).1 hy.1
    simp only [List.length_cons, Nat.add_right_cancel_iff] at h
    have ih := less_natF x y h hx.2 hy.2
    simp only [Op.bytesLess, natF_cons, Bool.or_eq_true, decide_eq_true_eq, Bool.and_eq_true, beq_iff_eq]
    have lex : ∀ (p q : Nat) (x y : Bytes), x.length = y.length → x.all isD = true → p < q → natF p x < natF q y := fun p q x y hl hx hpq => by
      have h1 := natF_high x hx p
      have h2 := natF_low y q
      rw [hl] at h1
      exact Nat.lt_of_lt_of_le h1 (Nat.le_trans (Nat.mul_le_mul_right _ hpq) h2)
    rcases Nat.lt_trichotomy c.toNat d.toNat with hlt | heq | hgt
    · refine ⟨fun _ => lex _ _ x y h hx.2 (by omega), fun _ => .inl (UInt8.lt_iff_toNat_lt.2 hlt)⟩
    · have e := UInt8.toNat_inj.1 heq
      subst e
      rw [← ih (a * 10 + (c.toNat - 48))]
      refine ⟨fun h => ?_, fun h => .inr ⟨rfl, h⟩⟩
      rcases h with h | h
      · exact absurd (UInt8.lt_iff_toNat_lt.1 h) (by omega)
      · exact h.2
    · refine ⟨fun h => ?_, fun h' => ?_⟩
      · rcases h with h | h
        · have := UInt8.lt_iff_toNat_lt.1 h; omega
        · have := h.1; subst this; omega
      · have := lex (a * 10 + (d.toNat - 48)) (a * 10 + (c.toNat - 48)) y x h.symm hy.2 (by omega)
        omega

/-! ### insertion from the right -/
/-- behind how many of the first k a number is to stand -/
def posR (t : Int) (l : List Int) : Nat → Nat
  | 0 => 0
  | k + 1 => if l.getD k 0 > t then posR t l k else k + 1
def insR (t : Int) (l : List Int) : List Int := l.take (posR t l l.length) ++ t :: l.drop (posR t l l.length)
theorem posR_le (t : Int) (l : List Int) : ∀ k, posR t l k ≤ k
  | 0 => Nat.le_refl _
  | k + 1 => by
    unfold posR
    split
    · exact Nat.le_succ_of_le (posR_le t l k)
    · exact Nat.le_refl _
theorem insR_len (t : Int) (l : List Int) : (insR t l).length = l.length + 1 := by
  have := posR_le t l l.length
  simp [insR]; omega
theorem insR_mem (t x : Int) (l : List Int) : x ∈ insR t l ↔ x = t ∨ x ∈ l := by
  unfold insR
  have : x ∈ l ↔ x ∈ l.take (posR t l l.length) ∨ x ∈ l.drop (posR t l l.length) := by rw [← List.mem_append, List.take_append_drop]
  rw [this]
  simp only [List.mem_append, List.mem_cons]
  constructor
  · rintro (h | h | h)
    · exact .inr (.inl h)
    · exact .inl h
    · exact .inr (.inr h)
  · rintro (h | h | h)
    · exact .inr (.inl h)
    · exact .inl h
    · exact .inr (.inr h)
end Go.Ab.Tt
