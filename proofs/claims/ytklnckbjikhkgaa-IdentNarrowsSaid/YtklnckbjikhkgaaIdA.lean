/- Strings: identifiers, comparisons, the first bad element of a list: the program's and the document's. -/
import Derived.Test.YtklnckbjikhkgaaAbTxt
import Derived.Test.YtklnckbjikhkgaaSh1
namespace Go.Ab.Tt
set_option maxRecDepth 100000
set_option linter.unusedVariables false

theorem ident_ok (s : Bytes) (hs : s.length ≤ maxLen) : ident_Valid_M [.str s] = some (.bool (validB s)) := by
  have hm := maxLen_lt
  simp only [ident_Valid_M, ident_Valid, asStr, bind_some']
  refine (loop_bytes s hs identByte (some (.bool false)) (some (.bool (decide ((s.length : Int) > 0) && decide ((s.length : Int) ≤ 32)))) (fun k hk rec => ?_) (fun rec => ?_)).trans ?_
  · have h1 : (k : Int) < (s.length : Int) := by omega
    simp only [ident_Valid_L1, decide_eq_true_eq, h1, if_true, idxB_nat, List.getElem?_eq_getElem hk, bind_some', bif_and, wrap_nat (show k < 9223372036854775807 by omega), beq_d]
    generalize s[k] = b
    unfold identByte
    generalize (decide (97 ≤ (b.toNat : Int)) && decide ((b.toNat : Int) ≤ 122)) = x1
    generalize (decide (65 ≤ (b.toNat : Int)) && decide ((b.toNat : Int) ≤ 90)) = x2
    generalize (decide (48 ≤ (b.toNat : Int)) && decide ((b.toNat : Int) ≤ 57)) = x3
    by_cases e4 : (b.toNat : Int) = 45 <;> by_cases e5 : (b.toNat : Int) = 95 <;> by_cases e6 : (b.toNat : Int) = 46 <;> cases x1 <;> cases x2 <;> cases x3 <;> simp [e4, e5, e6]
  · simp only [ident_Valid_L1, decide_eq_true_eq, Int.lt_irrefl, if_false, bif_and, bind_some']
  · unfold validB
    cases s.all identByte with
    | true =>
      simp only [if_true, Bool.and_true, Option.some.injEq, PV.bool.injEq]
      rw [Bool.eq_iff_iff]
      simp only [Bool.and_eq_true, decide_eq_true_eq]
      omega
    | false => simp

theorem bytes_ref {body : Bytes × Int × Unit → (Bytes × Int × Unit → Option PV) → Option PV} (s : Bytes) (hs : s.length ≤ maxLen) (h : ∀ k, (hk : k < s.length) → ∀ rec, body (s, (k : Int), ()) rec = if identByte s[k] then rec (s, ((k + 1 : Nat) : Int), ()) else some (.bool false))
    (hend : ∀ rec, body (s, (s.length : Int), ()) rec = some (.bool true)) {c : Bool} (hc : c = !(decide (1 ≤ s.length) && decide (s.length ≤ 32))) : (if c = true then some (.bool false) else lpS.run body (s, 0, ())) = some (.bool (validB s)) := by
  rw [loop_bytes s hs identByte _ _ h hend, hc]
  unfold validB
  cases s.all identByte <;> cases (decide (1 ≤ s.length) && decide (s.length ≤ 32)) <;> rfl

theorem ref05_ok (s : Bytes) (hs : s.length ≤ maxLen) : ref05_Valid_M [.str s] = some (.bool (validB s)) := by
  have hm := maxLen_lt
  simp only [ref05_Valid_M, ref05_Valid, asStr, bind_some', bif_or']
  refine bytes_ref s hs (fun k hk rec => ?_) (fun rec => ?_) ?_
  · have h1 : (k : Int) < (s.length : Int) := by omega
    simp only [ref05_Valid_L1, decide_eq_true_eq, h1, if_true, idxB_nat, List.getElem?_eq_getElem hk, bind_some', bif_and, bif_or', wrap_nat (show k < 9223372036854775807 by omega), bne_d]
    generalize s[k] = b
    unfold identByte
    simp only [ge_iff_le]
    generalize (decide (97 ≤ (b.toNat : Int)) && decide ((b.toNat : Int) ≤ 122)) = x1
    generalize (decide (65 ≤ (b.toNat : Int)) && decide ((b.toNat : Int) ≤ 90)) = x2
    generalize (decide (48 ≤ (b.toNat : Int)) && decide ((b.toNat : Int) ≤ 57)) = x3
    by_cases e4 : (b.toNat : Int) = 45 <;> by_cases e5 : (b.toNat : Int) = 95 <;> by_cases e6 : (b.toNat : Int) = 46 <;> cases x1 <;> cases x2 <;> cases x3 <;> simp [e4, e5, e6]
  · simp only [ref05_Valid_L1, decide_eq_true_eq, Int.lt_irrefl, if_false]
  · rw [Bool.eq_iff_iff]
    simp only [beq_d, Bool.or_eq_true, Bool.not_eq_true', Bool.and_eq_false_iff, decide_eq_true_eq, decide_eq_false_iff_not]
    omega


/-! ### comparisons -/
def cmpB (a b : Bytes) : Int := if Op.bytesLess a b = true then -1 else if a = b then 0 else 1
theorem less_irrefl : ∀ a : Bytes, Op.bytesLess a a = false
  | [] => rfl
  | x :: a => by simp [Op.bytesLess, less_irrefl a]
theorem less_trans : ∀ {a b c : Bytes}, Op.bytesLess a b = true → Op.bytesLess b c = true → Op.bytesLess a c = true
  | [], [], _, h, _ => by simp [Op.bytesLess] at h
  | [], _ :: _, [], _, h => by simp [Op.bytesLess] at h
  | [], _ :: _, _ :: _, _, _ => rfl
  | _ :: _, [], _, h, _ => by simp [Op.bytesLess] at h
  | _ :: _, _ :: _, [], _, h => by simp [Op.bytesLess] at h
  | x :: a, y :: b, z :: c, h1, h2 => by
    simp only [Op.bytesLess, Bool.or_eq_true, Bool.and_eq_true, decide_eq_true_eq, beq_iff_eq] at h1 h2 ⊢
    rcases h1 with h1 | ⟨rfl, h1⟩
    · rcases h2 with h2 | ⟨rfl, h2⟩
      · exact .inl (UInt8.lt_trans h1 h2)
      · exact .inl h1
    · rcases h2 with h2 | ⟨rfl, h2⟩
      · exact .inl h2
      · exact .inr ⟨rfl, less_trans h1 h2⟩
theorem less_total : ∀ (a b : Bytes), Op.bytesLess a b = false → Op.bytesLess b a = false → a = b
  | [], [], _, _ => rfl
  | [], _ :: _, h, _ => by simp [Op.bytesLess] at h
  | _ :: _, [], _, h => by simp [Op.bytesLess] at h
  | x :: a, y :: b, h1, h2 => by
    simp only [Op.bytesLess, Bool.or_eq_false_iff, Bool.and_eq_false_iff, decide_eq_false_iff_not, beq_eq_false_iff_ne, ne_eq] at h1 h2
    have hxy : x = y := by
      have e1 := h1.1; have e2 := h2.1
      exact UInt8.le_antisymm (UInt8.not_lt.1 e2) (UInt8.not_lt.1 e1)
    subst hxy
    have e1 : Op.bytesLess a b = false := by rcases h1.2 with h | h; exact absurd rfl h; exact h
    have e2 : Op.bytesLess b a = false := by rcases h2.2 with h | h; exact absurd rfl h; exact h
    rw [less_total a b e1 e2]
theorem cmp_prog (a b : Bytes) : ident_Compare_M [.str a, .str b] = some (.int .i64 (cmpB a b)) := by
  simp only [ident_Compare_M, ident_Compare, asStr, bind_some']
  unfold cmpB
  by_cases h : Op.bytesLess a b = true
  · rw [if_pos h, if_pos h]
  · rw [if_neg h, if_neg h]
    by_cases e : a = b
    · subst e; simp
    · rw [if_neg e, if_pos (by simp [h, e])]
def rc : Bytes → Bytes → Int
  | [], [] => 0
  | [], _ :: _ => -1
  | _ :: _, [] => 1
  | x :: a, y :: b => if x < y then -1 else if y < x then 1 else rc a b
theorem rc_cmp : ∀ a b : Bytes, rc a b = cmpB a b
  | [], [] => rfl
  | [], _ :: _ => rfl
  | _ :: _, [] => rfl
  | x :: a, y :: b => by
    unfold rc
    rw [rc_cmp a b]
    unfold cmpB
    simp only [Op.bytesLess, Bool.or_eq_true, Bool.and_eq_true, decide_eq_true_eq, beq_iff_eq, List.cons.injEq]
    by_cases h : x < y
    · simp [h]
    · by_cases h2 : y < x
      · have hne : ¬ x = y := fun e => by subst e; exact h h2
        simp [h, h2, hne]
      · have hxy : x = y := UInt8.le_antisymm (UInt8.not_lt.1 h2) (UInt8.not_lt.1 h)
        subst hxy
        simp [h]
def badC (a b : Bytes) (k : Nat) : Option (Option PV) := (a[k]?).bind fun x => (b[k]?).bind fun y => if x < y then some (some (.int .i64 (-1))) else if y < x then some (some (.int .i64 1)) else none
def finC (a b : Bytes) : Option PV := if a.length < b.length then some (.int .i64 (-1)) else if b.length < a.length then some (.int .i64 1) else some (.int .i64 0)
theorem scanC : ∀ a b : Bytes, orFin ((List.range (min a.length b.length)).findSome? (badC a b)) (finC a b) = some (.int .i64 (rc a b))
  | [], [] => rfl
  | [], _ :: _ => by simp [finC, orFin, rc]
  | _ :: _, [] => by simp [finC, orFin, rc]
  | x :: a, y :: b => by
    have ih := scanC a b
    rw [List.length_cons, List.length_cons, Nat.add_min_add_right, List.range_succ_eq_map, List.findSome?_cons]
    have h0 : badC (x :: a) (y :: b) 0 = if x < y then some (some (.int .i64 (-1))) else if y < x then some (some (.int .i64 1)) else none := rfl
    have hs : (List.map Nat.succ (List.range (min a.length b.length))).findSome? (badC (x :: a) (y :: b)) = (List.range (min a.length b.length)).findSome? (badC a b) := by
      rw [List.findSome?_map]; rfl
    have hf : finC (x :: a) (y :: b) = finC a b := by simp [finC]
    rw [h0, hf]
    unfold rc
    by_cases h : x < y
    · simp [h, orFin]
    · by_cases h2 : y < x
      · simp [h, h2, orFin]
      · rw [if_neg h, if_neg h2, if_neg h, if_neg h2]
        simp only
        rw [hs]; exact ih
theorem cmp_ref (a b : Bytes) (ha : a.length ≤ maxLen) (hb : b.length ≤ maxLen) : ref05_Compare_M [.str a, .str b] = some (.int .i64 (cmpB a b)) := by
  have hm := maxLen_lt
  simp only [ref05_Compare_M, ref05_Compare, asStr, bind_some']
  refine (loop_scan' (fun k => (a, b, (k : Int), ())) (min a.length b.length) (badC a b) (fin := finC a b) (fun k hk rec => ?_) (fun rec => ?_) ?_ rfl).trans ?_
  · have h1 : (k : Int) < (a.length : Int) := by omega
    have h2 : (k : Int) < (b.length : Int) := by omega
    have hka : k < a.length := by omega
    have hkb : k < b.length := by omega
    simp only [ref05_Compare_L1, h1, h2, decide_true, cond_true, bind_some', if_true, idxB_nat, List.getElem?_eq_getElem hka, List.getElem?_eq_getElem hkb, badC, Option.bind_some, decide_eq_true_eq, wrap_nat (show k < 9223372036854775807 by omega)]
    have e1 : ((a[k].toNat : Int) < (b[k].toNat : Int)) ↔ a[k] < b[k] := by rw [UInt8.lt_iff_toNat_lt]; omega
    have e2 : ((a[k].toNat : Int) > (b[k].toNat : Int)) ↔ b[k] < a[k] := by rw [UInt8.lt_iff_toNat_lt]; omega
    by_cases h3 : a[k] < b[k]
    · rw [if_pos (e1.2 h3), if_pos h3]; rfl
    · rw [if_neg (fun h => h3 (e1.1 h)), if_neg h3]
      by_cases h4 : b[k] < a[k]
      · rw [if_pos (e2.2 h4), if_pos h4]; rfl
      · rw [if_neg (fun h => h4 (e2.1 h)), if_neg h4]; rfl
  · have h1 : (bif decide (((min a.length b.length : Nat) : Int) < (a.length : Int)) then some (decide (((min a.length b.length : Nat) : Int) < (b.length : Int))) else some false) = some false := by
      by_cases h : ((min a.length b.length : Nat) : Int) < (a.length : Int)
      · rw [decide_eq_true h, cond_true]
        congr 1
        simp only [decide_eq_false_iff_not]; omega
      · rw [decide_eq_false h, cond_false]
    simp only [ref05_Compare_L1, h1, bind_some', Bool.false_eq_true, if_false, decide_eq_true_eq, finC]
    by_cases h2 : a.length < b.length
    · rw [if_pos (by omega), if_pos h2]
    · rw [if_neg (by omega), if_neg h2]
      by_cases h3 : b.length < a.length
      · rw [if_pos (by omega), if_pos h3]
      · rw [if_neg (by omega), if_neg h3]
  · have := rounds_gt; omega
  · rw [scanC, rc_cmp]
end Go.Ab.Tt
