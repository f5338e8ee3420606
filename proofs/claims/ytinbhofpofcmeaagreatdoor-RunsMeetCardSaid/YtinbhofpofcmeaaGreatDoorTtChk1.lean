/- Identifiers, stops and routes: the program's checks and the document's give the same. -/
import Derived.Test.YtinbhofpofcmeaaGreatDoorTtChk0
import Derived.Test.YtinbhofpofcmeaaGreatDoorSh2
namespace Go.Ab.Tt
set_option maxRecDepth 100000
set_option linter.unusedVariables false

theorem ident_ok (s : Bytes) (hs : s.length ≤ maxLen) : ident_Valid_M [.str s] = some (.bool (validB s)) := by
  have hm := maxLen_lt
  simp only [ident_Valid_M, ident_Valid, asStr, bind_some']
  refine (loop_bytes s hs identByte (some (.bool false)) (some (.bool (decide ((s.length : Int) > 0) && decide ((s.length : Int) ≤ 32)))) (fun k hk rec => ?_) (fun rec => ?_)).trans ?_
  · have h1 : (k : Int) < (s.length : Int) := by omega
    simp only [ident_Valid_L1, decide_eq_true_eq, h1, if_true, idxB_nat, List.getElem?_eq_getElem hk, bind_some', bif_and, wrap_nat (show k < 9223372036854775807 by omega), beq_d]
    generalize s[k] = b
    unfold identByte
    generalize (decide (97 ≤ (b.toNat : Int)) && decide ((b.toNat : Int) ≤ 122)) = x1
    generalize (decide (65 ≤ (b.toNat : Int)) && decide ((b.toNat : Int) ≤ 90)) = x2
    generalize (decide (48 ≤ (b.toNat : Int)) && decide ((b.toNat : Int) ≤ 57)) = x3
    by_cases e4 : (b.toNat : Int) = 45 <;> by_cases e5 : (b.toNat : Int) = 95 <;> by_cases e6 : (b.toNat : Int) = 46 <;> cases x1 <;> cases x2 <;> cases x3 <;> simp [e4, e5, e6]
  · simp only [ident_Valid_L1, decide_eq_true_eq, Int.lt_irrefl, if_false, bif_and, bind_some']
  · unfold validB
    cases s.all identByte with
    | true =>
      simp only [if_true, Bool.and_true, Option.some.injEq, PV.bool.injEq]
      rw [Bool.eq_iff_iff]
      simp only [Bool.and_eq_true, decide_eq_true_eq]
      omega
    | false => simp

theorem bytes_ref {body : Bytes × Int × Unit → (Bytes × Int × Unit → Option PV) → Option PV} (s : Bytes) (hs : s.length ≤ maxLen) (h : ∀ k, (hk : k < s.length) → ∀ rec, body (s, (k : Int), ()) rec = if identByte s[k] then rec (s, ((k + 1 : Nat) : Int), ()) else some (.bool false))
    (hend : ∀ rec, body (s, (s.length : Int), ()) rec = some (.bool true)) {c : Bool} (hc : c = !(decide (1 ≤ s.length) && decide (s.length ≤ 32))) : (if c = true then some (.bool false) else lpS.run body (s, 0, ())) = some (.bool (validB s)) := by
  rw [loop_bytes s hs identByte _ _ h hend, hc]
  unfold validB
  cases s.all identByte <;> cases (decide (1 ≤ s.length) && decide (s.length ≤ 32)) <;> rfl

theorem ref05_ok (s : Bytes) (hs : s.length ≤ maxLen) : ref05_Valid_M [.str s] = some (.bool (validB s)) := by
  have hm := maxLen_lt
  simp only [ref05_Valid_M, ref05_Valid, asStr, bind_some', bif_or']
  refine bytes_ref s hs (fun k hk rec => ?_) (fun rec => ?_) ?_
  · have h1 : (k : Int) < (s.length : Int) := by omega
    simp only [ref05_Valid_L1, decide_eq_true_eq, h1, if_true, idxB_nat, List.getElem?_eq_getElem hk, bind_some', bif_and, bif_or', wrap_nat (show k < 9223372036854775807 by omega), bne_d]
    generalize s[k] = b
    unfold identByte
    simp only [ge_iff_le]
    generalize (decide (97 ≤ (b.toNat : Int)) && decide ((b.toNat : Int) ≤ 122)) = x1
    generalize (decide (65 ≤ (b.toNat : Int)) && decide ((b.toNat : Int) ≤ 90)) = x2
    generalize (decide (48 ≤ (b.toNat : Int)) && decide ((b.toNat : Int) ≤ 57)) = x3
    by_cases e4 : (b.toNat : Int) = 45 <;> by_cases e5 : (b.toNat : Int) = 95 <;> by_cases e6 : (b.toNat : Int) = 46 <;> cases x1 <;> cases x2 <;> cases x3 <;> simp [e4, e5, e6]
  · simp only [ref05_Valid_L1, decide_eq_true_eq, Int.lt_irrefl, if_false]
  · rw [Bool.eq_iff_iff]
    simp only [beq_d, Bool.or_eq_true, Bool.not_eq_true', Bool.and_eq_false_iff, decide_eq_true_eq, decide_eq_false_iff_not]
    omega

theorem ref13id_ok (s : Bytes) (hs : s.length ≤ maxLen) : ref13_Identifier_M [.str s] = some (.bool (validB s)) := by
  have hm := maxLen_lt
  simp only [ref13_Identifier_M, ref13_Identifier, asStr, bind_some', bif_or']
  refine bytes_ref s hs (fun k hk rec => ?_) (fun rec => ?_) ?_
  · have h1 : (k : Int) < (s.length : Int) := by omega
    simp only [ref13_Identifier_L1, decide_eq_true_eq, h1, if_true, idxB_nat, List.getElem?_eq_getElem hk, bind_some', bif_and, bif_or', wrap_nat (show k < 9223372036854775807 by omega), beq_d]
    generalize s[k] = b
    unfold identByte
    simp only [ge_iff_le]
    generalize (decide (97 ≤ (b.toNat : Int)) && decide ((b.toNat : Int) ≤ 122)) = x1
    generalize (decide (65 ≤ (b.toNat : Int)) && decide ((b.toNat : Int) ≤ 90)) = x2
    generalize (decide (48 ≤ (b.toNat : Int)) && decide ((b.toNat : Int) ≤ 57)) = x3
    by_cases e4 : (b.toNat : Int) = 45 <;> by_cases e5 : (b.toNat : Int) = 95 <;> by_cases e6 : (b.toNat : Int) = 46 <;> cases x1 <;> cases x2 <;> cases x3 <;> simp [e4, e5, e6]
  · simp only [ref13_Identifier_L1, decide_eq_true_eq, Int.lt_irrefl, if_false]
  · rw [Bool.eq_iff_iff]
    simp only [beq_d, Bool.or_eq_true, Bool.not_eq_true', Bool.and_eq_false_iff, decide_eq_true_eq, decide_eq_false_iff_not]
    omega

theorem ref15name_ok (s : Bytes) (hs : s.length ≤ maxLen) : ref15_Name_M [.str s] = some (.bool (validB s)) := by
  have hm := maxLen_lt
  simp only [ref15_Name_M, ref15_Name, asStr, bind_some', bif_or']
  refine bytes_ref s hs (fun k hk rec => ?_) (fun rec => ?_) ?_
  · have h1 : (k : Int) < (s.length : Int) := by omega
    simp only [ref15_Name_L1, decide_eq_true_eq, h1, if_true, idxB_nat, List.getElem?_eq_getElem hk, bind_some', bif_and, bif_or', wrap_nat (show k < 9223372036854775807 by omega), beq_d]
    generalize s[k] = b
    unfold identByte
    simp only [ge_iff_le]
    generalize (decide (97 ≤ (b.toNat : Int)) && decide ((b.toNat : Int) ≤ 122)) = x1
    generalize (decide (65 ≤ (b.toNat : Int)) && decide ((b.toNat : Int) ≤ 90)) = x2
    generalize (decide (48 ≤ (b.toNat : Int)) && decide ((b.toNat : Int) ≤ 57)) = x3
    by_cases e4 : (b.toNat : Int) = 45 <;> by_cases e5 : (b.toNat : Int) = 95 <;> by_cases e6 : (b.toNat : Int) = 46 <;> cases x1 <;> cases x2 <;> cases x3 <;> simp [e4, e5, e6]
  · simp only [ref15_Name_L1, decide_eq_true_eq, Int.lt_irrefl, if_false]
  · rw [Bool.eq_iff_iff]
    simp only [beq_d, Bool.or_eq_true, Bool.not_eq_true', Bool.and_eq_false_iff, decide_eq_true_eq, decide_eq_false_iff_not]
    omega

/-! ### stops -/
def stopErr (l : List Stop) (k : Nat) : Int := match l[k]? with
  | none => 0
  | some x => if validB x.id = false then 12 else if x.id ∈ (l.map Stop.id).take k then 6 else if (decide (x.zone < 0) || decide (x.zone ≥ 16) || decide (x.change < 0) || decide (x.change > 3600)) = true then 2 else 0
def stopRes (l : List Stop) : Int × Int := if l.length > 64 then (0, 5) else scanE (stopErr l) l.length

theorem stop_prog (l : List Stop) (hl : l.length ≤ maxLen ∧ ∀ y ∈ l, y.Ok) : stop_Check_M [.rs 4 (l.map Stop.pv)] = some (res (stopRes l).1 (stopRes l).2) := by
  have hm := maxLen_lt
  simp only [stop_Check_M, stop_Check, asSl, if_true, bind_some', List.length_map]
  unfold stopRes
  by_cases h64 : l.length > 64
  · rw [if_pos (by simp; omega), if_pos h64]; rfl
  · rw [if_neg (by simp; omega), if_neg h64, ← scanE_eq]
    refine loop_scan' (fun k => (l.map Stop.pv, (l.length : Int), (k : Int), seen PV.str ((l.map Stop.id).take k), ())) l.length _ (fun k hk rec => ?_) (fun rec => ?_) ?_ rfl
    · have h1 : (k : Int) < (l.length : Int) := by omega
      have hid := ident_ok l[k].id (hl.2 _ (List.getElem_mem hk)).id
      have hput := seen_put str_key l[k].id ((l.map Stop.id).take k)
      have hlook := seen_look str_key l[k].id ((l.map Stop.id).take k)
      simp only [stop_Check_L1, decide_eq_true_eq, h1, if_true, idxP_nat, List.getElem?_map, List.getElem?_eq_getElem hk, Option.map_some, bind_some', Stop.pv, cell, PV.cells, List.getD_cons_zero, List.getD_cons_succ, asStr, asInt, asBool, hid, hput, hlook, bif_or', wrap_nat (show k < 9223372036854775807 by omega), ids_snoc Stop.id l k hk]
      unfold stopErr
      rw [List.getElem?_eq_getElem hk]
      simp only
      generalize (decide (l[k].zone < 0) || decide (l[k].zone ≥ 16) || decide (l[k].change < 0) || decide (l[k].change > 3600)) = c
      cases validB l[k].id with
      | false => rfl
      | true =>
        by_cases hmem : l[k].id ∈ (l.map Stop.id).take k
        · simp only [hmem, if_true, Bool.not_true, Bool.false_eq_true, Bool.true_eq_false, if_false]; rfl
        · simp only [hmem, if_true, Bool.not_true, Bool.false_eq_true, Bool.true_eq_false, if_false]
          cases c <;> rfl
    · simp only [stop_Check_L1, decide_eq_true_eq, Int.lt_irrefl, if_false]; rfl
    · have := rounds_gt; omega
end Go.Ab.Tt
