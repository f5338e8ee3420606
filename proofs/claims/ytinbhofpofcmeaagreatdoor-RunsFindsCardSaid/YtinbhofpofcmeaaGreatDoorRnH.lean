/- Keys of runs: digits, numbers, how a key is made and taken apart; the program and the document give the same. -/
import Derived.Test.YtinbhofpofcmeaaGreatDoorRnR
import Derived.Test.YtinbhofpofcmeaaGreatDoorRnA
namespace Go.Ab.Tt
set_option maxRecDepth 100000
set_option linter.unusedVariables false
set_option linter.unusedSimpArgs false

/-! ### taking a text apart at a byte -/
def splitB (c : UInt8) : Bytes → Option (Bytes × Bytes)
  | [] => none
  | x :: r => if x = c then some ([], r) else (splitB c r).map fun p => (x :: p.1, p.2)
theorem splitB_some {c : UInt8} : ∀ {s a b : Bytes}, splitB c s = some (a, b) → s = a ++ c :: b ∧ c ∉ a
  | [], a, b, h => by cases h
  | x :: r, a, b, h => by
    unfold splitB at h
    split at h
    · rename_i e
      simp only [Option.some.injEq, Prod.mk.injEq] at h
      obtain ⟨rfl, rfl⟩ := h
      subst e
      exact ⟨rfl, by simp⟩
    · rename_i hne
      obtain ⟨⟨a', b'⟩, hp, he⟩ := Option.map_eq_some_iff.1 h
      simp only [Prod.mk.injEq] at he
      obtain ⟨rfl, rfl⟩ := he
      obtain ⟨h1, h2⟩ := splitB_some hp
      exact ⟨by rw [h1]; rfl, by simp only [List.mem_cons, not_or]; exact ⟨fun e => hne e.symm, h2⟩⟩
theorem splitB_app {c : UInt8} : ∀ {a : Bytes} (b : Bytes), c ∉ a → splitB c (a ++ c :: b) = some (a, b)
  | [], b, _ => by simp [splitB]
  | x :: a, b, h => by
    simp only [List.mem_cons, not_or] at h
    simp only [List.cons_append, splitB]
    rw [if_neg (fun e => h.1 e.symm), splitB_app b h.2]
    rfl
theorem splitB_none {c : UInt8} : ∀ {s : Bytes}, splitB c s = none → c ∉ s
  | [], _ => by simp
  | x :: r, h => by
    unfold splitB at h
    split at h
    · cases h
    · rename_i hne
      simp only [List.mem_cons, not_or]
      exact ⟨fun e => hne e.symm, splitB_none (Option.map_eq_none_iff.1 h)⟩
def placeN (c : UInt8) (s : Bytes) : Nat := match splitB c s with | some p => p.1.length | none => s.length
theorem placeN_le (c : UInt8) (s : Bytes) : placeN c s ≤ s.length := by
  unfold placeN
  split
  · rename_i p hp
    obtain ⟨h1, _⟩ := splitB_some (a := p.1) (b := p.2) hp
    rw [h1]; simp
  · exact Nat.le_refl _
theorem placeN_lt (c : UInt8) (s : Bytes) (k : Nat) (h : k < placeN c s) : ∃ x, s[k]? = some x ∧ x ≠ c := by
  unfold placeN at h
  split at h
  · rename_i p hp
    obtain ⟨h1, h2⟩ := splitB_some (a := p.1) (b := p.2) hp
    refine ⟨p.1[k], ?_, fun e => h2 (e ▸ List.getElem_mem h)⟩
    rw [h1, List.getElem?_append_left h, List.getElem?_eq_getElem h]
  · rename_i hn
    exact ⟨s[k], List.getElem?_eq_getElem h, fun e => splitB_none hn (e ▸ List.getElem_mem h)⟩
theorem placeN_at (c : UInt8) (s : Bytes) (h : placeN c s < s.length) : s[placeN c s]? = some c := by
  cases hp : splitB c s with
  | some p =>
    have e : placeN c s = p.1.length := by unfold placeN; rw [hp]
    obtain ⟨h1, h2⟩ := splitB_some (a := p.1) (b := p.2) hp
    rw [e, h1]; simp
  | none =>
    have e : placeN c s = s.length := by unfold placeN; rw [hp]
    omega
theorem index_split (c : UInt8) : ∀ s : Bytes, Lib.indexByte s c = match splitB c s with | some p => (p.1.length : Int) | none => -1
  | [] => rfl
  | x :: r => by
    unfold Lib.indexByte splitB
    rw [index_split c r]
    by_cases e : x = c
    · simp [e]
    · rw [if_neg (by simpa using e), if_neg e]
      cases splitB c r with
      | none => rfl
      | some p =>
        rw [if_neg (by simp <;> omega)]
        simp
theorem byte_ne (b c : UInt8) : ((b.toNat : Int) != (c.toNat : Int)) = !decide (b = c) := by
  rw [bne_d]
  congr 1
  rw [Bool.eq_iff_iff, decide_eq_true_eq, decide_eq_true_eq]
  exact ⟨fun h => UInt8.toNat_inj.1 (by omega), fun h => by rw [h]⟩
theorem place_ref (c : UInt8) (ci : Int) (hc : ci = (c.toNat : Int)) (s : Bytes) (hs : s.length ≤ maxLen) : ref25_place_M [.str s, .int .u8 ci] = some (.int .i64 (placeN c s)) := by
  subst hc
  have hm := maxLen_lt
  have hle := placeN_le c s
  simp only [ref25_place_M, ref25_place, asStr, asInt, if_true, bind_some']
  refine loop_until (fun k => (s, (c.toNat : Int), (k : Int), ())) (placeN c s) (fun k hk rec => ?_) (fun rec => ?_) ?_ rfl
  · obtain ⟨x, hx, hne⟩ := placeN_lt c s k hk
    simp only [ref25_place_L1, show decide ((k : Int) < (s.length : Int)) = true by simp <;> omega, cond_true, idxB_nat, hx, bind_some', byte_ne, hne, decide_false, Bool.not_false, if_true, wrap_nat (show k < 9223372036854775807 by omega)]
  · by_cases h : placeN c s < s.length
    · have hx := placeN_at c s h
      simp only [ref25_place_L1, show decide ((placeN c s : Int) < (s.length : Int)) = true by simp <;> omega, cond_true, idxB_nat, hx, bind_some', byte_ne, decide_true, Bool.not_true, Bool.false_eq_true, if_false]
    · simp only [ref25_place_L1, show decide ((placeN c s : Int) < (s.length : Int)) = false by simp <;> omega, cond_false, bind_some', Bool.false_eq_true, if_false]
  · have := rounds_gt; omega

/-! ### digits -/
theorem isD_not (b : UInt8) : (decide ((b.toNat : Int) < 48) || decide ((b.toNat : Int) > 57)) = !isD b := by
  unfold isD
  rw [Bool.eq_iff_iff]
  simp
  omega
theorem tw_all : ∀ s : Bytes, (s.takeWhile isD).all isD = true
  | [] => rfl
  | x :: r => by
    rw [List.takeWhile_cons]
    split
    · rename_i h; simp [h, tw_all r]
    · rfl
theorem tw_get (s : Bytes) (k : Nat) (h : k < (s.takeWhile isD).length) : ∃ x, s[k]? = some x ∧ isD x = true := by
  have h1 : s = s.takeWhile isD ++ s.dropWhile isD := List.takeWhile_append_dropWhile.symm
  refine ⟨(s.takeWhile isD)[k], ?_, List.all_eq_true.1 (tw_all s) _ (List.getElem_mem h)⟩
  conv => lhs; rw [h1]
  rw [List.getElem?_append_left h, List.getElem?_eq_getElem h]
theorem dw_head : ∀ (s : Bytes) (x : UInt8) (r : Bytes), s.dropWhile isD = x :: r → isD x = false
  | [], x, r, h => by cases h
  | y :: s, x, r, h => by
    rw [List.dropWhile_cons] at h
    split at h
    · exact dw_head s x r h
    · rename_i hy
      simp only [List.cons.injEq] at h
      rw [← h.1]; simpa using hy
theorem app_parts (a b : Bytes) : (a ++ b).take a.length = a ∧ (a ++ b).drop a.length = b := by simp
theorem digits_prog (s : Bytes) (hs : s.length ≤ maxLen) : runs_digits_M [.str s] = some (.tup [.str (s.takeWhile isD), .str (s.dropWhile isD)]) := by
  have hm := maxLen_lt
  have h1 : s = s.takeWhile isD ++ s.dropWhile isD := List.takeWhile_append_dropWhile.symm
  have hle : (s.takeWhile isD).length ≤ s.length := by
    have := congrArg List.length h1
    rw [List.length_append] at this
    omega
  simp only [runs_digits_M, runs_digits, asStr, bind_some']
  refine loop_until (fun k => (s, (k : Int), ())) (s.takeWhile isD).length (fun k hk rec => ?_) (fun rec => ?_) ?_ rfl
  · obtain ⟨x, hx, hd⟩ := tw_get s k hk
    simp only [runs_digits_L1, show decide ((k : Int) < (s.length : Int)) = true by simp <;> omega, if_true, idxB_nat, hx, bind_some', bif_or', isD_not, hd, Bool.not_true, Bool.false_eq_true, if_false, wrap_nat (show k < 9223372036854775807 by omega)]
  · have ht : s.take (s.takeWhile isD).length = s.takeWhile isD := by
      have := (app_parts (s.takeWhile isD) (s.dropWhile isD)).1
      rw [List.takeWhile_append_dropWhile] at this
      exact this
    have hd : s.drop (s.takeWhile isD).length = s.dropWhile isD := by
      have : (s.takeWhile isD ++ s.dropWhile isD).drop (s.takeWhile isD).length = s.dropWhile isD := (app_parts _ _).2
      rwa [List.takeWhile_append_dropWhile] at this
    have c1 : (0 : Int) ≤ 0 ∧ 0 ≤ ((s.takeWhile isD).length : Int) ∧ ((s.takeWhile isD).length : Int) ≤ (s.length : Int) := by omega
    have c2 : 0 ≤ ((s.takeWhile isD).length : Int) ∧ ((s.takeWhile isD).length : Int) ≤ (s.length : Int) ∧ (s.length : Int) ≤ (s.length : Int) := by omega
    have fin : (if (0 : Int) ≤ 0 ∧ 0 ≤ ((s.takeWhile isD).length : Int) ∧ ((s.takeWhile isD).length : Int) ≤ (s.length : Int) then if 0 ≤ ((s.takeWhile isD).length : Int) ∧ ((s.takeWhile isD).length : Int) ≤ (s.length : Int) ∧ (s.length : Int) ≤ (s.length : Int) then some (PV.tup [.str (List.drop (Int.toNat 0) (List.take ((s.takeWhile isD).length : Int).toNat s)), .str (List.drop ((s.takeWhile isD).length : Int).toNat (List.take (s.length : Int).toNat s))]) else none else none) = some (.tup [.str (s.takeWhile isD), .str (s.dropWhile isD)]) := by
      rw [if_pos c1, if_pos c2, Int.toNat_natCast, Int.toNat_natCast, List.take_length, ht, hd]
      rfl
    by_cases h : (s.takeWhile isD).length < s.length
    · have hx : ∃ x, s[(s.takeWhile isD).length]? = some x ∧ isD x = false := by
        cases hw : s.dropWhile isD with
        | nil =>
          have := congrArg List.length h1
          rw [hw] at this
          simp at this; omega
        | cons x r =>
          refine ⟨x, ?_, dw_head s x r hw⟩
          have : (s.takeWhile isD ++ s.dropWhile isD)[(s.takeWhile isD).length]? = some x := by rw [hw]; simp
          rwa [List.takeWhile_append_dropWhile] at this
      obtain ⟨x, hx, hnd⟩ := hx
      simp only [runs_digits_L1, show decide (((s.takeWhile isD).length : Int) < (s.length : Int)) = true by simp <;> omega, if_true, idxB_nat, hx, bind_some', bif_or', isD_not, hnd, Bool.not_false]
      exact fin
    · simp only [runs_digits_L1, show decide (((s.takeWhile isD).length : Int) < (s.length : Int)) = false by simp <;> omega, Bool.false_eq_true, if_false]
      exact fin
  · have := rounds_gt; omega
theorem byte48 (b : UInt8) : ((b.toNat : Int) != 48) = !decide (b = 48) := byte_ne b 48
theorem canon_prog (s : Bytes) : runs_canonical_M [.str s] = some (.bool (canonB s)) := by
  simp only [runs_canonical_M, runs_canonical, asStr, bind_some', beq_d]
  unfold canonB
  cases s with
  | nil => rfl
  | cons c r =>
    have hi : idxB (c :: r) 0 = some c := rfl
    by_cases e : c :: r = [48]
    · simp [e]
    · simp only [e, decide_false, cond_false, Bool.false_or, reduceCtorEq, Bool.not_false, cond_true, hi, bind_some', byte48, Bool.true_and, List.getElem?_cons_zero, Option.some.injEq]
theorem plain_ref (s : Bytes) (hs : s.length ≤ maxLen) : ref25_plain_M [.str s] = some (.bool (s.all isD && canonB s)) := by
  simp only [ref25_plain_M, ref25_plain, asStr, bind_some']
  refine (loop_bytes s hs isD (some (.bool false)) (some (.bool (canonB s))) (fun k hk rec => ?_) (fun rec => ?_)).trans ?_
  · have hm := maxLen_lt
    simp only [ref25_plain_L1, show decide ((k : Int) < (s.length : Int)) = true by simp <;> omega, if_true, idxB_nat, List.getElem?_eq_getElem hk, bind_some', bif_or', isD_not, wrap_nat (show k < 9223372036854775807 by omega)]
    cases isD s[k] <;> rfl
  · simp only [ref25_plain_L1, Int.lt_irrefl, decide_false, Bool.false_eq_true, if_false]
    unfold canonB
    cases s with
    | nil => rfl
    | cons c r =>
      have hi : idxB (c :: r) 0 = some c := rfl
      cases r with
      | nil => simp [hi, byte48]
      | cons d r =>
        have h1 : (((c :: d :: r).length : Int) == 1) = false := by rw [beq_eq_false_iff_ne]; simp <;> omega
        have h2 : decide (((c :: d :: r).length : Int) > 1) = true := by simp <;> omega
        simp only [h1, cond_false, h2, cond_true, hi, bind_some', byte48]
        simp
  · cases s.all isD <;> rfl
end Go.Ab.Tt
