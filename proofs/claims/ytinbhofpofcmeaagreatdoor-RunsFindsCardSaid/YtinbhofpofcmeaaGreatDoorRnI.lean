/- Keys of runs, made and taken apart: the program and the document give the same, and one inverts the other. -/
import Derived.Test.YtinbhofpofcmeaaGreatDoorRnH
import Derived.Lib.ItoaLen
namespace Go.Ab.Tt
set_option maxRecDepth 100000
set_option linter.unusedVariables false
set_option linter.unusedSimpArgs false

/-! ### what digits spell -/
def maxI : Nat := 9223372036854775807
def maxB : Bytes := [57, 50, 50, 51, 51, 55, 50, 48, 51, 54, 56, 53, 52, 55, 55, 53, 56, 48, 55]
def valueZ (d : Bytes) : Int := if natF 0 d < 9223372036854775808 then (natF 0 d : Int) else -1
theorem natF_maxB : natF 0 maxB = 9223372036854775807 := by decide
theorem canon_cases {d : Bytes} (hc : canonB d = true) : d = [48] ∨ ∃ c r, d = c :: r ∧ c ≠ 48 := by
  unfold canonB at hc
  cases d with
  | nil => simp at hc
  | cons c r =>
    by_cases h : c :: r = [48]
    · exact .inl h
    · simp only [h, decide_false, Bool.false_or, reduceCtorEq, Bool.not_false, Bool.true_and, List.getElem?_cons_zero, Option.some.injEq, Bool.not_eq_true', decide_eq_false_iff_not] at hc
      exact .inr ⟨c, r, rfl, hc⟩
theorem natF_big {d : Bytes} (h : d.all isD = true) (hc : canonB d = true) (hl : 2 ≤ d.length) : 10 ^ (d.length - 1) ≤ natF 0 d := by
  rcases canon_cases hc with rfl | ⟨c, r, rfl, hne⟩
  · simp at hl
  · simp only [List.all_cons, Bool.and_eq_true] at h
    have hd := (isD_iff c).1 h.1
    have h1 : 1 ≤ c.toNat - 48 := by
      rcases Nat.eq_or_lt_of_le hd.1 with e | e
      · exact absurd (UInt8.toNat_inj.1 (by simpa using e.symm)) hne
      · omega
    rw [natF_cons]
    have h2 := natF_low r (0 * 10 + (c.toNat - 48))
    refine Nat.le_trans ?_ h2
    simp only [List.length_cons, Nat.add_sub_cancel]
    exact Nat.le_mul_of_pos_left _ (by omega)
theorem natF_take (d : Bytes) (k : Nat) : natF 0 (d.take k) ≤ natF 0 d := by
  have h := natF_append (d.take k) (d.drop k) 0
  rw [List.take_append_drop] at h
  rw [h]
  have := natF_low (d.drop k) (natF 0 (d.take k))
  exact Nat.le_trans (Nat.le_mul_of_pos_right _ (Nat.pow_pos (by decide))) this
theorem natF_inj {a b : Bytes} (ha : a.all isD = true) (hca : canonB a = true) (hb : b.all isD = true) (hcb : canonB b = true) (h : natF 0 a = natF 0 b) : a = b := by
  rw [← dec_natF a ha hca, ← dec_natF b hb hcb, h]
theorem value_loop (d : Bytes) (h : d.all isD = true) (hl : d.length ≤ 1000) (hv : natF 0 d < 9223372036854775808) : lpS.run ref25_value_L1 (d, 0, 0, ()) = some (.int .i64 (natF 0 d)) := by
  refine loop_until (fun k => (d, (natF 0 (d.take k) : Int), (k : Int), ())) d.length (fun k hk rec => ?_) (fun rec => ?_) ?_ rfl
  · have hd := (isD_iff d[k]).1 (List.all_eq_true.1 h _ (List.getElem_mem hk))
    have hs : natF 0 (d.take (k + 1)) = natF 0 (d.take k) * 10 + (d[k].toNat - 48) := by rw [List.take_succ_eq_append_getElem hk, natF_snoc]
    have hle := natF_take d (k + 1)
    have hu : IntKind.u8.wrap ((d[k].toNat : Int) - 48) = ((d[k].toNat - 48 : Nat) : Int) := by
      rw [show (d[k].toNat : Int) - 48 = ((d[k].toNat - 48 : Nat) : Int) by omega]
      exact wrap_wf (by rw [wf_bool]; simp [IntKind.min, IntKind.max, IntKind.signed, IntKind.bits]; omega)
    simp only [ref25_value_L1, show decide ((k : Int) < (d.length : Int)) = true by simp <;> omega, if_true, idxB_nat, List.getElem?_eq_getElem hk, bind_some', hu]
    rw [wrap_in (show -9223372036854775808 ≤ ((d[k].toNat - 48 : Nat) : Int) by omega) (by omega), wrap_in (show -9223372036854775808 ≤ 10 * (natF 0 (d.take k) : Int) by omega) (by omega), wrap_in (by omega) (by omega), wrap_nat (show k < 9223372036854775807 by omega), hs]
    congr 2
    simp only [Prod.mk.injEq, and_true]
    omega
  · simp only [ref25_value_L1, Int.lt_irrefl, decide_false, Bool.false_eq_true, if_false, List.take_length]
  · have : 1001 < rounds := by decide
    omega
theorem maxB_all : maxB.all isD = true := by decide
theorem maxB_canon : canonB maxB = true := by decide
theorem value_ref (d : Bytes) (h : d.all isD = true) (hc : canonB d = true) : ref25_value_M [.str d] = some (.int .i64 (valueZ d)) := by
  simp only [ref25_value_M, ref25_value, asStr, bind_some']
  by_cases h19 : d.length > 19
  · have hb := natF_big h hc (by omega)
    have hp : 10 ^ 19 ≤ 10 ^ (d.length - 1) := Nat.pow_le_pow_right (by decide) (by omega)
    have hz : valueZ d = -1 := by unfold valueZ; rw [if_neg (by omega)]
    simp only [show decide ((d.length : Int) > 19) = true by simp <;> omega, cond_true, bind_some', if_true, hz]
  · simp only [show decide ((d.length : Int) > 19) = false by simp <;> omega, cond_false]
    by_cases e19 : d.length = 19
    · have hl : d.length = maxB.length := e19
      have hless := less_natF d maxB hl h maxB_all 0
      rw [natF_maxB] at hless
      have key : (Op.bytesLess d maxB || d == maxB) = decide (natF 0 d < 9223372036854775808) := by
        rw [Bool.eq_iff_iff, Bool.or_eq_true, decide_eq_true_eq, beq_iff_eq, hless]
        constructor
        · rintro (hx | hx)
          · omega
          · rw [hx, natF_maxB]; decide
        · intro hx
          by_cases hy : natF 0 d = 9223372036854775807
          · exact .inr (natF_inj h hc maxB_all maxB_canon (by rw [hy, natF_maxB]))
          · exact .inl (by omega)
      have he : ((d.length : Int) == 19) = true := by rw [beq_iff_eq]; omega
      have key' : (Op.bytesLess d [57, 50, 50, 51, 51, 55, 50, 48, 51, 54, 56, 53, 52, 55, 55, 53, 56, 48, 55] || d == [57, 50, 50, 51, 51, 55, 50, 48, 51, 54, 56, 53, 52, 55, 55, 53, 56, 48, 55]) = decide (natF 0 d < 9223372036854775808) := key
      simp only [he, cond_true, bind_some', key']
      unfold valueZ
      by_cases hv : natF 0 d < 9223372036854775808
      · simp only [hv, decide_true, Bool.not_true, Bool.false_eq_true, if_false, if_true]
        exact value_loop d h (by omega) hv
      · simp only [hv, decide_false, Bool.not_false, if_true, if_false]
    · have he : ((d.length : Int) == 19) = false := by rw [beq_eq_false_iff_ne]; omega
      have hh := natF_high d h 0
      have hp : 10 ^ d.length ≤ 10 ^ 18 := Nat.pow_le_pow_right (by decide) (by omega)
      have hv : natF 0 d < 9223372036854775808 := by omega
      simp only [he, cond_false, bind_some', Bool.false_eq_true, if_false]
      unfold valueZ
      rw [if_pos hv]
      exact value_loop d h (by omega) hv
theorem atoi_val (d : Bytes) (h : d.all isD = true) (hc : canonB d = true) (hl : d.length ≤ 100000) : ∃ n, atoi_M [.str d] = some (.tup [.int .i64 n, .ifc (decide (valueZ d < 0))]) ∧ (¬ valueZ d < 0 → n = valueZ d) := by
  have hne : d ≠ [] := by rintro rfl; simp [canonB] at hc
  unfold atoi_M
  simp only
  rw [if_pos (by omega), atoi_dig d h hne]
  unfold valueZ
  by_cases hv : natF 0 d < 9223372036854775808
  · rw [if_pos hv, if_pos hv]
    exact ⟨_, by rw [show decide ((natF 0 d : Int) < 0) = false by simp <;> omega], fun _ => rfl⟩
  · rw [if_neg hv, if_neg hv]
    exact ⟨_, rfl, fun h => absurd (by decide) h⟩

/-! ### the digits of a number -/
def preD (n : Nat) : Bytes := if n < 10 then [] else Lib.decDigits (n / 10)
theorem preD_dec (n : Nat) : preD n ++ [dgt (n % 10)] = Lib.decDigits n := by
  unfold preD
  by_cases h : n < 10
  · rw [if_pos h, dec_small h, Nat.mod_eq_of_lt h]; rfl
  · rw [if_neg h, dec_big h]
theorem preD_big (n : Nat) (h : ¬ n < 10) : preD n = preD (n / 10) ++ [dgt (n / 10 % 10)] := by
  rw [preD_dec]; unfold preD; rw [if_neg h]
theorem dig_eq (n : Nat) : UInt8.ofNat (IntKind.u8.wrap (IntKind.i64.wrap (48 + (n : Int).tmod 10))).toNat = dgt (n % 10) := by
  rw [show (n : Int).tmod 10 = ((n % 10 : Nat) : Int) by rw [Int.tmod_eq_emod_of_nonneg (by omega)]; omega]
  have hlt : n % 10 < 10 := Nat.mod_lt _ (by decide)
  rw [wrap_in (by omega) (by omega), show (48 : Int) + ((n % 10 : Nat) : Int) = ((48 + n % 10 : Nat) : Int) by omega]
  rw [wrap_wf (by rw [wf_bool]; simp [IntKind.min, IntKind.max, IntKind.signed, IntKind.bits]; omega)]
  rfl
theorem number_loop : ∀ (N n : Nat) (s : Bytes), n < N → n ≤ 9223372036854775807 → s.length + n / 10 ≤ 4611686018427387904 → loopS (ref25_number_L1 lpS) N ((n : Int), s, ()) = some (.str (preD n ++ s))
  | 0, n, s, h, _, _ => absurd h (by omega)
  | N + 1, n, s, h, hm, hs => by
    simp only [loopS]
    by_cases h10 : n < 10
    · simp only [ref25_number_L1, show decide ((n : Int) ≥ 10) = false by simp <;> omega, Bool.false_eq_true, if_false]
      unfold preD; rw [if_pos h10]; rfl
    · have hq : IntKind.i64.wrap ((n : Int).tdiv 10) = ((n / 10 : Nat) : Int) := by
        rw [Int.tdiv_eq_ediv_of_nonneg (by omega), show (n : Int) / 10 = ((n / 10 : Nat) : Int) by omega, wrap_in (by omega) (by omega)]
      have hroom : lpS.room ([UInt8.ofNat (IntKind.u8.wrap (IntKind.i64.wrap (48 + ((n / 10 : Nat) : Int).tmod 10))).toNat].length + List.length s) = true := lpS_room _ (by simp only [List.length_cons, List.length_nil]; omega)
      have hd := dig_eq (n / 10)
      simp only [ref25_number_L1, show decide ((n : Int) ≥ 10) = true by simp <;> omega, if_true, hq]
      rw [if_pos hroom, hd, number_loop N (n / 10) _ (by omega) (by omega) (by simp only [List.length_append, List.length_cons, List.length_nil]; omega), preD_big n h10, List.append_assoc]
theorem number_ref (n : Int) (h0 : 0 ≤ n) (h1 : n ≤ 9223372036854775807) : ref25_number_M [.int .i64 n] = some (.str (Lib.decDigits n.toNat)) := by
  obtain ⟨k, rfl⟩ : ∃ k : Nat, n = k := ⟨n.toNat, by omega⟩
  simp only [ref25_number_M, ref25_number, asInt, if_true, bind_some']
  have hr : (9223372036854775807 : Nat) < rounds := by decide
  rw [lpS_run, dig_eq, number_loop rounds k _ (by omega) (by omega) (by simp; omega), preD_dec]
  rfl
theorem itoa_val (n : Int) (h0 : 0 ≤ n) : itoa_M [.int .i64 n] = some (.str (Lib.decDigits n.toNat)) := by
  unfold itoa_M Lib.itoa
  simp only
  rw [if_neg (by omega)]
theorem dec_len (n : Nat) (h : n ≤ 9223372036854775807) : (Lib.decDigits n).length ≤ 21 := by
  have := Lib.itoa_length_le (n : Int) (by omega) (by omega)
  rwa [show Lib.itoa (n : Int) = Lib.decDigits n by unfold Lib.itoa; rw [if_neg (by omega)]; rfl] at this

/-! ### keys -/
def keyR (s : Bytes) (d i : Int) : Bytes × Int := if validB s = false then ([], 12) else if dayB d = false then ([], 11) else if i < 0 then ([], 2) else (s ++ [64] ++ Lib.decDigits d.toNat ++ [35] ++ Lib.decDigits i.toNat, 0)
def keyPV (k : Bytes × Int) : PV := .tup [.str k.1, .int .i64 k.2]
theorem key_both (t d i rt : Int) (s : Bytes) (f c : Bool) (z : Nat) (es ces : List PV) (he : asSl 5 (.rs z es) = some ces) (hi : i ≤ 9223372036854775807) (hs : s.length ≤ 100000) :
    runs_Key_M [.agg [.int .i64 t, .int .i64 d, .int .i64 i, .str s, .int .i64 rt, .bool f, .bool c, .rs z es]] = some (keyPV (keyR s d i)) ∧ ref25_Key_M [.agg [.int .i64 t, .int .i64 d, .int .i64 i, .str s, .int .i64 rt, .bool f, .bool c, .rs z es]] = some (keyPV (keyR s d i)) := by
  have hm : s.length ≤ maxLen := Nat.le_trans hs (by decide)
  have cc : ∀ k, cell (.agg [.int .i64 t, .int .i64 d, .int .i64 i, .str s, .int .i64 rt, .bool f, .bool c, .rs z es]) k = [PV.int .i64 t, .int .i64 d, .int .i64 i, .str s, .int .i64 rt, .bool f, .bool c, .rs z es].getD k .bad := fun _ => rfl
  have ca : asAgg 8 (.agg [.int .i64 t, .int .i64 d, .int .i64 i, .str s, .int .i64 rt, .bool f, .bool c, .rs z es]) = some () := rfl
  simp only [runs_Key_M, runs_Key, ref25_Key_M, ref25_Key, ca, cc, List.getD_cons_zero, List.getD_cons_succ, asInt, asStr, asBool, he, if_true, bind_some', ident_ok s hm, ref13id_ok s hm, dvalid_prog, dvalid25]
  unfold keyR
  cases hv : validB s with
  | false => exact ⟨rfl, rfl⟩
  | true =>
    simp only [Bool.not_true, Bool.false_eq_true, if_false, Bool.true_eq_false]
    cases hd : dayB d with
    | false => exact ⟨rfl, rfl⟩
    | true =>
      have hdb := (dayB_iff d).1 hd
      simp only [Bool.not_true, Bool.false_eq_true, if_false, Bool.true_eq_false]
      by_cases hi0 : i < 0
      · simp only [hi0, decide_true, if_true]; exact ⟨rfl, rfl⟩
      · have l1 := dec_len d.toNat (by omega)
        have l2 := dec_len i.toNat (by omega)
        have r1 : lpS.room (s.length + 1) = true := lpS_room _ (by omega)
        have r2 : lpS.room (List.length (s ++ [64]) + List.length (Lib.decDigits d.toNat)) = true := lpS_room _ (by simp; omega)
        have r3 : lpS.room (List.length (s ++ [64] ++ Lib.decDigits d.toNat) + 1) = true := lpS_room _ (by simp; omega)
        have r4 : lpS.room (List.length (s ++ [64] ++ Lib.decDigits d.toNat ++ [35]) + List.length (Lib.decDigits i.toNat)) = true := lpS_room _ (by simp; omega)
        simp only [hi0, decide_false, Bool.false_eq_true, if_false, r1, if_true, itoa_val d hdb.1, itoa_val i (by omega), number_ref d hdb.1 (by omega), number_ref i (by omega) hi, bind_some', r2, r3, r4]
        exact ⟨rfl, rfl⟩

/-! ### taking a key apart -/
def noKey : Bytes × Int × Int × Int := ([], 0, 0, 3)
def parsedR (id a b : Bytes) : Bytes × Int × Int × Int := if validB id = false then ([], 0, 0, 12) else if dayB (valueZ a) = false then ([], 0, 0, 11) else if valueZ b < 0 then ([], 0, 0, 2) else (id, valueZ a, valueZ b, 0)
def okD (a : Bytes) : Bool := a.all isD && canonB a
def parseR (s : Bytes) : Bytes × Int × Int × Int := match splitB 64 s with
  | none => noKey
  | some (id, r) => match splitB 35 r with
    | none => noKey
    | some (a, b) => if (okD a && okD b) = true then parsedR id a b else noKey
def pkPV (k : Bytes × Int × Int × Int) : PV := .tup [.str k.1, .int .i64 k.2.1, .int .i64 k.2.2.1, .int .i64 k.2.2.2]
theorem cut_prog (s : Bytes) (hs : s.length ≤ 1000000) : strings_Cut_M [.str s, .str [64]] = some (match splitB 64 s with | some p => .tup [.str p.1, .str p.2, .bool true] | none => .tup [.str s, .str [], .bool false]) := by
  have hi := index_split 64 s
  have hx : index1_M [.str s, .str [64]] = some (.int .i64 (Lib.indexByte s 64)) := rfl
  simp only [strings_Cut_M, strings_Cut, internal_stringslite_Cut_M, internal_stringslite_Cut, asStr, bind_some', hx, hi, asInt, if_true]
  cases hp : splitB 64 s with
  | none =>
    simp only [show decide ((-1 : Int) ≥ 0) = false from rfl, Bool.false_eq_true, if_false, bind_some', asTup, asStr, asBool, List.length_cons, List.length_nil, Nat.reduceAdd, if_true, List.getD_cons_zero, List.getD_cons_succ]
  | some p =>
    obtain ⟨h1, _⟩ := splitB_some (a := p.1) (b := p.2) hp
    have hl : s.length = p.1.length + 1 + p.2.length := by rw [h1]; simp; omega
    have hw : IntKind.i64.wrap ((p.1.length : Int) + (List.length [(64 : UInt8)] : Int)) = ((p.1.length + 1 : Nat) : Int) := by rw [wrap_in (by simp; omega) (by simp; omega)]; simp
    have c1 : (0 : Int) ≤ 0 ∧ 0 ≤ (p.1.length : Int) ∧ (p.1.length : Int) ≤ (s.length : Int) := by omega
    have c2 : 0 ≤ ((p.1.length + 1 : Nat) : Int) ∧ ((p.1.length + 1 : Nat) : Int) ≤ (s.length : Int) ∧ (s.length : Int) ≤ (s.length : Int) := by omega
    have t1 : List.drop (Int.toNat 0) (List.take p.1.length s) = p.1 := by rw [h1]; simp
    have t2 : List.drop (p.1.length + 1) s = p.2 := by
      rw [h1, List.drop_append]
      simp
    simp only [show decide ((p.1.length : Int) ≥ 0) = true by simp, if_true, hw]
    rw [if_pos c1, if_pos c2]
    simp only [Int.toNat_natCast, List.take_length, t1, t2, bind_some', asTup, asStr, asBool, List.length_cons, List.length_nil, Nat.reduceAdd, if_true, List.getD_cons_zero, List.getD_cons_succ]
def cutpPV : Bytes → PV
  | c :: r => if c = 35 then .tup [.str r, .bool true] else .tup [.str (c :: r), .bool false]
  | [] => .tup [.str [], .bool false]
theorem cutp_prog (s : Bytes) (hs : s.length ≤ 1000000) : strings_CutPrefix_M [.str s, .str [35]] = some (cutpPV s) := by
  simp only [strings_CutPrefix_M, strings_CutPrefix, internal_stringslite_CutPrefix_M, internal_stringslite_CutPrefix, internal_stringslite_HasPrefix_M, internal_stringslite_HasPrefix, asStr, bind_some']
  cases s with
  | nil => rfl
  | cons c r =>
    have c1 : (0 : Int) ≤ 0 ∧ 0 ≤ (List.length [(35 : UInt8)] : Int) ∧ (List.length [(35 : UInt8)] : Int) ≤ ((c :: r).length : Int) := by simp <;> omega
    have c2 : 0 ≤ (List.length [(35 : UInt8)] : Int) ∧ (List.length [(35 : UInt8)] : Int) ≤ ((c :: r).length : Int) ∧ ((c :: r).length : Int) ≤ ((c :: r).length : Int) := by simp <;> omega
    have hb : (List.drop (Int.toNat 0) (List.take (List.length [(35 : UInt8)] : Int).toNat (c :: r)) == [35]) = decide (c = 35) := by
      rw [beq_d]
      simp
    simp only [show decide (((c :: r).length : Int) ≥ (List.length [(35 : UInt8)] : Int)) = true by simp <;> omega, cond_true, if_pos c1, bind_some', hb, asBool]
    unfold cutpPV
    by_cases h : c = 35
    · subst h
      simp only [decide_true, Bool.not_true, Bool.false_eq_true, if_false, if_pos c2, bind_some', if_true, Int.toNat_natCast, List.take_length]
      rfl
    · simp only [h, decide_false, Bool.not_false, if_true, bind_some', if_false]
      rfl
/-- the digits ahead of '#', and those behind it -/
theorem split_digits : ∀ r : Bytes, (match splitB 35 r with | some p => if (p.1.all isD && p.2.all isD) = true then some p else none | none => none) = (match r.dropWhile isD with | c :: b => if c = 35 then (if b.all isD = true then some (r.takeWhile isD, b) else none) else none | [] => none)
  | [] => rfl
  | x :: r => by
    have ih := split_digits r
    unfold splitB
    rw [List.dropWhile_cons, List.takeWhile_cons]
    by_cases hx : x = 35
    · subst hx
      have h35 : isD 35 = false := by decide
      simp [h35]
    · rw [if_neg hx]
      cases hd : isD x with
      | true =>
        simp only [if_true]
        cases hs : splitB 35 r with
        | none =>
          rw [hs] at ih
          simp only at ih
          simp only [Option.map_none]
          cases hw : r.dropWhile isD with
          | nil => rfl
          | cons c b =>
            rw [hw] at ih
            simp only at ih ⊢
            by_cases hc : c = 35
            · rw [if_pos hc] at ih ⊢
              by_cases hb : b.all isD = true
              · rw [if_pos hb] at ih; cases ih
              · rw [if_neg hb]
            · rw [if_neg hc]
        | some p =>
          rw [hs] at ih
          simp only at ih
          simp only [Option.map_some, List.all_cons, hd, Bool.true_and]
          cases hw : r.dropWhile isD with
          | nil =>
            rw [hw] at ih
            simp only at ih ⊢
            by_cases hb : (p.1.all isD && p.2.all isD) = true
            · rw [if_pos hb] at ih; cases ih
            · rw [if_neg hb]
          | cons c b =>
            rw [hw] at ih
            simp only at ih ⊢
            by_cases hb : (p.1.all isD && p.2.all isD) = true
            · rw [if_pos hb] at ih ⊢
              by_cases hc : c = 35
              · rw [if_pos hc] at ih ⊢
                by_cases hbb : b.all isD = true
                · rw [if_pos hbb] at ih ⊢
                  simp only [Option.some.injEq] at ih
                  rw [ih]
                · rw [if_neg hbb] at ih; cases ih
              · rw [if_neg hc] at ih; cases ih
            · rw [if_neg hb] at ih ⊢
              by_cases hc : c = 35
              · rw [if_pos hc] at ih ⊢
                by_cases hbb : b.all isD = true
                · rw [if_pos hbb] at ih; cases ih
                · rw [if_neg hbb]
              · rw [if_neg hc]
      | false =>
        simp only [Bool.false_eq_true, if_false]
        cases splitB 35 r with
        | none => simp [hx]
        | some p => simp [hd, hx]
end Go.Ab.Tt
