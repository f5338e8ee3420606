/- The laws RunsKeys, RunsParses, RunsFinds. -/
import Derived.Test.YtinbhofpofcmeaaGreatDoorRnJ
import Derived.Test.YtinbhofpofcmeaaGreatDoorRnX
namespace Go.Ab.Tt
set_option maxRecDepth 100000
set_option linter.unusedVariables false
set_option linter.unusedSimpArgs false

theorem keyR_len (s : Bytes) (d i : Int) (hs : s.length ≤ 1000) (hi : i ≤ 9223372036854775807) : (keyR s d i).1.length ≤ 2000 := by
  unfold keyR
  cases hv : validB s with
  | false => simp
  | true =>
    cases hd : dayB d with
    | false => simp
    | true =>
      have hdb := (dayB_iff d).1 hd
      have l1 := dec_len d.toNat (by omega)
      have l2 := dec_len i.toNat (by omega)
      by_cases hi0 : i < 0
      · simp [hi0]
      · simp [hi0]; omega
theorem keys_law (r : Run) (hi : r.inst ≤ 9223372036854775807) : law25_RunsKeys_M [r.pv] = some (.bool true) := by
  simp only [law25_RunsKeys_M, law25_RunsKeys, runA, run0, run1, run2, run3, run4, run5, run6, run7, asSl, asStr, asInt, asBool, if_true, bind_some', exampleHolds25]
  by_cases hs : r.id.length > 256
  · rw [if_pos (by rw [decide_eq_true_eq]; omega)]
  · rw [if_neg (by rw [decide_eq_true_eq]; omega)]
    obtain ⟨h1, h2⟩ := key_both r.trip r.day r.inst r.route r.id r.free r.canc 5 (r.calls.map Kall.pv) (r.calls.map Kall.pv) (by simp [asSl]) hi (by omega)
    simp only [h1, h2, keyPV, asTup, asStr, asInt, if_true, bind_some', List.length_cons, List.length_nil, Nat.reduceAdd, List.getD_cons_zero, List.getD_cons_succ, beq_self_eq_true, Bool.not_true, cond_false, bne_d, decide_true, Bool.false_eq_true, if_false]
    by_cases he : (keyR r.id r.day r.inst).2 = 0
    · have hk := key_parse r.id r.day r.inst hi he
      have hp := parse_prog (keyR r.id r.day r.inst).1 (keyR_len _ _ _ (by omega) hi)
      simp only [he, decide_true, Bool.not_true, Bool.false_eq_true, if_false, hp, hk, pkPV, bind_some', asTup, asStr, asInt, asBool, if_true, List.length_cons, List.length_nil, Nat.reduceAdd, List.getD_cons_zero, List.getD_cons_succ, beq_self_eq_true, cond_true]
    · simp only [he, decide_false, Bool.not_false, if_true]
theorem valueZ_le (a : Bytes) : valueZ a ≤ 9223372036854775807 := by unfold valueZ; split <;> omega
theorem parse_len (s : Bytes) : (parseR s).1.length ≤ s.length ∧ (parseR s).2.2.1 ≤ 9223372036854775807 := by
  have nk : (0 : Int) ≤ 9223372036854775807 := by decide
  unfold parseR
  cases hp : splitB 64 s with
  | none => exact ⟨Nat.zero_le _, nk⟩
  | some p =>
    obtain ⟨id, r⟩ := p
    obtain ⟨h1, _⟩ := splitB_some hp
    have hl : s.length = id.length + 1 + r.length := by rw [h1]; simp; omega
    simp only
    cases splitB 35 r with
    | none => exact ⟨Nat.zero_le _, nk⟩
    | some q =>
      obtain ⟨a, b⟩ := q
      simp only
      split
      · unfold parsedR
        split
        · exact ⟨Nat.zero_le _, nk⟩
        · split
          · exact ⟨Nat.zero_le _, nk⟩
          · split
            · exact ⟨Nat.zero_le _, nk⟩
            · exact ⟨by simp only; omega, valueZ_le b⟩
      · exact ⟨Nat.zero_le _, nk⟩
theorem parses_law (s : Bytes) : law25_RunsParses_M [.str s] = some (.bool true) := by
  simp only [law25_RunsParses_M, law25_RunsParses, asStr, asInt, asBool, bind_some', exampleHolds25]
  by_cases hs : s.length > 1024
  · rw [if_pos (by rw [decide_eq_true_eq]; omega)]
  · rw [if_neg (by rw [decide_eq_true_eq]; omega)]
    have h1 := parse_prog s (by omega)
    have h2 := parse_ref s (by omega)
    simp only [h1, h2, pkPV, asTup, asStr, asInt, if_true, bind_some', List.length_cons, List.length_nil, Nat.reduceAdd, List.getD_cons_zero, List.getD_cons_succ, beq_self_eq_true, Bool.not_true, cond_false, bne_d, decide_true, Bool.false_eq_true, if_false]
    by_cases he : (parseR s).2.2.2 = 0
    · have hk := parse_key s he
      have hpl := parse_len s
      obtain ⟨h3, _⟩ := key_both 0 (parseR s).2.1 (parseR s).2.2.1 0 (parseR s).1 false false 0 [] [] (by rfl) hpl.2 (by omega)
      simp only [he, decide_true, Bool.not_true, Bool.false_eq_true, if_false, h3, hk, keyPV, bind_some', asTup, asStr, asInt, asBool, if_true, List.length_cons, List.length_nil, Nat.reduceAdd, List.getD_cons_zero, List.getD_cons_succ, beq_self_eq_true, cond_true]
    · simp only [he, decide_false, Bool.not_false, if_true]

theorem finds_law (l : List Run) (id : Bytes) (d i : Int) (hl : l.length ≤ maxLen) : law25_RunsFinds_M [.rs 8 (l.map Run.pv), .agg [.str id, .int .i64 d, .int .i64 i]] = some (.bool true) := by
  have hm := maxLen_lt
  have ca : asAgg 3 (.agg [.str id, .int .i64 d, .int .i64 i]) = some () := rfl
  have c0 : cell (.agg [.str id, .int .i64 d, .int .i64 i]) 0 = .str id := rfl
  have c1 : cell (.agg [.str id, .int .i64 d, .int .i64 i]) 1 = .int .i64 d := rfl
  have c2 : cell (.agg [.str id, .int .i64 d, .int .i64 i]) 2 = .int .i64 i := rfl
  simp only [law25_RunsFinds_M, law25_RunsFinds, ca, c0, c1, c2, asSl, asStr, asInt, asBool, if_true, bind_some', exampleHolds25, bif_or', List.length_map]
  by_cases hb : (decide ((l.length : Int) > 100) || decide ((id.length : Int) > 256)) = true
  · rw [if_pos hb]
  · rw [if_neg hb]
    simp only [Bool.or_eq_true, decide_eq_true_eq, not_or] at hb
    refine (loop_scan (fun k => (l.map Run.pv, l.map Run.pv, (l.length : Int), (k : Int), id, d, i, ())) l.length (fun k => match l[k]? with | some r => if (r.id.length : Int) > 256 then some (some (PV.bool true)) else none | none => none) (fin := some (PV.bool true)) (fun k hk rec => ?_) (fun rec => ?_) ?_ rfl).trans ?_
    · have h1 : (k : Int) < (l.length : Int) := by omega
      simp only [law25_RunsFinds_L1, decide_eq_true_eq, h1, if_true, idxP_nat, List.getElem?_map, List.getElem?_eq_getElem hk, Option.map_some, bind_some', run3, asStr, exampleHolds25, asBool, wrap_nat (show k < 9223372036854775807 by omega)]
      split <;> rfl
    · simp only [law25_RunsFinds_L1, decide_eq_true_eq, Int.lt_irrefl, if_false, find_prog l hl, find_ref l hl, bind_some']
      unfold findPV
      cases findR l id d i <;> simp only [asTup, asInt, asBool, if_true, bind_some', List.length_cons, List.length_nil, Nat.reduceAdd, List.getD_cons_zero, List.getD_cons_succ, beq_self_eq_true, cond_true, exampleHolds25]
    · have := rounds_gt; omega
    · cases h : (List.range l.length).findSome? (fun k => match l[k]? with | some r => if (r.id.length : Int) > 256 then some (some (PV.bool true)) else none | none => none) with
      | none => rfl
      | some r =>
        obtain ⟨k, _, hk⟩ := List.exists_of_findSome?_eq_some h
        split at hk
        · split at hk
          · simp only [Option.some.injEq] at hk; rw [← hk]
          · cases hk
        · cases hk
end Go.Ab.Tt
