/- The law RunsDays. -/
import Derived.Test.YtinbhofpofcmeaaGreatDoorRnV
import Derived.Test.YtinbhofpofcmeaaGreatDoorRnK
import Derived.Test.YtinbhofpofcmeaaGreatDoorRnT
namespace Go.Ab.Tt
set_option maxRecDepth 100000
set_option linter.unusedVariables false
set_option linter.unusedSimpArgs false

theorem days_id {T : Timetable} {a : Int} {n : Nat} {r : Run} (h : r ∈ daysRuns T a n) : ∃ (i : Nat) (x : Trip), T.trips[i]? = some x ∧ r.trip = i ∧ r.id = x.id := by
  obtain ⟨d, _, hr⟩ := List.mem_flatMap.1 h
  obtain ⟨i, _, hr⟩ := List.mem_flatMap.1 hr
  obtain ⟨x, k, cs, hx, rfl⟩ := at_mem hr
  exact ⟨i, x, hx, rfl, rfl⟩
theorem find_self {T : Timetable} (hV : ValidT T) {a : Int} {n : Nat} {k : Nat} {r : Run} (h : (daysRuns T a n)[k]? = some r) : findR (daysRuns T a n) r.id r.day r.inst = some k := by
  have hk : k < (daysRuns T a n).length := (List.getElem?_eq_some_iff.1 h).1
  unfold findR
  rw [List.find?_range_eq_some]
  refine ⟨by rw [h]; simp [hitR], List.mem_range.2 hk, fun j hj => ?_⟩
  have hjl : j < (daysRuns T a n).length := by omega
  have hrk : r = (daysRuns T a n)[k] := by rw [List.getElem?_eq_getElem hk] at h; exact (Option.some.inj h).symm
  rw [List.getElem?_eq_getElem hjl]
  have hp := List.pairwise_iff_getElem.1 (daysRuns_keys T a n) j k hjl hk hj
  simp only [Bool.not_eq_true', hitR]
  cases he : (decide ((daysRuns T a n)[j].id = r.id) && decide ((daysRuns T a n)[j].day = r.day) && decide ((daysRuns T a n)[j].inst = r.inst)) with
  | false => rfl
  | true =>
    simp only [Bool.and_eq_true, decide_eq_true_eq] at he
    obtain ⟨⟨h1, h2⟩, h3⟩ := he
    obtain ⟨i, x, hx, ht, hid⟩ := days_id (List.getElem_mem hjl)
    obtain ⟨i', x', hx', ht', hid'⟩ := days_id (List.getElem_mem hk)
    rw [← hrk] at hp ht' hid'
    have hii := ids_inj hV hx hx' (by rw [← hid, ← hid', h1])
    subst hii
    exact absurd (by simp only [Run.key, h2, h3, ht, ht']) hp
theorem days_law (T : Timetable) (hok : T.Ok) (a b : Int) : law25_RunsDays_M [T.pv, .int .i64 a, .int .i64 b] = some (.bool true) := by
  obtain ⟨c, hb, hf⟩ := light_ok T
  simp only [law25_RunsDays_M, law25_RunsDays, ttA, tt0, tt1, tt2, tt3, tt4, tt5, tt6, tt7, tt8, tt9, tt10, tt11, tt12, asSl, asInt, if_true, bind_some', ttE, hb, asBool, exampleHolds25]
  cases c with
  | false => rfl
  | true =>
    have hT := hf rfl
    obtain ⟨l, e, h1, h2, h3, h4⟩ := ofdays_both T hT hok a b
    simp only [Bool.not_true, Bool.false_eq_true, if_false, h1, runsPV, asTup, asSl, asInt, if_true, bind_some', List.length_cons, List.length_nil, Nat.reduceAdd, List.getD_cons_zero, List.getD_cons_succ, bne_d]
    by_cases he : e = 0
    · obtain ⟨hV, ha, hbd, hab, h8, rfl, hl⟩ := h3 he
      have hda := (dayB_iff a).1 ha
      have hdb := (dayB_iff b).1 hbd
      obtain ⟨n, hn⟩ : ∃ n : Nat, (b - a + 1).toNat = n := ⟨_, rfl⟩
      rw [hn] at hl ⊢
      have hc1 : decide (a < 0) = false := by simp; omega
      have hc2 : decide (b < a) = false := by simp; omega
      have hc3 : decide (IntKind.i64.wrap (b - a) ≥ 8) = false := by rw [wrap_in (by omega) (by omega)]; simp; omega
      simp only [he, decide_true, Bool.not_true, Bool.false_eq_true, if_false, hc1, hc2, hc3, cond_false, bind_some']
      refine loop_until (fun (k : Nat) => (b, (daysRuns T a n).map Run.pv, a + (k : Int), tlT T ((daysRuns T a k).map Run.pv, ()))) n (fun k hk rec => ?_) (fun rec => ?_) ?_ ?_
      · have hc : a + (k : Int) ≤ b := by omega
        have hle := days_le (T := T) (a := a) hk
        have hday : dayB (a + (k : Int)) = true := (dayB_iff _).2 (by omega)
        have ho := ofday_ok hT hok hV (a + (k : Int)) hday (by omega)
        have hl1 := daysRuns_len T hT a k
        have hl2 := dayRuns_len T hT (a + k)
        have hroom := room80 ((daysRuns T a k).map Run.pv ++ (dayRuns T (a + k)).map Run.pv) (by rw [List.length_append, List.length_map, List.length_map]; omega)
        have hc4 : ¬ ((dayRuns T (a + (k : Int))).length : Int) > 1024 := by omega
        simp only [tlT]
        simp only [law25_RunsDays_L2, decide_eq_true_eq, hc, if_true, ttE, ho, runsPV, bind_some', asTup, asSl, asInt, if_true, List.length_cons, List.length_nil, Nat.reduceAdd, List.getD_cons_zero, List.getD_cons_succ, bne_d, List.length_map, hc4, Bool.not_true, cond_false, Bool.false_eq_true, if_false, daysRuns_succ, List.map_append, decide_true]
        rw [if_pos hroom, wrap_in (show -9223372036854775808 ≤ a + (k : Int) + 1 by omega) (by omega), show a + (k : Int) + 1 = a + ((k + 1 : Nat) : Int) by omega]
      · have hc : ¬ a + (n : Int) ≤ b := by omega
        simp only [law25_RunsDays_L2, tlT, decide_eq_true_eq, hc, if_false, same_days hT hl, bind_some', asBool, Bool.not_true, Bool.false_eq_true, List.length_map]
        refine loop_until (fun (k : Nat) => ((daysRuns T a n).map Run.pv, (daysRuns T a n).map Run.pv, ((daysRuns T a n).length : Int), (k : Int), ())) (daysRuns T a n).length (fun k hk rec => ?_) (fun rec => ?_) ?_ rfl
        · have h1 : (k : Int) < ((daysRuns T a n).length : Int) := by omega
          have hfs := find_self hV (List.getElem?_eq_getElem hk)
          have hfp := find_prog (daysRuns T a n) (Nat.le_trans hl (by decide)) (daysRuns T a n)[k].id (daysRuns T a n)[k].day (daysRuns T a n)[k].inst
          rw [hfs] at hfp
          simp only [law25_RunsDays_L1, decide_eq_true_eq, h1, if_true, idxP_nat, List.getElem?_map, List.getElem?_eq_getElem hk, Option.map_some, bind_some', run1, run2, run3, asStr, asInt, asBool, hfp, findPV, asTup, List.length_cons, List.length_nil, Nat.reduceAdd, List.getD_cons_zero, List.getD_cons_succ, bne_d, decide_true, Bool.not_true, cond_false, Bool.false_eq_true, if_false, wrap_nat (show k < 9223372036854775807 by omega)]
        · simp only [law25_RunsDays_L1, decide_eq_true_eq, Int.lt_irrefl, if_false, exampleHolds25, bind_some', asBool]
        · have : 1025 < rounds := by decide
          omega
      · have : 9 < rounds := by decide
        omega
      · simp [daysRuns, tlT]
    · simp only [he, decide_false, Bool.not_false, if_true]
end Go.Ab.Tt
