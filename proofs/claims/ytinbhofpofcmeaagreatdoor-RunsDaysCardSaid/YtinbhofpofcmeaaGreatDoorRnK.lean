/- The laws RunsOfDay, RunsOfDays. -/
import Derived.Test.YtinbhofpofcmeaaGreatDoorRnG
import Derived.Test.YtinbhofpofcmeaaGreatDoorRnX
namespace Go.Ab.Tt
set_option maxRecDepth 100000
set_option linter.unusedVariables false
set_option linter.unusedSimpArgs false

theorem same_day {T : Timetable} (hT : FewP T) {day : Int} (hl : (dayRuns T day).length ≤ 1024) : ref25_Same_M [.rs 8 ((dayRuns T day).map Run.pv), .rs 8 ((dayRuns T day).map Run.pv)] = some (.bool true) :=
  same_refl _ (Nat.le_trans hl (by decide)) fun x hx => Nat.le_trans (dayRuns_calls hT hx) (by decide)
theorem same_days {T : Timetable} (hT : FewP T) {day : Int} {n : Nat} (hl : (daysRuns T day n).length ≤ 1024) : ref25_Same_M [.rs 8 ((daysRuns T day n).map Run.pv), .rs 8 ((daysRuns T day n).map Run.pv)] = some (.bool true) :=
  same_refl _ (Nat.le_trans hl (by decide)) fun x hx => Nat.le_trans (daysRuns_calls hT hx) (by decide)
theorem same_nil : ref25_Same_M [.rs 8 (([] : List Run).map Run.pv), .rs 8 (([] : List Run).map Run.pv)] = some (.bool true) := same_refl [] (by decide) fun x hx => by cases hx
theorem ofday_law (T : Timetable) (hok : T.Ok) (day : Int) : law25_RunsOfDay_M [T.pv, .int .i64 day] = some (.bool true) := by
  obtain ⟨b, hb, hf⟩ := light_ok T
  simp only [law25_RunsOfDay_M, law25_RunsOfDay, ttA, tt0, tt1, tt2, tt3, tt4, tt5, tt6, tt7, tt8, tt9, tt10, tt11, tt12, asSl, asInt, if_true, bind_some', ttE, hb, asBool, exampleHolds25]
  cases b with
  | false => rfl
  | true =>
    have hT := hf rfl
    obtain ⟨l, e, h1, h2, h3, h4⟩ := ofday_both T hT hok day
    simp only [Bool.not_true, Bool.false_eq_true, if_false, h1, h2, runsPV, asTup, asSl, asInt, if_true, bind_some', List.length_cons, List.length_nil, Nat.reduceAdd, List.getD_cons_zero, List.getD_cons_succ]
    have hs : ref25_Same_M [.rs 8 (l.map Run.pv), .rs 8 (l.map Run.pv)] = some (.bool true) := by
      by_cases he : e = 0
      · obtain ⟨_, _, rfl, hl⟩ := h3 he
        exact same_day hT hl
      · rw [h4 he]; exact same_nil
    simp only [hs, bind_some', asBool, beq_self_eq_true, cond_true]
theorem ofdays_law (T : Timetable) (hok : T.Ok) (a b : Int) : law25_RunsOfDays_M [T.pv, .int .i64 a, .int .i64 b] = some (.bool true) := by
  obtain ⟨c, hb, hf⟩ := light_ok T
  simp only [law25_RunsOfDays_M, law25_RunsOfDays, ttA, tt0, tt1, tt2, tt3, tt4, tt5, tt6, tt7, tt8, tt9, tt10, tt11, tt12, asSl, asInt, if_true, bind_some', ttE, hb, asBool, exampleHolds25]
  cases c with
  | false => rfl
  | true =>
    have hT := hf rfl
    obtain ⟨l, e, h1, h2, h3, h4⟩ := ofdays_both T hT hok a b
    simp only [Bool.not_true, Bool.false_eq_true, if_false, h1, h2, runsPV, asTup, asSl, asInt, if_true, bind_some', List.length_cons, List.length_nil, Nat.reduceAdd, List.getD_cons_zero, List.getD_cons_succ]
    have hs : ref25_Same_M [.rs 8 (l.map Run.pv), .rs 8 (l.map Run.pv)] = some (.bool true) := by
      by_cases he : e = 0
      · obtain ⟨_, _, _, _, _, rfl, hl⟩ := h3 he
        exact same_days hT hl
      · rw [h4 he]; exact same_nil
    simp only [hs, bind_some', asBool, beq_self_eq_true, cond_true]
end Go.Ab.Tt
