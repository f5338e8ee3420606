/- The laws about checks. -/
import Derived.Test.YtlgcompmkliiaaaTtChk7
import Derived.Test.YtlgcompmkliiaaaTtSizes
namespace Go.Ab.Tt
set_option maxRecDepth 100000
set_option linter.unusedVariables false

theorem whole_form (T : Timetable) : ∃ p i e, orFin ((List.range 10).findSome? (partBad T)) (some (whole3 0 0 0)) = some (whole3 p i e) ∧ (e = 0 ↔ ∀ p, p < 10 → (partRes T p).2 = 0) := by
  cases hf : (List.range 10).findSome? (partBad T) with
  | none =>
    refine ⟨0, 0, 0, rfl, ?_⟩
    rw [List.findSome?_eq_none_iff] at hf
    refine ⟨fun _ p hp => ?_, fun _ => rfl⟩
    have := hf p (by simpa using hp)
    unfold partBad at this
    by_cases h : (partRes T p).2 = 0
    · exact h
    · rw [if_neg h] at this; cases this
  | some r =>
    obtain ⟨p, hp, hr⟩ := List.exists_of_findSome?_eq_some hf
    unfold partBad at hr
    by_cases h : (partRes T p).2 = 0
    · rw [if_pos h] at hr; cases hr
    · rw [if_neg h] at hr
      cases hr
      refine ⟨p, (partRes T p).1, (partRes T p).2, rfl, ?_⟩
      refine ⟨fun h' => absurd h' h, fun h' => h' p (by simpa using hp)⟩
theorem small_of_few (T : Timetable) (h : fewB T = true) : Small T := by
  unfold fewB at h
  rw [Bool.and_eq_true, List.all_eq_true] at h
  intro y hy
  have := h.2 y hy
  simpa using this
theorem checks_law (T : Timetable) (hT : T.Ok) : law22_TimetableChecks_M [T.pv] = some (.bool true) := by
  have hf := few_ok T hT.trips.1
  have h3 := exampleHolds22
  simp only [law22_TimetableChecks_M, law22_TimetableChecks, ttA, tt0, tt1, tt2, tt3, tt4, tt5, tt6, tt7, tt8, tt9, tt10, tt11, tt12, asSl, asInt, asBool, if_true, bind_some', ttE, hf]
  cases hfb : fewB T with
  | false => simp only [Bool.not_false, if_true, h3, bind_some', asBool]
  | true =>
    have hs := small_of_few T hfb
    obtain ⟨p, i, e, hw, _⟩ := whole_form T
    rw [whole_prog T hT hs, whole_ref T hT hs, hw]
    simp only [whole3, Bool.not_true, Bool.false_eq_true, if_false, bind_some', asTup, asInt, asBool, if_true, List.length_cons, List.length_nil, Nat.reduceAdd, List.getD_cons_zero, List.getD_cons_succ, h3, beq_self_eq_true, cond_true]
theorem upper_ok (T : Timetable) (hT : T.Ok) : law22_upper_M [T.pv] = some (.bool ((List.range 5).all fun p => decide ((partRes T p).2 = 0))) := by
  have h0 := stop_prog T.stops hT.stops
  have h1 := route_prog T.routes hT.routes
  have h2 := cal_prog T.cals hT.cals
  have h3 := exc_prog T.excs T.cals.length hT.excs
  have h4 := trip_prog T.trips T.stops.length T.routes.length T.cals.length hT.trips
  simp only [res] at h0 h1 h2 h3 h4
  have hr : List.range 5 = [0, 1, 2, 3, 4] := by decide
  simp only [law22_upper_M, law22_upper, ttA, tt0, tt1, tt2, tt3, tt4, tt5, tt6, tt7, tt8, tt9, tt10, tt11, tt12, asSl, asInt, asBool, if_true, bind_some', List.length_map, h0, h1, h2, h3, h4, asTup, List.length_cons, List.length_nil, Nat.reduceAdd, List.getD_cons_zero, List.getD_cons_succ, bif_and, beq_d, hr, List.all_cons, List.all_nil, partRes, Bool.and_true, Bool.and_assoc]
theorem lower_ok (T : Timetable) (hT : T.Ok) (hs : Small T) : law22_lower_M [T.pv] = some (.bool ((List.range 5).all fun p => decide ((partRes T (p + 5)).2 = 0))) := by
  have h5 := freq_prog T.freqs T.trips hT.trips hs hT.freqs.1
  have h6 := thr_prog T.thrs T.trips T.freqs hT.trips hT.freqs.1
  have h7 := guar_prog T.guars T.trips T.freqs T.stops.length hT.trips hs hT.freqs.1
  have h8 := path_prog T.paths T.stops.length hT.paths.1
  have h9 := fares_prog T.prods T.disc T.within T.cap hT.prods
  simp only [res] at h5 h6 h7 h8 h9
  have hr : List.range 5 = [0, 1, 2, 3, 4] := by decide
  simp only [law22_lower_M, law22_lower, ttA, tt0, tt1, tt2, tt3, tt4, tt5, tt6, tt7, tt8, tt9, tt10, tt11, tt12, asSl, asInt, asBool, if_true, bind_some', List.length_map, ttF, h5, h6, h7, h8, h9, asTup, List.length_cons, List.length_nil, Nat.reduceAdd, List.getD_cons_zero, List.getD_cons_succ, bif_and, beq_d, hr, List.all_cons, List.all_nil, partRes, Bool.and_true, Bool.and_assoc]
theorem parts_law (T : Timetable) (hT : T.Ok) : law22_TimetableParts_M [T.pv] = some (.bool true) := by
  have hf := few_ok T hT.trips.1
  have h3 := exampleHolds22
  simp only [law22_TimetableParts_M, law22_TimetableParts, ttA, tt0, tt1, tt2, tt3, tt4, tt5, tt6, tt7, tt8, tt9, tt10, tt11, tt12, asSl, asInt, asBool, if_true, bind_some', ttE, hf]
  cases hfb : fewB T with
  | false => simp only [Bool.not_false, if_true, h3, bind_some', asBool]
  | true =>
    have hs := small_of_few T hfb
    obtain ⟨p, i, e, hw, he⟩ := whole_form T
    rw [whole_prog T hT hs, hw, upper_ok T hT, lower_ok T hT hs]
    have hb : (e == 0) = (((List.range 5).all fun p => decide ((partRes T p).2 = 0)) && ((List.range 5).all fun p => decide ((partRes T (p + 5)).2 = 0))) := by
      rw [Bool.eq_iff_iff, Bool.and_eq_true, List.all_eq_true, List.all_eq_true, beq_iff_eq, he]
      simp only [List.mem_range, decide_eq_true_eq]
      constructor
      · intro h; exact ⟨fun p hp => h p (by omega), fun p hp => h (p + 5) (by omega)⟩
      · rintro ⟨ha, hb⟩ p hp
        by_cases h5 : p < 5
        · exact ha p h5
        · have := hb (p - 5) (by omega)
          rwa [Nat.sub_add_cancel (by omega)] at this
    simp only [whole3, Bool.not_true, Bool.false_eq_true, if_false, bind_some', asTup, asInt, asBool, if_true, List.length_cons, List.length_nil, Nat.reduceAdd, List.getD_cons_zero, List.getD_cons_succ, h3, bif_and, hb, beq_self_eq_true, cond_true]
    rfl
end Go.Ab.Tt
