/- The law on trips that overtake. -/
import Derived.Test.YtnbhhepiekhbjaaGreatLtTwo
namespace Go.Ab.Tt
set_option maxRecDepth 1000000
set_option linter.unusedVariables false
set_option linter.unusedSimpArgs false

theorem prog_holds2 (T : Timetable) (w : Warn) (h : w ∈ progW T) : holdsB T w = true := by
  rw [← same_lists] at h
  unfold refW kindW rowW at h
  simp only [List.mem_flatMap, List.mem_map, List.mem_filter] at h
  obtain ⟨_, _, _, _, b, ⟨_, hb⟩, rfl⟩ := h
  exact hb
def earAt (a b : List Kall) (m : Nat) : Bool := match a[m]?, b[m]? with | some x, some y => decide (x.arr < y.arr) || decide (x.dep < y.dep) | _, _ => false
def lteAt (a b : List Kall) (m : Nat) : Bool := match a[m]?, b[m]? with | some x, some y => decide (x.arr > y.arr) || decide (x.dep > y.dep) | _, _ => false
def earB (a b : List Kall) (k : Nat) : Bool := (List.range k).any (earAt a b)
def lteB (a b : List Kall) (k : Nat) : Bool := (List.range k).any (lteAt a b)
theorem earB_succ (a b : List Kall) (k : Nat) : earB a b (k + 1) = (earB a b k || earAt a b k) := by simp [earB, List.range_succ]
theorem lteB_succ (a b : List Kall) (k : Nat) : lteB a b (k + 1) = (lteB a b k || lteAt a b k) := by simp [lteB, List.range_succ]
theorem ev_ear (a b : List Kall) (he : a.length = b.length) (j : Nat) (hj : j < 2 * a.length) (h : ltE a b j = true) : earAt a b (j / 2) = true := by
  have h1 : j / 2 < a.length := by omega
  have h2 : j / 2 < b.length := by omega
  unfold ltE evI at h
  unfold earAt
  rw [List.getElem?_eq_getElem h1, List.getElem?_eq_getElem h2] at *
  simp only [decide_eq_true_eq] at h
  by_cases hc : j % 2 = 0
  · simp only [hc, if_true] at h; simp [h]
  · simp only [hc, if_false] at h; simp [h]
theorem ev_lte (a b : List Kall) (he : a.length = b.length) (j : Nat) (hj : j < 2 * a.length) (h : gtE a b j = true) : lteAt a b (j / 2) = true := by
  have h1 : j / 2 < a.length := by omega
  have h2 : j / 2 < b.length := by omega
  unfold gtE evI at h
  unfold lteAt
  rw [List.getElem?_eq_getElem h1, List.getElem?_eq_getElem h2] at *
  simp only [decide_eq_true_eq] at h
  by_cases hc : j % 2 = 0
  · simp only [hc, if_true] at h; simp [h]
  · simp only [hc, if_false] at h; simp [h]
theorem over_both (a b : List Kall) (h : overB a b = true) : a.length = b.length ∧ earB a b a.length = true ∧ lteB a b a.length = true := by
  unfold overB at h
  rw [Bool.and_eq_true, List.any_eq_true] at h
  obtain ⟨hp, j, hj, hh⟩ := h
  have he : a.length = b.length := by
    unfold patB at hp; rw [Bool.and_eq_true] at hp; exact of_decide_eq_true hp.1
  rw [List.mem_range] at hj
  unfold hitE latE at hh
  rw [Bool.and_eq_true, List.any_eq_true] at hh
  obtain ⟨⟨i, hi, hg⟩, hl⟩ := hh
  rw [List.mem_range] at hi
  refine ⟨he, ?_, ?_⟩
  · unfold earB; rw [List.any_eq_true]
    exact ⟨j / 2, by rw [List.mem_range]; omega, ev_ear a b he j hj hl⟩
  · unfold lteB; rw [List.any_eq_true]
    exact ⟨i / 2, by rw [List.mem_range]; omega, ev_lte a b he i (by omega) hg⟩
theorem overt_in (T : Timetable) (hT : T.Ok) (a b : Trip) (ha : a ∈ T.trips) (ho : overB a.calls b.calls = true) (l : List PV) (i : Nat) (hi : i < 1000000) (rec24) :
    lpS.run (law24_LintOvertakes_L1 rec24) (l, (i : Int), a.calls.map Kall.pv, b.calls.map Kall.pv, false, false, 0, tl T ()) = rec24 (l, ((i + 1 : Nat) : Int), tl T ()) := by
  have hm := maxLen_lt
  have hl := (hT.trips.2 a ha).calls.1
  obtain ⟨he, e1, e2⟩ := over_both _ _ ho
  refine loop_until (fun k => (l, (i : Int), a.calls.map Kall.pv, b.calls.map Kall.pv, earB a.calls b.calls k, lteB a.calls b.calls k, (k : Int), tl T ())) a.calls.length (fun k hk rec => ?_) (fun rec => ?_) ?_ rfl
  · have h1 : (k : Int) < (a.calls.length : Int) := by omega
    have hk2 : k < b.calls.length := by omega
    have f1 : earAt a.calls b.calls k = (decide (a.calls[k].arr < b.calls[k].arr) || decide (a.calls[k].dep < b.calls[k].dep)) := by unfold earAt; rw [List.getElem?_eq_getElem hk, List.getElem?_eq_getElem hk2]
    have f2 : lteAt a.calls b.calls k = (decide (a.calls[k].arr > b.calls[k].arr) || decide (a.calls[k].dep > b.calls[k].dep)) := by unfold lteAt; rw [List.getElem?_eq_getElem hk, List.getElem?_eq_getElem hk2]
    simp only [law24_LintOvertakes_L1, tl, decide_eq_true_eq, List.length_map, h1, if_true, idxP_nat, List.getElem?_map, List.getElem?_eq_getElem hk, List.getElem?_eq_getElem hk2, Option.map_some, bind_some', kall1, kall2, asInt, bif_or', earB_succ, lteB_succ, f1, f2, Bool.or_assoc, wrap_nat (show k < 9223372036854775807 by omega)]
  · simp only [law24_LintOvertakes_L1, tl, decide_eq_true_eq, List.length_map, Int.lt_irrefl, if_false, e1, e2, Bool.not_true, cond_false, bind_some', Bool.false_eq_true, wrap_nat (show i < 9223372036854775807 by omega)]
  · have := rounds_gt; omega
theorem overtakes_law (T : Timetable) (hT : T.Ok) : law24_LintOvertakes_M [T.pv] = some (.bool true) := by
  have hm := maxLen_lt
  obtain ⟨b, hb, hB⟩ := large_ok T hT
  simp only [law24_LintOvertakes_M, law24_LintOvertakes, ttA, tt0, tt1, tt2, tt3, tt4, tt5, tt6, tt7, tt8, tt9, tt10, tt11, tt12, asSl, asInt, asBool, if_true, bind_some', ttE, hb]
  cases b with
  | true => simp only [cond_true, bind_some', if_true, exampleHolds24]
  | false =>
    have hB' := hB rfl
    have hv := valid_ok T hT hB'.small
    simp only [cond_false, hv, bind_some']
    cases hok : ttOk T with
    | false => simp only [Bool.not_false, if_true, exampleHolds24, bind_some']
    | true =>
      have hw := warnings_prog T hT hB'
      have hlen := progW_len T hB'
      simp only [hok, if_true] at hw
      simp only [Bool.not_true, Bool.false_eq_true, if_false, hw, bind_some']
      refine loop_until (fun k => ((progW T).map Warn.pv, (k : Int), tl T ())) (progW T).length (fun k hk rec => ?_) (fun rec => ?_) ?_ rfl
      · have h1 : (k : Int) < ((progW T).length : Int) := by omega
        have hh := prog_holds2 T _ (List.getElem_mem hk)
        have hwr := wrap_nat (show k < 9223372036854775807 by omega)
        simp only [law24_LintOvertakes_L2, tl, decide_eq_true_eq, List.length_map, h1, if_true, idxP_nat, List.getElem?_map, List.getElem?_eq_getElem hk, Option.map_some, bind_some', warn0, warn1, warn2, asInt, bif_or', bne_d, beq_d]
        generalize (progW T)[k] = w at hh
        by_cases h5 : w.kind = 5
        · unfold holdsB at hh
          by_cases hd : (decide (w.a < 0) || (!decide (w.kind = 5) && !decide (w.b = 0))) = true
          · rw [if_pos hd] at hh; cases hh
          rw [if_neg hd] at hh
          simp only [h5, show ¬ ((5 : Int) = 1) from by decide, show ¬ ((5 : Int) = 2) from by decide, show ¬ ((5 : Int) = 3) from by decide, show ¬ ((5 : Int) = 4) from by decide, if_false, if_true, Bool.and_eq_true, decide_eq_true_eq] at hh
          have h0 : ¬ w.a < 0 := fun hc => hd (by simp [hc])
          obtain ⟨i, hi⟩ : ∃ i : Nat, w.a = i := ⟨w.a.toNat, by omega⟩
          obtain ⟨j, hj⟩ : ∃ j : Nat, w.b = j := ⟨w.b.toNat, by omega⟩
          have hlt1 : i < T.trips.length := by omega
          have hlt2 : j < T.trips.length := by omega
          have ho := hh.2
          rw [hi, hj, Int.toNat_natCast, Int.toNat_natCast] at ho
          unfold overAt at ho
          rw [List.getElem?_eq_getElem hlt1, List.getElem?_eq_getElem hlt2] at ho
          simp only [Bool.and_eq_true, Bool.not_eq_true', decide_eq_false_iff_not] at ho
          have hne : ¬ (i : Int) = (j : Int) := ho.1.1.1.1
          obtain ⟨he, _, _⟩ := over_both _ _ ho.2
          have hbad : (decide ((i : Int) < 0) || decide ((i : Int) ≥ (T.trips.length : Int)) || decide ((j : Int) < 0) || decide ((j : Int) ≥ (T.trips.length : Int)) || decide ((i : Int) = (j : Int))) = false := by
            simp only [Bool.or_eq_false_iff, decide_eq_false_iff_not]
            refine ⟨⟨⟨⟨?_, ?_⟩, ?_⟩, ?_⟩, hne⟩ <;> omega
          have hin := overt_in T hT T.trips[i] T.trips[j] (List.getElem_mem hlt1) ho.2 ((progW T).map Warn.pv) k (by omega) rec
          simp only [tl] at hin
          have hlen2 : (!decide ((T.trips[i].calls.length : Int) = (T.trips[j].calls.length : Int))) = false := by
            have : ((T.trips[i].calls.length : Int) = (T.trips[j].calls.length : Int)) := by omega
            simp [this]
          simp only [h5, decide_true, Bool.not_true, Bool.false_eq_true, if_false, hi, hj, hbad, idxP_nat, List.getElem?_map, List.getElem?_eq_getElem hlt1, List.getElem?_eq_getElem hlt2, Option.map_some, bind_some', trip4, asSl, if_true, List.length_map, hlen2, hin]
        · simp only [h5, decide_false, Bool.not_false, if_true, hwr]
      · simp only [law24_LintOvertakes_L2, tl, decide_eq_true_eq, List.length_map, Int.lt_irrefl, if_false, bind_some', exampleHolds24, asBool]
      · have := rounds_gt; have : 100000 ≤ maxLen := by decide
        omega
end Go.Ab.Tt
