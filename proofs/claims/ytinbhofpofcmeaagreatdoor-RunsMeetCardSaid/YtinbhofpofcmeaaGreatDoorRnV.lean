/- What a valid timetable says of its trips and frequencies. -/
import Derived.Test.YtinbhofpofcmeaaGreatDoorRnG
namespace Go.Ab.Tt
set_option maxRecDepth 100000
set_option linter.unusedVariables false
set_option linter.unusedSimpArgs false

theorem tripC (x : Trip) : PV.agg [cell x.pv 0, cell x.pv 1, cell x.pv 2, cell x.pv 3, cell x.pv 4] = x.pv := rfl
theorem dayS_eq {d : Int} (h : dayB d = true) : dayS d = d * 86400 ∧ 0 ≤ dayS d ∧ dayS d ≤ 3155673600 := by
  have hd := (dayB_iff d).1 h
  have : dayS d = d * 86400 := wrap_in (by omega) (by omega)
  rw [this]
  omega
theorem scanE_all (f : Nat → Int) (n : Nat) (h : (scanE f n).2 = 0) (k : Nat) (hk : k < n) : f k = 0 := by
  unfold scanE at h
  cases hf : (List.range n).findSome? (fun k => if f k = 0 then none else some ((k : Int), f k)) with
  | none =>
    rw [List.findSome?_eq_none_iff] at hf
    have := hf k (by simpa using hk)
    by_cases h0 : f k = 0
    · exact h0
    · rw [if_neg h0] at this; cases this
  | some x =>
    rw [hf] at h
    obtain ⟨j, _, hj⟩ := List.exists_of_findSome?_eq_some hf
    by_cases h0 : f j = 0
    · rw [if_pos h0] at hj; cases hj
    · rw [if_neg h0] at hj
      cases hj
      exact absurd h h0
theorem callE_zero {c : Kall} {p : Option Kall} {stops low high : Int} (h : callE c p stops low high = 0) : 0 ≤ c.stop ∧ c.stop < stops ∧ low ≤ c.arr ∧ c.arr ≤ c.dep ∧ c.dep ≤ high ∧ ∀ q, p = some q → q.dep ≤ c.arr ∧ q.stop ≠ c.stop := by
  unfold callE at h
  by_cases h1 : (decide (c.stop < 0) || decide (c.stop ≥ stops)) = true
  · rw [if_pos h1] at h; cases h
  · rw [if_neg h1] at h
    simp only [Bool.or_eq_true, decide_eq_true_eq, not_or] at h1
    cases p with
    | none =>
      simp only [Bool.false_eq_true, if_false, Bool.or_false] at h
      by_cases h3 : (decide (c.arr < low) || decide (c.arr > c.dep) || decide (c.dep > high)) = true
      · rw [if_pos h3] at h; cases h
      · simp only [Bool.or_eq_true, decide_eq_true_eq, not_or] at h3
        exact ⟨by omega, by omega, by omega, by omega, by omega, fun q hq => by cases hq⟩
    | some q =>
      simp only at h
      by_cases h2 : decide (q.stop = c.stop) = true
      · rw [if_pos h2] at h; cases h
      · rw [if_neg h2] at h
        by_cases h3 : (decide (c.arr < low) || decide (c.arr > c.dep) || decide (c.dep > high) || decide (c.arr < q.dep)) = true
        · rw [if_pos h3] at h; cases h
        · simp only [Bool.or_eq_true, decide_eq_true_eq, not_or] at h2 h3
          refine ⟨by omega, by omega, by omega, by omega, by omega, fun q' hq => ?_⟩
          cases hq
          exact ⟨by omega, h2⟩
structure TripOk (T : Timetable) (i : Nat) (x : Trip) : Prop where
  id : x.id ∉ (T.trips.map Trip.id).take i
  two : 2 ≤ x.calls.length
  most : x.calls.length ≤ 32
  call : ∀ (k : Nat) (c : Kall), x.calls[k]? = some c → 0 ≤ c.stop ∧ c.stop < (T.stops.length : Int) ∧ 0 ≤ c.arr ∧ c.arr ≤ c.dep ∧ c.dep ≤ 172800
  step : ∀ (k : Nat) (c d : Kall), x.calls[k]? = some c → x.calls[k + 1]? = some d → c.dep ≤ d.arr ∧ c.stop ≠ d.stop
theorem trip_valid {T : Timetable} (hV : ValidT T) {i : Nat} {x : Trip} (hx : T.trips[i]? = some x) : TripOk T i x := by
  have h4 : (tripRes T.trips T.stops.length T.routes.length T.cals.length).2 = 0 := hV 4 (by decide)
  unfold tripRes at h4
  split at h4
  · cases h4
  · have hi : i < T.trips.length := (List.getElem?_eq_some_iff.1 hx).1
    have he := scanE_all _ _ h4 i hi
    unfold tripErr at he
    rw [hx] at he
    simp only at he
    split at he
    · cases he
    · split at he
      · cases he
      · rename_i hid
        split at he
        · cases he
        · unfold callRes at he
          split at he
          · cases he
          · rename_i hlen
            simp only [Bool.or_eq_true, decide_eq_true_eq, not_or] at hlen
            have hc : ∀ (k : Nat) (c : Kall), x.calls[k]? = some c → callE c (prevK x.calls k) T.stops.length 0 172800 = 0 := fun k c hc => by
              have hk : k < x.calls.length := (List.getElem?_eq_some_iff.1 hc).1
              have := scanE_all _ _ he k hk
              unfold callErr at this
              rw [hc] at this
              exact this
            refine ⟨hid, by omega, by omega, fun k c h => ?_, fun k c d h h' => ?_⟩
            · have := callE_zero (hc k c h)
              omega
            · have := (callE_zero (hc (k + 1) d h')).2.2.2.2.2 c h
              exact this
theorem whole_valid {T : Timetable} (hV : ValidT T) : orFin ((List.range 10).findSome? (partBad T)) (some (whole3 0 0 0)) = some (whole3 0 0 0) := by
  have : (List.range 10).findSome? (partBad T) = none := by
    rw [List.findSome?_eq_none_iff]
    intro q hq
    unfold partBad
    rw [if_pos (hV q (List.mem_range.1 hq))]
  rw [this]; rfl
end Go.Ab.Tt
