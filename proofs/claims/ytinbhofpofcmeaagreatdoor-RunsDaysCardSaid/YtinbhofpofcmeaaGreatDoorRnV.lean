/- What a valid timetable says of its trips and frequencies. -/
import Derived.Test.YtinbhofpofcmeaaGreatDoorRnG
namespace Go.Ab.Tt
set_option maxRecDepth 100000
set_option linter.unusedVariables false
set_option linter.unusedSimpArgs false

theorem scanE_all (f : Nat → Int) (n : Nat) (h : (scanE f n).2 = 0) (k : Nat) (hk : k < n) : f k = 0 := by
  unfold scanE at h
  cases hf : (List.range n).findSome? (fun k => if f k = 0 then none else some ((k : Int), f k)) with
  | none =>
    rw [List.findSome?_eq_none_iff] at hf
    have := hf k (by simpa using hk)
    by_cases h0 : f k = 0
    · exact h0
    · rw [if_neg h0] at this; cases this
  | some x =>
    rw [hf] at h
    obtain ⟨j, _, hj⟩ := List.exists_of_findSome?_eq_some hf
    by_cases h0 : f j = 0
    · rw [if_pos h0] at hj; cases hj
    · rw [if_neg h0] at hj
      cases hj
      exact absurd h h0
theorem callE_zero {c : Kall} {p : Option Kall} {stops low high : Int} (h : callE c p stops low high = 0) : 0 ≤ c.stop ∧ c.stop < stops ∧ low ≤ c.arr ∧ c.arr ≤ c.dep ∧ c.dep ≤ high ∧ ∀ q, p = some q → q.dep ≤ c.arr ∧ q.stop ≠ c.stop := by
  unfold callE at h
  by_cases h1 : (decide (c.stop < 0) || decide (c.stop ≥ stops)) = true
  · rw [if_pos h1] at h; cases h
  · rw [if_neg h1] at h
    simp only [Bool.or_eq_true, decide_eq_true_eq, not_or] at h1
    cases p with
    | none =>
      simp only [Bool.false_eq_true, if_false, Bool.or_false] at h
      by_cases h3 : (decide (c.arr < low) || decide (c.arr > c.dep) || decide (c.dep > high)) = true
      · rw [if_pos h3] at h; cases h
      · simp only [Bool.or_eq_true, decide_eq_true_eq, not_or] at h3
        exact ⟨by omega, by omega, by omega, by omega, by omega, fun q hq => by cases hq⟩
    | some q =>
      simp only at h
      by_cases h2 : decide (q.stop = c.stop) = true
      · rw [if_pos h2] at h; cases h
      · rw [if_neg h2] at h
        by_cases h3 : (decide (c.arr < low) || decide (c.arr > c.dep) || decide (c.dep > high) || decide (c.arr < q.dep)) = true
        · rw [if_pos h3] at h; cases h
        · simp only [Bool.or_eq_true, decide_eq_true_eq, not_or] at h2 h3
          refine ⟨by omega, by omega, by omega, by omega, by omega, fun q' hq => ?_⟩
          cases hq
          exact ⟨by omega, h2⟩
structure TripOk (T : Timetable) (i : Nat) (x : Trip) : Prop where
  id : x.id ∉ (T.trips.map Trip.id).take i
  two : 2 ≤ x.calls.length
  most : x.calls.length ≤ 32
  call : ∀ (k : Nat) (c : Kall), x.calls[k]? = some c → 0 ≤ c.stop ∧ c.stop < (T.stops.length : Int) ∧ 0 ≤ c.arr ∧ c.arr ≤ c.dep ∧ c.dep ≤ 172800
  step : ∀ (k : Nat) (c d : Kall), x.calls[k]? = some c → x.calls[k + 1]? = some d → c.dep ≤ d.arr ∧ c.stop ≠ d.stop
theorem trip_valid {T : Timetable} (hV : ValidT T) {i : Nat} {x : Trip} (hx : T.trips[i]? = some x) : TripOk T i x := by
  have h4 : (tripRes T.trips T.stops.length T.routes.length T.cals.length).2 = 0 := hV 4 (by decide)
  unfold tripRes at h4
  split at h4
  · cases h4
  · have hi : i < T.trips.length := (List.getElem?_eq_some_iff.1 hx).1
    have he := scanE_all _ _ h4 i hi
    unfold tripErr at he
    rw [hx] at he
    simp only at he
    split at he
    · cases he
    · split at he
      · cases he
      · rename_i hid
        split at he
        · cases he
        · unfold callRes at he
          split at he
          · cases he
          · rename_i hlen
            simp only [Bool.or_eq_true, decide_eq_true_eq, not_or] at hlen
            have hc : ∀ (k : Nat) (c : Kall), x.calls[k]? = some c → callE c (prevK x.calls k) T.stops.length 0 172800 = 0 := fun k c hc => by
              have hk : k < x.calls.length := (List.getElem?_eq_some_iff.1 hc).1
              have := scanE_all _ _ he k hk
              unfold callErr at this
              rw [hc] at this
              exact this
            refine ⟨hid, by omega, by omega, fun k c h => ?_, fun k c d h h' => ?_⟩
            · have := callE_zero (hc k c h)
              omega
            · have := (callE_zero (hc (k + 1) d h')).2.2.2.2.2 c h
              exact this
theorem ids_inj {T : Timetable} (hV : ValidT T) {i j : Nat} {x y : Trip} (hx : T.trips[i]? = some x) (hy : T.trips[j]? = some y) (h : x.id = y.id) : i = j := by
  have key : ∀ {i j : Nat} {x y : Trip}, T.trips[i]? = some x → T.trips[j]? = some y → x.id = y.id → ¬ i < j := fun {i j x y} hx hy h hij => by
    refine (trip_valid hV hy).id ?_
    rw [List.mem_iff_getElem?]
    refine ⟨i, ?_⟩
    rw [List.getElem?_take_of_lt hij, List.getElem?_map, hx, Option.map_some, h]
  have h1 := key hx hy h
  have h2 := key hy hx h.symm
  omega
theorem freq_valid {T : Timetable} (hV : ValidT T) {k : Nat} {f : Freq} (hf : T.freqs[k]? = some f) : 0 ≤ f.trip ∧ f.trip < (T.trips.length : Int) ∧ soundB f = true ∧ fitsAt T.trips f = true := by
  have h5 : (freqRes T.freqs T.trips).2 = 0 := hV 5 (by decide)
  unfold freqRes at h5
  split at h5
  · cases h5
  · have hk : k < T.freqs.length := (List.getElem?_eq_some_iff.1 hf).1
    have he := scanE_all _ _ h5 k hk
    unfold freqErr at he
    rw [hf] at he
    simp only at he
    split at he
    · cases he
    · rename_i h1
      split at he
      · cases he
      · rename_i h2
        simp only [Bool.or_eq_true, decide_eq_true_eq, not_or, Bool.not_eq_true', Bool.not_eq_false] at h1 h2
        exact ⟨by omega, by omega, h2.1, h2.2⟩
theorem callsE_iff (c : Kall) (l : List Kall) (s : Int) : callsE (c :: l) s = 0 ↔ ∀ (k : Nat) (x : Kall), (c :: l)[k]? = some x → 0 ≤ x.arr - c.dep + s ∧ x.arr - c.dep + s ≤ 172800 ∧ 0 ≤ x.dep - c.dep + s ∧ x.dep - c.dep + s ≤ 172800 := by
  show (if (List.range (c :: l).length).all (kOkAt (c :: l) c.dep s) = true then (0 : Int) else 10) = 0 ↔ _
  have e : (if (List.range (c :: l).length).all (kOkAt (c :: l) c.dep s) = true then (0 : Int) else 10) = 0 ↔ (List.range (c :: l).length).all (kOkAt (c :: l) c.dep s) = true := by
    split
    · rename_i h; exact ⟨fun _ => h, fun _ => rfl⟩
    · rename_i h; exact ⟨fun e => absurd e (by decide), fun e => absurd e h⟩
  rw [e, List.all_eq_true]
  constructor
  · intro h k x hx
    have := h k (List.mem_range.2 (List.getElem?_eq_some_iff.1 hx).1)
    unfold kOkAt at this
    rw [hx] at this
    simp only [kOk, mvOk, Bool.and_eq_true, decide_eq_true_eq] at this
    omega
  · intro h k hk
    unfold kOkAt
    cases hx : (c :: l)[k]? with
    | none => rfl
    | some x =>
      have := h k x hx
      simp only [kOk, mvOk, Bool.and_eq_true, decide_eq_true_eq]
      omega
theorem starts_fit {T : Timetable} (hV : ValidT T) {i : Nat} {x : Trip} (hx : T.trips[i]? = some x) {s : Int} (hs : s ∈ instI T.freqs i) : callsE x.calls s = 0 := by
  obtain ⟨f, hf, hfi, hsf⟩ := (instI_mem _ _ _).1 hs
  obtain ⟨k, hk⟩ := List.mem_iff_getElem?.1 hf
  obtain ⟨_, _, hso, hfit⟩ := freq_valid hV hk
  have hx' : T.trips[f.trip.toNat]? = some x := by rw [hfi, Int.toNat_natCast]; exact hx
  unfold fitsAt at hfit
  rw [hx'] at hfit
  have ht := trip_valid hV hx
  rw [startsI_sound f hso] at hsf
  obtain ⟨j, hj, rfl⟩ := List.mem_map.1 hsf
  have hj' := List.mem_range.1 hj
  have hsb := (sound_iff f).1 hso
  have hc := cnt_le f hso
  have hle : (j : Int) ≤ cntF f - 1 := by omega
  have hm : (j : Int) * f.every ≤ (cntF f - 1) * f.every := Int.mul_le_mul_of_nonneg_right hle (by omega)
  have hm0 : 0 ≤ (j : Int) * f.every := Int.mul_nonneg (by omega) (by omega)
  have hlast : lastF f = f.t0 + (cntF f - 1) * f.every := rfl
  cases hl : x.calls with
  | nil => have := ht.two; rw [hl] at this; simp at this
  | cons c l =>
    replace hfit : fitsB x f = true := hfit
    unfold fitsB at hfit
    rw [hl] at hfit
    simp only [Bool.and_eq_true, decide_eq_true_eq] at hfit
    have e1 : callsE (c :: l) f.t0 = 0 := (callsE_cases c l f.t0).resolve_right hfit.1
    have e2 : callsE (c :: l) (lastF f) = 0 := (callsE_cases c l (lastF f)).resolve_right hfit.2
    rw [callsE_iff] at e1 e2 ⊢
    intro k y hy
    have a := e1 k y hy
    have b := e2 k y hy
    omega
theorem whole_valid {T : Timetable} (hV : ValidT T) : orFin ((List.range 10).findSome? (partBad T)) (some (whole3 0 0 0)) = some (whole3 0 0 0) := by
  have : (List.range 10).findSome? (partBad T) = none := by
    rw [List.findSome?_eq_none_iff]
    intro q hq
    unfold partBad
    rw [if_pos (hV q (List.mem_range.1 hq))]
  rw [this]; rfl
theorem ofday_ok {T : Timetable} (hT : FewP T) (hok : T.Ok) (hV : ValidT T) (day : Int) (hd : dayB day = true) (hl : (dayRuns T day).length ≤ 1024) : runs_OfDay_M [T.pv, .int .i64 day] = some (runsPV (dayRuns T day) 0) := by
  have hp := whole_prog T hok hT.small
  rw [whole_valid hV] at hp
  have hdb := (dayB_iff day).1 hd
  have hdp := days_prog T hT hok day 1 hdb.1 (by omega) day (by omega)
  rw [daysRuns_one] at hdp
  simp only [runs_OfDay_M, runs_OfDay, ttA, tt0, tt1, tt2, tt3, tt4, tt5, tt6, tt7, tt8, tt9, tt10, tt11, tt12, asSl, asInt, if_true, bind_some', ttE, hp, whole3, asTup, List.length_cons, List.length_nil, Nat.reduceAdd, List.getD_cons_zero, List.getD_cons_succ, bne_d, dvalid_prog, asBool, decide_true, Bool.not_true, Bool.false_eq_true, if_false, hd, hdp]
  unfold daysPV
  rw [if_neg (by omega)]
  rfl
theorem days_le {T : Timetable} {a : Int} : ∀ {n k : Nat}, k < n → (dayRuns T (a + k)).length ≤ (daysRuns T a n).length
  | 0, k, h => absurd h (Nat.not_lt_zero _)
  | n + 1, k, h => by
    rw [daysRuns_succ, List.length_append]
    rcases Nat.lt_or_ge k n with h' | h'
    · have := days_le (T := T) (a := a) h'; omega
    · have : k = n := by omega
      subst this; omega
end Go.Ab.Tt
