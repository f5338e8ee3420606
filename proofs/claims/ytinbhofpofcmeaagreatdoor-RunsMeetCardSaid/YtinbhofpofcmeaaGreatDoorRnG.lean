/- Small timetables; the runs of a day and of some days, or the error; equal runs. -/
import Derived.Test.YtinbhofpofcmeaaGreatDoorRnF
namespace Go.Ab.Tt
set_option maxRecDepth 100000
set_option linter.unusedVariables false
set_option linter.unusedSimpArgs false

def longC (T : Timetable) (k : Nat) : Bool := match T.trips[k]? with | some x => decide ((x.calls.length : Int) > 40) | none => false
theorem few_ok (T : Timetable) : ∃ b, ref22_Few_M [T.pv] = some (.bool b) ∧ (b = true → FewP T) := by
  simp only [ref22_Few_M, ref22_Few, ttA, tt0, tt1, tt2, tt3, tt4, tt5, tt6, tt7, tt8, tt9, tt10, tt11, tt12, asSl, asInt, if_true, bind_some', bif_or', List.length_map]
  split
  · exact ⟨false, rfl, fun h => by cases h⟩
  · rename_i h
    simp only [Bool.or_eq_true, decide_eq_true_eq, not_or] at h
    obtain ⟨⟨⟨⟨⟨⟨⟨⟨⟨h0, h1⟩, h2⟩, h3⟩, h4⟩, h5⟩, h6⟩, h7⟩, h8⟩, h9⟩ := h
    refine ⟨!(List.range T.trips.length).any (longC T), ?_, fun hb => ⟨by omega, by omega, by omega, by omega, by omega, by omega, fun y hy => ?_⟩⟩
    · refine (dup_scan (fun k => ((k : Int), T.stops.map Stop.pv, T.routes.map Route.pv, T.cals.map Cal.pv, T.excs.map Exc.pv, T.trips.map Trip.pv, T.freqs.map Freq.pv, T.thrs.map Thr.pv, T.guars.map Guar.pv, T.paths.map Path.pv, T.prods.map Prdt.pv, T.disc, T.within, T.cap, ())) T.trips.length (longC T) (no := some (.bool false)) (fin := some (.bool true)) (fun k hk rec => ?_) (fun rec => ?_) ?_ rfl).trans ?_
      · have h1 : (k : Int) < (T.trips.length : Int) := by omega
        simp only [ref22_Few_L1, decide_eq_true_eq, List.length_map, h1, if_true, idxP_nat, List.getElem?_map, List.getElem?_eq_getElem hk, Option.map_some, bind_some', trip4, asSl, wrap_nat (show k < 9223372036854775807 by omega), longC]
      · simp only [ref22_Few_L1, decide_eq_true_eq, List.length_map, Int.lt_irrefl, if_false]
      · have : 41 < rounds := by decide
        omega
      · cases (List.range T.trips.length).any (longC T) <;> rfl
    · simp only [Bool.not_eq_true', List.any_eq_false, List.mem_range] at hb
      obtain ⟨k, hk, rfl⟩ := List.mem_iff_getElem.1 hy
      have := hb k hk
      unfold longC at this
      rw [List.getElem?_eq_getElem hk] at this
      simp at this
      omega
def heavyF (T : Timetable) (k : Nat) : Bool := match T.freqs[k]? with | some f => soundB f && decide (IntKind.i64.wrap ((IntKind.i64.wrap (f.t1 - f.t0)).tdiv f.every) > 40) | none => false
theorem light_ok (T : Timetable) : ∃ b, ref25_Light_M [T.pv] = some (.bool b) ∧ (b = true → FewP T) := by
  obtain ⟨b, hb, hB⟩ := few_ok T
  simp only [ref25_Light_M, ref25_Light, ttA, tt0, tt1, tt2, tt3, tt4, tt5, tt6, tt7, tt8, tt9, tt10, tt11, tt12, asSl, asInt, asBool, if_true, bind_some', ttE, hb]
  cases b with
  | false => exact ⟨false, rfl, fun h => by cases h⟩
  | true =>
    have hF := hB rfl
    simp only [Bool.not_true, Bool.false_eq_true, if_false]
    refine ⟨!(List.range T.freqs.length).any (heavyF T), ?_, fun _ => hF⟩
    refine (dup_scan (fun k => ((k : Int), T.stops.map Stop.pv, T.routes.map Route.pv, T.cals.map Cal.pv, T.excs.map Exc.pv, T.trips.map Trip.pv, T.freqs.map Freq.pv, T.thrs.map Thr.pv, T.guars.map Guar.pv, T.paths.map Path.pv, T.prods.map Prdt.pv, T.disc, T.within, T.cap, ())) T.freqs.length (heavyF T) (no := some (.bool false)) (fin := some (.bool true)) (fun k hk rec => ?_) (fun rec => ?_) ?_ rfl).trans ?_
    · have h1 : (k : Int) < (T.freqs.length : Int) := by omega
      have hl := hF.freqs
      simp only [ref25_Light_L1, decide_eq_true_eq, List.length_map, h1, if_true, idxP_nat, List.getElem?_map, List.getElem?_eq_getElem hk, Option.map_some, bind_some', freq0, freq1, freq2, freq3, freqE, fsound_ref, asInt, asBool, wrap_nat (show k < 9223372036854775807 by omega), heavyF]
      generalize T.freqs[k] = f
      cases hs : soundB f with
      | false => simp only [cond_false, bind_some', Bool.false_eq_true, if_false, Bool.false_and]
      | true =>
        obtain ⟨g1, g2, g3, g4, g5⟩ := (sound_iff f).1 hs
        simp only [cond_true, if_neg (show ¬ f.every = 0 by omega), bind_some', Bool.true_and]
    · simp only [ref25_Light_L1, decide_eq_true_eq, List.length_map, Int.lt_irrefl, if_false]
    · have := hF.freqs
      have : 71 < rounds := by decide
      omega
    · cases (List.range T.freqs.length).any (heavyF T) <;> rfl

def ValidT (T : Timetable) : Prop := ∀ q, q < 10 → (partRes T q).2 = 0
theorem whole_cases (T : Timetable) : ∃ p i e, orFin ((List.range 10).findSome? (partBad T)) (some (whole3 0 0 0)) = some (whole3 p i e) ∧ (e = 0 → ValidT T) := by
  cases h : (List.range 10).findSome? (partBad T) with
  | none =>
    refine ⟨0, 0, 0, rfl, fun _ q hq => ?_⟩
    have := List.findSome?_eq_none_iff.1 h q (List.mem_range.2 hq)
    unfold partBad at this
    split at this
    · assumption
    · cases this
  | some r =>
    obtain ⟨q, hq, hr⟩ := List.exists_of_findSome?_eq_some h
    unfold partBad at hr
    split at hr
    · cases hr
    · rename_i hne
      simp only [Option.some.injEq] at hr
      exact ⟨_, _, _, hr.symm, fun e => absurd e hne⟩
def runsPV (l : List Run) (e : Int) : PV := .tup [.rs 8 (l.map Run.pv), .int .i64 e]
theorem daysPV_eq (l : List Run) : ∃ m e, daysPV l = runsPV m e ∧ (e = 0 → m = l ∧ l.length ≤ 1024) ∧ (e ≠ 0 → m = []) := by
  unfold daysPV
  by_cases h : l.length > 1024
  · exact ⟨[], 5, by rw [if_pos h]; rfl, (fun e => by cases e), fun _ => rfl⟩
  · exact ⟨l, 0, by rw [if_neg h]; rfl, (fun _ => ⟨rfl, by omega⟩), fun h => absurd rfl h⟩
theorem days_ref (T : Timetable) (hT : FewP T) (hok : T.Ok) (day to : Int) (n : Nat) (h0 : 0 ≤ day) (h1 : day + n ≤ 100000) (h8 : n ≤ 8) (hto : to = day + n - 1) :
    lpS.run (ref25_OfDays_L1 lpS) (to, day, tlT T ([], ())) = some (daysPV (daysRuns T day n)) := by
  refine loop_until (fun (k : Nat) => (to, day + (k : Int), tlT T ((daysRuns T day k).map Run.pv, ()))) n (fun k hk rec => ?_) (fun rec => ?_) ?_ ?_
  · have hc : day + (k : Int) ≤ to := by omega
    have hl1 := daysRuns_len T hT day k
    have hl2 := dayRuns_len T hT (day + k)
    have hroom := room80 ((daysRuns T day k).map Run.pv ++ (dayRuns T (day + k)).map Run.pv) (by rw [List.length_append, List.length_map, List.length_map]; omega)
    simp only [tlT]
    simp only [ref25_OfDays_L1, decide_eq_true_eq, hc, if_true, ttE, day_ref T hT hok, bind_some', asSl, daysRuns_succ, List.map_append]
    rw [if_pos hroom, wrap_in (show -9223372036854775808 ≤ day + (k : Int) + 1 by omega) (by omega), show day + (k : Int) + 1 = day + ((k + 1 : Nat) : Int) by omega]
  · have hc : ¬ day + (n : Int) ≤ to := by omega
    simp only [ref25_OfDays_L1, tlT, decide_eq_true_eq, hc, if_false, List.length_map]
    unfold daysPV
    by_cases h : (daysRuns T day n).length > 1024
    · rw [if_pos h, if_pos (by omega)]; rfl
    · rw [if_neg h, if_neg (by omega)]
  · have : 9 < rounds := by decide
    omega
  · simp [daysRuns, tlT]
theorem ofdays_both (T : Timetable) (hT : FewP T) (hok : T.Ok) (a b : Int) : ∃ l e, runs_OfDays_M [T.pv, .int .i64 a, .int .i64 b] = some (runsPV l e) ∧ ref25_OfDays_M [T.pv, .int .i64 a, .int .i64 b] = some (runsPV l e) ∧ (e = 0 → ValidT T ∧ dayB a = true ∧ dayB b = true ∧ a ≤ b ∧ b - a < 8 ∧ l = daysRuns T a (b - a + 1).toNat ∧ l.length ≤ 1024) ∧ (e ≠ 0 → l = []) := by
  obtain ⟨p, i, e, hw, hv⟩ := whole_cases T
  have hp := whole_prog T hok hT.small
  have hr := whole_ref T hok hT.small
  rw [hw] at hp hr
  simp only [runs_OfDays_M, runs_OfDays, ref25_OfDays_M, ref25_OfDays, ttA, tt0, tt1, tt2, tt3, tt4, tt5, tt6, tt7, tt8, tt9, tt10, tt11, tt12, asSl, asInt, if_true, bind_some', ttE, hp, hr, whole3, asTup, List.length_cons, List.length_nil, Nat.reduceAdd, List.getD_cons_zero, List.getD_cons_succ, bne_d, dvalid25, dvalid_prog, asBool, bif_or']
  by_cases he : e = 0
  · subst he
    simp only [decide_true, Bool.not_true, Bool.false_eq_true, if_false]
    by_cases hd : (!dayB a || !dayB b || decide (b < a)) = true
    · simp only [hd, if_true]
      exact ⟨[], 11, rfl, rfl, (fun h => by cases h), fun _ => rfl⟩
    · simp only [hd, if_false]
      simp only [Bool.or_eq_true, Bool.not_eq_true', decide_eq_true_eq, not_or, Bool.not_eq_false] at hd
      obtain ⟨⟨ha, hb⟩, hab⟩ := hd
      have hda := (dayB_iff a).1 ha
      have hdb := (dayB_iff b).1 hb
      rw [wrap_in (show -9223372036854775808 ≤ b - a by omega) (by omega)]
      by_cases h8 : b - a ≥ 8
      · simp only [h8, decide_true, if_true]
        exact ⟨[], 5, rfl, rfl, (fun h => by cases h), fun _ => rfl⟩
      · obtain ⟨n, hn⟩ : ∃ n : Nat, (b - a + 1).toNat = n := ⟨_, rfl⟩
        have hdp := days_prog T hT hok a n hda.1 (by omega) b (by omega)
        have hdr := days_ref T hT hok a b n hda.1 (by omega) (by omega) (by omega)
        simp only [tlT] at hdr
        simp only [h8, decide_false, Bool.false_eq_true, if_false, hdp, hdr, bind_some']
        obtain ⟨m, e, hme, hm, hm0⟩ := daysPV_eq (daysRuns T a n)
        rw [hme]
        refine ⟨m, e, ?_, rfl, fun h => ?_, hm0⟩
        · simp only [runsPV, asTup, List.length_cons, List.length_nil, Nat.reduceAdd, if_true, bind_some', List.getD_cons_zero, List.getD_cons_succ]
        · obtain ⟨h1, h2⟩ := hm h
          exact ⟨hv rfl, ha, hb, by omega, by omega, by rw [hn, h1], by rw [h1]; exact h2⟩
  · simp only [he, decide_false, Bool.not_false, if_true]
    exact ⟨[], e, rfl, rfl, (fun h => absurd h he), fun _ => rfl⟩

/-! ### equal runs -/
theorem kall_eqb (x y : Kall) : peqL [cell x.pv 0, cell x.pv 1, cell x.pv 2, cell x.pv 3, cell x.pv 4] [cell y.pv 0, cell y.pv 1, cell y.pv 2, cell y.pv 3, cell y.pv 4] = decide (x = y) := by
  obtain ⟨a1, a2, a3, a4, a5⟩ := x
  obtain ⟨b1, b2, b3, b4, b5⟩ := y
  simp [cell, Kall.pv, PV.cells, peqL, Ab.peq]
  rw [Bool.eq_iff_iff]; simp [and_assoc]
theorem same_lists {a b : List Kall} (hl : a.length = b.length) : (if (List.range a.length).any (fun k => !decide (a[k]? = b[k]?)) = true then some (PV.bool false) else some (PV.bool true)) = some (PV.bool (decide (a = b))) := by
  by_cases h : a = b
  · subst h; simp
  · rw [if_pos]
    · simp [h]
    · rw [List.any_eq_true]
      refine Classical.byContradiction fun hn => h (List.ext_getElem? fun k => ?_)
      by_cases hk : k < a.length
      · refine Classical.byContradiction fun he => hn ⟨k, List.mem_range.2 hk, by simp [he]⟩
      · rw [List.getElem?_eq_none (by omega), List.getElem?_eq_none (by omega)]
theorem run_iff (x y : Run) : x = y ↔ x.trip = y.trip ∧ x.day = y.day ∧ x.inst = y.inst ∧ x.id = y.id ∧ x.route = y.route ∧ x.free = y.free ∧ x.canc = y.canc ∧ x.calls = y.calls := by
  cases x; cases y; simp
theorem run_dec (x y : Run) : (decide (x.trip = y.trip) && decide (x.day = y.day) && decide (x.inst = y.inst) && decide (x.id = y.id) && decide (x.route = y.route) && decide (x.free = y.free) && decide (x.canc = y.canc) && decide (x.calls = y.calls)) = decide (x = y) := by
  rw [Bool.eq_iff_iff]
  simp only [Bool.and_eq_true, decide_eq_true_eq, run_iff, and_assoc]
/-- calls of runs are few -/
theorem tripRuns_calls {T : Timetable} (hT : FewP T) {day : Int} {i : Nat} {r : Run} (h : r ∈ tripRunsAt T day i) : r.calls.length ≤ 40 := by
  unfold tripRunsAt at h
  split at h
  · rename_i x hx
    have h40 := hT.small x (List.mem_of_getElem? hx)
    unfold tripRuns at h
    split at h
    · cases h
    · split at h
      · simp only [List.mem_singleton] at h
        subst h
        simpa [runOf] using h40
      · obtain ⟨k, _, rfl⟩ := List.mem_map.1 h
        simp only [runOf, List.length_map]
        exact Nat.le_trans (fcallsK_len _ _) h40
  · cases h
theorem dayRuns_calls {T : Timetable} (hT : FewP T) {day : Int} {r : Run} (h : r ∈ dayRuns T day) : r.calls.length ≤ 40 := by
  obtain ⟨i, _, hi⟩ := List.mem_flatMap.1 h
  exact tripRuns_calls hT hi
theorem daysRuns_calls {T : Timetable} (hT : FewP T) {day : Int} {n : Nat} {r : Run} (h : r ∈ daysRuns T day n) : r.calls.length ≤ 40 := by
  obtain ⟨i, _, hi⟩ := List.mem_flatMap.1 h
  exact dayRuns_calls hT hi
end Go.Ab.Tt
