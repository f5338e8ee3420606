/- Equal: the trips of the document's, and the law. -/
import Derived.Test.YtlgcompmkliiaaaTtEq2
namespace Go.Ab.Tt
set_option maxRecDepth 100000
set_option linter.unusedVariables false

theorem trips_inner (a b : List Trip) (i : Nat) (hi : i < a.length) (hi' : i < b.length) (hl : a[i].calls.length = b[i].calls.length) (hc : a[i].calls.length ≤ maxLen) (rec3 : List PV × List PV × Int × Unit → Option PV) :
    lpS.run (ref22_trips_L1 rec3) (a.map Trip.pv, b.map Trip.pv, (i : Int), 0, ()) = if a[i].calls = b[i].calls then rec3 (a.map Trip.pv, b.map Trip.pv, IntKind.i64.wrap ((i : Int) + 1), ()) else some (.bool false) := by
  have hm := maxLen_lt
  refine (loop_scan (fun k => (a.map Trip.pv, b.map Trip.pv, (i : Int), (k : Int), ())) a[i].calls.length (fun k => if a[i].calls[k]? = b[i].calls[k]? then none else some (some (.bool false))) (fun k hk rec => ?_) (fin := rec3 (a.map Trip.pv, b.map Trip.pv, IntKind.i64.wrap ((i : Int) + 1), ())) (fun rec => ?_) ?_ rfl).trans ?_
  · have h1 : (k : Int) < (a[i].calls.length : Int) := by omega
    have hk' : k < b[i].calls.length := by omega
    simp only [ref22_trips_L1, idxP_nat, List.getElem?_map, List.getElem?_eq_getElem hi, List.getElem?_eq_getElem hi', Option.map_some, bind_some', trip_calls, asSl, if_true, decide_eq_true_eq, List.length_map, h1, List.getElem?_eq_getElem hk, List.getElem?_eq_getElem hk']
    rw [if_pos ⟨rfl, rfl⟩, Kall.peq, wrap_nat (by omega)]
    by_cases he : a[i].calls[k] = b[i].calls[k]
    · simp [he]
    · simp [he]
  · simp only [ref22_trips_L1, idxP_nat, List.getElem?_map, List.getElem?_eq_getElem hi, Option.map_some, bind_some', trip_calls, asSl, if_true, decide_eq_true_eq, List.length_map, Int.lt_irrefl, if_false]
  · have := rounds_gt; omega
  · exact scan_eq _ _ hl _ _

theorem trips_eq (a b : List Trip) (ha : a.length ≤ maxLen) (hc : ∀ x ∈ a, x.calls.length ≤ maxLen) : ref22_trips_M [.rs 5 (a.map Trip.pv), .rs 5 (b.map Trip.pv)] = some (.bool (decide (a = b))) := by
  have hm := maxLen_lt
  simp only [ref22_trips_M, ref22_trips, asSl, if_true, bind_some', List.length_map]
  by_cases h : a.length = b.length
  · rw [if_neg (by rw [int_bne]; simp [h])]
    refine (loop_scan (fun k => (a.map Trip.pv, b.map Trip.pv, (k : Int), ())) a.length (fun k => if a[k]? = b[k]? then none else some (some (.bool false))) (fun k hk rec => ?_) (fin := some (.bool true)) (fun rec => ?_) ?_ rfl).trans ?_
    · have h1 : (k : Int) < (a.length : Int) := by omega
      have hk' : k < b.length := by omega
      have hin := trips_inner a b k hk hk'
      have hca := hc _ (List.getElem_mem hk)
      simp only [ref22_trips_L2, decide_eq_true_eq, List.length_map, h1, if_true, idxP_nat, List.getElem?_map, List.getElem?_eq_getElem hk, List.getElem?_eq_getElem hk', Option.map_some, bind_some']
      rw [wrap_nat (show k < 9223372036854775807 by omega)] at hin
      generalize a[k] = x at *
      generalize b[k] = y at *
      obtain ⟨i1, r1, c1, f1, l1⟩ := x
      obtain ⟨i2, r2, c2, f2, l2⟩ := y
      simp only at hin hca
      simp only [Trip.pv, cell, PV.cells, List.getD_cons_zero, List.getD_cons_succ, asStr, asInt, asBool, asSl, if_true, bind_some', List.length_map, int_bne]
      by_cases e0 : l1.length = l2.length
      · rw [hin e0 hca]
        by_cases e1 : i1 = i2 <;> by_cases e2 : r1 = r2 <;> by_cases e3 : c1 = c2 <;> by_cases e4 : f1 = f2 <;> by_cases e5 : l1 = l2 <;> simp [beq_dec, bne_dec, e0, e1, e2, e3, e4, e5]
      · have e5 : l1 ≠ l2 := fun e => e0 (by rw [e])
        by_cases e1 : i1 = i2 <;> by_cases e2 : r1 = r2 <;> by_cases e3 : c1 = c2 <;> by_cases e4 : f1 = f2 <;> simp [beq_dec, bne_dec, e0, e1, e2, e3, e4, e5]
    · simp only [ref22_trips_L2, decide_eq_true_eq, List.length_map, Int.lt_irrefl, if_false]
    · have := rounds_gt; omega
    · refine (scan_eq a b h (some (PV.bool true)) (some (PV.bool false))).trans ?_
      split <;> simp [*]
  · rw [if_pos (by rw [int_bne]; simp [h])]
    have : a ≠ b := fun e => h (by rw [e])
    simp [this]

def eqB (A B : Timetable) : Bool :=
  decide (A.stops = B.stops) && decide (A.routes = B.routes) && decide (A.cals = B.cals) && decide (A.excs = B.excs) && decide (A.trips = B.trips) && decide (A.freqs = B.freqs) && decide (A.thrs = B.thrs) && decide (A.guars = B.guars) && decide (A.paths = B.paths) &&
    decide (A.disc = B.disc) && decide (A.within = B.within) && decide (A.cap = B.cap) && decide (A.prods = B.prods)

theorem fares_eq (a b : List Prdt) (d w c d' w' c' : Int) (ha : a.length ≤ maxLen) : timetable_sameFares_M [.agg [.rs 6 (a.map Prdt.pv), .int .i64 d, .int .i64 w, .int .i64 c], .agg [.rs 6 (b.map Prdt.pv), .int .i64 d', .int .i64 w', .int .i64 c']] =
    some (.bool (decide (d = d') && decide (w = w') && decide (c = c') && decide (a = b))) := by
  simp only [timetable_sameFares_M, timetable_sameFares, asAgg, asSl, asInt, cell, PV.cells, List.getD_cons_zero, List.getD_cons_succ, List.length_cons, List.length_nil, if_true, bind_some', Nat.reduceAdd, timetable_same_Product_eq a b ha]
  by_cases e1 : d = d' <;> by_cases e2 : w = w' <;> by_cases e3 : c = c' <;> simp [beq_dec, e1, e2, e3, asBool]

theorem equal_prog (A B : Timetable) (hA : A.Ok) : timetable_Equal_M [A.pv, B.pv] = some (.bool (eqB A B)) := by
  have h5 := sameTrips_eq A.trips B.trips hA.trips.1 (fun x hx => (hA.trips.2 x hx).calls.1)
  simp only [timetable_Equal_M, timetable_Equal, Timetable.pv, asAgg, asSl, asInt, cell, PV.cells, List.getD_cons_zero, List.getD_cons_succ, List.length_cons, List.length_nil, if_true, bind_some', Nat.reduceAdd,
    timetable_same_Stop_eq A.stops B.stops hA.stops.1, timetable_same_Route_eq A.routes B.routes hA.routes.1, timetable_same_Calendar_eq A.cals B.cals hA.cals.1, timetable_same_Exception_eq A.excs B.excs hA.excs.1, h5,
    timetable_same_Frequency_eq A.freqs B.freqs hA.freqs.1, timetable_same_Through_eq A.thrs B.thrs hA.thrs.1, timetable_same_Guarantee_eq A.guars B.guars hA.guars.1, timetable_same_Footpath_eq A.paths B.paths hA.paths.1, fares_eq A.prods B.prods A.disc A.within A.cap B.disc B.within B.cap hA.prods.1, asBool]
  unfold eqB
  generalize decide (A.stops = B.stops) = b1
  generalize decide (A.routes = B.routes) = b2
  generalize decide (A.cals = B.cals) = b3
  generalize decide (A.excs = B.excs) = b4
  generalize decide (A.trips = B.trips) = b5
  generalize decide (A.freqs = B.freqs) = b6
  generalize decide (A.thrs = B.thrs) = b7
  generalize decide (A.guars = B.guars) = b8
  generalize decide (A.paths = B.paths) = b9
  cases b1 <;> cases b2 <;> cases b3 <;> cases b4 <;> cases b5 <;> cases b6 <;> cases b7 <;> cases b8 <;> cases b9 <;> simp

theorem equal_ref (A B : Timetable) (hA : A.Ok) : ref22_Equal_M [A.pv, B.pv] = some (.bool (eqB A B)) := by
  have h1 := ref22_heads_eq A B hA.stops.1 hA.routes.1 hA.cals.1 hA.excs.1
  have h2 := ref22_tails_eq A B hA.freqs.1 hA.thrs.1 hA.guars.1 hA.paths.1 hA.prods.1
  have h5 := trips_eq A.trips B.trips hA.trips.1 (fun x hx => (hA.trips.2 x hx).calls.1)
  simp only [Timetable.pv] at h1 h2
  simp only [ref22_Equal_M, ref22_Equal, Timetable.pv, asAgg, asSl, asInt, cell, PV.cells, List.getD_cons_zero, List.getD_cons_succ, List.length_cons, List.length_nil, if_true, bind_some', Nat.reduceAdd, h1, h2, h5, asBool]
  unfold eqB
  by_cases e1 : A.stops = B.stops <;> by_cases e2 : A.routes = B.routes <;> by_cases e3 : A.cals = B.cals <;> by_cases e4 : A.excs = B.excs <;> by_cases e5 : A.trips = B.trips <;> simp only [e1, e2, e3, e4, e5, decide_true, decide_false, Bool.and_true, Bool.and_false, Bool.false_and, Bool.true_and, cond, bind_some']
  generalize decide (A.freqs = B.freqs) = b6
  generalize decide (A.thrs = B.thrs) = b7
  generalize decide (A.guars = B.guars) = b8
  generalize decide (A.paths = B.paths) = b9
  generalize decide (A.prods = B.prods) = b10
  cases b6 <;> cases b7 <;> cases b8 <;> cases b9 <;> cases b10 <;> by_cases e6 : A.disc = B.disc <;> by_cases e7 : A.within = B.within <;> by_cases e8 : A.cap = B.cap <;> simp [beq_dec, e6, e7, e8]

theorem eqB_self (A : Timetable) : eqB A A = true := by simp [eqB]

theorem equals_law (A B : Timetable) (hA : A.Ok) (hB : B.Ok) : law22_TimetableEquals_M [A.pv, B.pv] = some (.bool true) := by
  have hf := few_ok A hA.trips.1
  have hf2 := few_ok B hB.trips.1
  have h1 := equal_prog A B hA
  have h2 := equal_ref A B hA
  have h4 := equal_prog A A hA
  have h3 := exampleHolds22
  rw [eqB_self] at h4
  simp only [Timetable.pv] at hf hf2 h1 h2 h4
  simp only [law22_TimetableEquals_M, law22_TimetableEquals, Timetable.pv, asAgg, asSl, asInt, cell, PV.cells, List.getD_cons_zero, List.getD_cons_succ, List.length_cons, List.length_nil, if_true, bind_some', Nat.reduceAdd, hf, hf2, h1, h2, h3, h4, asBool]
  cases fewB A <;> cases fewB B <;> cases eqB A B <;> rfl
end Go.Ab.Tt
