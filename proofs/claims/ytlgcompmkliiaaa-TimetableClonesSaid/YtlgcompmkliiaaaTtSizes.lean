/- Sizes: the program's and the document's. -/
import Derived.Test.YtlgcompmkliiaaaSh2
import Derived.Test.YtlgcompmkliiaaaTtData
import Derived.Test.YtlgcompmkliiaaaAbLib
import Derived.Test.YtlgcompmkliiaaaEx
namespace Go.Ab.Tt
set_option maxRecDepth 100000

/-- the sum of the numbers of calls, as the machine adds -/
def sumW (l : List Trip) : Int := l.foldl (fun c x => IntKind.i64.wrap (c + (x.calls.length : Int))) 0
theorem sumW_snoc (l : List Trip) (x : Trip) : sumW (l ++ [x]) = IntKind.i64.wrap (sumW l + (x.calls.length : Int)) := by simp [sumW]
def sizesPV (T : Timetable) : PV := .agg [.int .i64 T.stops.length, .int .i64 T.routes.length, .int .i64 T.cals.length, .int .i64 T.excs.length, .int .i64 T.trips.length, .int .i64 (sumW T.trips), .int .i64 T.freqs.length, .int .i64 T.thrs.length, .int .i64 T.guars.length, .int .i64 T.paths.length, .int .i64 T.prods.length]

theorem get_trip {l : List Trip} {k : Nat} (h : k < l.length) : (l.map Trip.pv)[k]? = some l[k].pv := by simp [h]
theorem take_snoc' {A : Type} (l : List A) (k : Nat) (h : k < l.length) : l.take (k + 1) = l.take k ++ [l[k]] := by rw [List.take_succ_eq_append_getElem h]
theorem trip_calls (x : Trip) : cell x.pv 4 = .rs 5 (x.calls.map Kall.pv) := rfl

theorem sizes_prog (T : Timetable) (hT : T.trips.length ≤ maxLen) : timetable_Sizes_M [T.pv] = some (sizesPV T) := by
  have hm := maxLen_lt
  simp only [timetable_Sizes_M, timetable_Sizes, Timetable.pv, asAgg, asSl, asInt, cell, PV.cells, List.getD_cons_zero, List.getD_cons_succ, List.length_cons, List.length_nil, if_true, bind_some', Nat.reduceAdd]
  refine loop_until (fun k => (sumW (T.trips.take k), T.trips.map Trip.pv, ((T.trips.map Trip.pv).length : Int), (k : Int), T.stops.map Stop.pv, T.routes.map Route.pv, T.cals.map Cal.pv, T.excs.map Exc.pv, T.trips.map Trip.pv, T.freqs.map Freq.pv, T.thrs.map Thr.pv, T.guars.map Guar.pv, T.paths.map Path.pv, T.prods.map Prdt.pv, T.disc, T.within, T.cap, 0, 0, 0, 0, 0, 0, 0, 0, 0, 0, 0, ())) T.trips.length (fun k hk rec => ?_) (fun rec => ?_) ?_ ?_
  · have h1 : (k : Int) < (T.trips.length : Int) := by omega
    simp only [timetable_Sizes_L1, decide_eq_true_eq, List.length_map, h1, if_true, idxP_nat, get_trip hk, bind_some', trip_calls, asSl]
    rw [take_snoc' _ _ hk, sumW_snoc, wrap_nat (by omega)]
  · simp only [timetable_Sizes_L1, decide_eq_true_eq, List.length_map, Int.lt_irrefl, if_false, List.take_length, sizesPV]
  · have := rounds_gt; omega
  · rfl
theorem sizes_ref (T : Timetable) (hT : T.trips.length ≤ maxLen) : ref22_Sizes_M [T.pv] = some (sizesPV T) := by
  have hm := maxLen_lt
  simp only [ref22_Sizes_M, ref22_Sizes, Timetable.pv, asAgg, asSl, asInt, cell, PV.cells, List.getD_cons_zero, List.getD_cons_succ, List.length_cons, List.length_nil, if_true, bind_some', Nat.reduceAdd]
  refine loop_until (fun k => (sumW (T.trips.take k), (k : Int), T.stops.map Stop.pv, T.routes.map Route.pv, T.cals.map Cal.pv, T.excs.map Exc.pv, T.trips.map Trip.pv, T.freqs.map Freq.pv, T.thrs.map Thr.pv, T.guars.map Guar.pv, T.paths.map Path.pv, T.prods.map Prdt.pv, T.disc, T.within, T.cap, 0, 0, 0, 0, 0, 0, 0, 0, 0, 0, 0, ())) T.trips.length (fun k hk rec => ?_) (fun rec => ?_) ?_ ?_
  · have h1 : (k : Int) < (T.trips.length : Int) := by omega
    simp only [ref22_Sizes_L1, decide_eq_true_eq, List.length_map, h1, if_true, idxP_nat, get_trip hk, bind_some', trip_calls, asSl]
    rw [take_snoc' _ _ hk, sumW_snoc, wrap_nat (by omega)]
  · simp only [ref22_Sizes_L1, decide_eq_true_eq, List.length_map, Int.lt_irrefl, if_false, List.take_length, sizesPV]
  · have := rounds_gt; omega
  · rfl

/-- the timetables that the statements speak of -/
def fewB (T : Timetable) : Bool :=
  !(decide ((T.stops.length : Int) > 70) || decide ((T.routes.length : Int) > 70) || decide ((T.cals.length : Int) > 70) || decide ((T.excs.length : Int) > 70) || decide ((T.trips.length : Int) > 40) || decide ((T.freqs.length : Int) > 70) ||
    decide ((T.thrs.length : Int) > 140) || decide ((T.guars.length : Int) > 140) || decide ((T.paths.length : Int) > 70) || decide ((T.prods.length : Int) > 20)) && T.trips.all fun x => decide (x.calls.length ≤ 40)
theorem bif_or (a b : Bool) : (bif a then some true else some b) = some (a || b) := by cases a <;> rfl
theorem few_ok (T : Timetable) (hT : T.trips.length ≤ maxLen) : ref22_Few_M [T.pv] = some (.bool (fewB T)) := by
  have hm := maxLen_lt
  simp only [ref22_Few_M, ref22_Few, Timetable.pv, asAgg, asSl, asInt, cell, PV.cells, List.getD_cons_zero, List.getD_cons_succ, List.length_cons, List.length_nil, if_true, bind_some', Nat.reduceAdd, bif_or, List.length_map]
  unfold fewB
  generalize (decide ((T.stops.length : Int) > 70) || decide ((T.routes.length : Int) > 70) || decide ((T.cals.length : Int) > 70) || decide ((T.excs.length : Int) > 70) || decide ((T.trips.length : Int) > 40) || decide ((T.freqs.length : Int) > 70) ||
    decide ((T.thrs.length : Int) > 140) || decide ((T.guars.length : Int) > 140) || decide ((T.paths.length : Int) > 70) || decide ((T.prods.length : Int) > 20)) = b
  cases b with
  | true => rfl
  | false =>
    simp only [Bool.false_eq_true, if_false, Bool.not_false, Bool.true_and]
    refine (loop_scan (fun k => ((k : Int), T.stops.map Stop.pv, T.routes.map Route.pv, T.cals.map Cal.pv, T.excs.map Exc.pv, T.trips.map Trip.pv, T.freqs.map Freq.pv, T.thrs.map Thr.pv, T.guars.map Guar.pv, T.paths.map Path.pv, T.prods.map Prdt.pv, T.disc, T.within, T.cap, ()))
      T.trips.length (fun k => (T.trips[k]?).bind fun x => if x.calls.length ≤ 40 then none else some (some (.bool false))) (fun k hk rec => ?_) (fin := some (.bool true)) (fun rec => ?_) ?_ ?_).trans ?_
    · have h1 : (k : Int) < (T.trips.length : Int) := by omega
      simp only [ref22_Few_L1, decide_eq_true_eq, List.length_map, h1, if_true, idxP_nat, get_trip hk, bind_some', trip_calls, asSl, List.getElem?_eq_getElem hk, Option.bind_some]
      by_cases hc : T.trips[k].calls.length ≤ 40
      · rw [if_neg (by omega), if_pos hc, wrap_nat (by omega)]
      · rw [if_pos (by omega), if_neg hc]
    · simp only [ref22_Few_L1, decide_eq_true_eq, List.length_map, Int.lt_irrefl, if_false]
    · have := rounds_gt; omega
    · rfl
    · rw [range_find]
      generalize T.trips = l
      induction l with
      | nil => rfl
      | cons x l ih =>
        simp only [List.findSome?_cons, List.all_cons]
        by_cases hc : x.calls.length ≤ 40
        · simp only [hc, if_true, decide_true, Bool.true_and]; exact ih
        · simp only [hc, if_false, decide_false, Bool.false_and]

theorem sizes_law (T : Timetable) (hT : T.Ok) : law22_TimetableSizes_M [T.pv] = some (.bool true) := by
  have hf := few_ok T hT.trips.1
  have h1 := sizes_prog T hT.trips.1
  have h2 := sizes_ref T hT.trips.1
  have h3 := exampleHolds22
  simp only [Timetable.pv] at hf h1 h2
  simp only [law22_TimetableSizes_M, law22_TimetableSizes, Timetable.pv, asAgg, asSl, asInt, cell, PV.cells, List.getD_cons_zero, List.getD_cons_succ, List.length_cons, List.length_nil, if_true, bind_some', Nat.reduceAdd, hf, h1, h2, h3, asBool, sizesPV]
  cases fewB T with
  | false => rfl
  | true => simp [chk, kdsRep, kdIs, peqL, peq]
end Go.Ab.Tt
