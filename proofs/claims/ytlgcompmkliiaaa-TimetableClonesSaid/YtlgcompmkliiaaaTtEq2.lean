/- Equal: the document's, and the law. -/
import Derived.Test.YtlgcompmkliiaaaTtEq
import Derived.Test.YtlgcompmkliiaaaTtSizes
namespace Go.Ab.Tt
set_option maxRecDepth 100000
set_option linter.unusedVariables false
theorem ref22_heads_l1 (A B : Timetable) (h : A.excs.length = B.excs.length) (ha : A.excs.length ≤ maxLen) : lpS.run (ref22_heads_L1) (0, A.stops.map Stop.pv, A.routes.map Route.pv, A.cals.map Cal.pv, A.excs.map Exc.pv, A.trips.map Trip.pv, A.freqs.map Freq.pv, A.thrs.map Thr.pv, A.guars.map Guar.pv, A.paths.map Path.pv, A.prods.map Prdt.pv, A.disc, A.within, A.cap, B.stops.map Stop.pv, B.routes.map Route.pv, B.cals.map Cal.pv, B.excs.map Exc.pv, B.trips.map Trip.pv, B.freqs.map Freq.pv, B.thrs.map Thr.pv, B.guars.map Guar.pv, B.paths.map Path.pv, B.prods.map Prdt.pv, B.disc, B.within, B.cap, ()) = if A.excs = B.excs then some (.bool true) else some (.bool false) := by
  have hm := maxLen_lt
  refine (loop_scan (fun (k : Nat) => ((k : Int), A.stops.map Stop.pv, A.routes.map Route.pv, A.cals.map Cal.pv, A.excs.map Exc.pv, A.trips.map Trip.pv, A.freqs.map Freq.pv, A.thrs.map Thr.pv, A.guars.map Guar.pv, A.paths.map Path.pv, A.prods.map Prdt.pv, A.disc, A.within, A.cap, B.stops.map Stop.pv, B.routes.map Route.pv, B.cals.map Cal.pv, B.excs.map Exc.pv, B.trips.map Trip.pv, B.freqs.map Freq.pv, B.thrs.map Thr.pv, B.guars.map Guar.pv, B.paths.map Path.pv, B.prods.map Prdt.pv, B.disc, B.within, B.cap, ())) A.excs.length (fun k => if A.excs[k]? = B.excs[k]? then none else some (some (.bool false))) (fun k hk rec => ?_) (fin := some (.bool true)) (fun rec => ?_) ?_ rfl).trans ?_
  · have h1 : (k : Int) < (A.excs.length : Int) := by omega
    have hk' : k < B.excs.length := by omega
    simp only [ref22_heads_L1, decide_eq_true_eq, List.length_map, h1, if_true, idxP_nat, List.getElem?_map, List.getElem?_eq_getElem hk, List.getElem?_eq_getElem hk', Option.map_some, bind_some']
    rw [if_pos ⟨rfl, rfl⟩, Exc.peq, wrap_nat (by omega)]
    by_cases he : A.excs[k] = B.excs[k]
    · simp [he]
    · simp [he]
  · simp only [ref22_heads_L1, decide_eq_true_eq, List.length_map, Int.lt_irrefl, if_false]
  · have := rounds_gt; omega
  · exact scan_eq _ _ h _ _
theorem ref22_heads_l2 (A B : Timetable) (h : A.cals.length = B.cals.length) (ha : A.cals.length ≤ maxLen) : lpS.run (ref22_heads_L2 lpS) (0, A.stops.map Stop.pv, A.routes.map Route.pv, A.cals.map Cal.pv, A.excs.map Exc.pv, A.trips.map Trip.pv, A.freqs.map Freq.pv, A.thrs.map Thr.pv, A.guars.map Guar.pv, A.paths.map Path.pv, A.prods.map Prdt.pv, A.disc, A.within, A.cap, B.stops.map Stop.pv, B.routes.map Route.pv, B.cals.map Cal.pv, B.excs.map Exc.pv, B.trips.map Trip.pv, B.freqs.map Freq.pv, B.thrs.map Thr.pv, B.guars.map Guar.pv, B.paths.map Path.pv, B.prods.map Prdt.pv, B.disc, B.within, B.cap, ()) = if A.cals = B.cals then lpS.run (ref22_heads_L1) (0, A.stops.map Stop.pv, A.routes.map Route.pv, A.cals.map Cal.pv, A.excs.map Exc.pv, A.trips.map Trip.pv, A.freqs.map Freq.pv, A.thrs.map Thr.pv, A.guars.map Guar.pv, A.paths.map Path.pv, A.prods.map Prdt.pv, A.disc, A.within, A.cap, B.stops.map Stop.pv, B.routes.map Route.pv, B.cals.map Cal.pv, B.excs.map Exc.pv, B.trips.map Trip.pv, B.freqs.map Freq.pv, B.thrs.map Thr.pv, B.guars.map Guar.pv, B.paths.map Path.pv, B.prods.map Prdt.pv, B.disc, B.within, B.cap, ()) else some (.bool false) := by
  have hm := maxLen_lt
  refine (loop_scan (fun (k : Nat) => ((k : Int), A.stops.map Stop.pv, A.routes.map Route.pv, A.cals.map Cal.pv, A.excs.map Exc.pv, A.trips.map Trip.pv, A.freqs.map Freq.pv, A.thrs.map Thr.pv, A.guars.map Guar.pv, A.paths.map Path.pv, A.prods.map Prdt.pv, A.disc, A.within, A.cap, B.stops.map Stop.pv, B.routes.map Route.pv, B.cals.map Cal.pv, B.excs.map Exc.pv, B.trips.map Trip.pv, B.freqs.map Freq.pv, B.thrs.map Thr.pv, B.guars.map Guar.pv, B.paths.map Path.pv, B.prods.map Prdt.pv, B.disc, B.within, B.cap, ())) A.cals.length (fun k => if A.cals[k]? = B.cals[k]? then none else some (some (.bool false))) (fun k hk rec => ?_) (fin := lpS.run (ref22_heads_L1) (0, A.stops.map Stop.pv, A.routes.map Route.pv, A.cals.map Cal.pv, A.excs.map Exc.pv, A.trips.map Trip.pv, A.freqs.map Freq.pv, A.thrs.map Thr.pv, A.guars.map Guar.pv, A.paths.map Path.pv, A.prods.map Prdt.pv, A.disc, A.within, A.cap, B.stops.map Stop.pv, B.routes.map Route.pv, B.cals.map Cal.pv, B.excs.map Exc.pv, B.trips.map Trip.pv, B.freqs.map Freq.pv, B.thrs.map Thr.pv, B.guars.map Guar.pv, B.paths.map Path.pv, B.prods.map Prdt.pv, B.disc, B.within, B.cap, ())) (fun rec => ?_) ?_ rfl).trans ?_
  · have h1 : (k : Int) < (A.cals.length : Int) := by omega
    have hk' : k < B.cals.length := by omega
    simp only [ref22_heads_L2, decide_eq_true_eq, List.length_map, h1, if_true, idxP_nat, List.getElem?_map, List.getElem?_eq_getElem hk, List.getElem?_eq_getElem hk', Option.map_some, bind_some']
    rw [if_pos ⟨rfl, rfl⟩, Cal.peq, wrap_nat (by omega)]
    by_cases he : A.cals[k] = B.cals[k]
    · simp [he]
    · simp [he]
  · simp only [ref22_heads_L2, decide_eq_true_eq, List.length_map, Int.lt_irrefl, if_false]
  · have := rounds_gt; omega
  · exact scan_eq _ _ h _ _
theorem ref22_heads_l3 (A B : Timetable) (h : A.routes.length = B.routes.length) (ha : A.routes.length ≤ maxLen) : lpS.run (ref22_heads_L3 lpS) (0, A.stops.map Stop.pv, A.routes.map Route.pv, A.cals.map Cal.pv, A.excs.map Exc.pv, A.trips.map Trip.pv, A.freqs.map Freq.pv, A.thrs.map Thr.pv, A.guars.map Guar.pv, A.paths.map Path.pv, A.prods.map Prdt.pv, A.disc, A.within, A.cap, B.stops.map Stop.pv, B.routes.map Route.pv, B.cals.map Cal.pv, B.excs.map Exc.pv, B.trips.map Trip.pv, B.freqs.map Freq.pv, B.thrs.map Thr.pv, B.guars.map Guar.pv, B.paths.map Path.pv, B.prods.map Prdt.pv, B.disc, B.within, B.cap, ()) = if A.routes = B.routes then lpS.run (ref22_heads_L2 lpS) (0, A.stops.map Stop.pv, A.routes.map Route.pv, A.cals.map Cal.pv, A.excs.map Exc.pv, A.trips.map Trip.pv, A.freqs.map Freq.pv, A.thrs.map Thr.pv, A.guars.map Guar.pv, A.paths.map Path.pv, A.prods.map Prdt.pv, A.disc, A.within, A.cap, B.stops.map Stop.pv, B.routes.map Route.pv, B.cals.map Cal.pv, B.excs.map Exc.pv, B.trips.map Trip.pv, B.freqs.map Freq.pv, B.thrs.map Thr.pv, B.guars.map Guar.pv, B.paths.map Path.pv, B.prods.map Prdt.pv, B.disc, B.within, B.cap, ()) else some (.bool false) := by
  have hm := maxLen_lt
  refine (loop_scan (fun (k : Nat) => ((k : Int), A.stops.map Stop.pv, A.routes.map Route.pv, A.cals.map Cal.pv, A.excs.map Exc.pv, A.trips.map Trip.pv, A.freqs.map Freq.pv, A.thrs.map Thr.pv, A.guars.map Guar.pv, A.paths.map Path.pv, A.prods.map Prdt.pv, A.disc, A.within, A.cap, B.stops.map Stop.pv, B.routes.map Route.pv, B.cals.map Cal.pv, B.excs.map Exc.pv, B.trips.map Trip.pv, B.freqs.map Freq.pv, B.thrs.map Thr.pv, B.guars.map Guar.pv, B.paths.map Path.pv, B.prods.map Prdt.pv, B.disc, B.within, B.cap, ())) A.routes.length (fun k => if A.routes[k]? = B.routes[k]? then none else some (some (.bool false))) (fun k hk rec => ?_) (fin := lpS.run (ref22_heads_L2 lpS) (0, A.stops.map Stop.pv, A.routes.map Route.pv, A.cals.map Cal.pv, A.excs.map Exc.pv, A.trips.map Trip.pv, A.freqs.map Freq.pv, A.thrs.map Thr.pv, A.guars.map Guar.pv, A.paths.map Path.pv, A.prods.map Prdt.pv, A.disc, A.within, A.cap, B.stops.map Stop.pv, B.routes.map Route.pv, B.cals.map Cal.pv, B.excs.map Exc.pv, B.trips.map Trip.pv, B.freqs.map Freq.pv, B.thrs.map Thr.pv, B.guars.map Guar.pv, B.paths.map Path.pv, B.prods.map Prdt.pv, B.disc, B.within, B.cap, ())) (fun rec => ?_) ?_ rfl).trans ?_
  · have h1 : (k : Int) < (A.routes.length : Int) := by omega
    have hk' : k < B.routes.length := by omega
    simp only [ref22_heads_L3, decide_eq_true_eq, List.length_map, h1, if_true, idxP_nat, List.getElem?_map, List.getElem?_eq_getElem hk, List.getElem?_eq_getElem hk', Option.map_some, bind_some']
    rw [if_pos ⟨rfl, rfl⟩, Route.peq, wrap_nat (by omega)]
    by_cases he : A.routes[k] = B.routes[k]
    · simp [he]
    · simp [he]
  · simp only [ref22_heads_L3, decide_eq_true_eq, List.length_map, Int.lt_irrefl, if_false]
  · have := rounds_gt; omega
  · exact scan_eq _ _ h _ _
theorem ref22_heads_l4 (A B : Timetable) (h : A.stops.length = B.stops.length) (ha : A.stops.length ≤ maxLen) : lpS.run (ref22_heads_L4 lpS) (0, A.stops.map Stop.pv, A.routes.map Route.pv, A.cals.map Cal.pv, A.excs.map Exc.pv, A.trips.map Trip.pv, A.freqs.map Freq.pv, A.thrs.map Thr.pv, A.guars.map Guar.pv, A.paths.map Path.pv, A.prods.map Prdt.pv, A.disc, A.within, A.cap, B.stops.map Stop.pv, B.routes.map Route.pv, B.cals.map Cal.pv, B.excs.map Exc.pv, B.trips.map Trip.pv, B.freqs.map Freq.pv, B.thrs.map Thr.pv, B.guars.map Guar.pv, B.paths.map Path.pv, B.prods.map Prdt.pv, B.disc, B.within, B.cap, ()) = if A.stops = B.stops then lpS.run (ref22_heads_L3 lpS) (0, A.stops.map Stop.pv, A.routes.map Route.pv, A.cals.map Cal.pv, A.excs.map Exc.pv, A.trips.map Trip.pv, A.freqs.map Freq.pv, A.thrs.map Thr.pv, A.guars.map Guar.pv, A.paths.map Path.pv, A.prods.map Prdt.pv, A.disc, A.within, A.cap, B.stops.map Stop.pv, B.routes.map Route.pv, B.cals.map Cal.pv, B.excs.map Exc.pv, B.trips.map Trip.pv, B.freqs.map Freq.pv, B.thrs.map Thr.pv, B.guars.map Guar.pv, B.paths.map Path.pv, B.prods.map Prdt.pv, B.disc, B.within, B.cap, ()) else some (.bool false) := by
  have hm := maxLen_lt
  refine (loop_scan (fun (k : Nat) => ((k : Int), A.stops.map Stop.pv, A.routes.map Route.pv, A.cals.map Cal.pv, A.excs.map Exc.pv, A.trips.map Trip.pv, A.freqs.map Freq.pv, A.thrs.map Thr.pv, A.guars.map Guar.pv, A.paths.map Path.pv, A.prods.map Prdt.pv, A.disc, A.within, A.cap, B.stops.map Stop.pv, B.routes.map Route.pv, B.cals.map Cal.pv, B.excs.map Exc.pv, B.trips.map Trip.pv, B.freqs.map Freq.pv, B.thrs.map Thr.pv, B.guars.map Guar.pv, B.paths.map Path.pv, B.prods.map Prdt.pv, B.disc, B.within, B.cap, ())) A.stops.length (fun k => if A.stops[k]? = B.stops[k]? then none else some (some (.bool false))) (fun k hk rec => ?_) (fin := lpS.run (ref22_heads_L3 lpS) (0, A.stops.map Stop.pv, A.routes.map Route.pv, A.cals.map Cal.pv, A.excs.map Exc.pv, A.trips.map Trip.pv, A.freqs.map Freq.pv, A.thrs.map Thr.pv, A.guars.map Guar.pv, A.paths.map Path.pv, A.prods.map Prdt.pv, A.disc, A.within, A.cap, B.stops.map Stop.pv, B.routes.map Route.pv, B.cals.map Cal.pv, B.excs.map Exc.pv, B.trips.map Trip.pv, B.freqs.map Freq.pv, B.thrs.map Thr.pv, B.guars.map Guar.pv, B.paths.map Path.pv, B.prods.map Prdt.pv, B.disc, B.within, B.cap, ())) (fun rec => ?_) ?_ rfl).trans ?_
  · have h1 : (k : Int) < (A.stops.length : Int) := by omega
    have hk' : k < B.stops.length := by omega
    simp only [ref22_heads_L4, decide_eq_true_eq, List.length_map, h1, if_true, idxP_nat, List.getElem?_map, List.getElem?_eq_getElem hk, List.getElem?_eq_getElem hk', Option.map_some, bind_some']
    rw [if_pos ⟨rfl, rfl⟩, Stop.peq, wrap_nat (by omega)]
    by_cases he : A.stops[k] = B.stops[k]
    · simp [he]
    · simp [he]
  · simp only [ref22_heads_L4, decide_eq_true_eq, List.length_map, Int.lt_irrefl, if_false]
  · have := rounds_gt; omega
  · exact scan_eq _ _ h _ _
theorem ref22_heads_eq (A B : Timetable) (k0 : A.stops.length ≤ maxLen) (k1 : A.routes.length ≤ maxLen) (k2 : A.cals.length ≤ maxLen) (k3 : A.excs.length ≤ maxLen) : ref22_heads_M [A.pv, B.pv] = some (.bool (decide (A.stops = B.stops) && decide (A.routes = B.routes) && decide (A.cals = B.cals) && decide (A.excs = B.excs))) := by
  simp only [ref22_heads_M, ref22_heads, Timetable.pv, asAgg, asSl, asInt, cell, PV.cells, List.getD_cons_zero, List.getD_cons_succ, List.length_cons, List.length_nil, if_true, bind_some', Nat.reduceAdd, List.length_map, int_bne, bif_or]
  by_cases n0 : ¬ A.stops.length = B.stops.length
  · have : A.stops ≠ B.stops := fun e => n0 (by rw [e])
    simp [this, n0]
  have h0 := Decidable.of_not_not n0
  by_cases n1 : ¬ A.routes.length = B.routes.length
  · have : A.routes ≠ B.routes := fun e => n1 (by rw [e])
    simp [this, n1]
  have h1 := Decidable.of_not_not n1
  by_cases n2 : ¬ A.cals.length = B.cals.length
  · have : A.cals ≠ B.cals := fun e => n2 (by rw [e])
    simp [this, n2]
  have h2 := Decidable.of_not_not n2
  by_cases n3 : ¬ A.excs.length = B.excs.length
  · have : A.excs ≠ B.excs := fun e => n3 (by rw [e])
    simp [this, n3]
  have h3 := Decidable.of_not_not n3
  simp only [h0, h1, h2, h3, decide_true, Bool.not_true, Bool.or_false, Bool.false_eq_true, if_false, ref22_heads_l4 A B h0 k0, ref22_heads_l3 A B h1 k1, ref22_heads_l2 A B h2 k2, ref22_heads_l1 A B h3 k3]
  by_cases e0 : A.stops = B.stops <;> by_cases e1 : A.routes = B.routes <;> by_cases e2 : A.cals = B.cals <;> by_cases e3 : A.excs = B.excs <;> simp [e0, e1, e2, e3]
theorem ref22_tails_l1 (A B : Timetable) (h : A.prods.length = B.prods.length) (ha : A.prods.length ≤ maxLen) : lpS.run (ref22_tails_L1) (0, A.stops.map Stop.pv, A.routes.map Route.pv, A.cals.map Cal.pv, A.excs.map Exc.pv, A.trips.map Trip.pv, A.freqs.map Freq.pv, A.thrs.map Thr.pv, A.guars.map Guar.pv, A.paths.map Path.pv, A.prods.map Prdt.pv, A.disc, A.within, A.cap, B.stops.map Stop.pv, B.routes.map Route.pv, B.cals.map Cal.pv, B.excs.map Exc.pv, B.trips.map Trip.pv, B.freqs.map Freq.pv, B.thrs.map Thr.pv, B.guars.map Guar.pv, B.paths.map Path.pv, B.prods.map Prdt.pv, B.disc, B.within, B.cap, ()) = if A.prods = B.prods then some (.bool true) else some (.bool false) := by
  have hm := maxLen_lt
  refine (loop_scan (fun (k : Nat) => ((k : Int), A.stops.map Stop.pv, A.routes.map Route.pv, A.cals.map Cal.pv, A.excs.map Exc.pv, A.trips.map Trip.pv, A.freqs.map Freq.pv, A.thrs.map Thr.pv, A.guars.map Guar.pv, A.paths.map Path.pv, A.prods.map Prdt.pv, A.disc, A.within, A.cap, B.stops.map Stop.pv, B.routes.map Route.pv, B.cals.map Cal.pv, B.excs.map Exc.pv, B.trips.map Trip.pv, B.freqs.map Freq.pv, B.thrs.map Thr.pv, B.guars.map Guar.pv, B.paths.map Path.pv, B.prods.map Prdt.pv, B.disc, B.within, B.cap, ())) A.prods.length (fun k => if A.prods[k]? = B.prods[k]? then none else some (some (.bool false))) (fun k hk rec => ?_) (fin := some (.bool true)) (fun rec => ?_) ?_ rfl).trans ?_
  · have h1 : (k : Int) < (A.prods.length : Int) := by omega
    have hk' : k < B.prods.length := by omega
    simp only [ref22_tails_L1, decide_eq_true_eq, List.length_map, h1, if_true, idxP_nat, List.getElem?_map, List.getElem?_eq_getElem hk, List.getElem?_eq_getElem hk', Option.map_some, bind_some']
    rw [if_pos ⟨rfl, rfl⟩, Prdt.peq, wrap_nat (by omega)]
    by_cases he : A.prods[k] = B.prods[k]
    · simp [he]
    · simp [he]
  · simp only [ref22_tails_L1, decide_eq_true_eq, List.length_map, Int.lt_irrefl, if_false]
  · have := rounds_gt; omega
  · exact scan_eq _ _ h _ _
theorem ref22_tails_l2 (A B : Timetable) (h : A.paths.length = B.paths.length) (ha : A.paths.length ≤ maxLen) : lpS.run (ref22_tails_L2 lpS) (0, A.stops.map Stop.pv, A.routes.map Route.pv, A.cals.map Cal.pv, A.excs.map Exc.pv, A.trips.map Trip.pv, A.freqs.map Freq.pv, A.thrs.map Thr.pv, A.guars.map Guar.pv, A.paths.map Path.pv, A.prods.map Prdt.pv, A.disc, A.within, A.cap, B.stops.map Stop.pv, B.routes.map Route.pv, B.cals.map Cal.pv, B.excs.map Exc.pv, B.trips.map Trip.pv, B.freqs.map Freq.pv, B.thrs.map Thr.pv, B.guars.map Guar.pv, B.paths.map Path.pv, B.prods.map Prdt.pv, B.disc, B.within, B.cap, ()) = if A.paths = B.paths then lpS.run (ref22_tails_L1) (0, A.stops.map Stop.pv, A.routes.map Route.pv, A.cals.map Cal.pv, A.excs.map Exc.pv, A.trips.map Trip.pv, A.freqs.map Freq.pv, A.thrs.map Thr.pv, A.guars.map Guar.pv, A.paths.map Path.pv, A.prods.map Prdt.pv, A.disc, A.within, A.cap, B.stops.map Stop.pv, B.routes.map Route.pv, B.cals.map Cal.pv, B.excs.map Exc.pv, B.trips.map Trip.pv, B.freqs.map Freq.pv, B.thrs.map Thr.pv, B.guars.map Guar.pv, B.paths.map Path.pv, B.prods.map Prdt.pv, B.disc, B.within, B.cap, ()) else some (.bool false) := by
  have hm := maxLen_lt
  refine (loop_scan (fun (k : Nat) => ((k : Int), A.stops.map Stop.pv, A.routes.map Route.pv, A.cals.map Cal.pv, A.excs.map Exc.pv, A.trips.map Trip.pv, A.freqs.map Freq.pv, A.thrs.map Thr.pv, A.guars.map Guar.pv, A.paths.map Path.pv, A.prods.map Prdt.pv, A.disc, A.within, A.cap, B.stops.map Stop.pv, B.routes.map Route.pv, B.cals.map Cal.pv, B.excs.map Exc.pv, B.trips.map Trip.pv, B.freqs.map Freq.pv, B.thrs.map Thr.pv, B.guars.map Guar.pv, B.paths.map Path.pv, B.prods.map Prdt.pv, B.disc, B.within, B.cap, ())) A.paths.length (fun k => if A.paths[k]? = B.paths[k]? then none else some (some (.bool false))) (fun k hk rec => ?_) (fin := lpS.run (ref22_tails_L1) (0, A.stops.map Stop.pv, A.routes.map Route.pv, A.cals.map Cal.pv, A.excs.map Exc.pv, A.trips.map Trip.pv, A.freqs.map Freq.pv, A.thrs.map Thr.pv, A.guars.map Guar.pv, A.paths.map Path.pv, A.prods.map Prdt.pv, A.disc, A.within, A.cap, B.stops.map Stop.pv, B.routes.map Route.pv, B.cals.map Cal.pv, B.excs.map Exc.pv, B.trips.map Trip.pv, B.freqs.map Freq.pv, B.thrs.map Thr.pv, B.guars.map Guar.pv, B.paths.map Path.pv, B.prods.map Prdt.pv, B.disc, B.within, B.cap, ())) (fun rec => ?_) ?_ rfl).trans ?_
  · have h1 : (k : Int) < (A.paths.length : Int) := by omega
    have hk' : k < B.paths.length := by omega
    simp only [ref22_tails_L2, decide_eq_true_eq, List.length_map, h1, if_true, idxP_nat, List.getElem?_map, List.getElem?_eq_getElem hk, List.getElem?_eq_getElem hk', Option.map_some, bind_some']
    rw [if_pos ⟨rfl, rfl⟩, Path.peq, wrap_nat (by omega)]
    by_cases he : A.paths[k] = B.paths[k]
    · simp [he]
    · simp [he]
  · simp only [ref22_tails_L2, decide_eq_true_eq, List.length_map, Int.lt_irrefl, if_false]
  · have := rounds_gt; omega
  · exact scan_eq _ _ h _ _
theorem ref22_tails_l3 (A B : Timetable) (h : A.guars.length = B.guars.length) (ha : A.guars.length ≤ maxLen) : lpS.run (ref22_tails_L3 lpS) (0, A.stops.map Stop.pv, A.routes.map Route.pv, A.cals.map Cal.pv, A.excs.map Exc.pv, A.trips.map Trip.pv, A.freqs.map Freq.pv, A.thrs.map Thr.pv, A.guars.map Guar.pv, A.paths.map Path.pv, A.prods.map Prdt.pv, A.disc, A.within, A.cap, B.stops.map Stop.pv, B.routes.map Route.pv, B.cals.map Cal.pv, B.excs.map Exc.pv, B.trips.map Trip.pv, B.freqs.map Freq.pv, B.thrs.map Thr.pv, B.guars.map Guar.pv, B.paths.map Path.pv, B.prods.map Prdt.pv, B.disc, B.within, B.cap, ()) = if A.guars = B.guars then lpS.run (ref22_tails_L2 lpS) (0, A.stops.map Stop.pv, A.routes.map Route.pv, A.cals.map Cal.pv, A.excs.map Exc.pv, A.trips.map Trip.pv, A.freqs.map Freq.pv, A.thrs.map Thr.pv, A.guars.map Guar.pv, A.paths.map Path.pv, A.prods.map Prdt.pv, A.disc, A.within, A.cap, B.stops.map Stop.pv, B.routes.map Route.pv, B.cals.map Cal.pv, B.excs.map Exc.pv, B.trips.map Trip.pv, B.freqs.map Freq.pv, B.thrs.map Thr.pv, B.guars.map Guar.pv, B.paths.map Path.pv, B.prods.map Prdt.pv, B.disc, B.within, B.cap, ()) else some (.bool false) := by
  have hm := maxLen_lt
  refine (loop_scan (fun (k : Nat) => ((k : Int), A.stops.map Stop.pv, A.routes.map Route.pv, A.cals.map Cal.pv, A.excs.map Exc.pv, A.trips.map Trip.pv, A.freqs.map Freq.pv, A.thrs.map Thr.pv, A.guars.map Guar.pv, A.paths.map Path.pv, A.prods.map Prdt.pv, A.disc, A.within, A.cap, B.stops.map Stop.pv, B.routes.map Route.pv, B.cals.map Cal.pv, B.excs.map Exc.pv, B.trips.map Trip.pv, B.freqs.map Freq.pv, B.thrs.map Thr.pv, B.guars.map Guar.pv, B.paths.map Path.pv, B.prods.map Prdt.pv, B.disc, B.within, B.cap, ())) A.guars.length (fun k => if A.guars[k]? = B.guars[k]? then none else some (some (.bool false))) (fun k hk rec => ?_) (fin := lpS.run (ref22_tails_L2 lpS) (0, A.stops.map Stop.pv, A.routes.map Route.pv, A.cals.map Cal.pv, A.excs.map Exc.pv, A.trips.map Trip.pv, A.freqs.map Freq.pv, A.thrs.map Thr.pv, A.guars.map Guar.pv, A.paths.map Path.pv, A.prods.map Prdt.pv, A.disc, A.within, A.cap, B.stops.map Stop.pv, B.routes.map Route.pv, B.cals.map Cal.pv, B.excs.map Exc.pv, B.trips.map Trip.pv, B.freqs.map Freq.pv, B.thrs.map Thr.pv, B.guars.map Guar.pv, B.paths.map Path.pv, B.prods.map Prdt.pv, B.disc, B.within, B.cap, ())) (fun rec => ?_) ?_ rfl).trans ?_
  · have h1 : (k : Int) < (A.guars.length : Int) := by omega
    have hk' : k < B.guars.length := by omega
    simp only [ref22_tails_L3, decide_eq_true_eq, List.length_map, h1, if_true, idxP_nat, List.getElem?_map, List.getElem?_eq_getElem hk, List.getElem?_eq_getElem hk', Option.map_some, bind_some']
    rw [if_pos ⟨rfl, rfl⟩, Guar.peq, wrap_nat (by omega)]
    by_cases he : A.guars[k] = B.guars[k]
    · simp [he]
    · simp [he]
  · simp only [ref22_tails_L3, decide_eq_true_eq, List.length_map, Int.lt_irrefl, if_false]
  · have := rounds_gt; omega
  · exact scan_eq _ _ h _ _
theorem ref22_tails_l4 (A B : Timetable) (h : A.thrs.length = B.thrs.length) (ha : A.thrs.length ≤ maxLen) : lpS.run (ref22_tails_L4 lpS) (0, A.stops.map Stop.pv, A.routes.map Route.pv, A.cals.map Cal.pv, A.excs.map Exc.pv, A.trips.map Trip.pv, A.freqs.map Freq.pv, A.thrs.map Thr.pv, A.guars.map Guar.pv, A.paths.map Path.pv, A.prods.map Prdt.pv, A.disc, A.within, A.cap, B.stops.map Stop.pv, B.routes.map Route.pv, B.cals.map Cal.pv, B.excs.map Exc.pv, B.trips.map Trip.pv, B.freqs.map Freq.pv, B.thrs.map Thr.pv, B.guars.map Guar.pv, B.paths.map Path.pv, B.prods.map Prdt.pv, B.disc, B.within, B.cap, ()) = if A.thrs = B.thrs then lpS.run (ref22_tails_L3 lpS) (0, A.stops.map Stop.pv, A.routes.map Route.pv, A.cals.map Cal.pv, A.excs.map Exc.pv, A.trips.map Trip.pv, A.freqs.map Freq.pv, A.thrs.map Thr.pv, A.guars.map Guar.pv, A.paths.map Path.pv, A.prods.map Prdt.pv, A.disc, A.within, A.cap, B.stops.map Stop.pv, B.routes.map Route.pv, B.cals.map Cal.pv, B.excs.map Exc.pv, B.trips.map Trip.pv, B.freqs.map Freq.pv, B.thrs.map Thr.pv, B.guars.map Guar.pv, B.paths.map Path.pv, B.prods.map Prdt.pv, B.disc, B.within, B.cap, ()) else some (.bool false) := by
  have hm := maxLen_lt
  refine (loop_scan (fun (k : Nat) => ((k : Int), A.stops.map Stop.pv, A.routes.map Route.pv, A.cals.map Cal.pv, A.excs.map Exc.pv, A.trips.map Trip.pv, A.freqs.map Freq.pv, A.thrs.map Thr.pv, A.guars.map Guar.pv, A.paths.map Path.pv, A.prods.map Prdt.pv, A.disc, A.within, A.cap, B.stops.map Stop.pv, B.routes.map Route.pv, B.cals.map Cal.pv, B.excs.map Exc.pv, B.trips.map Trip.pv, B.freqs.map Freq.pv, B.thrs.map Thr.pv, B.guars.map Guar.pv, B.paths.map Path.pv, B.prods.map Prdt.pv, B.disc, B.within, B.cap, ())) A.thrs.length (fun k => if A.thrs[k]? = B.thrs[k]? then none else some (some (.bool false))) (fun k hk rec => ?_) (fin := lpS.run (ref22_tails_L3 lpS) (0, A.stops.map Stop.pv, A.routes.map Route.pv, A.cals.map Cal.pv, A.excs.map Exc.pv, A.trips.map Trip.pv, A.freqs.map Freq.pv, A.thrs.map Thr.pv, A.guars.map Guar.pv, A.paths.map Path.pv, A.prods.map Prdt.pv, A.disc, A.within, A.cap, B.stops.map Stop.pv, B.routes.map Route.pv, B.cals.map Cal.pv, B.excs.map Exc.pv, B.trips.map Trip.pv, B.freqs.map Freq.pv, B.thrs.map Thr.pv, B.guars.map Guar.pv, B.paths.map Path.pv, B.prods.map Prdt.pv, B.disc, B.within, B.cap, ())) (fun rec => ?_) ?_ rfl).trans ?_
  · have h1 : (k : Int) < (A.thrs.length : Int) := by omega
    have hk' : k < B.thrs.length := by omega
    simp only [ref22_tails_L4, decide_eq_true_eq, List.length_map, h1, if_true, idxP_nat, List.getElem?_map, List.getElem?_eq_getElem hk, List.getElem?_eq_getElem hk', Option.map_some, bind_some']
    rw [if_pos ⟨rfl, rfl⟩, Thr.peq, wrap_nat (by omega)]
    by_cases he : A.thrs[k] = B.thrs[k]
    · simp [he]
    · simp [he]
  · simp only [ref22_tails_L4, decide_eq_true_eq, List.length_map, Int.lt_irrefl, if_false]
  · have := rounds_gt; omega
  · exact scan_eq _ _ h _ _
theorem ref22_tails_l5 (A B : Timetable) (h : A.freqs.length = B.freqs.length) (ha : A.freqs.length ≤ maxLen) : lpS.run (ref22_tails_L5 lpS) (0, A.stops.map Stop.pv, A.routes.map Route.pv, A.cals.map Cal.pv, A.excs.map Exc.pv, A.trips.map Trip.pv, A.freqs.map Freq.pv, A.thrs.map Thr.pv, A.guars.map Guar.pv, A.paths.map Path.pv, A.prods.map Prdt.pv, A.disc, A.within, A.cap, B.stops.map Stop.pv, B.routes.map Route.pv, B.cals.map Cal.pv, B.excs.map Exc.pv, B.trips.map Trip.pv, B.freqs.map Freq.pv, B.thrs.map Thr.pv, B.guars.map Guar.pv, B.paths.map Path.pv, B.prods.map Prdt.pv, B.disc, B.within, B.cap, ()) = if A.freqs = B.freqs then lpS.run (ref22_tails_L4 lpS) (0, A.stops.map Stop.pv, A.routes.map Route.pv, A.cals.map Cal.pv, A.excs.map Exc.pv, A.trips.map Trip.pv, A.freqs.map Freq.pv, A.thrs.map Thr.pv, A.guars.map Guar.pv, A.paths.map Path.pv, A.prods.map Prdt.pv, A.disc, A.within, A.cap, B.stops.map Stop.pv, B.routes.map Route.pv, B.cals.map Cal.pv, B.excs.map Exc.pv, B.trips.map Trip.pv, B.freqs.map Freq.pv, B.thrs.map Thr.pv, B.guars.map Guar.pv, B.paths.map Path.pv, B.prods.map Prdt.pv, B.disc, B.within, B.cap, ()) else some (.bool false) := by
  have hm := maxLen_lt
  refine (loop_scan (fun (k : Nat) => ((k : Int), A.stops.map Stop.pv, A.routes.map Route.pv, A.cals.map Cal.pv, A.excs.map Exc.pv, A.trips.map Trip.pv, A.freqs.map Freq.pv, A.thrs.map Thr.pv, A.guars.map Guar.pv, A.paths.map Path.pv, A.prods.map Prdt.pv, A.disc, A.within, A.cap, B.stops.map Stop.pv, B.routes.map Route.pv, B.cals.map Cal.pv, B.excs.map Exc.pv, B.trips.map Trip.pv, B.freqs.map Freq.pv, B.thrs.map Thr.pv, B.guars.map Guar.pv, B.paths.map Path.pv, B.prods.map Prdt.pv, B.disc, B.within, B.cap, ())) A.freqs.length (fun k => if A.freqs[k]? = B.freqs[k]? then none else some (some (.bool false))) (fun k hk rec => ?_) (fin := lpS.run (ref22_tails_L4 lpS) (0, A.stops.map Stop.pv, A.routes.map Route.pv, A.cals.map Cal.pv, A.excs.map Exc.pv, A.trips.map Trip.pv, A.freqs.map Freq.pv, A.thrs.map Thr.pv, A.guars.map Guar.pv, A.paths.map Path.pv, A.prods.map Prdt.pv, A.disc, A.within, A.cap, B.stops.map Stop.pv, B.routes.map Route.pv, B.cals.map Cal.pv, B.excs.map Exc.pv, B.trips.map Trip.pv, B.freqs.map Freq.pv, B.thrs.map Thr.pv, B.guars.map Guar.pv, B.paths.map Path.pv, B.prods.map Prdt.pv, B.disc, B.within, B.cap, ())) (fun rec => ?_) ?_ rfl).trans ?_
  · have h1 : (k : Int) < (A.freqs.length : Int) := by omega
    have hk' : k < B.freqs.length := by omega
    simp only [ref22_tails_L5, decide_eq_true_eq, List.length_map, h1, if_true, idxP_nat, List.getElem?_map, List.getElem?_eq_getElem hk, List.getElem?_eq_getElem hk', Option.map_some, bind_some']
    rw [if_pos ⟨rfl, rfl⟩, Freq.peq, wrap_nat (by omega)]
    by_cases he : A.freqs[k] = B.freqs[k]
    · simp [he]
    · simp [he]
  · simp only [ref22_tails_L5, decide_eq_true_eq, List.length_map, Int.lt_irrefl, if_false]
  · have := rounds_gt; omega
  · exact scan_eq _ _ h _ _
theorem ref22_tails_eq (A B : Timetable) (k0 : A.freqs.length ≤ maxLen) (k1 : A.thrs.length ≤ maxLen) (k2 : A.guars.length ≤ maxLen) (k3 : A.paths.length ≤ maxLen) (k4 : A.prods.length ≤ maxLen) : ref22_tails_M [A.pv, B.pv] = some (.bool (decide (A.freqs = B.freqs) && decide (A.thrs = B.thrs) && decide (A.guars = B.guars) && decide (A.paths = B.paths) && decide (A.prods = B.prods))) := by
  simp only [ref22_tails_M, ref22_tails, Timetable.pv, asAgg, asSl, asInt, cell, PV.cells, List.getD_cons_zero, List.getD_cons_succ, List.length_cons, List.length_nil, if_true, bind_some', Nat.reduceAdd, List.length_map, int_bne, bif_or]
  by_cases n0 : ¬ A.freqs.length = B.freqs.length
  · have : A.freqs ≠ B.freqs := fun e => n0 (by rw [e])
    simp [this, n0]
  have h0 := Decidable.of_not_not n0
  by_cases n1 : ¬ A.thrs.length = B.thrs.length
  · have : A.thrs ≠ B.thrs := fun e => n1 (by rw [e])
    simp [this, n1]
  have h1 := Decidable.of_not_not n1
  by_cases n2 : ¬ A.guars.length = B.guars.length
  · have : A.guars ≠ B.guars := fun e => n2 (by rw [e])
    simp [this, n2]
  have h2 := Decidable.of_not_not n2
  by_cases n3 : ¬ A.paths.length = B.paths.length
  · have : A.paths ≠ B.paths := fun e => n3 (by rw [e])
    simp [this, n3]
  have h3 := Decidable.of_not_not n3
  by_cases n4 : ¬ A.prods.length = B.prods.length
  · have : A.prods ≠ B.prods := fun e => n4 (by rw [e])
    simp [this, n4]
  have h4 := Decidable.of_not_not n4
  simp only [h0, h1, h2, h3, h4, decide_true, Bool.not_true, Bool.or_false, Bool.false_eq_true, if_false, ref22_tails_l5 A B h0 k0, ref22_tails_l4 A B h1 k1, ref22_tails_l3 A B h2 k2, ref22_tails_l2 A B h3 k3, ref22_tails_l1 A B h4 k4]
  by_cases e0 : A.freqs = B.freqs <;> by_cases e1 : A.thrs = B.thrs <;> by_cases e2 : A.guars = B.guars <;> by_cases e3 : A.paths = B.paths <;> by_cases e4 : A.prods = B.prods <;> simp [e0, e1, e2, e3, e4]
end Go.Ab.Tt
