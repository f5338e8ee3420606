/- A copy of a timetable, and the law about copies. -/
import Derived.Test.YtlgcompmkliiaaaTtEq3
import Derived.Test.YtlgcompmkliiaaaTtLaws
namespace Go.Ab.Tt
set_option maxRecDepth 100000
set_option linter.unusedVariables false
theorem copied_Stop (es : List PV) (h : es.length ≤ 1000) : timetable_copied_Stop_M [.rs 4 es] = some (.rs 4 es) := by
  simp only [timetable_copied_Stop_M, timetable_copied_Stop, asSl, if_true, bind_some', List.nil_append]
  rw [if_pos (by refine ⟨?_, by omega⟩; unfold roomBound; omega)]
theorem copied_Route (es : List PV) (h : es.length ≤ 1000) : timetable_copied_Route_M [.rs 3 es] = some (.rs 3 es) := by
  simp only [timetable_copied_Route_M, timetable_copied_Route, asSl, if_true, bind_some', List.nil_append]
  rw [if_pos (by refine ⟨?_, by omega⟩; unfold roomBound; omega)]
theorem copied_Calendar (es : List PV) (h : es.length ≤ 1000) : timetable_copied_Calendar_M [.rs 10 es] = some (.rs 10 es) := by
  simp only [timetable_copied_Calendar_M, timetable_copied_Calendar, asSl, if_true, bind_some', List.nil_append]
  rw [if_pos (by refine ⟨?_, by omega⟩; unfold roomBound; omega)]
theorem copied_Exception (es : List PV) (h : es.length ≤ 1000) : timetable_copied_Exception_M [.rs 3 es] = some (.rs 3 es) := by
  simp only [timetable_copied_Exception_M, timetable_copied_Exception, asSl, if_true, bind_some', List.nil_append]
  rw [if_pos (by refine ⟨?_, by omega⟩; unfold roomBound; omega)]
theorem copied_Trip (es : List PV) (h : es.length ≤ 1000) : timetable_copied_Trip_M [.rs 5 es] = some (.rs 5 es) := by
  simp only [timetable_copied_Trip_M, timetable_copied_Trip, asSl, if_true, bind_some', List.nil_append]
  rw [if_pos (by refine ⟨?_, by omega⟩; unfold roomBound; omega)]
theorem copied_Frequency (es : List PV) (h : es.length ≤ 1000) : timetable_copied_Frequency_M [.rs 4 es] = some (.rs 4 es) := by
  simp only [timetable_copied_Frequency_M, timetable_copied_Frequency, asSl, if_true, bind_some', List.nil_append]
  rw [if_pos (by refine ⟨?_, by omega⟩; unfold roomBound; omega)]
theorem copied_Through (es : List PV) (h : es.length ≤ 1000) : timetable_copied_Through_M [.rs 2 es] = some (.rs 2 es) := by
  simp only [timetable_copied_Through_M, timetable_copied_Through, asSl, if_true, bind_some', List.nil_append]
  rw [if_pos (by refine ⟨?_, by omega⟩; unfold roomBound; omega)]
theorem copied_Guarantee (es : List PV) (h : es.length ≤ 1000) : timetable_copied_Guarantee_M [.rs 3 es] = some (.rs 3 es) := by
  simp only [timetable_copied_Guarantee_M, timetable_copied_Guarantee, asSl, if_true, bind_some', List.nil_append]
  rw [if_pos (by refine ⟨?_, by omega⟩; unfold roomBound; omega)]
theorem copied_Footpath (es : List PV) (h : es.length ≤ 1000) : timetable_copied_Footpath_M [.rs 4 es] = some (.rs 4 es) := by
  simp only [timetable_copied_Footpath_M, timetable_copied_Footpath, asSl, if_true, bind_some', List.nil_append]
  rw [if_pos (by refine ⟨?_, by omega⟩; unfold roomBound; omega)]
theorem copied_Call (es : List PV) (h : es.length ≤ 1000) : timetable_copied_Call_M [.rs 5 es] = some (.rs 5 es) := by
  simp only [timetable_copied_Call_M, timetable_copied_Call, asSl, if_true, bind_some', List.nil_append]
  rw [if_pos (by refine ⟨?_, by omega⟩; unfold roomBound; omega)]
theorem copied_Product (es : List PV) (h : es.length ≤ 1000) : timetable_copied_Product_M [.rs 6 es] = some (.rs 6 es) := by
  simp only [timetable_copied_Product_M, timetable_copied_Product, asSl, if_true, bind_some', List.nil_append]
  rw [if_pos (by refine ⟨?_, by omega⟩; unfold roomBound; omega)]
theorem set_trip (l : List Trip) (k : Nat) (h : k < l.length) (p : PV) (hp : p = l[k].pv) : (l.map Trip.pv).set k p = l.map Trip.pv := by
  subst hp
  apply List.ext_getElem?
  intro j
  rw [List.getElem?_set]
  split
  · rename_i e
    subst e
    rw [if_pos (by simpa using h)]
    simp [h]
  · rfl
theorem clone_ok (T : Timetable) (hT : T.Ok) (hf : fewB T = true) : timetable_Clone_M [T.pv] = some T.pv := by
  have hm := maxLen_lt
  have hs := small_of_few T hf
  have hf' := hf
  unfold fewB at hf'
  simp only [Bool.and_eq_true, Bool.not_eq_true', Bool.or_eq_false_iff, decide_eq_false_iff_not] at hf'
  obtain ⟨⟨⟨⟨⟨⟨⟨⟨⟨⟨h0, h1⟩, h2⟩, h3⟩, h4⟩, h5⟩, h6⟩, h7⟩, h8⟩, h9⟩, _⟩ := hf'
  have c0 := copied_Stop (T.stops.map Stop.pv) (by rw [List.length_map]; omega)
  have c1 := copied_Route (T.routes.map Route.pv) (by rw [List.length_map]; omega)
  have c2 := copied_Calendar (T.cals.map Cal.pv) (by rw [List.length_map]; omega)
  have c3 := copied_Exception (T.excs.map Exc.pv) (by rw [List.length_map]; omega)
  have c4 := copied_Trip (T.trips.map Trip.pv) (by rw [List.length_map]; omega)
  have c5 := copied_Frequency (T.freqs.map Freq.pv) (by rw [List.length_map]; omega)
  have c6 := copied_Through (T.thrs.map Thr.pv) (by rw [List.length_map]; omega)
  have c7 := copied_Guarantee (T.guars.map Guar.pv) (by rw [List.length_map]; omega)
  have c8 := copied_Footpath (T.paths.map Path.pv) (by rw [List.length_map]; omega)
  have c9 := copied_Product (T.prods.map Prdt.pv) (by rw [List.length_map]; omega)
  simp only [timetable_Clone_M, timetable_Clone, ttA, tt0, tt1, tt2, tt3, tt4, tt5, tt6, tt7, tt8, tt9, tt10, tt11, tt12, asSl, asInt, if_true, bind_some', c0, c1, c2, c3, c4, c5, c6, c7, c8, List.length_map]
  refine loop_until (fun k => ((T.trips.length : Int), (k : Int), T.stops.map Stop.pv, T.routes.map Route.pv, T.cals.map Cal.pv, T.excs.map Exc.pv, T.trips.map Trip.pv, T.freqs.map Freq.pv, T.thrs.map Thr.pv, T.guars.map Guar.pv, T.paths.map Path.pv, T.prods.map Prdt.pv, T.disc, T.within, T.cap, 0, 0, 0,
    T.stops.map Stop.pv, T.routes.map Route.pv, T.cals.map Cal.pv, T.excs.map Exc.pv, T.freqs.map Freq.pv, T.thrs.map Thr.pv, T.guars.map Guar.pv, T.paths.map Path.pv, T.prods.map Prdt.pv, T.disc, T.within, T.cap, T.trips.map Trip.pv, ())) T.trips.length (fun k hk rec => ?_) (fun rec => ?_) ?_ ?_
  · have hk1 : (k : Int) < (T.trips.length : Int) := by omega
    have hin : inRange (k : Int) ((T.trips.map Trip.pv).length) := ⟨by omega, by rw [List.length_map]; omega⟩
    have cc := copied_Call (T.trips[k].calls.map Kall.pv) (by rw [List.length_map]; exact Nat.le_trans (hs T.trips[k] (List.getElem_mem hk)) (by decide))
    simp only [timetable_Clone_L1, hk1, decide_true, if_true, hin, Int.toNat_natCast, get_trip hk, bind_some', trip_calls, asSl, cc, wrap_nat (show k < 9223372036854775807 by omega)]
    congr
    exact set_trip T.trips k hk _ rfl
  · simp only [timetable_Clone_L1, Int.lt_irrefl, decide_false, Bool.false_eq_true, if_false, c9, bind_some', asSl, if_true]
    rfl
  · have := rounds_gt; have := hT.trips.1; omega
  · rfl
theorem clones_law (T : Timetable) (hT : T.Ok) : law22_TimetableClones_M [T.pv] = some (.bool true) := by
  have hf := few_ok T hT.trips.1
  have h3 := exampleHolds22
  simp only [law22_TimetableClones_M, law22_TimetableClones, ttA, tt0, tt1, tt2, tt3, tt4, tt5, tt6, tt7, tt8, tt9, tt10, tt11, tt12, asSl, asInt, asBool, if_true, bind_some', ttE, hf]
  cases hfb : fewB T with
  | false => simp only [Bool.not_false, if_true, h3, bind_some', asBool]
  | true =>
    have hc := clone_ok T hT hfb
    have e1 := equal_ref T T hT
    have e2 := equal_prog T T hT
    rw [eqB_self] at e1 e2
    have hz := sizes_prog T hT.trips.1
    simp only [Bool.not_true, Bool.false_eq_true, if_false, hc, bind_some', ttA, tt0, tt1, tt2, tt3, tt4, tt5, tt6, tt7, tt8, tt9, tt10, tt11, tt12, ttE, e1, e2, hz, asBool, cond_true, h3]
    have ha : Ab.asAgg 11 (sizesPV T) = some () := rfl
    simp only [ha, bind_some']
    rw [if_pos ⟨rfl, rfl⟩]
    have hp : peqL (elemCells 11 (sizesPV T)) (elemCells 11 (sizesPV T)) = true := by simp [elemCells, cellsFrom, sizesPV, cell, PV.cells, peqL, peq]
    have hp' := hp
    simp only [elemCells, cellsFrom, Nat.zero_add, Nat.reduceAdd] at hp'
    rw [hp']
    rfl
end Go.Ab.Tt
