/- Equal: the program's. -/
import Derived.Test.YtlgcompmkliiaaaSh2
import Derived.Test.YtlgcompmkliiaaaTtData
import Derived.Test.YtlgcompmkliiaaaAbLib
namespace Go.Ab.Tt
set_option maxRecDepth 100000
set_option linter.unusedVariables false

theorem scan_eq {A R : Type} [DecidableEq A] (a b : List A) (h : a.length = b.length) (fin no : Option R) :
    (match (List.range a.length).findSome? (fun k => if a[k]? = b[k]? then none else some no) with | some r => r | none => fin) = if a = b then fin else no := by
  by_cases he : a = b
  · subst he
    have : (List.range a.length).findSome? (fun k => if a[k]? = a[k]? then none else some no) = none := by simp
    rw [this, if_pos rfl]
  · rw [if_neg he]
    cases hf : (List.range a.length).findSome? (fun k => if a[k]? = b[k]? then none else some no) with
    | none =>
      rw [List.findSome?_eq_none_iff] at hf
      refine absurd (List.ext_getElem? fun k => ?_) he
      by_cases hk : k < a.length
      · have := hf k (by simpa using hk)
        by_cases hc : a[k]? = b[k]?
        · exact hc
        · rw [if_neg hc] at this; cases this
      · rw [List.getElem?_eq_none (by omega), List.getElem?_eq_none (by omega)]
    | some r =>
      obtain ⟨k, _, hk⟩ := List.exists_of_findSome?_eq_some hf
      by_cases hc : a[k]? = b[k]?
      · rw [if_pos hc] at hk; cases hk
      · rw [if_neg hc] at hk; cases hk; rfl
theorem beq_dec {A : Type} [DecidableEq A] [BEq A] [LawfulBEq A] (a b : A) : (a == b) = decide (a = b) := by rw [Bool.eq_iff_iff]; simp
theorem bne_dec {A : Type} [DecidableEq A] [BEq A] [LawfulBEq A] (a b : A) : (a != b) = !decide (a = b) := by rw [Bool.eq_iff_iff]; simp
theorem int_bne {a b : Nat} : ((a : Int) != (b : Int)) = !decide (a = b) := by
  rw [Bool.eq_iff_iff]; simp; omega

theorem Stop.peq (x y : Stop) : peqL [cell x.pv 0, cell x.pv 1, cell x.pv 2, cell x.pv 3] [cell y.pv 0, cell y.pv 1, cell y.pv 2, cell y.pv 3] = decide (x = y) := by
  cases x; cases y
  rw [Bool.eq_iff_iff]
  simp [cell, Stop.pv, PV.cells, peqL, Ab.peq]
theorem Route.peq (x y : Route) : peqL [cell x.pv 0, cell x.pv 1, cell x.pv 2] [cell y.pv 0, cell y.pv 1, cell y.pv 2] = decide (x = y) := by
  cases x; cases y
  rw [Bool.eq_iff_iff]
  simp [cell, Route.pv, PV.cells, peqL, Ab.peq]
theorem Cal.peq (x y : Cal) : peqL [cell x.pv 0, cell x.pv 1, cell x.pv 2, cell x.pv 3, cell x.pv 4, cell x.pv 5, cell x.pv 6, cell x.pv 7, cell x.pv 8, cell x.pv 9] [cell y.pv 0, cell y.pv 1, cell y.pv 2, cell y.pv 3, cell y.pv 4, cell y.pv 5, cell y.pv 6, cell y.pv 7, cell y.pv 8, cell y.pv 9] = decide (x = y) := by
  cases x; cases y
  rw [Bool.eq_iff_iff]
  simp [cell, Cal.pv, PV.cells, peqL, Ab.peq]
theorem Exc.peq (x y : Exc) : peqL [cell x.pv 0, cell x.pv 1, cell x.pv 2] [cell y.pv 0, cell y.pv 1, cell y.pv 2] = decide (x = y) := by
  cases x; cases y
  rw [Bool.eq_iff_iff]
  simp [cell, Exc.pv, PV.cells, peqL, Ab.peq]
theorem Kall.peq (x y : Kall) : peqL [cell x.pv 0, cell x.pv 1, cell x.pv 2, cell x.pv 3, cell x.pv 4] [cell y.pv 0, cell y.pv 1, cell y.pv 2, cell y.pv 3, cell y.pv 4] = decide (x = y) := by
  cases x; cases y
  rw [Bool.eq_iff_iff]
  simp [cell, Kall.pv, PV.cells, peqL, Ab.peq]
theorem Freq.peq (x y : Freq) : peqL [cell x.pv 0, cell x.pv 1, cell x.pv 2, cell x.pv 3] [cell y.pv 0, cell y.pv 1, cell y.pv 2, cell y.pv 3] = decide (x = y) := by
  cases x; cases y
  rw [Bool.eq_iff_iff]
  simp [cell, Freq.pv, PV.cells, peqL, Ab.peq]
theorem Thr.peq (x y : Thr) : peqL [cell x.pv 0, cell x.pv 1] [cell y.pv 0, cell y.pv 1] = decide (x = y) := by
  cases x; cases y
  rw [Bool.eq_iff_iff]
  simp [cell, Thr.pv, PV.cells, peqL, Ab.peq]
theorem Guar.peq (x y : Guar) : peqL [cell x.pv 0, cell x.pv 1, cell x.pv 2] [cell y.pv 0, cell y.pv 1, cell y.pv 2] = decide (x = y) := by
  cases x; cases y
  rw [Bool.eq_iff_iff]
  simp [cell, Guar.pv, PV.cells, peqL, Ab.peq]
theorem Path.peq (x y : Path) : peqL [cell x.pv 0, cell x.pv 1, cell x.pv 2, cell x.pv 3] [cell y.pv 0, cell y.pv 1, cell y.pv 2, cell y.pv 3] = decide (x = y) := by
  cases x; cases y
  rw [Bool.eq_iff_iff]
  simp [cell, Path.pv, PV.cells, peqL, Ab.peq]
theorem Prdt.peq (x y : Prdt) : peqL [cell x.pv 0, cell x.pv 1, cell x.pv 2, cell x.pv 3, cell x.pv 4, cell x.pv 5] [cell y.pv 0, cell y.pv 1, cell y.pv 2, cell y.pv 3, cell y.pv 4, cell y.pv 5] = decide (x = y) := by
  cases x; cases y
  rw [Bool.eq_iff_iff]
  simp [cell, Prdt.pv, PV.cells, peqL, Ab.peq]
theorem timetable_same_Stop_eq (a b : List Stop) (ha : a.length ≤ maxLen) : timetable_same_Stop_M [.rs 4 (a.map Stop.pv), .rs 4 (b.map Stop.pv)] = some (.bool (decide (a = b))) := by
  have hm := maxLen_lt
  simp only [timetable_same_Stop_M, timetable_same_Stop, asSl, if_true, bind_some', List.length_map]
  by_cases h : a.length = b.length
  · rw [if_neg (by rw [int_bne]; simp [h])]
    refine (loop_scan (fun k => (b.map Stop.pv, a.map Stop.pv, (a.length : Int), (k : Int), ())) a.length (fun k => if a[k]? = b[k]? then none else some (some (.bool false))) (fun k hk rec => ?_) (fin := some (.bool true)) (fun rec => ?_) ?_ rfl).trans ?_
    · have h1 : (k : Int) < (a.length : Int) := by omega
      have hk' : k < b.length := by omega
      simp only [timetable_same_Stop_L1, decide_eq_true_eq, h1, if_true, idxP_nat, List.getElem?_map, List.getElem?_eq_getElem hk, List.getElem?_eq_getElem hk', Option.map_some, bind_some']
      rw [if_pos ⟨rfl, rfl⟩, Stop.peq, wrap_nat (by omega)]
      by_cases he : a[k] = b[k]
      · simp [he]
      · simp [he]
    · simp only [timetable_same_Stop_L1, decide_eq_true_eq, Int.lt_irrefl, if_false]
    · have := rounds_gt; omega
    · refine (scan_eq a b h (some (PV.bool true)) (some (PV.bool false))).trans ?_
      split <;> simp [*]
  · rw [if_pos (by rw [int_bne]; simp [h])]
    have : a ≠ b := fun e => h (by rw [e])
    simp [this]
theorem timetable_same_Route_eq (a b : List Route) (ha : a.length ≤ maxLen) : timetable_same_Route_M [.rs 3 (a.map Route.pv), .rs 3 (b.map Route.pv)] = some (.bool (decide (a = b))) := by
  have hm := maxLen_lt
  simp only [timetable_same_Route_M, timetable_same_Route, asSl, if_true, bind_some', List.length_map]
  by_cases h : a.length = b.length
  · rw [if_neg (by rw [int_bne]; simp [h])]
    refine (loop_scan (fun k => (b.map Route.pv, a.map Route.pv, (a.length : Int), (k : Int), ())) a.length (fun k => if a[k]? = b[k]? then none else some (some (.bool false))) (fun k hk rec => ?_) (fin := some (.bool true)) (fun rec => ?_) ?_ rfl).trans ?_
    · have h1 : (k : Int) < (a.length : Int) := by omega
      have hk' : k < b.length := by omega
      simp only [timetable_same_Route_L1, decide_eq_true_eq, h1, if_true, idxP_nat, List.getElem?_map, List.getElem?_eq_getElem hk, List.getElem?_eq_getElem hk', Option.map_some, bind_some']
      rw [if_pos ⟨rfl, rfl⟩, Route.peq, wrap_nat (by omega)]
      by_cases he : a[k] = b[k]
      · simp [he]
      · simp [he]
    · simp only [timetable_same_Route_L1, decide_eq_true_eq, Int.lt_irrefl, if_false]
    · have := rounds_gt; omega
    · refine (scan_eq a b h (some (PV.bool true)) (some (PV.bool false))).trans ?_
      split <;> simp [*]
  · rw [if_pos (by rw [int_bne]; simp [h])]
    have : a ≠ b := fun e => h (by rw [e])
    simp [this]
theorem timetable_same_Calendar_eq (a b : List Cal) (ha : a.length ≤ maxLen) : timetable_same_Calendar_M [.rs 10 (a.map Cal.pv), .rs 10 (b.map Cal.pv)] = some (.bool (decide (a = b))) := by
  have hm := maxLen_lt
  simp only [timetable_same_Calendar_M, timetable_same_Calendar, asSl, if_true, bind_some', List.length_map]
  by_cases h : a.length = b.length
  · rw [if_neg (by rw [int_bne]; simp [h])]
    refine (loop_scan (fun k => (b.map Cal.pv, a.map Cal.pv, (a.length : Int), (k : Int), ())) a.length (fun k => if a[k]? = b[k]? then none else some (some (.bool false))) (fun k hk rec => ?_) (fin := some (.bool true)) (fun rec => ?_) ?_ rfl).trans ?_
    · have h1 : (k : Int) < (a.length : Int) := by omega
      have hk' : k < b.length := by omega
      simp only [timetable_same_Calendar_L1, decide_eq_true_eq, h1, if_true, idxP_nat, List.getElem?_map, List.getElem?_eq_getElem hk, List.getElem?_eq_getElem hk', Option.map_some, bind_some']
      rw [if_pos ⟨rfl, rfl⟩, Cal.peq, wrap_nat (by omega)]
      by_cases he : a[k] = b[k]
      · simp [he]
      · simp [he]
    · simp only [timetable_same_Calendar_L1, decide_eq_true_eq, Int.lt_irrefl, if_false]
    · have := rounds_gt; omega
    · refine (scan_eq a b h (some (PV.bool true)) (some (PV.bool false))).trans ?_
      split <;> simp [*]
  · rw [if_pos (by rw [int_bne]; simp [h])]
    have : a ≠ b := fun e => h (by rw [e])
    simp [this]
theorem timetable_same_Exception_eq (a b : List Exc) (ha : a.length ≤ maxLen) : timetable_same_Exception_M [.rs 3 (a.map Exc.pv), .rs 3 (b.map Exc.pv)] = some (.bool (decide (a = b))) := by
  have hm := maxLen_lt
  simp only [timetable_same_Exception_M, timetable_same_Exception, asSl, if_true, bind_some', List.length_map]
  by_cases h : a.length = b.length
  · rw [if_neg (by rw [int_bne]; simp [h])]
    refine (loop_scan (fun k => (b.map Exc.pv, a.map Exc.pv, (a.length : Int), (k : Int), ())) a.length (fun k => if a[k]? = b[k]? then none else some (some (.bool false))) (fun k hk rec => ?_) (fin := some (.bool true)) (fun rec => ?_) ?_ rfl).trans ?_
    · have h1 : (k : Int) < (a.length : Int) := by omega
      have hk' : k < b.length := by omega
      simp only [timetable_same_Exception_L1, decide_eq_true_eq, h1, if_true, idxP_nat, List.getElem?_map, List.getElem?_eq_getElem hk, List.getElem?_eq_getElem hk', Option.map_some, bind_some']
      rw [if_pos ⟨rfl, rfl⟩, Exc.peq, wrap_nat (by omega)]
      by_cases he : a[k] = b[k]
      · simp [he]
      · simp [he]
    · simp only [timetable_same_Exception_L1, decide_eq_true_eq, Int.lt_irrefl, if_false]
    · have := rounds_gt; omega
    · refine (scan_eq a b h (some (PV.bool true)) (some (PV.bool false))).trans ?_
      split <;> simp [*]
  · rw [if_pos (by rw [int_bne]; simp [h])]
    have : a ≠ b := fun e => h (by rw [e])
    simp [this]
theorem timetable_same_Frequency_eq (a b : List Freq) (ha : a.length ≤ maxLen) : timetable_same_Frequency_M [.rs 4 (a.map Freq.pv), .rs 4 (b.map Freq.pv)] = some (.bool (decide (a = b))) := by
  have hm := maxLen_lt
  simp only [timetable_same_Frequency_M, timetable_same_Frequency, asSl, if_true, bind_some', List.length_map]
  by_cases h : a.length = b.length
  · rw [if_neg (by rw [int_bne]; simp [h])]
    refine (loop_scan (fun k => (b.map Freq.pv, a.map Freq.pv, (a.length : Int), (k : Int), ())) a.length (fun k => if a[k]? = b[k]? then none else some (some (.bool false))) (fun k hk rec => ?_) (fin := some (.bool true)) (fun rec => ?_) ?_ rfl).trans ?_
    · have h1 : (k : Int) < (a.length : Int) := by omega
      have hk' : k < b.length := by omega
      simp only [timetable_same_Frequency_L1, decide_eq_true_eq, h1, if_true, idxP_nat, List.getElem?_map, List.getElem?_eq_getElem hk, List.getElem?_eq_getElem hk', Option.map_some, bind_some']
      rw [if_pos ⟨rfl, rfl⟩, Freq.peq, wrap_nat (by omega)]
      by_cases he : a[k] = b[k]
      · simp [he]
      · simp [he]
    · simp only [timetable_same_Frequency_L1, decide_eq_true_eq, Int.lt_irrefl, if_false]
    · have := rounds_gt; omega
    · refine (scan_eq a b h (some (PV.bool true)) (some (PV.bool false))).trans ?_
      split <;> simp [*]
  · rw [if_pos (by rw [int_bne]; simp [h])]
    have : a ≠ b := fun e => h (by rw [e])
    simp [this]
theorem timetable_same_Through_eq (a b : List Thr) (ha : a.length ≤ maxLen) : timetable_same_Through_M [.rs 2 (a.map Thr.pv), .rs 2 (b.map Thr.pv)] = some (.bool (decide (a = b))) := by
  have hm := maxLen_lt
  simp only [timetable_same_Through_M, timetable_same_Through, asSl, if_true, bind_some', List.length_map]
  by_cases h : a.length = b.length
  · rw [if_neg (by rw [int_bne]; simp [h])]
    refine (loop_scan (fun k => (b.map Thr.pv, a.map Thr.pv, (a.length : Int), (k : Int), ())) a.length (fun k => if a[k]? = b[k]? then none else some (some (.bool false))) (fun k hk rec => ?_) (fin := some (.bool true)) (fun rec => ?_) ?_ rfl).trans ?_
    · have h1 : (k : Int) < (a.length : Int) := by omega
      have hk' : k < b.length := by omega
      simp only [timetable_same_Through_L1, decide_eq_true_eq, h1, if_true, idxP_nat, List.getElem?_map, List.getElem?_eq_getElem hk, List.getElem?_eq_getElem hk', Option.map_some, bind_some']
      rw [if_pos ⟨rfl, rfl⟩, Thr.peq, wrap_nat (by omega)]
      by_cases he : a[k] = b[k]
      · simp [he]
      · simp [he]
    · simp only [timetable_same_Through_L1, decide_eq_true_eq, Int.lt_irrefl, if_false]
    · have := rounds_gt; omega
    · refine (scan_eq a b h (some (PV.bool true)) (some (PV.bool false))).trans ?_
      split <;> simp [*]
  · rw [if_pos (by rw [int_bne]; simp [h])]
    have : a ≠ b := fun e => h (by rw [e])
    simp [this]
theorem timetable_same_Guarantee_eq (a b : List Guar) (ha : a.length ≤ maxLen) : timetable_same_Guarantee_M [.rs 3 (a.map Guar.pv), .rs 3 (b.map Guar.pv)] = some (.bool (decide (a = b))) := by
  have hm := maxLen_lt
  simp only [timetable_same_Guarantee_M, timetable_same_Guarantee, asSl, if_true, bind_some', List.length_map]
  by_cases h : a.length = b.length
  · rw [if_neg (by rw [int_bne]; simp [h])]
    refine (loop_scan (fun k => (b.map Guar.pv, a.map Guar.pv, (a.length : Int), (k : Int), ())) a.length (fun k => if a[k]? = b[k]? then none else some (some (.bool false))) (fun k hk rec => ?_) (fin := some (.bool true)) (fun rec => ?_) ?_ rfl).trans ?_
    · have h1 : (k : Int) < (a.length : Int) := by omega
      have hk' : k < b.length := by omega
      simp only [timetable_same_Guarantee_L1, decide_eq_true_eq, h1, if_true, idxP_nat, List.getElem?_map, List.getElem?_eq_getElem hk, List.getElem?_eq_getElem hk', Option.map_some, bind_some']
      rw [if_pos ⟨rfl, rfl⟩, Guar.peq, wrap_nat (by omega)]
      by_cases he : a[k] = b[k]
      · simp [he]
      · simp [he]
    · simp only [timetable_same_Guarantee_L1, decide_eq_true_eq, Int.lt_irrefl, if_false]
    · have := rounds_gt; omega
    · refine (scan_eq a b h (some (PV.bool true)) (some (PV.bool false))).trans ?_
      split <;> simp [*]
  · rw [if_pos (by rw [int_bne]; simp [h])]
    have : a ≠ b := fun e => h (by rw [e])
    simp [this]
theorem timetable_same_Footpath_eq (a b : List Path) (ha : a.length ≤ maxLen) : timetable_same_Footpath_M [.rs 4 (a.map Path.pv), .rs 4 (b.map Path.pv)] = some (.bool (decide (a = b))) := by
  have hm := maxLen_lt
  simp only [timetable_same_Footpath_M, timetable_same_Footpath, asSl, if_true, bind_some', List.length_map]
  by_cases h : a.length = b.length
  · rw [if_neg (by rw [int_bne]; simp [h])]
    refine (loop_scan (fun k => (b.map Path.pv, a.map Path.pv, (a.length : Int), (k : Int), ())) a.length (fun k => if a[k]? = b[k]? then none else some (some (.bool false))) (fun k hk rec => ?_) (fin := some (.bool true)) (fun rec => ?_) ?_ rfl).trans ?_
    · have h1 : (k : Int) < (a.length : Int) := by omega
      have hk' : k < b.length := by omega
      simp only [timetable_same_Footpath_L1, decide_eq_true_eq, h1, if_true, idxP_nat, List.getElem?_map, List.getElem?_eq_getElem hk, List.getElem?_eq_getElem hk', Option.map_some, bind_some']
      rw [if_pos ⟨rfl, rfl⟩, Path.peq, wrap_nat (by omega)]
      by_cases he : a[k] = b[k]
      · simp [he]
      · simp [he]
    · simp only [timetable_same_Footpath_L1, decide_eq_true_eq, Int.lt_irrefl, if_false]
    · have := rounds_gt; omega
    · refine (scan_eq a b h (some (PV.bool true)) (some (PV.bool false))).trans ?_
      split <;> simp [*]
  · rw [if_pos (by rw [int_bne]; simp [h])]
    have : a ≠ b := fun e => h (by rw [e])
    simp [this]
theorem timetable_same_Product_eq (a b : List Prdt) (ha : a.length ≤ maxLen) : timetable_same_Product_M [.rs 6 (a.map Prdt.pv), .rs 6 (b.map Prdt.pv)] = some (.bool (decide (a = b))) := by
  have hm := maxLen_lt
  simp only [timetable_same_Product_M, timetable_same_Product, asSl, if_true, bind_some', List.length_map]
  by_cases h : a.length = b.length
  · rw [if_neg (by rw [int_bne]; simp [h])]
    refine (loop_scan (fun k => (b.map Prdt.pv, a.map Prdt.pv, (a.length : Int), (k : Int), ())) a.length (fun k => if a[k]? = b[k]? then none else some (some (.bool false))) (fun k hk rec => ?_) (fin := some (.bool true)) (fun rec => ?_) ?_ rfl).trans ?_
    · have h1 : (k : Int) < (a.length : Int) := by omega
      have hk' : k < b.length := by omega
      simp only [timetable_same_Product_L1, decide_eq_true_eq, h1, if_true, idxP_nat, List.getElem?_map, List.getElem?_eq_getElem hk, List.getElem?_eq_getElem hk', Option.map_some, bind_some']
      rw [if_pos ⟨rfl, rfl⟩, Prdt.peq, wrap_nat (by omega)]
      by_cases he : a[k] = b[k]
      · simp [he]
      · simp [he]
    · simp only [timetable_same_Product_L1, decide_eq_true_eq, Int.lt_irrefl, if_false]
    · have := rounds_gt; omega
    · refine (scan_eq a b h (some (PV.bool true)) (some (PV.bool false))).trans ?_
      split <;> simp [*]
  · rw [if_pos (by rw [int_bne]; simp [h])]
    have : a ≠ b := fun e => h (by rw [e])
    simp [this]
theorem call_Equal_eq (a b : List Kall) (ha : a.length ≤ maxLen) : call_Equal_M [.rs 5 (a.map Kall.pv), .rs 5 (b.map Kall.pv)] = some (.bool (decide (a = b))) := by
  have hm := maxLen_lt
  simp only [call_Equal_M, call_Equal, asSl, if_true, bind_some', List.length_map]
  by_cases h : a.length = b.length
  · rw [if_neg (by rw [int_bne]; simp [h])]
    refine (loop_scan (fun k => (b.map Kall.pv, a.map Kall.pv, (a.length : Int), (k : Int), ())) a.length (fun k => if a[k]? = b[k]? then none else some (some (.bool false))) (fun k hk rec => ?_) (fin := some (.bool true)) (fun rec => ?_) ?_ rfl).trans ?_
    · have h1 : (k : Int) < (a.length : Int) := by omega
      have hk' : k < b.length := by omega
      simp only [call_Equal_L1, decide_eq_true_eq, h1, if_true, idxP_nat, List.getElem?_map, List.getElem?_eq_getElem hk, List.getElem?_eq_getElem hk', Option.map_some, bind_some']
      rw [if_pos ⟨rfl, rfl⟩, Kall.peq, wrap_nat (by omega)]
      by_cases he : a[k] = b[k]
      · simp [he]
      · simp [he]
    · simp only [call_Equal_L1, decide_eq_true_eq, Int.lt_irrefl, if_false]
    · have := rounds_gt; omega
    · refine (scan_eq a b h (some (PV.bool true)) (some (PV.bool false))).trans ?_
      split <;> simp [*]
  · rw [if_pos (by rw [int_bne]; simp [h])]
    have : a ≠ b := fun e => h (by rw [e])
    simp [this]
theorem sameTrips_eq (a b : List Trip) (ha : a.length ≤ maxLen) (hc : ∀ x ∈ a, x.calls.length ≤ maxLen) : timetable_sameTrips_M [.rs 5 (a.map Trip.pv), .rs 5 (b.map Trip.pv)] = some (.bool (decide (a = b))) := by
  have hm := maxLen_lt
  simp only [timetable_sameTrips_M, timetable_sameTrips, asSl, if_true, bind_some', List.length_map]
  by_cases h : a.length = b.length
  · rw [if_neg (by rw [int_bne]; simp [h])]
    refine (loop_scan (fun k => (b.map Trip.pv, a.map Trip.pv, (a.length : Int), (k : Int), ())) a.length (fun k => if a[k]? = b[k]? then none else some (some (.bool false))) (fun k hk rec => ?_) (fin := some (.bool true)) (fun rec => ?_) ?_ rfl).trans ?_
    · have h1 : (k : Int) < (a.length : Int) := by omega
      have hk' : k < b.length := by omega
      have hcall := call_Equal_eq a[k].calls b[k].calls (hc _ (List.getElem_mem hk))
      simp only [timetable_sameTrips_L1, decide_eq_true_eq, h1, if_true, idxP_nat, List.getElem?_map, List.getElem?_eq_getElem hk, List.getElem?_eq_getElem hk', Option.map_some, bind_some', wrap_nat (show k < 9223372036854775807 by omega)]
      generalize a[k] = x at *
      generalize b[k] = y at *
      obtain ⟨i1, r1, c1, f1, l1⟩ := x
      obtain ⟨i2, r2, c2, f2, l2⟩ := y
      simp only at hcall
      simp only [Trip.pv, cell, PV.cells, List.getD_cons_zero, List.getD_cons_succ, asStr, asInt, asBool, asSl, if_true, bind_some', hcall]
      by_cases e1 : i1 = i2 <;> by_cases e2 : r1 = r2 <;> by_cases e3 : c1 = c2 <;> by_cases e4 : f1 = f2 <;> by_cases e5 : l1 = l2 <;> simp [beq_dec, bne_dec, e1, e2, e3, e4, e5]
    · simp only [timetable_sameTrips_L1, decide_eq_true_eq, Int.lt_irrefl, if_false]
    · have := rounds_gt; omega
    · refine (scan_eq a b h (some (PV.bool true)) (some (PV.bool false))).trans ?_
      split <;> simp [*]
  · rw [if_pos (by rw [int_bne]; simp [h])]
    have : a ≠ b := fun e => h (by rw [e])
    simp [this]
end Go.Ab.Tt
