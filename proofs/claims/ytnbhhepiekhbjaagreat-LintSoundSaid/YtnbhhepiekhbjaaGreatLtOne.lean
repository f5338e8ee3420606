/- Maps from ints to bools, warnings as data. -/
import Derived.Test.YtnbhhepiekhbjaaGreatTtChk7
namespace Go.Ab.Tt
set_option maxRecDepth 100000
set_option linter.unusedVariables false

/-! ### maps from ints -/
theorem peqL_int (a : Int) : ∀ cs : List PV, peqL [PV.int .i64 a] cs = true → ∃ q, cs = [.int q a]
  | [], h => by simp only [peqL] at h; cases h
  | [c], h => by
    simp only [peqL, Bool.and_true] at h
    cases c with
    | int q n => simp only [peq, beq_iff_eq] at h; subst h; exact ⟨q, rfl⟩
    | _ => simp only [peq] at h; cases h
  | _ :: _ :: _, h => by simp only [peqL, Bool.and_false] at h; cases h
theorem peq_int (a : Int) (p : PV) : (peqL (PV.int .i64 a).cells p.cells = true) ↔ ∃ q, p.cells = [.int q a] := by
  constructor
  · exact peqL_int a p.cells
  · rintro ⟨q, hq⟩
    rw [hq]
    simp only [PV.cells, peqL, peq, beq_self_eq_true, Bool.and_true]
theorem look_put_int (a b : Int) (v z : PV) : ∀ m : List (PV × PV), mlook (.int .i64 a) z (mput (.int .i64 b) v m) = if a = b then v else mlook (.int .i64 a) z m
  | [] => by
    simp only [mput, mlook, int_key]
    by_cases h : a = b <;> simp [h]
  | (c, u) :: r => by
    simp only [mput]
    by_cases hb : peqL (PV.int .i64 b).cells c.cells = true
    · rw [if_pos hb]
      obtain ⟨q, hq⟩ := (peq_int b c).1 hb
      simp only [mlook, int_key]
      by_cases h : a = b
      · simp [h]
      · have hn : ¬ peqL (PV.int .i64 a).cells c.cells = true := fun hc => by
          obtain ⟨q', hq'⟩ := (peq_int a c).1 hc
          rw [hq] at hq'
          simp at hq'
          exact h hq'.2.symm
        rw [if_neg hn]; simp [h]
    · rw [if_neg hb]
      simp only [mlook]
      by_cases hc : peqL (PV.int .i64 a).cells c.cells = true
      · have hab : a ≠ b := fun h => hb (h ▸ hc)
        rw [if_pos hc, if_pos hc, if_neg hab]
      · rw [if_neg hc, if_neg hc, look_put_int a b v z r]
/-- the map says of each int whether it is one of those -/
def MB (m : List (PV × PV)) (f : Int → Bool) : Prop := ∀ a, mlook (.int .i64 a) (.bool false) m = .bool (f a)
theorem MB.nil : MB [] (fun _ => false) := fun _ => rfl
theorem MB.put {m : List (PV × PV)} {f : Int → Bool} (h : MB m f) (b : Int) (v : Bool) : MB (mput (.int .i64 b) (.bool v) m) (fun a => if a = b then v else f a) := fun a => by
  rw [look_put_int, h a]; by_cases hh : a = b <;> simp [hh]
theorem MB.puts {m : List (PV × PV)} {f : Int → Bool} (h : MB m f) : ∀ l : List Int, MB (l.foldl (fun m a => mput (.int .i64 a) (.bool true) m) m) (fun a => decide (a ∈ l) || f a) := by
  intro l
  induction l generalizing m f with
  | nil => simpa using h
  | cons b l ih =>
    have := ih (h.put b true)
    intro a
    rw [List.foldl_cons, this a]
    by_cases hab : a = b
    · subst hab; simp
    · simp [hab]
/-- those that have been put, in their order -/
def putsM (l : List Int) (m : List (PV × PV)) : List (PV × PV) := l.foldl (fun m a => mput (.int .i64 a) (.bool true) m) m
theorem putsM_snoc (l : List Int) (a : Int) (m : List (PV × PV)) : putsM (l ++ [a]) m = mput (.int .i64 a) (.bool true) (putsM l m) := by simp [putsM]
theorem putsM_app (l k : List Int) (m : List (PV × PV)) : putsM (l ++ k) m = putsM k (putsM l m) := by simp [putsM]
theorem MB.ofPuts (l : List Int) : MB (putsM l []) (fun a => decide (a ∈ l)) := fun a => by
  have := (MB.nil.puts l) a
  simpa [putsM] using this
theorem zip_ks (m : List (PV × PV)) : (m.map fun x => x.1).zip (m.map fun x => x.2) = m := by
  induction m with
  | nil => rfl
  | cons a m ih => simp [ih]

/-! ### warnings -/
structure Warn where
  kind : Int
  a : Int
  b : Int
  deriving DecidableEq
def Warn.pv (w : Warn) : PV := .agg [.int .i64 w.kind, .int .i64 w.a, .int .i64 w.b]
theorem warn0 (w : Warn) : cell w.pv 0 = .int .i64 w.kind := rfl
theorem warn1 (w : Warn) : cell w.pv 1 = .int .i64 w.a := rfl
theorem warn2 (w : Warn) : cell w.pv 2 = .int .i64 w.b := rfl
theorem warnA (w : Warn) : asAgg 3 w.pv = some () := rfl
theorem warnE (a b c : Int) : PV.agg [.int .i64 a, .int .i64 b, .int .i64 c] = (Warn.mk a b c).pv := rfl
theorem warn_chk (a b c : Int) : chk (Kd.int .i64 :: [].append (Kd.int .i64 :: [].append (Kd.int .i64 :: [].append []))) [.int .i64 a, .int .i64 b, .int .i64 c] = true := rfl
theorem warn_eq (v w : Warn) : peqL [.int .i64 v.kind, .int .i64 v.a, .int .i64 v.b] [.int .i64 w.kind, .int .i64 w.a, .int .i64 w.b] = decide (v = w) := by
  cases v; cases w
  simp only [peqL, peq, Bool.and_true, beq_d, Warn.mk.injEq]
  rw [Bool.eq_iff_iff]
  simp only [Bool.and_eq_true, decide_eq_true_eq]
end Go.Ab.Tt

namespace Go.Ab.Tt
set_option maxRecDepth 100000
set_option linter.unusedVariables false

theorem prdt5 (x : Prdt) : cell x.pv 5 = .int .i64 x.modes := rfl
theorem route1 (x : Route) : cell x.pv 1 = .int .i64 x.mode := rfl
def tl {X : Type} (T : Timetable) (x : X) := (T.stops.map Stop.pv, T.routes.map Route.pv, T.cals.map Cal.pv, T.excs.map Exc.pv, T.trips.map Trip.pv, T.freqs.map Freq.pv, T.thrs.map Thr.pv, T.guars.map Guar.pv, T.paths.map Path.pv, T.prods.map Prdt.pv, T.disc, T.within, T.cap, x)
/-- what the iterator over the indices below n that are not in the map is -/
def missPV (kt : Nat) (n : Nat) (m : List (PV × PV)) (kind : Int) : PV := .fn 104 [.rp [.int .i64 n], .rp [.rm kt (m.map fun x => x.1) (m.map fun x => x.2)], .rp [.int .i64 kind]]

theorem putsM_two (l : List Int) (a b : Int) (m : List (PV × PV)) : putsM (l ++ [a, b]) m = mput (.int .i64 b) (.bool true) (mput (.int .i64 a) (.bool true) (putsM l m)) := by simp [putsM]

theorem take_succ' {A : Type} (l : List A) (k : Nat) (h : k < l.length) : l.take (k + 1) = l.take k ++ [l[k]] := by rw [List.take_succ_eq_append_getElem h]

theorem routes_prog (T : Timetable) (hT : T.Ok) : lint_routes_M [T.pv] = some (missPV 3 T.routes.length (putsM (T.trips.map Trip.route) []) 2) := by
  have hm := maxLen_lt
  have hl := hT.trips.1
  simp only [lint_routes_M, lint_routes, ttA, tt0, tt1, tt2, tt3, tt4, tt5, tt6, tt7, tt8, tt9, tt10, tt11, tt12, asSl, asInt, if_true, bind_some', List.length_map]
  refine loop_until (fun k => (T.trips.map Trip.pv, (T.trips.length : Int), (k : Int), tl T (putsM ((T.trips.take k).map Trip.route) [], ()))) T.trips.length (fun k hk rec => ?_) (fun rec => ?_) ?_ rfl
  · have h1 : (k : Int) < (T.trips.length : Int) := by omega
    simp only [lint_routes_L1, decide_eq_true_eq, h1, if_true, idxP_nat, List.getElem?_map, List.getElem?_eq_getElem hk, Option.map_some, bind_some', trip1, asInt, tl, wrap_nat (show k < 9223372036854775807 by omega)]
    rw [take_succ' _ _ hk, List.map_append, List.map_singleton, putsM_snoc]
  · simp only [lint_routes_L1, decide_eq_true_eq, Int.lt_irrefl, if_false, Bool.false_eq_true, tl, List.take_length, List.length_map, missPV]
  · have := rounds_gt; omega
theorem calendars_prog (T : Timetable) (hT : T.Ok) : lint_calendars_M [T.pv] = some (missPV 3 T.cals.length (putsM (T.trips.map Trip.cal) []) 3) := by
  have hm := maxLen_lt
  have hl := hT.trips.1
  simp only [lint_calendars_M, lint_calendars, ttA, tt0, tt1, tt2, tt3, tt4, tt5, tt6, tt7, tt8, tt9, tt10, tt11, tt12, asSl, asInt, if_true, bind_some', List.length_map]
  refine loop_until (fun k => (T.trips.map Trip.pv, (T.trips.length : Int), (k : Int), tl T (putsM ((T.trips.take k).map Trip.cal) [], ()))) T.trips.length (fun k hk rec => ?_) (fun rec => ?_) ?_ rfl
  · have h1 : (k : Int) < (T.trips.length : Int) := by omega
    simp only [lint_calendars_L1, decide_eq_true_eq, h1, if_true, idxP_nat, List.getElem?_map, List.getElem?_eq_getElem hk, Option.map_some, bind_some', trip2, asInt, tl, wrap_nat (show k < 9223372036854775807 by omega)]
    rw [take_succ' _ _ hk, List.map_append, List.map_singleton, putsM_snoc]
  · simp only [lint_calendars_L1, decide_eq_true_eq, Int.lt_irrefl, if_false, Bool.false_eq_true, tl, List.take_length, List.length_map, missPV]
  · have := rounds_gt; omega

/-! ### stops -/
def callStops (T : Timetable) : List Int := T.trips.flatMap fun x => x.calls.map Kall.stop
def pathEnds (T : Timetable) : List Int := T.paths.flatMap fun p => [p.a, p.b]
theorem stops_in (T : Timetable) (hT : T.Ok) (x : Trip) (hx : x ∈ T.trips) (i : Int) (m : List (PV × PV)) (rec15) : lpS.run (lint_stops_L1 rec15) (T.trips.map Trip.pv, (T.trips.length : Int), i, x.calls.map Kall.pv, (x.calls.length : Int), 0, tl T (m, ())) = rec15 (T.trips.map Trip.pv, (T.trips.length : Int), IntKind.i64.wrap (i + 1), tl T (putsM (x.calls.map Kall.stop) m, ())) := by
  have hm := maxLen_lt
  have hl := (hT.trips.2 x hx).calls.1
  refine loop_until (fun k => (T.trips.map Trip.pv, (T.trips.length : Int), i, x.calls.map Kall.pv, (x.calls.length : Int), (k : Int), tl T (putsM ((x.calls.take k).map Kall.stop) m, ()))) x.calls.length (fun k hk rec => ?_) (fun rec => ?_) ?_ rfl
  · have h1 : (k : Int) < (x.calls.length : Int) := by omega
    simp only [lint_stops_L1, decide_eq_true_eq, h1, if_true, idxP_nat, List.getElem?_map, List.getElem?_eq_getElem hk, Option.map_some, bind_some', kall0, asInt, tl, wrap_nat (show k < 9223372036854775807 by omega)]
    rw [take_succ' _ _ hk, List.map_append, List.map_singleton, putsM_snoc]
  · simp only [lint_stops_L1, decide_eq_true_eq, Int.lt_irrefl, if_false, Bool.false_eq_true, tl, List.take_length]
  · have := rounds_gt; omega
theorem stops_paths (T : Timetable) (hT : T.Ok) (m : List (PV × PV)) : lpS.run lint_stops_L2 (T.paths.map Path.pv, (T.paths.length : Int), 0, tl T (m, ())) = some (missPV 3 T.stops.length (putsM (pathEnds T) m) 1) := by
  have hm := maxLen_lt
  have hl := hT.paths.1
  refine loop_until (fun k => (T.paths.map Path.pv, (T.paths.length : Int), (k : Int), tl T (putsM ((T.paths.take k).flatMap fun p => [p.a, p.b]) m, ()))) T.paths.length (fun k hk rec => ?_) (fun rec => ?_) ?_ rfl
  · have h1 : (k : Int) < (T.paths.length : Int) := by omega
    simp only [lint_stops_L2, decide_eq_true_eq, h1, if_true, idxP_nat, List.getElem?_map, List.getElem?_eq_getElem hk, Option.map_some, bind_some', path0, path1, asInt, tl, wrap_nat (show k < 9223372036854775807 by omega)]
    rw [take_succ' _ _ hk, List.flatMap_append, List.flatMap_singleton, putsM_two]
  · simp only [lint_stops_L2, decide_eq_true_eq, Int.lt_irrefl, if_false, Bool.false_eq_true, tl, List.take_length, List.length_map, missPV, pathEnds]
  · have := rounds_gt; omega
theorem stops_prog (T : Timetable) (hT : T.Ok) : lint_stops_M [T.pv] = some (missPV 3 T.stops.length (putsM (callStops T ++ pathEnds T) []) 1) := by
  have hm := maxLen_lt
  have hl := hT.trips.1
  simp only [lint_stops_M, lint_stops, ttA, tt0, tt1, tt2, tt3, tt4, tt5, tt6, tt7, tt8, tt9, tt10, tt11, tt12, asSl, asInt, if_true, bind_some', List.length_map]
  refine loop_until (fun k => (T.trips.map Trip.pv, (T.trips.length : Int), (k : Int), tl T (putsM ((T.trips.take k).flatMap fun x => x.calls.map Kall.stop) [], ()))) T.trips.length (fun k hk rec => ?_) (fun rec => ?_) ?_ rfl
  · have h1 : (k : Int) < (T.trips.length : Int) := by omega
    have hin := stops_in T hT T.trips[k] (List.getElem_mem hk) k (putsM ((T.trips.take k).flatMap fun x => x.calls.map Kall.stop) []) rec
    simp only [tl] at hin
    simp only [lint_stops_L3, decide_eq_true_eq, h1, if_true, idxP_nat, List.getElem?_map, List.getElem?_eq_getElem hk, Option.map_some, bind_some', trip4, asSl, tl, List.length_map, hin, wrap_nat (show k < 9223372036854775807 by omega)]
    rw [take_succ' _ _ hk, List.flatMap_append, List.flatMap_singleton, putsM_app]
  · have hp := stops_paths T hT (putsM (callStops T) [])
    simp only [tl] at hp
    rw [putsM_app, ← hp]
    simp only [lint_stops_L3, decide_eq_true_eq, Int.lt_irrefl, if_false, Bool.false_eq_true, tl, List.take_length, List.length_map, callStops]
  · have := rounds_gt; omega

/-! ### unreachable -/
def aliStops (l : List Kall) (k : Nat) : List Int := (List.range k).filterMap fun j => match l[j]? with | some c => if (decide ((j : Int) > 0) && c.alight) = true then some c.stop else none | none => none
def reachStops (T : Timetable) : List Int := T.trips.flatMap fun x => aliStops x.calls x.calls.length
theorem unreach_in (T : Timetable) (hT : T.Ok) (x : Trip) (hx : x ∈ T.trips) (i : Int) (m : List (PV × PV)) (rec15) : lpS.run (lint_unreachable_L1 rec15) (T.trips.map Trip.pv, (T.trips.length : Int), i, x.calls.map Kall.pv, (x.calls.length : Int), 0, tl T (m, ())) = rec15 (T.trips.map Trip.pv, (T.trips.length : Int), IntKind.i64.wrap (i + 1), tl T (putsM (aliStops x.calls x.calls.length) m, ())) := by
  have hm := maxLen_lt
  have hl := (hT.trips.2 x hx).calls.1
  refine loop_until (fun k => (T.trips.map Trip.pv, (T.trips.length : Int), i, x.calls.map Kall.pv, (x.calls.length : Int), (k : Int), tl T (putsM (aliStops x.calls k) m, ()))) x.calls.length (fun k hk rec => ?_) (fun rec => ?_) ?_ rfl
  · have h1 : (k : Int) < (x.calls.length : Int) := by omega
    simp only [lint_unreachable_L1, decide_eq_true_eq, h1, if_true, idxP_nat, List.getElem?_map, List.getElem?_eq_getElem hk, Option.map_some, bind_some', kall0, kall4, asInt, asBool, bif_and, tl, wrap_nat (show k < 9223372036854775807 by omega)]
    have hs : aliStops x.calls (k + 1) = aliStops x.calls k ++ (if (decide ((k : Int) > 0) && x.calls[k].alight) = true then [x.calls[k].stop] else []) := by
      unfold aliStops
      rw [List.range_succ, List.filterMap_append]
      simp only [List.filterMap_cons, List.filterMap_nil, List.getElem?_eq_getElem hk]
      cases (decide ((k : Int) > 0) && x.calls[k].alight) <;> rfl
    rw [hs]
    cases (decide ((k : Int) > 0) && x.calls[k].alight) with
    | true => simp only [if_true, putsM_snoc]
    | false => simp only [Bool.false_eq_true, if_false, List.append_nil]
  · simp only [lint_unreachable_L1, decide_eq_true_eq, Int.lt_irrefl, if_false, Bool.false_eq_true, tl]
  · have := rounds_gt; omega
theorem unreach_paths (T : Timetable) (hT : T.Ok) (m : List (PV × PV)) : lpS.run lint_unreachable_L2 (T.paths.map Path.pv, (T.paths.length : Int), 0, tl T (m, ())) = some (missPV 3 T.stops.length (putsM (T.paths.map Path.b) m) 6) := by
  have hm := maxLen_lt
  have hl := hT.paths.1
  refine loop_until (fun k => (T.paths.map Path.pv, (T.paths.length : Int), (k : Int), tl T (putsM ((T.paths.take k).map Path.b) m, ()))) T.paths.length (fun k hk rec => ?_) (fun rec => ?_) ?_ rfl
  · have h1 : (k : Int) < (T.paths.length : Int) := by omega
    simp only [lint_unreachable_L2, decide_eq_true_eq, h1, if_true, idxP_nat, List.getElem?_map, List.getElem?_eq_getElem hk, Option.map_some, bind_some', path1, asInt, tl, wrap_nat (show k < 9223372036854775807 by omega)]
    rw [take_succ' _ _ hk, List.map_append, List.map_singleton, putsM_snoc]
  · simp only [lint_unreachable_L2, decide_eq_true_eq, Int.lt_irrefl, if_false, Bool.false_eq_true, tl, List.take_length, List.length_map, missPV]
  · have := rounds_gt; omega
theorem unreach_prog (T : Timetable) (hT : T.Ok) : lint_unreachable_M [T.pv] = some (missPV 3 T.stops.length (putsM (reachStops T ++ T.paths.map Path.b) []) 6) := by
  have hm := maxLen_lt
  have hl := hT.trips.1
  simp only [lint_unreachable_M, lint_unreachable, ttA, tt0, tt1, tt2, tt3, tt4, tt5, tt6, tt7, tt8, tt9, tt10, tt11, tt12, asSl, asInt, if_true, bind_some', List.length_map]
  refine loop_until (fun k => (T.trips.map Trip.pv, (T.trips.length : Int), (k : Int), tl T (putsM ((T.trips.take k).flatMap fun x => aliStops x.calls x.calls.length) [], ()))) T.trips.length (fun k hk rec => ?_) (fun rec => ?_) ?_ rfl
  · have h1 : (k : Int) < (T.trips.length : Int) := by omega
    have hin := unreach_in T hT T.trips[k] (List.getElem_mem hk) k (putsM ((T.trips.take k).flatMap fun x => aliStops x.calls x.calls.length) []) rec
    simp only [tl] at hin
    simp only [lint_unreachable_L3, decide_eq_true_eq, h1, if_true, idxP_nat, List.getElem?_map, List.getElem?_eq_getElem hk, Option.map_some, bind_some', trip4, asSl, tl, List.length_map, hin, wrap_nat (show k < 9223372036854775807 by omega)]
    rw [take_succ' _ _ hk, List.flatMap_append, List.flatMap_singleton, putsM_app]
  · have hp := unreach_paths T hT (putsM (reachStops T) [])
    simp only [tl] at hp
    rw [putsM_app, ← hp]
    simp only [lint_unreachable_L3, decide_eq_true_eq, Int.lt_irrefl, if_false, Bool.false_eq_true, tl, List.take_length, List.length_map, reachStops]
  · have := rounds_gt; omega
end Go.Ab.Tt

namespace Go.Ab.Tt
set_option maxRecDepth 100000
set_option linter.unusedVariables false

theorem exc2 (x : Exc) : cell x.pv 2 = .bool x.added := rfl
def wk (c : Cal) (w : Int) : Bool := if w = 0 then c.w0 else if w = 1 then c.w1 else if w = 2 then c.w2 else if w = 3 then c.w3 else if w = 4 then c.w4 else if w = 5 then c.w5 else c.w6
def dayB (d : Int) : Bool := decide (0 ≤ d) && decide (d ≤ 36524)
def excHit (i d : Int) (e : Exc) : Bool := decide (e.cal = i) && decide (e.day = d)
def reasonOf (c : Cal) (xs : List Exc) (i d : Int) : Int := match xs.find? (excHit i d) with
  | some e => if e.added = true then 2 else 3
  | none => if (decide (d < c.day0) || decide (d > c.day1)) = true then 5 else if wk c ((d + 5).tmod 7) = true then 1 else 4
def reasonI (cs : List Cal) (xs : List Exc) (i d : Int) : Int := if dayB d = false then 0 else if i < 0 then 0 else match cs[i.toNat]? with
  | some c => reasonOf c xs i d
  | none => 0

theorem dvalid_prog (d : Int) : date_Valid_M [.int .i64 d] = some (.bool (dayB d)) := by
  simp only [date_Valid_M, date_Valid, asInt, if_true, bind_some', bif_and, dayB]
theorem dvalid_ref (d : Int) : ref02_Valid_M [.int .i64 d] = some (.bool (dayB d)) := by
  simp only [ref02_Valid_M, ref02_Valid, asInt, if_true, bind_some', bif_and, dayB, ge_iff_le]
theorem week_in (d : Int) (h : dayB d = true) : IntKind.i64.wrap (d + 5) = d + 5 ∧ 0 ≤ (d + 5).tmod 7 ∧ (d + 5).tmod 7 < 7 := by
  unfold dayB at h
  simp only [Bool.and_eq_true, decide_eq_true_eq] at h
  refine ⟨wrap_in (by omega) (by omega), ?_⟩
  rw [Int.tmod_eq_emod_of_nonneg (by omega)]
  omega
theorem weekday_prog (d : Int) (h : dayB d = true) : date_Weekday_M [.int .i64 d] = some (.tup [.int .i64 ((d + 5).tmod 7), .bool true]) := by
  obtain ⟨h1, _⟩ := week_in d h
  simp only [date_Weekday_M, date_Weekday, asInt, if_true, bind_some', dvalid_prog, asBool, h, Bool.not_true, Bool.false_eq_true, if_false, h1]
theorem weekday_ref (d : Int) (h : dayB d = true) : ref02_Weekday_M [.int .i64 d] = some (.tup [.int .i64 ((d + 5).tmod 7), .bool true]) := by
  obtain ⟨h1, _⟩ := week_in d h
  simp only [ref02_Weekday_M, ref02_Weekday, asInt, if_true, bind_some', dvalid_ref, asBool, h, Bool.not_true, Bool.false_eq_true, if_false, h1]
theorem wk_prog (c : Cal) (w : Int) (h0 : 0 ≤ w) (h7 : w < 7) (k : Bool → Option PV) : (if inRange w 7 ∧ 0 < 1 then [cell c.pv 0, cell c.pv 1, cell c.pv 2, cell c.pv 3, cell c.pv 4, cell c.pv 5, cell c.pv 6, cell c.pv 7, cell c.pv 8, cell c.pv 9][1 + w.toNat * 1]?.bind fun p => (asBool p).bind k else none) = k (wk c w) := by
  rw [if_pos ⟨⟨h0, h7⟩, by decide⟩]
  have : w = 0 ∨ w = 1 ∨ w = 2 ∨ w = 3 ∨ w = 4 ∨ w = 5 ∨ w = 6 := by omega
  rcases this with rfl | rfl | rfl | rfl | rfl | rfl | rfl <;> rfl
theorem wk_ref (c : Cal) (w : Int) (h0 : 0 ≤ w) (h7 : w < 7) (k : Bool → Option PV) : (if inRange w 7 ∧ 0 < 1 then (List.drop (w.toNat * 1) [cell c.pv 1, cell c.pv 2, cell c.pv 3, cell c.pv 4, cell c.pv 5, cell c.pv 6, cell c.pv 7, cell c.pv 8, cell c.pv 9]).head?.bind fun p => (asBool p).bind k else none) = k (wk c w) := by
  rw [if_pos ⟨⟨h0, h7⟩, by decide⟩]
  have : w = 0 ∨ w = 1 ∨ w = 2 ∨ w = 3 ∨ w = 4 ∨ w = 5 ∨ w = 6 := by omega
  rcases this with rfl | rfl | rfl | rfl | rfl | rfl | rfl <;> rfl
theorem find_orFin {A : Type} (p : A → Bool) (g : A → Option PV) (l : List A) (fin : Option PV) : orFin ((List.range l.length).findSome? fun k => (l[k]?).bind fun x => if p x = true then some (g x) else none) fin = match l.find? p with | some x => g x | none => fin := by
  rw [find_scan]
  cases l.find? p <;> rfl

theorem reason_prog (cs : List Cal) (hc : cs.length ≤ maxLen) (xs : List Exc) (hx : xs.length ≤ maxLen) (i d : Int) : calendar_Reason_M [.rs 10 (cs.map Cal.pv), .rs 3 (xs.map Exc.pv), .int .i64 i, .int .i64 d] = some (.int .i64 (reasonI cs xs i d)) := by
  have hm := maxLen_lt
  simp only [calendar_Reason_M, calendar_Reason, asSl, asInt, if_true, bind_some', bif_or', dvalid_prog, asBool, List.length_map]
  unfold reasonI
  by_cases hi : i < 0
  · simp only [hi, decide_true, Bool.true_or, cond_true, bind_some', if_true]
    cases dayB d <;> rfl
  by_cases hn : i ≥ (cs.length : Int)
  · have : cs[i.toNat]? = none := by rw [List.getElem?_eq_none_iff]; omega
    simp only [hi, hn, decide_true, decide_false, Bool.or_true, cond_true, bind_some', if_true, this]
    cases dayB d <;> rfl
  simp only [hi, hn, decide_false, Bool.or_false, cond_false, bind_some']
  cases hd : dayB d with
  | false => simp only [Bool.not_false, Bool.or_true, if_true]
  | true =>
    obtain ⟨n, rfl⟩ : ∃ n : Nat, i = n := ⟨i.toNat, by omega⟩
    have hlt : n < cs.length := by omega
    obtain ⟨w1, w2, w3⟩ := week_in d hd
    simp only [Bool.not_true, Bool.false_eq_true, if_false, idxP_nat, List.getElem?_map, List.getElem?_eq_getElem hlt, Option.map_some, bind_some', Bool.true_eq_false, Int.toNat_natCast]
    generalize cs[n] = c
    refine (loop_scan' (fun k => ((n : Int), d, 5, xs.map Exc.pv, (xs.length : Int), (k : Int), cell c.pv 0, cell c.pv 1, cell c.pv 2, cell c.pv 3, cell c.pv 4, cell c.pv 5, cell c.pv 6, cell c.pv 7, cell c.pv 8, cell c.pv 9, ())) xs.length (fun k => (xs[k]?).bind fun x => if excHit n d x = true then some (some (.int .i64 (if x.added = true then 2 else 3))) else none) (fin := some (.int .i64 (if (decide (d < c.day0) || decide (d > c.day1)) = true then 5 else if wk c ((d + 5).tmod 7) = true then 1 else 4))) (fun k hk rec => ?_) (fun rec => ?_) ?_ rfl).trans ?_
    · have h1 : (k : Int) < (xs.length : Int) := by omega
      simp only [calendar_Reason_L1, decide_eq_true_eq, h1, if_true, idxP_nat, List.getElem?_map, List.getElem?_eq_getElem hk, Option.map_some, bind_some', exc0, exc1, exc2, asInt, asBool, bif_or', wrap_nat (show k < 9223372036854775807 by omega), bne_d]
      unfold excHit
      generalize xs[k] = x
      by_cases e1 : x.cal = n <;> by_cases e2 : x.day = d <;> simp [e1, e2, orFin]
      cases x.added <;> rfl
    · have hw := wk_prog c ((d + 5).tmod 7) w2 w3 (fun b => if b = true then some (PV.int .i64 1) else some (PV.int .i64 4))
      simp only [calendar_Reason_L1, decide_eq_true_eq, Int.lt_irrefl, if_false, cal8, cal9, asInt, if_true, bind_some', weekday_prog d hd, asTup, List.length_cons, List.length_nil, Nat.reduceAdd, List.getD_cons_zero, List.getD_cons_succ, asBool, show ((5 : Int) == 3) = false from rfl, cond_false, bif_or']
      simp only [cal8, cal9, asBool] at hw
      rw [hw]
      cases (decide (d < c.day0) || decide (d > c.day1)) <;> cases wk c ((d + 5).tmod 7) <;> rfl
    · have := rounds_gt; omega
    · rw [find_orFin (excHit n d) (fun x => some (.int .i64 (if x.added = true then 2 else 3)))]
      unfold reasonOf
      cases xs.find? (excHit n d) <;> rfl

theorem reason_ref (cs : List Cal) (hc : cs.length ≤ maxLen) (xs : List Exc) (hx : xs.length ≤ maxLen) (i d : Int) : ref14_Reason_M [.rs 10 (cs.map Cal.pv), .rs 3 (xs.map Exc.pv), .int .i64 i, .int .i64 d] = some (.int .i64 (reasonI cs xs i d)) := by
  have hm := maxLen_lt
  simp only [ref14_Reason_M, ref14_Reason, asSl, asInt, if_true, bind_some', bif_or', dvalid_ref, asBool, List.length_map]
  unfold reasonI
  by_cases hi : i < 0
  · simp only [hi, decide_true, Bool.true_or, cond_true, bind_some', if_true]
    cases dayB d <;> rfl
  by_cases hn : i ≥ (cs.length : Int)
  · have : cs[i.toNat]? = none := by rw [List.getElem?_eq_none_iff]; omega
    simp only [hi, hn, decide_true, decide_false, Bool.or_true, cond_true, bind_some', if_true, this]
    cases dayB d <;> rfl
  simp only [hi, hn, decide_false, Bool.or_false, cond_false, bind_some']
  cases hd : dayB d with
  | false => simp only [Bool.not_false, Bool.or_true, if_true]
  | true =>
    obtain ⟨n, rfl⟩ : ∃ n : Nat, i = n := ⟨i.toNat, by omega⟩
    have hlt : n < cs.length := by omega
    obtain ⟨w1, w2, w3⟩ := week_in d hd
    simp only [Bool.not_true, Bool.false_eq_true, if_false, List.getElem?_eq_getElem hlt, Bool.true_eq_false, Int.toNat_natCast]
    refine (loop_scan' (fun k => (cs.map Cal.pv, xs.map Exc.pv, (n : Int), d, (k : Int), ())) xs.length (fun k => (xs[k]?).bind fun x => if excHit n d x = true then some (some (.int .i64 (if x.added = true then 2 else 3))) else none) (fin := some (.int .i64 (if (decide (d < cs[n].day0) || decide (d > cs[n].day1)) = true then 5 else if wk cs[n] ((d + 5).tmod 7) = true then 1 else 4))) (fun k hk rec => ?_) (fun rec => ?_) ?_ rfl).trans ?_
    · have h1 : (k : Int) < (xs.length : Int) := by omega
      simp only [ref14_Reason_L1, decide_eq_true_eq, List.length_map, h1, if_true, idxP_nat, List.getElem?_map, List.getElem?_eq_getElem hk, Option.map_some, bind_some', exc0, exc1, exc2, asInt, asBool, bif_and, wrap_nat (show k < 9223372036854775807 by omega), beq_d]
      unfold excHit
      generalize xs[k] = x
      by_cases e1 : x.cal = n <;> by_cases e2 : x.day = d <;> simp [e1, e2, orFin]
      cases x.added <;> rfl
    · have hw := wk_ref cs[n] ((d + 5).tmod 7) w2 w3 (fun b => if b = true then some (PV.int .i64 1) else some (PV.int .i64 4))
      simp only [ref14_Reason_L1, decide_eq_true_eq, List.length_map, Int.lt_irrefl, if_false, idxP_nat, List.getElem?_map, List.getElem?_eq_getElem hlt, Option.map_some, cal8, cal9, asInt, if_true, bind_some', weekday_ref d hd, asTup, List.length_cons, List.length_nil, Nat.reduceAdd, List.getD_cons_zero, List.getD_cons_succ, asBool, bif_or']
      simp only [cal8, cal9, asBool] at hw
      rw [hw]
      cases (decide (d < cs[n].day0) || decide (d > cs[n].day1)) <;> cases wk cs[n] ((d + 5).tmod 7) <;> rfl
    · have := rounds_gt; omega
    · rw [find_orFin (excHit n d) (fun x => some (.int .i64 (if x.added = true then 2 else 3)))]
      unfold reasonOf
      cases xs.find? (excHit n d) <;> rfl

def activeB (cs : List Cal) (xs : List Exc) (i d : Int) : Bool := decide (reasonI cs xs i d = 1) || decide (reasonI cs xs i d = 2)
theorem active_prog (cs : List Cal) (hc : cs.length ≤ maxLen) (xs : List Exc) (hx : xs.length ≤ maxLen) (i d : Int) : calendar_Active_M [.rs 10 (cs.map Cal.pv), .rs 3 (xs.map Exc.pv), .int .i64 i, .int .i64 d] = some (.bool (activeB cs xs i d)) := by
  simp only [calendar_Active_M, calendar_Active, asSl, asInt, if_true, bind_some', reason_prog cs hc xs hx, bif_or', beq_d, activeB]
theorem active_ref (cs : List Cal) (hc : cs.length ≤ maxLen) (xs : List Exc) (hx : xs.length ≤ maxLen) (i d : Int) : ref14_Active_M [.rs 10 (cs.map Cal.pv), .rs 3 (xs.map Exc.pv), .int .i64 i, .int .i64 d] = some (.bool (activeB cs xs i d)) := by
  simp only [ref14_Active_M, ref14_Active, asSl, asInt, if_true, bind_some', reason_ref cs hc xs hx, bif_or', beq_d, activeB]
def nextD (cs : List Cal) (xs : List Exc) (i : Int) : Option Nat := (List.range 36525).find? fun d => activeB cs xs i d
def nextD_pv (o : Option Nat) : PV := match o with | some d => .tup [.int .i64 d, .bool true] | none => .tup [.int .i64 0, .bool false]
theorem next_loop {body : List PV × List PV × Int × Int × Unit → (List PV × List PV × Int × Int × Unit → Option PV) → Option PV} (cs : List Cal) (xs : List Exc) (i : Int)
    (hb : ∀ (d : Nat) rec, d ≤ 36524 → body (cs.map Cal.pv, xs.map Exc.pv, i, (d : Int), ()) rec = if activeB cs xs i d = true then some (.tup [.int .i64 d, .bool true]) else rec (cs.map Cal.pv, xs.map Exc.pv, i, ((d + 1 : Nat) : Int), ()))
    (he : ∀ rec, body (cs.map Cal.pv, xs.map Exc.pv, i, ((36525 : Nat) : Int), ()) rec = some (.tup [.int .i64 0, .bool false])) : lpS.run body (cs.map Cal.pv, xs.map Exc.pv, i, 0, ()) = some (nextD_pv (nextD cs xs i)) := by
  refine (loop_scan' (fun k => (cs.map Cal.pv, xs.map Exc.pv, i, (k : Int), ())) 36525 (fun k => if activeB cs xs i k = true then some (some (.tup [.int .i64 k, .bool true])) else none) (fin := some (.tup [.int .i64 0, .bool false])) (fun k hk rec => ?_) (fun rec => he rec) ?_ rfl).trans ?_
  · rw [hb k rec (by omega)]
    cases activeB cs xs i k <;> rfl
  · have := rounds_gt; have : 36525 ≤ maxLen := by decide
    omega
  · rw [findSome_if]
    unfold nextD nextD_pv
    cases (List.range 36525).find? fun (d : Nat) => activeB cs xs i d <;> rfl
theorem next_prog' (cs : List Cal) (hc : cs.length ≤ maxLen) (xs : List Exc) (hx : xs.length ≤ maxLen) (i : Int) : calendar_Next_M [.rs 10 (cs.map Cal.pv), .rs 3 (xs.map Exc.pv), .int .i64 i, .int .i64 0] = some (nextD_pv (nextD cs xs i)) := by
  simp only [calendar_Next_M, calendar_Next, asSl, asInt, if_true, bind_some', show ¬ (0 : Int) > 0 from by decide, if_false]
  refine next_loop cs xs i (fun d rec hd => ?_) (fun rec => ?_)
  · have h1 : (d : Int) ≤ 36524 := by omega
    simp only [calendar_Next_L1, decide_eq_true_eq, h1, if_true, active_prog cs hc xs hx, bind_some', asBool, wrap_nat (show d < 9223372036854775807 by omega)]
  · simp only [calendar_Next_L1, decide_eq_true_eq, show ¬ (((36525 : Nat) : Int) ≤ 36524) from by decide, if_false]
theorem next_ref' (cs : List Cal) (hc : cs.length ≤ maxLen) (xs : List Exc) (hx : xs.length ≤ maxLen) (i : Int) : ref14_Next_M [.rs 10 (cs.map Cal.pv), .rs 3 (xs.map Exc.pv), .int .i64 i, .int .i64 0] = some (nextD_pv (nextD cs xs i)) := by
  simp only [ref14_Next_M, ref14_Next, asSl, asInt, if_true, bind_some', show ¬ (0 : Int) < 0 from by decide, decide_false, Bool.false_eq_true, if_false]
  refine next_loop cs xs i (fun d rec hd => ?_) (fun rec => ?_)
  · have h1 : (d : Int) ≤ 36524 := by omega
    simp only [ref14_Next_L2, decide_eq_true_eq, h1, if_true, active_ref cs hc xs hx, bind_some', asBool, wrap_nat (show d < 9223372036854775807 by omega)]
  · simp only [ref14_Next_L2, decide_eq_true_eq, show ¬ (((36525 : Nat) : Int) ≤ 36524) from by decide, if_false]
end Go.Ab.Tt

namespace Go.Ab.Tt
set_option maxRecDepth 100000
set_option linter.unusedVariables false

/-! ### a pass over the indices -/
def passM (g : Nat → Bool) (k : Nat) (m : List (PV × PV)) : List (PV × PV) := (List.range k).foldl (fun m (i : Nat) => mput (.int .i64 i) (.bool (g i)) m) m
theorem passM_succ (g : Nat → Bool) (k : Nat) (m : List (PV × PV)) : passM g (k + 1) m = mput (.int .i64 k) (.bool (g k)) (passM g k m) := by
  simp [passM, List.range_succ]
theorem MB.pass {m : List (PV × PV)} {f : Int → Bool} (h : MB m f) (g : Nat → Bool) : ∀ k, MB (passM g k m) (fun a => if 0 ≤ a ∧ a < (k : Int) then g a.toNat else f a)
  | 0 => fun a => by
    have : ¬ (0 ≤ a ∧ a < ((0 : Nat) : Int)) := by omega
    show _ = PV.bool (if _ then _ else _)
    rw [if_neg this]; exact h a
  | k + 1 => fun a => by
    rw [passM_succ, (MB.put (MB.pass h g k) k (g k)) a]
    show PV.bool (if a = k then g k else if 0 ≤ a ∧ a < (k : Int) then g a.toNat else f a) = PV.bool (if 0 ≤ a ∧ a < ((k + 1 : Nat) : Int) then g a.toNat else f a)
    by_cases e : a = k
    · subst e
      rw [if_pos rfl, if_pos (by omega)]; simp
    · rw [if_neg e]
      by_cases e2 : 0 ≤ a ∧ a < (k : Int)
      · rw [if_pos e2, if_pos (by omega)]
      · rw [if_neg e2, if_neg (by omega)]

/-! ### idle -/
def runsAt (T : Timetable) (i : Nat) : Bool := match T.trips[i]? with | some x => (nextD T.cals T.excs x.cal).isSome | none => false
theorem nextD_tup (o : Option Nat) : ∃ n, nextD_pv o = .tup [.int .i64 n, .bool o.isSome] := by
  cases o with
  | none => exact ⟨0, rfl⟩
  | some d => exact ⟨d, rfl⟩
theorem idle_prog (T : Timetable) (hT : T.Ok) : lint_idle_M [T.pv] = some (missPV 3 T.trips.length (passM (runsAt T) T.trips.length []) 4) := by
  have hm := maxLen_lt
  have hl := hT.trips.1
  simp only [lint_idle_M, lint_idle, ttA, tt0, tt1, tt2, tt3, tt4, tt5, tt6, tt7, tt8, tt9, tt10, tt11, tt12, asSl, asInt, if_true, bind_some', List.length_map]
  refine loop_until (fun k => (T.trips.map Trip.pv, (T.trips.length : Int), (k : Int), tl T (passM (runsAt T) k [], ()))) T.trips.length (fun k hk rec => ?_) (fun rec => ?_) ?_ rfl
  · have h1 : (k : Int) < (T.trips.length : Int) := by omega
    obtain ⟨n, hn⟩ := nextD_tup (nextD T.cals T.excs T.trips[k].cal)
    simp only [lint_idle_L1, decide_eq_true_eq, h1, if_true, idxP_nat, List.getElem?_map, List.getElem?_eq_getElem hk, Option.map_some, bind_some', trip2, asInt, tl, next_prog' T.cals hT.cals.1 T.excs hT.excs.1, hn, asTup, List.length_cons, List.length_nil, Nat.reduceAdd, List.getD_cons_zero, List.getD_cons_succ, asBool, wrap_nat (show k < 9223372036854775807 by omega), passM_succ]
    have : runsAt T k = (nextD T.cals T.excs T.trips[k].cal).isSome := by unfold runsAt; rw [List.getElem?_eq_getElem hk]
    rw [this]
  · simp only [lint_idle_L1, decide_eq_true_eq, Int.lt_irrefl, if_false, Bool.false_eq_true, tl, List.length_map, missPV]
  · have := rounds_gt; omega

/-! ### overtaking -/
def overPV (T : Timetable) (m : List (PV × PV)) : PV := .fn 73 [.rp [.rs 4 (T.stops.map Stop.pv), .rs 3 (T.routes.map Route.pv), .rs 10 (T.cals.map Cal.pv), .rs 3 (T.excs.map Exc.pv), .rs 5 (T.trips.map Trip.pv), .rs 4 (T.freqs.map Freq.pv), .rs 2 (T.thrs.map Thr.pv), .rs 3 (T.guars.map Guar.pv), .rs 4 (T.paths.map Path.pv), .rs 6 (T.prods.map Prdt.pv), .int .i64 T.disc, .int .i64 T.within, .int .i64 T.cap], .rp [.fn 72 [.rp [.rm 3 (m.map fun x => x.1) (m.map fun x => x.2)]]]]
theorem over_prog (T : Timetable) (hT : T.Ok) : lint_overtaking_M [T.pv] = some (overPV T (putsM (T.freqs.map Freq.trip) [])) := by
  have hm := maxLen_lt
  have hl := hT.freqs.1
  simp only [lint_overtaking_M, lint_overtaking, ttA, tt0, tt1, tt2, tt3, tt4, tt5, tt6, tt7, tt8, tt9, tt10, tt11, tt12, asSl, asInt, if_true, bind_some', List.length_map]
  refine loop_until (fun k => (T.freqs.map Freq.pv, (T.freqs.length : Int), (k : Int), tl T (putsM ((T.freqs.take k).map Freq.trip) [], ()))) T.freqs.length (fun k hk rec => ?_) (fun rec => ?_) ?_ rfl
  · have h1 : (k : Int) < (T.freqs.length : Int) := by omega
    simp only [lint_overtaking_L1, decide_eq_true_eq, h1, if_true, idxP_nat, List.getElem?_map, List.getElem?_eq_getElem hk, Option.map_some, bind_some', freq0, asInt, tl, wrap_nat (show k < 9223372036854775807 by omega)]
    rw [take_succ' _ _ hk, List.map_append, List.map_singleton, putsM_snoc]
  · simp only [lint_overtaking_L1, decide_eq_true_eq, Int.lt_irrefl, if_false, Bool.false_eq_true, tl, List.take_length, overPV]
  · have := rounds_gt; omega

/-! ### bits -/
def bitI (n : Int) (k : Int) : Bool := decide (n % 18446744073709551616 / 2 ^ k.toNat % 2 = 1)
def orI (x y : Int) : Int := IntKind.i64.wrap ((BitVec.ofInt IntKind.i64.bits x ||| BitVec.ofInt IntKind.i64.bits y).toNat : Int)
theorem wrap_mod (n : Int) : IntKind.i64.wrap n % 18446744073709551616 = n % 18446744073709551616 := by
  have h : IntKind.i64.wrap n = (n + 9223372036854775808) % 18446744073709551616 - 9223372036854775808 := by
    first
    | (unfold IntKind.wrap; simp [IntKind.signed, IntKind.bits]; omega)
    | (simp [IntKind.wrap, IntKind.signed, IntKind.bits, Int.bmod]; omega)
  rw [h]; omega
theorem bit_cases {k : Int} (h : 0 ≤ k ∧ k < 8) : k = 0 ∨ k = 1 ∨ k = 2 ∨ k = 3 ∨ k = 4 ∨ k = 5 ∨ k = 6 ∨ k = 7 := by omega
theorem ofInt_nat (x : Int) : ((BitVec.ofInt IntKind.i64.bits x).toNat : Int) = x % 18446744073709551616 := by
  rw [BitVec.toNat_ofInt]
  show (((x % ((2 ^ 64 : Nat) : Int)).toNat : Nat) : Int) = _
  have : ((2 ^ 64 : Nat) : Int) = 18446744073709551616 := by decide
  rw [this]; omega
theorem testBit_nat (n k : Nat) : n.testBit k = decide (((n : Int) / 2 ^ k) % 2 = 1) := by
  rw [Nat.testBit_eq_decide_div_mod_eq]
  have : ((2 : Int) ^ k) = ((2 ^ k : Nat) : Int) := by simp
  rw [this, Bool.eq_iff_iff]
  simp only [decide_eq_true_eq]
  omega
theorem bit_test (n : Int) (k : Int) : bitI n k = (BitVec.ofInt IntKind.i64.bits n).toNat.testBit k.toNat := by
  rw [testBit_nat, ofInt_nat]; rfl
theorem bit_or (x y k : Int) : bitI (orI x y) k = (bitI x k || bitI y k) := by
  unfold orI
  have h1 : bitI (IntKind.i64.wrap ((BitVec.ofInt IntKind.i64.bits x ||| BitVec.ofInt IntKind.i64.bits y).toNat : Int)) k = (BitVec.ofInt IntKind.i64.bits x ||| BitVec.ofInt IntKind.i64.bits y).toNat.testBit k.toNat := by
    unfold bitI
    rw [wrap_mod, testBit_nat]
    have := (BitVec.ofInt IntKind.i64.bits x ||| BitVec.ofInt IntKind.i64.bits y).isLt
    have h64 : (2 : Nat) ^ IntKind.i64.bits = 18446744073709551616 := by decide
    rw [h64] at this
    have e : ∀ z : Nat, z < 18446744073709551616 → (z : Int) % 18446744073709551616 = z := fun z hz => by omega
    rw [e _ this]
  rw [h1, BitVec.toNat_or, Nat.testBit_or, bit_test, bit_test]
theorem bit_prog (n k : Int) (hk : 0 ≤ k ∧ k < 8) : (IntKind.i64.wrap ((BitVec.ofInt IntKind.i64.bits (n.fdiv (2 ^ min k.toNat IntKind.i64.bits)) &&& BitVec.ofInt IntKind.i64.bits 1).toNat : Int) == 1) = bitI n k := by
  have h1 : ∀ x : Int, ((BitVec.ofInt IntKind.i64.bits x &&& BitVec.ofInt IntKind.i64.bits 1).toNat : Int) = x % 2 := fun x => by
    rw [BitVec.toNat_and]
    have e1 : (BitVec.ofInt IntKind.i64.bits 1).toNat = 1 := by decide
    rw [e1, Nat.and_one_is_mod]
    have := ofInt_nat x
    omega
  rw [h1]
  have h2 : ∀ x : Int, IntKind.i64.wrap (x % 2) = x % 2 := fun x => wrap_in (by omega) (by omega)
  rw [h2, beq_d]
  unfold bitI
  rcases bit_cases hk with rfl | rfl | rfl | rfl | rfl | rfl | rfl | rfl
  · rw [show ((2 : Int) ^ min (Int.toNat 0) IntKind.i64.bits) = 1 by decide, show ((2 : Int) ^ Int.toNat 0) = 1 by decide, Int.fdiv_eq_ediv_of_nonneg _ (by decide), Bool.eq_iff_iff]; simp only [decide_eq_true_eq]; omega
  · rw [show ((2 : Int) ^ min (Int.toNat 1) IntKind.i64.bits) = 2 by decide, show ((2 : Int) ^ Int.toNat 1) = 2 by decide, Int.fdiv_eq_ediv_of_nonneg _ (by decide), Bool.eq_iff_iff]; simp only [decide_eq_true_eq]; omega
  · rw [show ((2 : Int) ^ min (Int.toNat 2) IntKind.i64.bits) = 4 by decide, show ((2 : Int) ^ Int.toNat 2) = 4 by decide, Int.fdiv_eq_ediv_of_nonneg _ (by decide), Bool.eq_iff_iff]; simp only [decide_eq_true_eq]; omega
  · rw [show ((2 : Int) ^ min (Int.toNat 3) IntKind.i64.bits) = 8 by decide, show ((2 : Int) ^ Int.toNat 3) = 8 by decide, Int.fdiv_eq_ediv_of_nonneg _ (by decide), Bool.eq_iff_iff]; simp only [decide_eq_true_eq]; omega
  · rw [show ((2 : Int) ^ min (Int.toNat 4) IntKind.i64.bits) = 16 by decide, show ((2 : Int) ^ Int.toNat 4) = 16 by decide, Int.fdiv_eq_ediv_of_nonneg _ (by decide), Bool.eq_iff_iff]; simp only [decide_eq_true_eq]; omega
  · rw [show ((2 : Int) ^ min (Int.toNat 5) IntKind.i64.bits) = 32 by decide, show ((2 : Int) ^ Int.toNat 5) = 32 by decide, Int.fdiv_eq_ediv_of_nonneg _ (by decide), Bool.eq_iff_iff]; simp only [decide_eq_true_eq]; omega
  · rw [show ((2 : Int) ^ min (Int.toNat 6) IntKind.i64.bits) = 64 by decide, show ((2 : Int) ^ Int.toNat 6) = 64 by decide, Int.fdiv_eq_ediv_of_nonneg _ (by decide), Bool.eq_iff_iff]; simp only [decide_eq_true_eq]; omega
  · rw [show ((2 : Int) ^ min (Int.toNat 7) IntKind.i64.bits) = 128 by decide, show ((2 : Int) ^ Int.toNat 7) = 128 by decide, Int.fdiv_eq_ediv_of_nonneg _ (by decide), Bool.eq_iff_iff]; simp only [decide_eq_true_eq]; omega
theorem u64_wrap (n : Int) : IntKind.u64.wrap n = n % 18446744073709551616 := by
  first
  | rfl
  | (simp [IntKind.wrap, IntKind.signed, IntKind.bits])
theorem bit_ref (n k : Int) (hk : 0 ≤ k ∧ k < 8) : ref15_Bit_M [.int .i64 n, .int .i64 k] = some (.bool (bitI n k)) := by
  have e1 : IntKind.u64.wrap k = k := by rw [u64_wrap]; omega
  have hn : ¬ k < 0 := by omega
  simp only [ref15_Bit_M, ref15_Bit, asInt, if_true, bind_some', e1, hn, if_false, u64_wrap n, beq_d, Option.some.injEq, PV.bool.injEq]
  unfold bitI
  have h64 : min k.toNat IntKind.u64.bits = k.toNat := by
    have : IntKind.u64.bits = 64 := rfl
    rw [this]; omega
  rw [h64, Int.fdiv_eq_ediv_of_nonneg _ (by exact Int.le_of_lt (Int.pow_pos (by decide)))]
  rw [Int.tmod_eq_emod_of_nonneg (Int.ediv_nonneg (by omega) (Int.le_of_lt (Int.pow_pos (by decide))))]

/-! ### unpaid -/
def modesT (l : List Prdt) : Int := l.foldl (fun n p => orI n p.modes) 0
theorem modes_bit (l : List Prdt) (k : Int) : bitI (modesT l) k = l.any fun p => bitI p.modes k := by
  have key : ∀ (l : List Prdt) (n : Int), bitI (l.foldl (fun n p => orI n p.modes) n) k = (bitI n k || l.any fun p => bitI p.modes k) := by
    intro l
    induction l with
    | nil => intro n; simp
    | cons p l ih => intro n; rw [List.foldl_cons, ih, bit_or, List.any_cons, Bool.or_assoc]
  rw [modesT, key]
  have : bitI 0 k = false := by unfold bitI; simp
  rw [this, Bool.false_or]
def paidB (T : Timetable) (mode : Int) : Bool := T.prods.any fun p => bitI p.modes mode
def fineAt (T : Timetable) (i : Nat) : Bool := match T.routes[i]? with | some r => paidB T r.mode | none => false
def usedR (T : Timetable) (a : Int) : Bool := decide (a ∈ T.trips.map Trip.route)
def fine2 (T : Timetable) (i : Nat) : Bool := fineAt T i || !usedR T i
theorem unpaid1 (T : Timetable) (hT : T.Ok) : lpS.run lint_unpaid_L1 ((T.routes.length : Int), 0, tl T (passM (fineAt T) T.routes.length [], putsM (T.trips.map Trip.route) [], ())) = some (missPV 3 T.routes.length (passM (fine2 T) T.routes.length (passM (fineAt T) T.routes.length [])) 7) := by
  have hm := maxLen_lt
  have hl := hT.routes.1
  refine loop_until (fun k => ((T.routes.length : Int), (k : Int), tl T (passM (fine2 T) k (passM (fineAt T) T.routes.length []), putsM (T.trips.map Trip.route) [], ()))) T.routes.length (fun k hk rec => ?_) (fun rec => ?_) ?_ rfl
  · have h1 : (k : Int) < (T.routes.length : Int) := by omega
    have h2 := ((MB.nil.pass (fineAt T) T.routes.length).pass (fine2 T) k) k
    have h3 := MB.ofPuts (T.trips.map Trip.route) k
    simp only at h2
    rw [if_neg (by omega), if_pos (by omega)] at h2
    simp only [lint_unpaid_L1, decide_eq_true_eq, h1, if_true, bind_some', tl, h2, h3, asBool, Int.toNat_natCast, bif_or', wrap_nat (show k < 9223372036854775807 by omega), passM_succ]
    unfold fine2 usedR
    cases fineAt T k <;> simp
  · simp only [lint_unpaid_L1, decide_eq_true_eq, Int.lt_irrefl, if_false, Bool.false_eq_true, tl, List.length_map, missPV]
  · have := rounds_gt; omega
theorem unpaid2 (T : Timetable) (hT : T.Ok) : lpS.run (lint_unpaid_L2 lpS) (T.trips.map Trip.pv, (T.trips.length : Int), 0, tl T (passM (fineAt T) T.routes.length [], [], ())) = some (missPV 3 T.routes.length (passM (fine2 T) T.routes.length (passM (fineAt T) T.routes.length [])) 7) := by
  have hm := maxLen_lt
  have hl := hT.trips.1
  refine loop_until (fun k => (T.trips.map Trip.pv, (T.trips.length : Int), (k : Int), tl T (passM (fineAt T) T.routes.length [], putsM ((T.trips.take k).map Trip.route) [], ()))) T.trips.length (fun k hk rec => ?_) (fun rec => ?_) ?_ rfl
  · have h1 : (k : Int) < (T.trips.length : Int) := by omega
    simp only [lint_unpaid_L2, decide_eq_true_eq, h1, if_true, idxP_nat, List.getElem?_map, List.getElem?_eq_getElem hk, Option.map_some, bind_some', trip1, asInt, tl, wrap_nat (show k < 9223372036854775807 by omega)]
    rw [take_succ' _ _ hk, List.map_append, List.map_singleton, putsM_snoc]
  · have h := unpaid1 T hT
    simp only [tl] at h
    simp only [lint_unpaid_L2, decide_eq_true_eq, Int.lt_irrefl, if_false, Bool.false_eq_true, tl, List.take_length, List.length_map, h]
  · have := rounds_gt; omega
theorem unpaid3 (T : Timetable) (hT : T.Ok) (hr : ∀ r ∈ T.routes, 0 ≤ r.mode ∧ r.mode < 8) : lpS.run (lint_unpaid_L3 lpS) (modesT T.prods, T.routes.map Route.pv, (T.routes.length : Int), 0, tl T ([], ())) = some (missPV 3 T.routes.length (passM (fine2 T) T.routes.length (passM (fineAt T) T.routes.length [])) 7) := by
  have hm := maxLen_lt
  have hl := hT.routes.1
  refine loop_until (fun k => (modesT T.prods, T.routes.map Route.pv, (T.routes.length : Int), (k : Int), tl T (passM (fineAt T) k [], ()))) T.routes.length (fun k hk rec => ?_) (fun rec => ?_) ?_ rfl
  · have h1 : (k : Int) < (T.routes.length : Int) := by omega
    have h2 := hr _ (List.getElem_mem hk)
    have h3 : ¬ T.routes[k].mode < 0 := by omega
    have h4 : fineAt T k = bitI (modesT T.prods) T.routes[k].mode := by unfold fineAt paidB; rw [List.getElem?_eq_getElem hk, modes_bit]
    simp only [lint_unpaid_L3, decide_eq_true_eq, h1, if_true, idxP_nat, List.getElem?_map, List.getElem?_eq_getElem hk, Option.map_some, bind_some', route1, asInt, tl, h3, if_false, bit_prog _ _ h2, wrap_nat (show k < 9223372036854775807 by omega), passM_succ, h4]
  · have h := unpaid2 T hT
    simp only [tl] at h
    simp only [lint_unpaid_L3, decide_eq_true_eq, Int.lt_irrefl, if_false, Bool.false_eq_true, tl, List.take_length, List.length_map, h]
  · have := rounds_gt; omega
theorem unpaid_prog (T : Timetable) (hT : T.Ok) (hr : ∀ r ∈ T.routes, 0 ≤ r.mode ∧ r.mode < 8) : lint_unpaid_M [T.pv] = some (missPV 3 T.routes.length (passM (fine2 T) T.routes.length (passM (fineAt T) T.routes.length [])) 7) := by
  have hm := maxLen_lt
  have hl := hT.prods.1
  simp only [lint_unpaid_M, lint_unpaid, ttA, tt0, tt1, tt2, tt3, tt4, tt5, tt6, tt7, tt8, tt9, tt10, tt11, tt12, asSl, asInt, if_true, bind_some', List.length_map]
  refine loop_until (fun k => (modesT (T.prods.take k), T.prods.map Prdt.pv, (T.prods.length : Int), (k : Int), tl T ())) T.prods.length (fun k hk rec => ?_) (fun rec => ?_) ?_ rfl
  · have h1 : (k : Int) < (T.prods.length : Int) := by omega
    have h2 : modesT (T.prods.take (k + 1)) = orI (modesT (T.prods.take k)) T.prods[k].modes := by rw [take_succ' _ _ hk]; simp only [modesT, List.foldl_append, List.foldl_cons, List.foldl_nil]
    simp only [lint_unpaid_L4, decide_eq_true_eq, h1, if_true, idxP_nat, List.getElem?_map, List.getElem?_eq_getElem hk, Option.map_some, bind_some', prdt5, asInt, tl, h2, orI, wrap_nat (show k < 9223372036854775807 by omega)]
  · have h := unpaid3 T hT hr
    simp only [tl] at h
    simp only [lint_unpaid_L4, decide_eq_true_eq, Int.lt_irrefl, if_false, Bool.false_eq_true, tl, List.take_length, List.length_map, h]
  · have := rounds_gt; omega
end Go.Ab.Tt

namespace Go.Ab.Tt
set_option maxRecDepth 100000
set_option linter.unusedVariables false

def kEq (x y : Kall) : Bool := decide (x.stop = y.stop) && (x.board == y.board) && (x.alight == y.alight)
def patAt (a b : List Kall) (k : Nat) : Bool := match a[k]?, b[k]? with | some x, some y => kEq x y | _, _ => true
def patB (a b : List Kall) : Bool := decide (a.length = b.length) && !(List.range a.length).any fun k => !patAt a b k
def evI (l : List Kall) (k : Nat) : Int := match l[k / 2]? with | some c => if k % 2 = 0 then c.arr else c.dep | none => 0
def gtE (a b : List Kall) (k : Nat) : Bool := decide (evI a k > evI b k)
def ltE (a b : List Kall) (k : Nat) : Bool := decide (evI a k < evI b k)
def latE (a b : List Kall) (j : Nat) : Bool := (List.range j).any (gtE a b)
def hitE (a b : List Kall) (j : Nat) : Bool := latE a b j && ltE a b j
def overB (a b : List Kall) : Bool := patB a b && (List.range (2 * a.length)).any (hitE a b)

theorem pattern_prog (a b : Trip) (ha : a.Ok) (hb : b.Ok) : trip_SamePattern_M [a.pv, b.pv] = some (.bool (patB a.calls b.calls)) := by
  have hm := maxLen_lt
  have hl := ha.calls.1
  simp only [trip_SamePattern_M, trip_SamePattern, tripA, trip0, trip1, trip2, trip3, trip4, asSl, asInt, asBool, asStr, if_true, bind_some', List.length_map]
  unfold patB
  by_cases he : a.calls.length = b.calls.length
  · have hb1 : ((a.calls.length : Int) != (b.calls.length : Int)) = false := by rw [he]; simp
    rw [hb1, decide_eq_true he]
    simp only [Bool.false_eq_true, if_false, Bool.true_and]
    refine (dup_scan (fun k => ((a.calls.length : Int), (k : Int), a.id, a.route, a.cal, a.free, a.calls.map Kall.pv, b.id, b.route, b.cal, b.free, b.calls.map Kall.pv, ())) a.calls.length (fun k => !patAt a.calls b.calls k) (no := some (.bool false)) (fin := some (.bool true)) (fun k hk rec => ?_) (fun rec => ?_) ?_ rfl).trans ?_
    · have h1 : (k : Int) < (a.calls.length : Int) := by omega
      have hk2 : k < b.calls.length := by omega
      have hp : patAt a.calls b.calls k = kEq a.calls[k] b.calls[k] := by unfold patAt; rw [List.getElem?_eq_getElem hk, List.getElem?_eq_getElem hk2]
      rw [hp]
      simp only [trip_SamePattern_L1, decide_eq_true_eq, h1, if_true, idxP_nat, List.getElem?_map, List.getElem?_eq_getElem hk, List.getElem?_eq_getElem hk2, Option.map_some, bind_some', kall0, kall3, kall4, asInt, asBool, bif_or', wrap_nat (show k < 9223372036854775807 by omega), bne_d]
      unfold kEq
      generalize a.calls[k] = x
      generalize b.calls[k] = y
      by_cases e1 : x.stop = y.stop <;> cases x.board <;> cases y.board <;> cases x.alight <;> cases y.alight <;> simp [e1]
    · simp only [trip_SamePattern_L1, decide_eq_true_eq, Int.lt_irrefl, if_false]
    · have := rounds_gt; omega
    · cases (List.range a.calls.length).any fun k => !patAt a.calls b.calls k <;> rfl
  · have hb1 : ((a.calls.length : Int) != (b.calls.length : Int)) = true := by simp; omega
    rw [hb1, decide_eq_false he]; rfl
theorem pattern_ref (a b : Trip) (ha : a.Ok) (hb : b.Ok) : ref17_SamePattern_M [a.pv, b.pv] = some (.bool (patB a.calls b.calls)) := by
  have hm := maxLen_lt
  have hl := ha.calls.1
  simp only [ref17_SamePattern_M, ref17_SamePattern, tripA, trip0, trip1, trip2, trip3, trip4, asSl, asInt, asBool, asStr, if_true, bind_some', List.length_map]
  unfold patB
  by_cases he : a.calls.length = b.calls.length
  · have hb1 : ((a.calls.length : Int) != (b.calls.length : Int)) = false := by rw [he]; simp
    rw [hb1, decide_eq_true he]
    simp only [Bool.false_eq_true, if_false, Bool.true_and]
    refine (dup_scan (fun k => ((k : Int), a.id, a.route, a.cal, a.free, a.calls.map Kall.pv, b.id, b.route, b.cal, b.free, b.calls.map Kall.pv, ())) a.calls.length (fun k => !patAt a.calls b.calls k) (no := some (.bool false)) (fin := some (.bool true)) (fun k hk rec => ?_) (fun rec => ?_) ?_ rfl).trans ?_
    · have h1 : (k : Int) < (a.calls.length : Int) := by omega
      have hk2 : k < b.calls.length := by omega
      have hp : patAt a.calls b.calls k = kEq a.calls[k] b.calls[k] := by unfold patAt; rw [List.getElem?_eq_getElem hk, List.getElem?_eq_getElem hk2]
      rw [hp]
      simp only [ref17_SamePattern_L1, decide_eq_true_eq, List.length_map, h1, if_true, idxP_nat, List.getElem?_map, List.getElem?_eq_getElem hk, List.getElem?_eq_getElem hk2, Option.map_some, bind_some', kall0, kall3, kall4, asInt, asBool, bif_or', wrap_nat (show k < 9223372036854775807 by omega), bne_d]
      unfold kEq
      generalize a.calls[k] = x
      generalize b.calls[k] = y
      by_cases e1 : x.stop = y.stop <;> cases x.board <;> cases y.board <;> cases x.alight <;> cases y.alight <;> simp [e1]
    · simp only [ref17_SamePattern_L1, decide_eq_true_eq, List.length_map, Int.lt_irrefl, if_false]
    · have := rounds_gt; omega
    · cases (List.range a.calls.length).any fun k => !patAt a.calls b.calls k <;> rfl
  · have hb1 : ((a.calls.length : Int) != (b.calls.length : Int)) = true := by simp; omega
    rw [hb1, decide_eq_false he]; rfl

theorem any_pairs (f : Nat → Bool) : ∀ n, (List.range n).any (fun k => f (2 * k) || f (2 * k + 1)) = (List.range (2 * n)).any f
  | 0 => rfl
  | n + 1 => by
    have := any_pairs f n
    rw [show 2 * (n + 1) = 2 * n + 1 + 1 by omega, List.range_succ, List.range_succ, List.range_succ]
    simp only [List.any_append, List.any_cons, List.any_nil, Bool.or_false, this, Bool.or_assoc]
theorem latE_succ (a b : List Kall) (j : Nat) : latE a b (j + 1) = (latE a b j || gtE a b j) := by
  simp [latE, List.range_succ]
theorem evI0 (l : List Kall) (k : Nat) (h : k < l.length) : evI l (2 * k) = l[k].arr := by
  unfold evI
  rw [show 2 * k / 2 = k by omega, List.getElem?_eq_getElem h]
  simp
theorem evI1 (l : List Kall) (k : Nat) (h : k < l.length) : evI l (2 * k + 1) = l[k].dep := by
  unfold evI
  rw [show (2 * k + 1) / 2 = k by omega, List.getElem?_eq_getElem h]
  have : ¬ (2 * k + 1) % 2 = 0 := by omega
  simp [this]
theorem over_ok_prog (a b : Trip) (ha : a.Ok) (hb : b.Ok) : trip_Overtakes_M [a.pv, b.pv] = some (.bool (overB a.calls b.calls)) := by
  have hm := maxLen_lt
  have hl := ha.calls.1
  have hp := pattern_prog a b ha hb
  simp only [trip_Overtakes_M, trip_Overtakes, tripA, trip0, trip1, trip2, trip3, trip4, asSl, asInt, asBool, asStr, if_true, bind_some', List.length_map, tripE, hp]
  unfold overB
  cases hpat : patB a.calls b.calls with
  | false => simp only [Bool.not_false, if_true, Bool.false_and]
  | true =>
    have he : a.calls.length = b.calls.length := by
      unfold patB at hpat; rw [Bool.and_eq_true] at hpat; exact of_decide_eq_true hpat.1
    simp only [Bool.not_true, Bool.false_eq_true, if_false, Bool.true_and]
    refine (dup_scan (fun k => (latE a.calls b.calls (2 * k), (a.calls.length : Int), (k : Int), a.id, a.route, a.cal, a.free, a.calls.map Kall.pv, b.id, b.route, b.cal, b.free, b.calls.map Kall.pv, ())) a.calls.length (fun k => hitE a.calls b.calls (2 * k) || hitE a.calls b.calls (2 * k + 1)) (no := some (.bool true)) (fin := some (.bool false)) (fun k hk rec => ?_) (fun rec => ?_) ?_ rfl).trans ?_
    · have h1 : (k : Int) < (a.calls.length : Int) := by omega
      have hk2 : k < b.calls.length := by omega
      simp only [trip_Overtakes_L1, decide_eq_true_eq, h1, if_true, idxP_nat, List.getElem?_map, List.getElem?_eq_getElem hk, List.getElem?_eq_getElem hk2, Option.map_some, bind_some', kall1, kall2, asInt, bif_or', bif_and, wrap_nat (show k < 9223372036854775807 by omega)]
      have e1 : hitE a.calls b.calls (2 * k) = (latE a.calls b.calls (2 * k) && decide (a.calls[k].arr < b.calls[k].arr)) := by
        unfold hitE ltE; rw [evI0 _ _ hk, evI0 _ _ hk2]
      have e2 : latE a.calls b.calls (2 * k + 1) = (latE a.calls b.calls (2 * k) || decide (a.calls[k].arr > b.calls[k].arr)) := by
        rw [latE_succ]; unfold gtE; rw [evI0 _ _ hk, evI0 _ _ hk2]
      have e3 : hitE a.calls b.calls (2 * k + 1) = (latE a.calls b.calls (2 * k + 1) && decide (a.calls[k].dep < b.calls[k].dep)) := by
        unfold hitE ltE; rw [evI1 _ _ hk, evI1 _ _ hk2]
      have e4 : latE a.calls b.calls (2 * (k + 1)) = (latE a.calls b.calls (2 * k + 1) || decide (a.calls[k].dep > b.calls[k].dep)) := by
        rw [show 2 * (k + 1) = 2 * k + 1 + 1 by omega, latE_succ]; unfold gtE; rw [evI1 _ _ hk, evI1 _ _ hk2]
      rw [e4, e3, e1, e2]
      generalize latE a.calls b.calls (2 * k) = z
      generalize decide (a.calls[k].arr < b.calls[k].arr) = z1
      generalize decide (a.calls[k].arr > b.calls[k].arr) = z2
      generalize decide (a.calls[k].dep < b.calls[k].dep) = z3
      cases z <;> cases z1 <;> cases z2 <;> cases z3 <;> rfl
    · simp only [trip_Overtakes_L1, decide_eq_true_eq, Int.lt_irrefl, if_false]
    · have := rounds_gt; omega
    · rw [any_pairs]
      cases (List.range (2 * a.calls.length)).any (hitE a.calls b.calls) <;> rfl

theorem event_ok (x : Trip) (h40 : x.calls.length ≤ 40) (k : Nat) (hk : k < 2 * x.calls.length) : ref17_event_M [x.pv, .int .i64 k] = some (.int .i64 (evI x.calls k)) := by
  have h2 : k / 2 < x.calls.length := by omega
  have e1 : ((k : Int).tmod 2 == 0) = decide (k % 2 = 0) := by
    rw [Int.tmod_eq_emod_of_nonneg (by omega), beq_d, Bool.eq_iff_iff]; simp only [decide_eq_true_eq]; omega
  have e2 : IntKind.i64.wrap ((k : Int).tdiv 2) = ((k / 2 : Nat) : Int) := by
    rw [Int.tdiv_eq_ediv_of_nonneg (by omega), wrap_in (by omega) (by omega)]; omega
  simp only [ref17_event_M, ref17_event, tripA, trip0, trip1, trip2, trip3, trip4, asSl, asInt, asBool, asStr, if_true, bind_some', e1, e2, idxP_nat, List.getElem?_map, List.getElem?_eq_getElem h2, Option.map_some, kall1, kall2, decide_eq_true_eq]
  unfold evI
  rw [List.getElem?_eq_getElem h2]
  by_cases h : k % 2 = 0 <;> simp [h]
def hitR (a b : List Kall) (i : Nat) : Bool := (List.range (2 * a.length - (i + 1))).any fun m => gtE a b i && ltE a b (i + 1 + m)
theorem over_in (a b : Trip) (ha : a.calls.length ≤ 40) (he : a.calls.length = b.calls.length) (i : Nat) (hi : i < 2 * a.calls.length) (rec15) : lpS.run (ref17_Overtakes_L1 rec15) ((i : Int), ((i + 1 : Nat) : Int), a.id, a.route, a.cal, a.free, a.calls.map Kall.pv, b.id, b.route, b.cal, b.free, b.calls.map Kall.pv, ()) = if hitR a.calls b.calls i = true then some (.bool true) else rec15 (((i + 1 : Nat) : Int), a.id, a.route, a.cal, a.free, a.calls.map Kall.pv, b.id, b.route, b.cal, b.free, b.calls.map Kall.pv, ()) := by
  have hw : IntKind.i64.wrap (2 * (a.calls.length : Int)) = ((2 * a.calls.length : Nat) : Int) := by rw [wrap_in (by omega) (by omega)]; omega
  refine dup_scan (fun m => ((i : Int), ((i + 1 + m : Nat) : Int), a.id, a.route, a.cal, a.free, a.calls.map Kall.pv, b.id, b.route, b.cal, b.free, b.calls.map Kall.pv, ())) (2 * a.calls.length - (i + 1)) (fun m => gtE a.calls b.calls i && ltE a.calls b.calls (i + 1 + m)) (fun k hk rec => ?_) (fun rec => ?_) ?_ rfl
  · have h1 : ((i + 1 + k : Nat) : Int) < ((2 * a.calls.length : Nat) : Int) := by omega
    have a1 := event_ok a ha i hi
    have b1 := event_ok b (by omega) i (by omega)
    have a2 := event_ok a ha (i + 1 + k) (by omega)
    have b2 := event_ok b (by omega) (i + 1 + k) (by omega)
    simp only [ref17_Overtakes_L1, List.length_map, hw, decide_eq_true_eq, h1, if_true, tripE, a1, b1, a2, b2, bind_some', asInt, bif_and, wrap_nat (show i + 1 + k < 9223372036854775807 by omega)]
    have hb : (bif decide (evI a.calls i > evI b.calls i) then some (decide (evI a.calls (i + 1 + k) < evI b.calls (i + 1 + k))) else some false) = some (gtE a.calls b.calls i && ltE a.calls b.calls (i + 1 + k)) := by
      unfold gtE ltE; rw [bif_and]
    first
    | rfl
    | (cases (gtE a.calls b.calls i && ltE a.calls b.calls (i + 1 + k)) <;> rfl)
  · have h1 : ¬ ((i + 1 + (2 * a.calls.length - (i + 1)) : Nat) : Int) < ((2 * a.calls.length : Nat) : Int) := by omega
    simp only [ref17_Overtakes_L1, List.length_map, hw, decide_eq_true_eq, h1, if_false, wrap_nat (show i < 9223372036854775807 by omega)]
  · have := rounds_gt; have : 1000 ≤ maxLen := by decide
    omega
theorem over_ok_ref (a b : Trip) (ha : a.Ok) (hb : b.Ok) (h40 : a.calls.length ≤ 40) : ref17_Overtakes_M [a.pv, b.pv] = some (.bool (overB a.calls b.calls)) := by
  have hm := maxLen_lt
  have hp := pattern_ref a b ha hb
  have hw : IntKind.i64.wrap (2 * (a.calls.length : Int)) = ((2 * a.calls.length : Nat) : Int) := by rw [wrap_in (by omega) (by omega)]; omega
  simp only [ref17_Overtakes_M, ref17_Overtakes, tripA, trip0, trip1, trip2, trip3, trip4, asSl, asInt, asBool, asStr, if_true, bind_some', List.length_map, tripE, hp]
  unfold overB
  cases hpat : patB a.calls b.calls with
  | false => simp only [Bool.not_false, if_true, Bool.false_and]
  | true =>
    have he : a.calls.length = b.calls.length := by
      unfold patB at hpat; rw [Bool.and_eq_true] at hpat; exact of_decide_eq_true hpat.1
    simp only [Bool.not_true, Bool.false_eq_true, if_false, Bool.true_and]
    refine (dup_scan (fun k => ((k : Int), a.id, a.route, a.cal, a.free, a.calls.map Kall.pv, b.id, b.route, b.cal, b.free, b.calls.map Kall.pv, ())) (2 * a.calls.length) (hitR a.calls b.calls) (no := some (.bool true)) (fin := some (.bool false)) (fun k hk rec => ?_) (fun rec => ?_) ?_ rfl).trans ?_
    · have h1 : (k : Int) < ((2 * a.calls.length : Nat) : Int) := by omega
      have hin := over_in a b h40 he k hk rec
      simp only [ref17_Overtakes_L2, List.length_map, hw, decide_eq_true_eq, h1, if_true, wrap_nat (show k < 9223372036854775807 by omega), hin]
    · simp only [ref17_Overtakes_L2, List.length_map, hw, decide_eq_true_eq, Int.lt_irrefl, if_false]
    · have := rounds_gt; have : 1000 ≤ maxLen := by decide
      omega
    · have : (List.range (2 * a.calls.length)).any (hitR a.calls b.calls) = (List.range (2 * a.calls.length)).any (hitE a.calls b.calls) := by
        rw [Bool.eq_iff_iff]
        simp only [List.any_eq_true, List.mem_range, hitR, hitE, latE, Bool.and_eq_true]
        constructor
        · rintro ⟨i, hi, m, hm, hg, hl⟩
          exact ⟨i + 1 + m, by omega, ⟨i, by omega, hg⟩, hl⟩
        · rintro ⟨j, hj, ⟨i, hi, hg⟩, hl⟩
          exact ⟨i, by omega, j - (i + 1), by omega, hg, by rw [show i + 1 + (j - (i + 1)) = j by omega]; exact hl⟩
      rw [this]
      cases (List.range (2 * a.calls.length)).any (hitE a.calls b.calls) <;> rfl
end Go.Ab.Tt
