/- The law on the texts of warnings: the program's text is the document's. Printed by a program of the author, out of texts of his. -/
import Derived.Test.YtnbhhepiekhbjaaTab
import Derived.Test.YtnbhhepiekhbjaaTtData
import Derived.Test.YtnbhhepiekhbjaaAbLib
namespace Go.Ab.Tt
set_option maxRecDepth 1000000
set_option linter.unusedVariables false
set_option linter.unusedSimpArgs false
theorem exampleHolds24 : law24_exampleHolds_M [] = some (.bool true) := by kernel_rfl
theorem bif_and (a b : Bool) : (bif a then some b else some false) = some (a && b) := by cases a <;> rfl
theorem bif_or' (a b : Bool) : (bif a then some true else some b) = some (a || b) := by cases a <;> rfl
theorem beq_d {A : Type} [DecidableEq A] [BEq A] [LawfulBEq A] (a b : A) : (a == b) = decide (a = b) := by rw [Bool.eq_iff_iff]; simp
theorem bne_d {A : Type} [DecidableEq A] [BEq A] [LawfulBEq A] (a b : A) : (a != b) = !decide (a = b) := by rw [Bool.eq_iff_iff]; simp
def orFin {R : Type} (o : Option (Option R)) (fin : Option R) : Option R := match o with | some r => r | none => fin
theorem loop_scan' {S R : Type} {body : S → (S → Option R) → Option R} (st : Nat → S) (n : Nat) (bad : Nat → Option (Option R)) {fin : Option R}
    (h : ∀ k, k < n → ∀ rec, body (st k) rec = orFin (bad k) (rec (st (k + 1)))) (hend : ∀ rec, body (st n) rec = fin) (hn : n < rounds) {s0 : S} (h0 : st 0 = s0) :
    lpS.run body s0 = orFin ((List.range n).findSome? bad) fin := loop_scan st n bad h hend hn h0
theorem dup_scan {S R : Type} {body : S → (S → Option R) → Option R} (st : Nat → S) (i : Nat) (hit : Nat → Bool) {no fin : Option R}
    (h : ∀ k, k < i → ∀ rec, body (st k) rec = if hit k = true then no else rec (st (k + 1))) (hend : ∀ rec, body (st i) rec = fin) (hi : i < rounds) {s0 : S} (h0 : st 0 = s0) :
    lpS.run body s0 = if (List.range i).any hit = true then no else fin := by
  refine (loop_scan' st i (fun k => if hit k = true then some no else none) (fun k hk rec => ?_) hend hi h0).trans ?_
  · rw [h k hk]
    by_cases hh : hit k = true <;> simp [hh, orFin]
  · have : ∀ l : List Nat, orFin (l.findSome? fun k => if hit k = true then some no else none) fin = if l.any hit = true then no else fin := by
      intro l
      induction l with
      | nil => rfl
      | cons k l ih =>
        simp only [List.findSome?_cons, List.any_cons]
        by_cases hh : hit k = true
        · simp [hh, orFin]
        · simp only [hh, Bool.false_or, if_false]; exact ih
    exact this _
theorem trip0 (x : Trip) : cell x.pv 0 = .str x.id := rfl
theorem trip1 (x : Trip) : cell x.pv 1 = .int .i64 x.route := rfl
theorem trip2 (x : Trip) : cell x.pv 2 = .int .i64 x.cal := rfl
theorem trip3 (x : Trip) : cell x.pv 3 = .bool x.free := rfl
theorem trip4 (x : Trip) : cell x.pv 4 = .rs 5 (x.calls.map Kall.pv) := rfl
theorem cal0 (x : Cal) : cell x.pv 0 = .str x.id := rfl
theorem freq0 (x : Freq) : cell x.pv 0 = .int .i64 x.trip := rfl
theorem freq1 (x : Freq) : cell x.pv 1 = .int .i64 x.t0 := rfl
theorem freq2 (x : Freq) : cell x.pv 2 = .int .i64 x.t1 := rfl
theorem freq3 (x : Freq) : cell x.pv 3 = .int .i64 x.every := rfl
theorem freqA (x : Freq) : asAgg 4 x.pv = some () := rfl
theorem freqE (x : Freq) : PV.agg [.int .i64 x.trip, .int .i64 x.t0, .int .i64 x.t1, .int .i64 x.every] = x.pv := rfl
def soundB (x : Freq) : Bool := decide (x.t0 ≥ 0) && decide (x.t0 < x.t1) && decide (x.t1 ≤ 172800) && decide (x.every ≥ 1) && decide (x.every ≤ 86400)
theorem sound_iff (x : Freq) : soundB x = true ↔ 0 ≤ x.t0 ∧ x.t0 < x.t1 ∧ x.t1 ≤ 172800 ∧ 1 ≤ x.every ∧ x.every ≤ 86400 := by
  simp [soundB, and_assoc]
theorem fsound_ref (x : Freq) : ref18_Sound_M [x.pv] = some (.bool (soundB x)) := by
  simp only [ref18_Sound_M, ref18_Sound, freqA, freq0, freq1, freq2, freq3, asInt, if_true, bind_some', bif_and]
  have : ∀ a b : Bool, a = b → some (PV.bool a) = some (PV.bool b) := fun a b h => by rw [h]
  apply this
  rw [Bool.eq_iff_iff, sound_iff]
  simp only [Bool.and_eq_true, decide_eq_true_eq]
  omega
def cntF (x : Freq) : Int := (x.t1 - x.t0 - 1) / x.every + 1
theorem cnt_le (x : Freq) (h : soundB x = true) : 1 ≤ cntF x ∧ cntF x ≤ 172800 := by
  obtain ⟨h1, h2, h3, h4, h5⟩ := (sound_iff x).1 h
  unfold cntF
  have a := Int.ediv_nonneg (show 0 ≤ x.t1 - x.t0 - 1 by omega) (show 0 ≤ x.every by omega)
  have b := Int.ediv_le_self (b := x.every) (show 0 ≤ x.t1 - x.t0 - 1 by omega)
  omega
theorem cnt_ref (x : Freq) (h : soundB x = true) : ref18_count_M [x.pv] = some (.int .i64 (cntF x)) := by
  have hc := cnt_le x h
  obtain ⟨h1, h2, h3, h4, h5⟩ := (sound_iff x).1 h
  have w1 : IntKind.i64.wrap (x.t1 - x.t0) = x.t1 - x.t0 := wrap_in (by omega) (by omega)
  have w2 : IntKind.i64.wrap (x.t1 - x.t0 - 1) = x.t1 - x.t0 - 1 := wrap_in (by omega) (by omega)
  have e : (x.t1 - x.t0 - 1).tdiv x.every = cntF x - 1 := by
    rw [Int.tdiv_eq_ediv_of_nonneg (by omega)]
    unfold cntF; omega
  simp only [ref18_count_M, ref18_count, freqA, freq0, freq1, freq2, freq3, asInt, if_true, bind_some', w1, w2, e, if_neg (show ¬ x.every = 0 by omega)]
  rw [wrap_in (x := cntF x - 1) (by omega) (by omega), wrap_in (by omega) (by omega)]
  congr 2; omega
theorem ttA (T : Timetable) : asAgg 13 T.pv = some () := rfl
theorem tt0 (T : Timetable) : cell T.pv 0 = .rs 4 (T.stops.map Stop.pv) := rfl
theorem tt1 (T : Timetable) : cell T.pv 1 = .rs 3 (T.routes.map Route.pv) := rfl
theorem tt2 (T : Timetable) : cell T.pv 2 = .rs 10 (T.cals.map Cal.pv) := rfl
theorem tt3 (T : Timetable) : cell T.pv 3 = .rs 3 (T.excs.map Exc.pv) := rfl
theorem tt4 (T : Timetable) : cell T.pv 4 = .rs 5 (T.trips.map Trip.pv) := rfl
theorem tt5 (T : Timetable) : cell T.pv 5 = .rs 4 (T.freqs.map Freq.pv) := rfl
theorem tt6 (T : Timetable) : cell T.pv 6 = .rs 2 (T.thrs.map Thr.pv) := rfl
theorem tt7 (T : Timetable) : cell T.pv 7 = .rs 3 (T.guars.map Guar.pv) := rfl
theorem tt8 (T : Timetable) : cell T.pv 8 = .rs 4 (T.paths.map Path.pv) := rfl
theorem tt9 (T : Timetable) : cell T.pv 9 = .rs 6 (T.prods.map Prdt.pv) := rfl
theorem tt10 (T : Timetable) : cell T.pv 10 = .int .i64 T.disc := rfl
theorem tt11 (T : Timetable) : cell T.pv 11 = .int .i64 T.within := rfl
theorem tt12 (T : Timetable) : cell T.pv 12 = .int .i64 T.cap := rfl
theorem ttE (T : Timetable) : PV.agg [.rs 4 (T.stops.map Stop.pv), .rs 3 (T.routes.map Route.pv), .rs 10 (T.cals.map Cal.pv), .rs 3 (T.excs.map Exc.pv), .rs 5 (T.trips.map Trip.pv), .rs 4 (T.freqs.map Freq.pv), .rs 2 (T.thrs.map Thr.pv), .rs 3 (T.guars.map Guar.pv), .rs 4 (T.paths.map Path.pv), .rs 6 (T.prods.map Prdt.pv), .int .i64 T.disc, .int .i64 T.within, .int .i64 T.cap] = T.pv := rfl
def tl {X : Type} (T : Timetable) (x : X) := (T.stops.map Stop.pv, T.routes.map Route.pv, T.cals.map Cal.pv, T.excs.map Exc.pv, T.trips.map Trip.pv, T.freqs.map Freq.pv, T.thrs.map Thr.pv, T.guars.map Guar.pv, T.paths.map Path.pv, T.prods.map Prdt.pv, T.disc, T.within, T.cap, x)
theorem take_succ' {A : Type} (l : List A) (k : Nat) (h : k < l.length) : l.take (k + 1) = l.take k ++ [l[k]] := by rw [List.take_succ_eq_append_getElem h]
theorem if_bool (c : Bool) : (if c = true then some (PV.bool true) else some (PV.bool false)) = some (PV.bool c) := by cases c <;> rfl
structure Warn where
  kind : Int
  a : Int
  b : Int
  deriving DecidableEq
def Warn.pv (w : Warn) : PV := .agg [.int .i64 w.kind, .int .i64 w.a, .int .i64 w.b]
theorem warn0 (w : Warn) : cell w.pv 0 = .int .i64 w.kind := rfl
theorem warn1 (w : Warn) : cell w.pv 1 = .int .i64 w.a := rfl
theorem warn2 (w : Warn) : cell w.pv 2 = .int .i64 w.b := rfl
theorem warnA (w : Warn) : asAgg 3 w.pv = some () := rfl
theorem warnE (a b c : Int) : PV.agg [.int .i64 a, .int .i64 b, .int .i64 c] = (Warn.mk a b c).pv := rfl
def manyN (fs : List Freq) : Int := fs.foldl (fun n f => if soundB f = true then IntKind.i64.wrap (n + cntF f) else n) 0
theorem many_ok (fs : List Freq) (hl : fs.length ≤ maxLen) (most : Int) : ∃ b, ref18_Many_M [.rs 4 (fs.map Freq.pv), .int .i64 most] = some (.bool b) := by
  have hm := maxLen_lt
  simp only [ref18_Many_M, ref18_Many, asSl, asInt, if_true, bind_some', List.length_map]
  by_cases h : (fs.length : Int) > 100
  · exact ⟨true, by simp only [h, decide_true, if_true]⟩
  · refine ⟨decide (manyN fs > most), ?_⟩
    simp only [h, decide_false, Bool.false_eq_true, if_false]
    refine loop_until (fun k => (fs.map Freq.pv, most, manyN (fs.take k), (k : Int), ())) fs.length (fun k hk rec => ?_) (fun rec => ?_) ?_ rfl
    · have h1 : (k : Int) < (fs.length : Int) := by omega
      have hs : manyN (fs.take (k + 1)) = if soundB fs[k] = true then IntKind.i64.wrap (manyN (fs.take k) + cntF fs[k]) else manyN (fs.take k) := by
        rw [take_succ' _ _ hk]; simp only [manyN, List.foldl_append, List.foldl_cons, List.foldl_nil]
      rw [hs]
      simp only [ref18_Many_L1, decide_eq_true_eq, List.length_map, h1, if_true, idxP_nat, List.getElem?_map, List.getElem?_eq_getElem hk, Option.map_some, bind_some', freq0, freq1, freq2, freq3, freqE, fsound_ref, asBool, wrap_nat (show k < 9223372036854775807 by omega)]
      cases hb : soundB fs[k] with
      | true => simp only [if_true, cnt_ref _ hb, bind_some', asInt]
      | false => simp only [Bool.false_eq_true, if_false]
    · simp only [ref18_Many_L1, decide_eq_true_eq, List.length_map, Int.lt_irrefl, if_false, List.take_length]
    · have := rounds_gt; omega
theorem large_tot (T : Timetable) (hT : T.Ok) : ∃ b, ref24_Large_M [T.pv] = some (.bool b) := by
  have hm := maxLen_lt
  have hl := hT.trips.1
  obtain ⟨bm, hbm⟩ := many_ok T.freqs hT.freqs.1 600
  simp only [ref24_Large_M, ref24_Large, ttA, tt0, tt1, tt2, tt3, tt4, tt5, tt6, tt7, tt8, tt9, tt10, tt11, tt12, asSl, asInt, asBool, if_true, bind_some', List.length_map, bif_or', hbm]
  generalize (decide ((T.stops.length : Int) > 70) || decide ((T.routes.length : Int) > 70) || decide ((T.cals.length : Int) > 70) || decide ((T.excs.length : Int) > 40) || decide ((T.trips.length : Int) > 12) || decide ((T.thrs.length : Int) > 40) || decide ((T.guars.length : Int) > 40) || decide ((T.paths.length : Int) > 60) || decide ((T.prods.length : Int) > 20) || bm) = hb
  cases hb with
  | true => exact ⟨true, by simp only [if_true]⟩
  | false =>
    simp only [Bool.false_eq_true, if_false]
    refine ⟨(List.range T.trips.length).any fun k => match T.trips[k]? with | some x => decide ((x.calls.length : Int) > 40) | none => false, ?_⟩
    refine (dup_scan (fun k => ((k : Int), tl T ())) T.trips.length (fun k => match T.trips[k]? with | some x => decide ((x.calls.length : Int) > 40) | none => false) (no := some (.bool true)) (fin := some (.bool false)) (fun k hk rec => ?_) (fun rec => ?_) ?_ rfl).trans (if_bool _)
    · have h1 : (k : Int) < (T.trips.length : Int) := by omega
      simp only [ref24_Large_L1, tl, decide_eq_true_eq, List.length_map, h1, if_true, idxP_nat, List.getElem?_map, List.getElem?_eq_getElem hk, Option.map_some, bind_some', trip4, asSl, wrap_nat (show k < 9223372036854775807 by omega)]
    · simp only [ref24_Large_L1, tl, decide_eq_true_eq, List.length_map, Int.lt_irrefl, if_false]
    · have := rounds_gt; omega
theorem stop0 (x : Stop) : cell x.pv 0 = .str x.id := rfl
theorem route0 (x : Route) : cell x.pv 0 = .str x.id := rfl
def inN (a : Int) (n : Nat) : Bool := decide (a ≥ 0) && decide (a < (n : Int))
theorem in_text (a : Int) (n : Nat) : lint_Text_1_M [.int .i64 a, .int .i64 n] = some (.bool (inN a n)) := by
  simp only [lint_Text_1_M, lint_Text_1, asInt, if_true, bind_some', bif_and, inN]
theorem in_nat {a : Int} {n : Nat} (h : inN a n = true) : ∃ k : Nat, a = k ∧ k < n := by
  unfold inN at h
  rw [Bool.and_eq_true, decide_eq_true_eq, decide_eq_true_eq] at h
  exact ⟨a.toNat, by omega, by omega⟩
def idS (T : Timetable) (a : Int) : Bytes := match T.stops[a.toNat]? with | some x => x.id | none => []
def idR (T : Timetable) (a : Int) : Bytes := match T.routes[a.toNat]? with | some x => x.id | none => []
def idC (T : Timetable) (a : Int) : Bytes := match T.cals[a.toNat]? with | some x => x.id | none => []
def idT (T : Timetable) (a : Int) : Bytes := match T.trips[a.toNat]? with | some x => x.id | none => []
structure IdsOk (T : Timetable) : Prop where
  stops : ∀ x ∈ T.stops, x.id.length ≤ 1048576
  routes : ∀ x ∈ T.routes, x.id.length ≤ 1048576
  cals : ∀ x ∈ T.cals, x.id.length ≤ 1048576
  trips : ∀ x ∈ T.trips, x.id.length ≤ 1048576
theorem room_text (n : Nat) (h : n ≤ 100000000) {A : Type} (a b : A) : (if lpS.room n = true then a else b) = a := by
  rw [if_pos (lpS_room n (by omega))]

def textT (T : Timetable) (w : Warn) : Bytes :=
  if w.kind = 5 then (if (!inN w.a T.trips.length || !inN w.b T.trips.length) = true then [] else [116, 114, 105, 112, 32] ++ idT T w.a ++ [32, 111, 118, 101, 114, 116, 97, 107, 101, 115, 32, 116, 114, 105, 112, 32] ++ idT T w.b)
  else if w.b ≠ 0 then []
  else if w.kind = 1 then (if inN w.a T.stops.length = true then [115, 116, 111, 112, 32] ++ idS T w.a ++ [32, 105, 115, 32, 110, 111, 116, 32, 117, 115, 101, 100] else [])
  else if w.kind = 6 then (if inN w.a T.stops.length = true then [115, 116, 111, 112, 32] ++ idS T w.a ++ [32, 99, 97, 110, 110, 111, 116, 32, 98, 101, 32, 114, 101, 97, 99, 104, 101, 100] else [])
  else if w.kind = 2 then (if inN w.a T.routes.length = true then [114, 111, 117, 116, 101, 32] ++ idR T w.a ++ [32, 105, 115, 32, 110, 111, 116, 32, 117, 115, 101, 100] else [])
  else if w.kind = 7 then (if inN w.a T.routes.length = true then [114, 111, 117, 116, 101, 32] ++ idR T w.a ++ [32, 104, 97, 115, 32, 110, 111, 32, 112, 114, 111, 100, 117, 99, 116] else [])
  else if w.kind = 3 then (if inN w.a T.cals.length = true then [99, 97, 108, 101, 110, 100, 97, 114, 32] ++ idC T w.a ++ [32, 105, 115, 32, 110, 111, 116, 32, 117, 115, 101, 100] else [])
  else if w.kind = 4 then (if inN w.a T.trips.length = true then [116, 114, 105, 112, 32] ++ idT T w.a ++ [32, 110, 101, 118, 101, 114, 32, 114, 117, 110, 115] else [])
  else []
theorem text_ok (T : Timetable) (hT : T.Ok) (hi : IdsOk T) (w : Warn) : lint_Text_M [T.pv, w.pv] = some (.str (textT T w)) := by
  simp only [lint_Text_M, lint_Text, ttA, tt0, tt1, tt2, tt3, tt4, tt5, tt6, tt7, tt8, tt9, tt10, tt11, tt12, warnA, warn0, warn1, warn2, asSl, asInt, if_true, bind_some', List.length_map, in_text, asBool, beq_d, bne_d, decide_eq_true_eq]
  unfold textT
  by_cases h5 : w.kind = 5
  · simp only [h5, if_true]
    cases ha : inN w.a T.trips.length with
    | false => simp only [Bool.not_false, cond_true, bind_some', if_true, Bool.true_or]
    | true =>
      cases hb : inN w.b T.trips.length with
      | false => simp only [Bool.not_true, Bool.not_false, cond_false, bind_some', if_true, Bool.or_true]
      | true =>
        obtain ⟨i, e1, hi1⟩ := in_nat ha
        obtain ⟨k, e2, hk1⟩ := in_nat hb
        have l1 := hi.trips _ (List.getElem_mem hi1)
        have l2 := hi.trips _ (List.getElem_mem hk1)
        have g1 : idT T w.a = T.trips[i].id := by unfold idT; rw [e1, Int.toNat_natCast, List.getElem?_eq_getElem hi1]
        have g2 : idT T w.b = T.trips[k].id := by unfold idT; rw [e2, Int.toNat_natCast, List.getElem?_eq_getElem hk1]
        rw [g1, g2, e1, e2]
        simp only [Bool.not_true, cond_false, bind_some', Bool.or_false, Bool.false_eq_true, if_false, idxP_nat, List.getElem?_map, List.getElem?_eq_getElem hi1, List.getElem?_eq_getElem hk1, Option.map_some, trip0, asStr]
        rw [room_text _ (by omega), room_text _ (by simp only [List.length_append, List.length_cons, List.length_nil]; omega), room_text _ (by simp only [List.length_append, List.length_cons, List.length_nil]; omega)]
  simp only [h5, if_false]
  by_cases hb : w.b = 0
  · simp only [hb, decide_true, Bool.not_true, Bool.false_eq_true, if_false, ne_eq, not_true_eq_false]
    by_cases h1 : w.kind = 1
    · simp only [h1, if_true, show ¬ ((1 : Int) = 6) from by decide, show ¬ ((1 : Int) = 2) from by decide, show ¬ ((1 : Int) = 7) from by decide, show ¬ ((1 : Int) = 3) from by decide, show ¬ ((1 : Int) = 4) from by decide, if_false]
      cases ha : inN w.a T.stops.length with
      | false => simp only [Bool.not_false, if_true, if_false, Bool.false_eq_true]
      | true =>
        obtain ⟨i, e1, hi1⟩ := in_nat ha
        have l1 := hi.stops _ (List.getElem_mem hi1)
        have g1 : idS T w.a = T.stops[i].id := by unfold idS; rw [e1, Int.toNat_natCast, List.getElem?_eq_getElem hi1]
        rw [g1, e1]
        simp only [Bool.not_true, bind_some', Bool.false_eq_true, if_false, if_true, idxP_nat, List.getElem?_map, List.getElem?_eq_getElem hi1, Option.map_some, stop0, asStr]
        rw [room_text _ (by omega), room_text _ (by simp only [List.length_append, List.length_cons, List.length_nil]; omega)]
    simp only [h1, if_false]
    by_cases h6 : w.kind = 6
    · simp only [h6, if_true, show ¬ ((6 : Int) = 1) from by decide, show ¬ ((6 : Int) = 2) from by decide, show ¬ ((6 : Int) = 7) from by decide, show ¬ ((6 : Int) = 3) from by decide, show ¬ ((6 : Int) = 4) from by decide, if_false]
      cases ha : inN w.a T.stops.length with
      | false => simp only [Bool.not_false, if_true, if_false, Bool.false_eq_true]
      | true =>
        obtain ⟨i, e1, hi1⟩ := in_nat ha
        have l1 := hi.stops _ (List.getElem_mem hi1)
        have g1 : idS T w.a = T.stops[i].id := by unfold idS; rw [e1, Int.toNat_natCast, List.getElem?_eq_getElem hi1]
        rw [g1, e1]
        simp only [Bool.not_true, bind_some', Bool.false_eq_true, if_false, if_true, idxP_nat, List.getElem?_map, List.getElem?_eq_getElem hi1, Option.map_some, stop0, asStr]
        rw [room_text _ (by omega), room_text _ (by simp only [List.length_append, List.length_cons, List.length_nil]; omega)]
    simp only [h6, if_false]
    by_cases h2 : w.kind = 2
    · simp only [h2, if_true, show ¬ ((2 : Int) = 1) from by decide, show ¬ ((2 : Int) = 6) from by decide, show ¬ ((2 : Int) = 7) from by decide, show ¬ ((2 : Int) = 3) from by decide, show ¬ ((2 : Int) = 4) from by decide, if_false]
      cases ha : inN w.a T.routes.length with
      | false => simp only [Bool.not_false, if_true, if_false, Bool.false_eq_true]
      | true =>
        obtain ⟨i, e1, hi1⟩ := in_nat ha
        have l1 := hi.routes _ (List.getElem_mem hi1)
        have g1 : idR T w.a = T.routes[i].id := by unfold idR; rw [e1, Int.toNat_natCast, List.getElem?_eq_getElem hi1]
        rw [g1, e1]
        simp only [Bool.not_true, bind_some', Bool.false_eq_true, if_false, if_true, idxP_nat, List.getElem?_map, List.getElem?_eq_getElem hi1, Option.map_some, route0, asStr]
        rw [room_text _ (by omega), room_text _ (by simp only [List.length_append, List.length_cons, List.length_nil]; omega)]
    simp only [h2, if_false]
    by_cases h7 : w.kind = 7
    · simp only [h7, if_true, show ¬ ((7 : Int) = 1) from by decide, show ¬ ((7 : Int) = 6) from by decide, show ¬ ((7 : Int) = 2) from by decide, show ¬ ((7 : Int) = 3) from by decide, show ¬ ((7 : Int) = 4) from by decide, if_false]
      cases ha : inN w.a T.routes.length with
      | false => simp only [Bool.not_false, if_true, if_false, Bool.false_eq_true]
      | true =>
        obtain ⟨i, e1, hi1⟩ := in_nat ha
        have l1 := hi.routes _ (List.getElem_mem hi1)
        have g1 : idR T w.a = T.routes[i].id := by unfold idR; rw [e1, Int.toNat_natCast, List.getElem?_eq_getElem hi1]
        rw [g1, e1]
        simp only [Bool.not_true, bind_some', Bool.false_eq_true, if_false, if_true, idxP_nat, List.getElem?_map, List.getElem?_eq_getElem hi1, Option.map_some, route0, asStr]
        rw [room_text _ (by omega), room_text _ (by simp only [List.length_append, List.length_cons, List.length_nil]; omega)]
    simp only [h7, if_false]
    by_cases h3 : w.kind = 3
    · simp only [h3, if_true, show ¬ ((3 : Int) = 1) from by decide, show ¬ ((3 : Int) = 6) from by decide, show ¬ ((3 : Int) = 2) from by decide, show ¬ ((3 : Int) = 7) from by decide, show ¬ ((3 : Int) = 4) from by decide, if_false]
      cases ha : inN w.a T.cals.length with
      | false => simp only [Bool.not_false, if_true, if_false, Bool.false_eq_true]
      | true =>
        obtain ⟨i, e1, hi1⟩ := in_nat ha
        have l1 := hi.cals _ (List.getElem_mem hi1)
        have g1 : idC T w.a = T.cals[i].id := by unfold idC; rw [e1, Int.toNat_natCast, List.getElem?_eq_getElem hi1]
        rw [g1, e1]
        simp only [Bool.not_true, bind_some', Bool.false_eq_true, if_false, if_true, idxP_nat, List.getElem?_map, List.getElem?_eq_getElem hi1, Option.map_some, cal0, asStr]
        rw [room_text _ (by omega), room_text _ (by simp only [List.length_append, List.length_cons, List.length_nil]; omega)]
    simp only [h3, if_false]
    by_cases h4 : w.kind = 4
    · simp only [h4, if_true, show ¬ ((4 : Int) = 1) from by decide, show ¬ ((4 : Int) = 6) from by decide, show ¬ ((4 : Int) = 2) from by decide, show ¬ ((4 : Int) = 7) from by decide, show ¬ ((4 : Int) = 3) from by decide, if_false]
      cases ha : inN w.a T.trips.length with
      | false => simp only [Bool.not_false, if_true, if_false, Bool.false_eq_true]
      | true =>
        obtain ⟨i, e1, hi1⟩ := in_nat ha
        have l1 := hi.trips _ (List.getElem_mem hi1)
        have g1 : idT T w.a = T.trips[i].id := by unfold idT; rw [e1, Int.toNat_natCast, List.getElem?_eq_getElem hi1]
        rw [g1, e1]
        simp only [Bool.not_true, bind_some', Bool.false_eq_true, if_false, if_true, idxP_nat, List.getElem?_map, List.getElem?_eq_getElem hi1, Option.map_some, trip0, asStr]
        rw [room_text _ (by omega), room_text _ (by simp only [List.length_append, List.length_cons, List.length_nil]; omega)]
    simp only [h4, if_false]
  · simp only [decide_false, Bool.not_false, if_true, ne_eq, hb, not_false_eq_true]
/-! ### the document's text -/
theorem inN_neg (a : Int) (n : Nat) (h : a < 0) : inN a n = false := by
  unfold inN
  have : ¬ a ≥ 0 := by omega
  simp [this]
theorem inN_lt (a : Int) (n : Nat) (h : ¬ a < 0) (h2 : a < (n : Int)) : inN a n = true := by
  unfold inN
  have : a ≥ 0 := by omega
  simp [this, h2]
theorem inN_ge (a : Int) (n : Nat) (h2 : ¬ a < (n : Int)) : inN a n = false := by
  unfold inN; simp [h2]
theorem text_ref (T : Timetable) (hT : T.Ok) (hi : IdsOk T) (w : Warn) : ref24_Text_M [T.pv, w.pv] = some (.str (textT T w)) := by
  simp only [ref24_Text_M, ref24_Text, ttA, tt0, tt1, tt2, tt3, tt4, tt5, tt6, tt7, tt8, tt9, tt10, tt11, tt12, warnA, warn0, warn1, warn2, asSl, asInt, if_true, bind_some', List.length_map, bif_and, bif_or', beq_d, bne_d]
  unfold textT
  by_cases ha : w.a < 0
  · simp only [ha, inN_neg w.a _ ha, decide_true, decide_false, Bool.not_true, Bool.not_false, Bool.true_or, Bool.false_or, Bool.or_true, Bool.or_false, Bool.and_true, Bool.true_and, Bool.and_false, Bool.false_and, Bool.false_eq_true, if_true, if_false, ne_eq, not_true_eq_false, not_false_eq_true, decide_eq_true_eq, cond_true, cond_false, bind_some', ite_self]
  simp only [ha, decide_true, decide_false, Bool.not_true, Bool.not_false, Bool.true_or, Bool.false_or, Bool.or_true, Bool.or_false, Bool.and_true, Bool.true_and, Bool.and_false, Bool.false_and, Bool.false_eq_true, if_true, if_false, ne_eq, not_true_eq_false, not_false_eq_true, decide_eq_true_eq, cond_true, cond_false, bind_some']
  by_cases h5 : w.kind = 5
  · simp only [h5, show ¬ ((5 : Int) = 1) from by decide, show ¬ ((5 : Int) = 2) from by decide, show ¬ ((5 : Int) = 3) from by decide, show ¬ ((5 : Int) = 4) from by decide, show ¬ ((5 : Int) = 6) from by decide, show ¬ ((5 : Int) = 7) from by decide, decide_true, decide_false, Bool.not_true, Bool.not_false, Bool.true_or, Bool.false_or, Bool.or_true, Bool.or_false, Bool.and_true, Bool.true_and, Bool.and_false, Bool.false_and, Bool.false_eq_true, if_true, if_false, ne_eq, not_true_eq_false, not_false_eq_true, decide_eq_true_eq, cond_true, cond_false, bind_some']
    by_cases h1 : w.a < (T.trips.length : Int)
    · by_cases h2 : w.b < 0
      · have : ¬ w.b ≥ 0 := by omega
        simp only [h1, this, inN_neg w.b _ h2, show ¬ ((5 : Int) = 1) from by decide, show ¬ ((5 : Int) = 2) from by decide, show ¬ ((5 : Int) = 3) from by decide, show ¬ ((5 : Int) = 4) from by decide, show ¬ ((5 : Int) = 6) from by decide, show ¬ ((5 : Int) = 7) from by decide, decide_true, decide_false, Bool.not_true, Bool.not_false, Bool.true_or, Bool.false_or, Bool.or_true, Bool.or_false, Bool.and_true, Bool.true_and, Bool.and_false, Bool.false_and, Bool.false_eq_true, if_true, if_false, ne_eq, not_true_eq_false, not_false_eq_true, decide_eq_true_eq, cond_true, cond_false, bind_some']
      · have h2' : w.b ≥ 0 := by omega
        by_cases h3 : w.b < (T.trips.length : Int)
        · have ea := inN_lt w.a _ ha h1
          have eb := inN_lt w.b _ h2 h3
          obtain ⟨i, e1, hi1⟩ := in_nat ea
          obtain ⟨k, e2, hk1⟩ := in_nat eb
          have l1 := hi.trips _ (List.getElem_mem hi1)
          have l2 := hi.trips _ (List.getElem_mem hk1)
          have g1 : idT T w.a = T.trips[i].id := by unfold idT; rw [e1, Int.toNat_natCast, List.getElem?_eq_getElem hi1]
          have g2 : idT T w.b = T.trips[k].id := by unfold idT; rw [e2, Int.toNat_natCast, List.getElem?_eq_getElem hk1]
          simp only [h1, h2', h3, ea, eb, g1, g2, show ¬ ((5 : Int) = 1) from by decide, show ¬ ((5 : Int) = 2) from by decide, show ¬ ((5 : Int) = 3) from by decide, show ¬ ((5 : Int) = 4) from by decide, show ¬ ((5 : Int) = 6) from by decide, show ¬ ((5 : Int) = 7) from by decide, decide_true, decide_false, Bool.not_true, Bool.not_false, Bool.true_or, Bool.false_or, Bool.or_true, Bool.or_false, Bool.and_true, Bool.true_and, Bool.and_false, Bool.false_and, Bool.false_eq_true, if_true, if_false, ne_eq, not_true_eq_false, not_false_eq_true, decide_eq_true_eq, cond_true, cond_false, bind_some']
          rw [e1, e2]
          simp only [idxP_nat, List.getElem?_map, List.getElem?_eq_getElem hi1, List.getElem?_eq_getElem hk1, Option.map_some, bind_some', trip0, asStr]
          rw [room_text _ (by omega), room_text _ (by simp only [List.length_append, List.length_cons, List.length_nil]; omega), room_text _ (by simp only [List.length_append, List.length_cons, List.length_nil]; omega)]
        · simp only [h1, h2', h3, inN_ge w.b _ h3, show ¬ ((5 : Int) = 1) from by decide, show ¬ ((5 : Int) = 2) from by decide, show ¬ ((5 : Int) = 3) from by decide, show ¬ ((5 : Int) = 4) from by decide, show ¬ ((5 : Int) = 6) from by decide, show ¬ ((5 : Int) = 7) from by decide, decide_true, decide_false, Bool.not_true, Bool.not_false, Bool.true_or, Bool.false_or, Bool.or_true, Bool.or_false, Bool.and_true, Bool.true_and, Bool.and_false, Bool.false_and, Bool.false_eq_true, if_true, if_false, ne_eq, not_true_eq_false, not_false_eq_true, decide_eq_true_eq, cond_true, cond_false, bind_some']
    · simp only [h1, inN_ge w.a _ h1, show ¬ ((5 : Int) = 1) from by decide, show ¬ ((5 : Int) = 2) from by decide, show ¬ ((5 : Int) = 3) from by decide, show ¬ ((5 : Int) = 4) from by decide, show ¬ ((5 : Int) = 6) from by decide, show ¬ ((5 : Int) = 7) from by decide, decide_true, decide_false, Bool.not_true, Bool.not_false, Bool.true_or, Bool.false_or, Bool.or_true, Bool.or_false, Bool.and_true, Bool.true_and, Bool.and_false, Bool.false_and, Bool.false_eq_true, if_true, if_false, ne_eq, not_true_eq_false, not_false_eq_true, decide_eq_true_eq, cond_true, cond_false, bind_some']
  simp only [h5, decide_true, decide_false, Bool.not_true, Bool.not_false, Bool.true_or, Bool.false_or, Bool.or_true, Bool.or_false, Bool.and_true, Bool.true_and, Bool.and_false, Bool.false_and, Bool.false_eq_true, if_true, if_false, ne_eq, not_true_eq_false, not_false_eq_true, decide_eq_true_eq, cond_true, cond_false, bind_some']
  by_cases hb : w.b = 0
  · simp only [hb, decide_true, decide_false, Bool.not_true, Bool.not_false, Bool.true_or, Bool.false_or, Bool.or_true, Bool.or_false, Bool.and_true, Bool.true_and, Bool.and_false, Bool.false_and, Bool.false_eq_true, if_true, if_false, ne_eq, not_true_eq_false, not_false_eq_true, decide_eq_true_eq, cond_true, cond_false, bind_some']
    by_cases h1 : w.kind = 1
    · simp only [h1, show ¬ ((1 : Int) = 2) from by decide, show ¬ ((1 : Int) = 3) from by decide, show ¬ ((1 : Int) = 4) from by decide, show ¬ ((1 : Int) = 5) from by decide, show ¬ ((1 : Int) = 6) from by decide, show ¬ ((1 : Int) = 7) from by decide, decide_true, decide_false, Bool.not_true, Bool.not_false, Bool.true_or, Bool.false_or, Bool.or_true, Bool.or_false, Bool.and_true, Bool.true_and, Bool.and_false, Bool.false_and, Bool.false_eq_true, if_true, if_false, ne_eq, not_true_eq_false, not_false_eq_true, decide_eq_true_eq, cond_true, cond_false, bind_some']
      by_cases h1 : w.a < (T.stops.length : Int)
      · have ea := inN_lt w.a _ ha h1
        obtain ⟨i, e1, hi1⟩ := in_nat ea
        have l1 := hi.stops _ (List.getElem_mem hi1)
        have g1 : idS T w.a = T.stops[i].id := by unfold idS; rw [e1, Int.toNat_natCast, List.getElem?_eq_getElem hi1]
        simp only [h1, ea, g1, show ¬ ((1 : Int) = 2) from by decide, show ¬ ((1 : Int) = 3) from by decide, show ¬ ((1 : Int) = 4) from by decide, show ¬ ((1 : Int) = 5) from by decide, show ¬ ((1 : Int) = 6) from by decide, show ¬ ((1 : Int) = 7) from by decide, decide_true, decide_false, Bool.not_true, Bool.not_false, Bool.true_or, Bool.false_or, Bool.or_true, Bool.or_false, Bool.and_true, Bool.true_and, Bool.and_false, Bool.false_and, Bool.false_eq_true, if_true, if_false, ne_eq, not_true_eq_false, not_false_eq_true, decide_eq_true_eq, cond_true, cond_false, bind_some']
        rw [e1]
        simp only [idxP_nat, List.getElem?_map, List.getElem?_eq_getElem hi1, Option.map_some, bind_some', stop0, asStr]
        rw [room_text _ (by omega), room_text _ (by simp only [List.length_append, List.length_cons, List.length_nil]; omega)]
      · simp only [h1, inN_ge w.a _ h1, show ¬ ((1 : Int) = 2) from by decide, show ¬ ((1 : Int) = 3) from by decide, show ¬ ((1 : Int) = 4) from by decide, show ¬ ((1 : Int) = 5) from by decide, show ¬ ((1 : Int) = 6) from by decide, show ¬ ((1 : Int) = 7) from by decide, decide_true, decide_false, Bool.not_true, Bool.not_false, Bool.true_or, Bool.false_or, Bool.or_true, Bool.or_false, Bool.and_true, Bool.true_and, Bool.and_false, Bool.false_and, Bool.false_eq_true, if_true, if_false, ne_eq, not_true_eq_false, not_false_eq_true, decide_eq_true_eq, cond_true, cond_false, bind_some']
    simp only [h1, decide_true, decide_false, Bool.not_true, Bool.not_false, Bool.true_or, Bool.false_or, Bool.or_true, Bool.or_false, Bool.and_true, Bool.true_and, Bool.and_false, Bool.false_and, Bool.false_eq_true, if_true, if_false, ne_eq, not_true_eq_false, not_false_eq_true, decide_eq_true_eq, cond_true, cond_false, bind_some']
    by_cases h6 : w.kind = 6
    · simp only [h6, show ¬ ((6 : Int) = 1) from by decide, show ¬ ((6 : Int) = 2) from by decide, show ¬ ((6 : Int) = 3) from by decide, show ¬ ((6 : Int) = 4) from by decide, show ¬ ((6 : Int) = 5) from by decide, show ¬ ((6 : Int) = 7) from by decide, decide_true, decide_false, Bool.not_true, Bool.not_false, Bool.true_or, Bool.false_or, Bool.or_true, Bool.or_false, Bool.and_true, Bool.true_and, Bool.and_false, Bool.false_and, Bool.false_eq_true, if_true, if_false, ne_eq, not_true_eq_false, not_false_eq_true, decide_eq_true_eq, cond_true, cond_false, bind_some']
      by_cases h1 : w.a < (T.stops.length : Int)
      · have ea := inN_lt w.a _ ha h1
        obtain ⟨i, e1, hi1⟩ := in_nat ea
        have l1 := hi.stops _ (List.getElem_mem hi1)
        have g1 : idS T w.a = T.stops[i].id := by unfold idS; rw [e1, Int.toNat_natCast, List.getElem?_eq_getElem hi1]
        simp only [h1, ea, g1, show ¬ ((6 : Int) = 1) from by decide, show ¬ ((6 : Int) = 2) from by decide, show ¬ ((6 : Int) = 3) from by decide, show ¬ ((6 : Int) = 4) from by decide, show ¬ ((6 : Int) = 5) from by decide, show ¬ ((6 : Int) = 7) from by decide, decide_true, decide_false, Bool.not_true, Bool.not_false, Bool.true_or, Bool.false_or, Bool.or_true, Bool.or_false, Bool.and_true, Bool.true_and, Bool.and_false, Bool.false_and, Bool.false_eq_true, if_true, if_false, ne_eq, not_true_eq_false, not_false_eq_true, decide_eq_true_eq, cond_true, cond_false, bind_some']
        rw [e1]
        simp only [idxP_nat, List.getElem?_map, List.getElem?_eq_getElem hi1, Option.map_some, bind_some', stop0, asStr]
        rw [room_text _ (by omega), room_text _ (by simp only [List.length_append, List.length_cons, List.length_nil]; omega)]
      · simp only [h1, inN_ge w.a _ h1, show ¬ ((6 : Int) = 1) from by decide, show ¬ ((6 : Int) = 2) from by decide, show ¬ ((6 : Int) = 3) from by decide, show ¬ ((6 : Int) = 4) from by decide, show ¬ ((6 : Int) = 5) from by decide, show ¬ ((6 : Int) = 7) from by decide, decide_true, decide_false, Bool.not_true, Bool.not_false, Bool.true_or, Bool.false_or, Bool.or_true, Bool.or_false, Bool.and_true, Bool.true_and, Bool.and_false, Bool.false_and, Bool.false_eq_true, if_true, if_false, ne_eq, not_true_eq_false, not_false_eq_true, decide_eq_true_eq, cond_true, cond_false, bind_some']
    simp only [h6, decide_true, decide_false, Bool.not_true, Bool.not_false, Bool.true_or, Bool.false_or, Bool.or_true, Bool.or_false, Bool.and_true, Bool.true_and, Bool.and_false, Bool.false_and, Bool.false_eq_true, if_true, if_false, ne_eq, not_true_eq_false, not_false_eq_true, decide_eq_true_eq, cond_true, cond_false, bind_some']
    by_cases h2 : w.kind = 2
    · simp only [h2, show ¬ ((2 : Int) = 1) from by decide, show ¬ ((2 : Int) = 3) from by decide, show ¬ ((2 : Int) = 4) from by decide, show ¬ ((2 : Int) = 5) from by decide, show ¬ ((2 : Int) = 6) from by decide, show ¬ ((2 : Int) = 7) from by decide, decide_true, decide_false, Bool.not_true, Bool.not_false, Bool.true_or, Bool.false_or, Bool.or_true, Bool.or_false, Bool.and_true, Bool.true_and, Bool.and_false, Bool.false_and, Bool.false_eq_true, if_true, if_false, ne_eq, not_true_eq_false, not_false_eq_true, decide_eq_true_eq, cond_true, cond_false, bind_some']
      by_cases h1 : w.a < (T.routes.length : Int)
      · have ea := inN_lt w.a _ ha h1
        obtain ⟨i, e1, hi1⟩ := in_nat ea
        have l1 := hi.routes _ (List.getElem_mem hi1)
        have g1 : idR T w.a = T.routes[i].id := by unfold idR; rw [e1, Int.toNat_natCast, List.getElem?_eq_getElem hi1]
        simp only [h1, ea, g1, show ¬ ((2 : Int) = 1) from by decide, show ¬ ((2 : Int) = 3) from by decide, show ¬ ((2 : Int) = 4) from by decide, show ¬ ((2 : Int) = 5) from by decide, show ¬ ((2 : Int) = 6) from by decide, show ¬ ((2 : Int) = 7) from by decide, decide_true, decide_false, Bool.not_true, Bool.not_false, Bool.true_or, Bool.false_or, Bool.or_true, Bool.or_false, Bool.and_true, Bool.true_and, Bool.and_false, Bool.false_and, Bool.false_eq_true, if_true, if_false, ne_eq, not_true_eq_false, not_false_eq_true, decide_eq_true_eq, cond_true, cond_false, bind_some']
        rw [e1]
        simp only [idxP_nat, List.getElem?_map, List.getElem?_eq_getElem hi1, Option.map_some, bind_some', route0, asStr]
        rw [room_text _ (by omega), room_text _ (by simp only [List.length_append, List.length_cons, List.length_nil]; omega)]
      · simp only [h1, inN_ge w.a _ h1, show ¬ ((2 : Int) = 1) from by decide, show ¬ ((2 : Int) = 3) from by decide, show ¬ ((2 : Int) = 4) from by decide, show ¬ ((2 : Int) = 5) from by decide, show ¬ ((2 : Int) = 6) from by decide, show ¬ ((2 : Int) = 7) from by decide, decide_true, decide_false, Bool.not_true, Bool.not_false, Bool.true_or, Bool.false_or, Bool.or_true, Bool.or_false, Bool.and_true, Bool.true_and, Bool.and_false, Bool.false_and, Bool.false_eq_true, if_true, if_false, ne_eq, not_true_eq_false, not_false_eq_true, decide_eq_true_eq, cond_true, cond_false, bind_some']
    simp only [h2, decide_true, decide_false, Bool.not_true, Bool.not_false, Bool.true_or, Bool.false_or, Bool.or_true, Bool.or_false, Bool.and_true, Bool.true_and, Bool.and_false, Bool.false_and, Bool.false_eq_true, if_true, if_false, ne_eq, not_true_eq_false, not_false_eq_true, decide_eq_true_eq, cond_true, cond_false, bind_some']
    by_cases h7 : w.kind = 7
    · simp only [h7, show ¬ ((7 : Int) = 1) from by decide, show ¬ ((7 : Int) = 2) from by decide, show ¬ ((7 : Int) = 3) from by decide, show ¬ ((7 : Int) = 4) from by decide, show ¬ ((7 : Int) = 5) from by decide, show ¬ ((7 : Int) = 6) from by decide, decide_true, decide_false, Bool.not_true, Bool.not_false, Bool.true_or, Bool.false_or, Bool.or_true, Bool.or_false, Bool.and_true, Bool.true_and, Bool.and_false, Bool.false_and, Bool.false_eq_true, if_true, if_false, ne_eq, not_true_eq_false, not_false_eq_true, decide_eq_true_eq, cond_true, cond_false, bind_some']
      by_cases h1 : w.a < (T.routes.length : Int)
      · have ea := inN_lt w.a _ ha h1
        obtain ⟨i, e1, hi1⟩ := in_nat ea
        have l1 := hi.routes _ (List.getElem_mem hi1)
        have g1 : idR T w.a = T.routes[i].id := by unfold idR; rw [e1, Int.toNat_natCast, List.getElem?_eq_getElem hi1]
        simp only [h1, ea, g1, show ¬ ((7 : Int) = 1) from by decide, show ¬ ((7 : Int) = 2) from by decide, show ¬ ((7 : Int) = 3) from by decide, show ¬ ((7 : Int) = 4) from by decide, show ¬ ((7 : Int) = 5) from by decide, show ¬ ((7 : Int) = 6) from by decide, decide_true, decide_false, Bool.not_true, Bool.not_false, Bool.true_or, Bool.false_or, Bool.or_true, Bool.or_false, Bool.and_true, Bool.true_and, Bool.and_false, Bool.false_and, Bool.false_eq_true, if_true, if_false, ne_eq, not_true_eq_false, not_false_eq_true, decide_eq_true_eq, cond_true, cond_false, bind_some']
        rw [e1]
        simp only [idxP_nat, List.getElem?_map, List.getElem?_eq_getElem hi1, Option.map_some, bind_some', route0, asStr]
        rw [room_text _ (by omega), room_text _ (by simp only [List.length_append, List.length_cons, List.length_nil]; omega)]
      · simp only [h1, inN_ge w.a _ h1, show ¬ ((7 : Int) = 1) from by decide, show ¬ ((7 : Int) = 2) from by decide, show ¬ ((7 : Int) = 3) from by decide, show ¬ ((7 : Int) = 4) from by decide, show ¬ ((7 : Int) = 5) from by decide, show ¬ ((7 : Int) = 6) from by decide, decide_true, decide_false, Bool.not_true, Bool.not_false, Bool.true_or, Bool.false_or, Bool.or_true, Bool.or_false, Bool.and_true, Bool.true_and, Bool.and_false, Bool.false_and, Bool.false_eq_true, if_true, if_false, ne_eq, not_true_eq_false, not_false_eq_true, decide_eq_true_eq, cond_true, cond_false, bind_some']
    simp only [h7, decide_true, decide_false, Bool.not_true, Bool.not_false, Bool.true_or, Bool.false_or, Bool.or_true, Bool.or_false, Bool.and_true, Bool.true_and, Bool.and_false, Bool.false_and, Bool.false_eq_true, if_true, if_false, ne_eq, not_true_eq_false, not_false_eq_true, decide_eq_true_eq, cond_true, cond_false, bind_some']
    by_cases h3 : w.kind = 3
    · simp only [h3, show ¬ ((3 : Int) = 1) from by decide, show ¬ ((3 : Int) = 2) from by decide, show ¬ ((3 : Int) = 4) from by decide, show ¬ ((3 : Int) = 5) from by decide, show ¬ ((3 : Int) = 6) from by decide, show ¬ ((3 : Int) = 7) from by decide, decide_true, decide_false, Bool.not_true, Bool.not_false, Bool.true_or, Bool.false_or, Bool.or_true, Bool.or_false, Bool.and_true, Bool.true_and, Bool.and_false, Bool.false_and, Bool.false_eq_true, if_true, if_false, ne_eq, not_true_eq_false, not_false_eq_true, decide_eq_true_eq, cond_true, cond_false, bind_some']
      by_cases h1 : w.a < (T.cals.length : Int)
      · have ea := inN_lt w.a _ ha h1
        obtain ⟨i, e1, hi1⟩ := in_nat ea
        have l1 := hi.cals _ (List.getElem_mem hi1)
        have g1 : idC T w.a = T.cals[i].id := by unfold idC; rw [e1, Int.toNat_natCast, List.getElem?_eq_getElem hi1]
        simp only [h1, ea, g1, show ¬ ((3 : Int) = 1) from by decide, show ¬ ((3 : Int) = 2) from by decide, show ¬ ((3 : Int) = 4) from by decide, show ¬ ((3 : Int) = 5) from by decide, show ¬ ((3 : Int) = 6) from by decide, show ¬ ((3 : Int) = 7) from by decide, decide_true, decide_false, Bool.not_true, Bool.not_false, Bool.true_or, Bool.false_or, Bool.or_true, Bool.or_false, Bool.and_true, Bool.true_and, Bool.and_false, Bool.false_and, Bool.false_eq_true, if_true, if_false, ne_eq, not_true_eq_false, not_false_eq_true, decide_eq_true_eq, cond_true, cond_false, bind_some']
        rw [e1]
        simp only [idxP_nat, List.getElem?_map, List.getElem?_eq_getElem hi1, Option.map_some, bind_some', cal0, asStr]
        rw [room_text _ (by omega), room_text _ (by simp only [List.length_append, List.length_cons, List.length_nil]; omega)]
      · simp only [h1, inN_ge w.a _ h1, show ¬ ((3 : Int) = 1) from by decide, show ¬ ((3 : Int) = 2) from by decide, show ¬ ((3 : Int) = 4) from by decide, show ¬ ((3 : Int) = 5) from by decide, show ¬ ((3 : Int) = 6) from by decide, show ¬ ((3 : Int) = 7) from by decide, decide_true, decide_false, Bool.not_true, Bool.not_false, Bool.true_or, Bool.false_or, Bool.or_true, Bool.or_false, Bool.and_true, Bool.true_and, Bool.and_false, Bool.false_and, Bool.false_eq_true, if_true, if_false, ne_eq, not_true_eq_false, not_false_eq_true, decide_eq_true_eq, cond_true, cond_false, bind_some']
    simp only [h3, decide_true, decide_false, Bool.not_true, Bool.not_false, Bool.true_or, Bool.false_or, Bool.or_true, Bool.or_false, Bool.and_true, Bool.true_and, Bool.and_false, Bool.false_and, Bool.false_eq_true, if_true, if_false, ne_eq, not_true_eq_false, not_false_eq_true, decide_eq_true_eq, cond_true, cond_false, bind_some']
    by_cases h4 : w.kind = 4
    · simp only [h4, show ¬ ((4 : Int) = 1) from by decide, show ¬ ((4 : Int) = 2) from by decide, show ¬ ((4 : Int) = 3) from by decide, show ¬ ((4 : Int) = 5) from by decide, show ¬ ((4 : Int) = 6) from by decide, show ¬ ((4 : Int) = 7) from by decide, decide_true, decide_false, Bool.not_true, Bool.not_false, Bool.true_or, Bool.false_or, Bool.or_true, Bool.or_false, Bool.and_true, Bool.true_and, Bool.and_false, Bool.false_and, Bool.false_eq_true, if_true, if_false, ne_eq, not_true_eq_false, not_false_eq_true, decide_eq_true_eq, cond_true, cond_false, bind_some']
      by_cases h1 : w.a < (T.trips.length : Int)
      · have ea := inN_lt w.a _ ha h1
        obtain ⟨i, e1, hi1⟩ := in_nat ea
        have l1 := hi.trips _ (List.getElem_mem hi1)
        have g1 : idT T w.a = T.trips[i].id := by unfold idT; rw [e1, Int.toNat_natCast, List.getElem?_eq_getElem hi1]
        simp only [h1, ea, g1, show ¬ ((4 : Int) = 1) from by decide, show ¬ ((4 : Int) = 2) from by decide, show ¬ ((4 : Int) = 3) from by decide, show ¬ ((4 : Int) = 5) from by decide, show ¬ ((4 : Int) = 6) from by decide, show ¬ ((4 : Int) = 7) from by decide, decide_true, decide_false, Bool.not_true, Bool.not_false, Bool.true_or, Bool.false_or, Bool.or_true, Bool.or_false, Bool.and_true, Bool.true_and, Bool.and_false, Bool.false_and, Bool.false_eq_true, if_true, if_false, ne_eq, not_true_eq_false, not_false_eq_true, decide_eq_true_eq, cond_true, cond_false, bind_some']
        rw [e1]
        simp only [idxP_nat, List.getElem?_map, List.getElem?_eq_getElem hi1, Option.map_some, bind_some', trip0, asStr]
        rw [room_text _ (by omega), room_text _ (by simp only [List.length_append, List.length_cons, List.length_nil]; omega)]
      · simp only [h1, inN_ge w.a _ h1, show ¬ ((4 : Int) = 1) from by decide, show ¬ ((4 : Int) = 2) from by decide, show ¬ ((4 : Int) = 3) from by decide, show ¬ ((4 : Int) = 5) from by decide, show ¬ ((4 : Int) = 6) from by decide, show ¬ ((4 : Int) = 7) from by decide, decide_true, decide_false, Bool.not_true, Bool.not_false, Bool.true_or, Bool.false_or, Bool.or_true, Bool.or_false, Bool.and_true, Bool.true_and, Bool.and_false, Bool.false_and, Bool.false_eq_true, if_true, if_false, ne_eq, not_true_eq_false, not_false_eq_true, decide_eq_true_eq, cond_true, cond_false, bind_some']
    simp only [h4, decide_true, decide_false, Bool.not_true, Bool.not_false, Bool.true_or, Bool.false_or, Bool.or_true, Bool.or_false, Bool.and_true, Bool.true_and, Bool.and_false, Bool.false_and, Bool.false_eq_true, if_true, if_false, ne_eq, not_true_eq_false, not_false_eq_true, decide_eq_true_eq, cond_true, cond_false, bind_some']
  · simp only [hb, decide_true, decide_false, Bool.not_true, Bool.not_false, Bool.true_or, Bool.false_or, Bool.or_true, Bool.or_false, Bool.and_true, Bool.true_and, Bool.and_false, Bool.false_and, Bool.false_eq_true, if_true, if_false, ne_eq, not_true_eq_false, not_false_eq_true, decide_eq_true_eq, cond_true, cond_false, bind_some']
theorem texts_law (T : Timetable) (hT : T.Ok) (hi : IdsOk T) (w : Warn) : law24_LintTexts_M [T.pv, w.pv] = some (.bool true) := by
  obtain ⟨b, hb⟩ := large_tot T hT
  simp only [law24_LintTexts_M, law24_LintTexts, ttA, tt0, tt1, tt2, tt3, tt4, tt5, tt6, tt7, tt8, tt9, tt10, tt11, tt12, warnA, warn0, warn1, warn2, asSl, asInt, asBool, asStr, if_true, bind_some', ttE, warnE, hb, text_ok T hT hi, text_ref T hT hi, exampleHolds24, beq_self_eq_true]
  cases b <;> simp only [cond_true, cond_false, bind_some']
end Go.Ab.Tt
