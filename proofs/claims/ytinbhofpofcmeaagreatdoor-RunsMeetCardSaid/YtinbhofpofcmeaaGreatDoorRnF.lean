/- The runs of a day and of some days: the program and the document give the same. -/
import Derived.Test.YtinbhofpofcmeaaGreatDoorRnQ1
namespace Go.Ab.Tt
set_option maxRecDepth 100000
set_option linter.unusedVariables false
set_option linter.unusedSimpArgs false

def tlT {X : Type} (T : Timetable) (x : X) := (T.stops.map Stop.pv, T.routes.map Route.pv, T.cals.map Cal.pv, T.excs.map Exc.pv, T.trips.map Trip.pv, T.freqs.map Freq.pv, T.thrs.map Thr.pv, T.guars.map Guar.pv, T.paths.map Path.pv, T.prods.map Prdt.pv, T.disc, T.within, T.cap, x)
/-- what a small timetable keeps within bounds -/
structure FewP (T : Timetable) : Prop where
  trips : T.trips.length ≤ 40
  freqs : T.freqs.length ≤ 70
  cals : T.cals.length ≤ 70
  excs : T.excs.length ≤ 70
  thrs : T.thrs.length ≤ 140
  guars : T.guars.length ≤ 140
  small : Small T
theorem shift_prog (l : List Kall) (n : Int) (hl : l.length ≤ 1000) : call_Shift_M [.rs 5 (l.map Kall.pv), .int .i64 n] = some (.rs 5 ((l.map (shK n)).map Kall.pv)) := by
  simp only [call_Shift_M, call_Shift, asSl, asInt, if_true, bind_some', List.length_map]
  refine loop_until (fun k => (n, l.map Kall.pv, (l.length : Int), (k : Int), ((l.take k).map (shK n)).map Kall.pv, ())) l.length (fun k hk rec => ?_) (fun rec => ?_) ?_ rfl
  · have h1 : (k : Int) < (l.length : Int) := by omega
    have hroom : ∀ X : PV, ((((l.take k).map (shK n)).map Kall.pv) ++ [X]).length * 32 ≤ roomBound ∧ 0 < 32 := fun X => by
      refine ⟨?_, by decide⟩
      simp only [List.length_append, List.length_map, List.length_take, List.length_cons, List.length_nil]
      unfold roomBound; omega
    simp only [call_Shift_L1, decide_eq_true_eq, h1, if_true, idxP_nat, List.getElem?_map, List.getElem?_eq_getElem hk, Option.map_some, bind_some', kall0, kall1, kall2, kall3, kall4, asInt, if_pos (hroom _), wrap_nat (show k < 9223372036854775807 by omega)]
    rw [List.take_succ_eq_append_getElem hk, List.map_append, List.map_append]
    rfl
  · simp only [call_Shift_L1, decide_eq_true_eq, Int.lt_irrefl, if_false, List.take_length]
  · have : 1001 < rounds := by decide
    omega
theorem run_ref (T : Timetable) (i : Nat) (x : Trip) (hx : T.trips[i]? = some x) (day k : Int) (cs : List Kall) (hc : cs.length ≤ 1000) :
    ref25_run_M [T.pv, .int .i64 i, .int .i64 day, .int .i64 k, .rs 5 (cs.map Kall.pv)] = some (runOf x i day k cs).pv := by
  simp only [ref25_run_M, ref25_run, ttA, tt0, tt1, tt2, tt3, tt4, tt5, tt6, tt7, tt8, tt9, tt10, tt11, tt12, asSl, asInt, if_true, bind_some', idxP_nat, List.getElem?_map, hx, Option.map_some, trip0, trip1, trip3, asStr, asBool]
  refine loop_until (fun j => (day, cs.map Kall.pv, (j : Int), 0, 0, 0, [], 0, false, false, (i : Int), day, k, x.id, x.route, x.free, false, ((cs.take j).map (shK (dayS day))).map Kall.pv, ())) cs.length (fun j hj rec => ?_) (fun rec => ?_) ?_ rfl
  · have h1 : (j : Int) < (cs.length : Int) := by omega
    have hroom : ∀ X : PV, ((((cs.take j).map (shK (dayS day))).map Kall.pv) ++ [X]).length * 32 ≤ roomBound ∧ 0 < 32 := fun X => by
      refine ⟨?_, by decide⟩
      simp only [List.length_append, List.length_map, List.length_take, List.length_cons, List.length_nil]
      unfold roomBound; omega
    simp only [ref25_run_L1, decide_eq_true_eq, List.length_map, h1, if_true, idxP_nat, List.getElem?_map, List.getElem?_eq_getElem hj, Option.map_some, bind_some', kall0, kall1, kall2, kall3, kall4, asInt, if_pos (hroom _), wrap_nat (show j < 9223372036854775807 by omega)]
    rw [List.take_succ_eq_append_getElem hj, List.map_append, List.map_append]
    rfl
  · simp only [ref25_run_L1, decide_eq_true_eq, List.length_map, Int.lt_irrefl, if_false, List.take_length]
    rfl
  · have : 1001 < rounds := by decide
    omega

/-! ### where starts lie, and how many runs there are -/
theorem startsI_range (x : Freq) (t : Int) (h : t ∈ startsI x) : 0 ≤ t ∧ t ≤ 172800 := by
  cases hs : soundB x with
  | false => rw [startsI_un x hs] at h; cases h
  | true =>
    rw [startsI_sound x hs] at h
    obtain ⟨j, hj, rfl⟩ := List.mem_map.1 h
    have hj := List.mem_range.1 hj
    have hml := mul_le x hs
    have hc := cnt_le x hs
    obtain ⟨h1, h2, h3, h4, h5⟩ := (sound_iff x).1 hs
    have hk2 : (j : Int) ≤ cntF x - 1 := by omega
    have hmono : (j : Int) * x.every ≤ (cntF x - 1) * x.every := Int.mul_le_mul_of_nonneg_right hk2 (by omega)
    have hge : 0 ≤ (j : Int) * x.every := Int.mul_nonneg (by omega) (by omega)
    omega
theorem fold_ins_mem (t : Int) (s : List Int) : ∀ l : List Int, t ∈ s.foldl (fun l t => insR t l) l ↔ t ∈ l ∨ t ∈ s := by
  induction s with
  | nil => intro l; simp
  | cons a s ih =>
    intro l
    rw [List.foldl_cons, ih, insR_mem, List.mem_cons]
    constructor
    · rintro ((h | h) | h)
      · exact .inr (.inl h)
      · exact .inl h
      · exact .inr (.inr h)
    · rintro (h | h | h)
      · exact .inl (.inr h)
      · exact .inl (.inl h)
      · exact .inr h
theorem fold_inst_mem (t : Int) (fs : List Freq) : ∀ l : List Int, t ∈ fs.foldl instF l ↔ t ∈ l ∨ ∃ f ∈ fs, t ∈ startsI f := by
  induction fs with
  | nil => intro l; simp
  | cons f fs ih =>
    intro l
    rw [List.foldl_cons, ih]
    unfold instF
    rw [fold_ins_mem]
    simp only [List.mem_cons, exists_eq_or_imp]
    constructor
    · rintro ((h | h) | h)
      · exact .inl h
      · exact .inr (.inl h)
      · exact .inr (.inr h)
    · rintro (h | h | h)
      · exact .inl (.inl h)
      · exact .inl (.inr h)
      · exact .inr h
theorem instI_mem (fs : List Freq) (i t : Int) : t ∈ instI fs i ↔ ∃ f ∈ fs, f.trip = i ∧ t ∈ startsI f := by
  unfold instI
  rw [fold_inst_mem]
  simp only [List.not_mem_nil, false_or, List.mem_filter, decide_eq_true_eq]
  constructor
  · rintro ⟨f, ⟨h1, h2⟩, h3⟩; exact ⟨f, h1, h2, h3⟩
  · rintro ⟨f, h1, h2, h3⟩; exact ⟨f, ⟨h1, h2⟩, h3⟩
theorem instI_range (fs : List Freq) (i t : Int) (h : t ∈ instI fs i) : 0 ≤ t ∧ t ≤ 172800 := by
  obtain ⟨f, _, _, h3⟩ := (instI_mem fs i t).1 h
  exact startsI_range f t h3
theorem instI_len (fs : List Freq) (hf : fs.length ≤ 1000) (i : Int) : (instI fs i).length ≤ 172800000 := by
  rw [instI_K]; exact instK_len fs i _ hf
theorem fcallsK_len (l : List Kall) (s : Int) : (fcallsK l s).length ≤ l.length := by
  unfold fcallsK
  split <;> simp
theorem tripRuns_len (T : Timetable) (hf : T.freqs.length ≤ 1000) (day : Int) (i : Nat) : (tripRunsAt T day i).length ≤ 172800000 := by
  unfold tripRunsAt
  split
  · unfold tripRuns
    split
    · simp
    · split
      · simp
      · simp only [List.length_map, List.length_range]; exact instI_len _ hf _
  · simp
def dayRunsK (T : Timetable) (day : Int) (k : Nat) : List Run := (List.range k).flatMap (tripRunsAt T day)
theorem dayRunsK_succ (T : Timetable) (day : Int) (k : Nat) : dayRunsK T day (k + 1) = dayRunsK T day k ++ tripRunsAt T day k := by
  unfold dayRunsK; rw [List.range_succ, List.flatMap_append]; simp
theorem dayRunsK_len (T : Timetable) (hf : T.freqs.length ≤ 1000) (day : Int) : ∀ k, (dayRunsK T day k).length ≤ 172800000 * k
  | 0 => by simp [dayRunsK]
  | k + 1 => by
    rw [dayRunsK_succ, List.length_append]
    have := dayRunsK_len T hf day k
    have := tripRuns_len T hf day k
    omega
theorem dayRuns_K (T : Timetable) (day : Int) : dayRuns T day = dayRunsK T day T.trips.length := rfl
theorem dayRuns_len (T : Timetable) (hT : FewP T) (day : Int) : (dayRuns T day).length ≤ 6912000000 := by
  rw [dayRuns_K]
  have := dayRunsK_len T (by have := hT.freqs; omega) day T.trips.length
  have := hT.trips
  omega
theorem daysRuns_succ (T : Timetable) (day : Int) (n : Nat) : daysRuns T day (n + 1) = daysRuns T day n ++ dayRuns T (day + n) := by
  unfold daysRuns; rw [List.range_succ, List.flatMap_append]; simp
theorem daysRuns_len (T : Timetable) (hT : FewP T) (day : Int) : ∀ n, (daysRuns T day n).length ≤ 6912000000 * n
  | 0 => by simp [daysRuns]
  | n + 1 => by
    rw [daysRuns_succ, List.length_append]
    have := daysRuns_len T hT day n
    have := dayRuns_len T hT (day + n)
    omega
theorem room80 (l : List PV) (h : l.length ≤ 1000000000000) : l.length * 80 ≤ roomBound ∧ 0 < 80 := ⟨by unfold roomBound; omega, by decide⟩

/-! ### by the document -/
set_option maxHeartbeats 1000000 in
theorem insts_ref (T : Timetable) (hT : FewP T) (hok : T.Ok) (day : Int) (i : Nat) (x : Trip) (hx : T.trips[i]? = some x) (rec16) (s : List Int) (hs : ∀ t ∈ s, 0 ≤ t ∧ t ≤ 172800) (hsl : s.length ≤ 172800000) (o : List Run) (ho : o.length ≤ 100000000000) :
    lpS.run (ref25_Day_L1 lpS rec16) (day, (i : Int), s.map iv, 0, tlT T (o.map Run.pv, ())) = rec16 (day, IntKind.i64.wrap ((i : Int) + 1), tlT T ((o ++ (List.range s.length).map fun (k : Nat) => runOf x i day k (fcallsK x.calls (s.getD k 0))).map Run.pv, ())) := by
  have hxm : x ∈ T.trips := List.mem_of_getElem? hx
  have hxok := hok.trips.2 x hxm
  have h40 := hT.small x hxm
  refine loop_until (fun k => (day, (i : Int), s.map iv, (k : Int), tlT T ((o ++ (List.range k).map fun (k : Nat) => runOf x i day k (fcallsK x.calls (s.getD k 0))).map Run.pv, ()))) s.length (fun k hk rec => ?_) (fun rec => ?_) ?_ ?_
  · have h1 : (k : Int) < (s.length : Int) := by omega
    have ci : ∀ n : Int, cell (iv n) 0 = .int .i64 n := fun _ => rfl
    have hr := hs s[k] (List.getElem_mem hk)
    have hcl := fcallsK_len x.calls s[k]
    have hgd : s.getD k 0 = s[k] := getD_get s k hk
    have hnext : (o ++ (List.range (k + 1)).map fun (k : Nat) => runOf x i day k (fcallsK x.calls (s.getD k 0))).map Run.pv = (o ++ (List.range k).map fun (k : Nat) => runOf x i day k (fcallsK x.calls (s.getD k 0))).map Run.pv ++ [(runOf x i day k (fcallsK x.calls s[k])).pv] := by
      simp only [List.range_succ, List.map_append, List.map_cons, List.map_nil, hgd, List.append_assoc]
    have hroom := room80 ((o ++ (List.range k).map fun (k : Nat) => runOf x i day k (fcallsK x.calls (s.getD k 0))).map Run.pv ++ [.agg [cell (runOf x i day k (fcallsK x.calls s[k])).pv 0, cell (runOf x i day k (fcallsK x.calls s[k])).pv 1, cell (runOf x i day k (fcallsK x.calls s[k])).pv 2, cell (runOf x i day k (fcallsK x.calls s[k])).pv 3, cell (runOf x i day k (fcallsK x.calls s[k])).pv 4, cell (runOf x i day k (fcallsK x.calls s[k])).pv 5, cell (runOf x i day k (fcallsK x.calls s[k])).pv 6, cell (runOf x i day k (fcallsK x.calls s[k])).pv 7]]) (by simp; omega)
    simp only [ref25_Day_L1, tlT, decide_eq_true_eq, List.length_map, h1, if_true, idxP_nat, ivs_get, List.getElem?_map, List.getElem?_eq_getElem hk, hx, Option.map_some, bind_some', ci, asInt, trip0, trip1, trip2, trip3, trip4, tripE, rcalls_eq x hxok s[k] hr h40, asTup, asSl, List.length_cons, List.length_nil, Nat.reduceAdd, List.getD_cons_zero, List.getD_cons_succ, ttE, run_ref T i x hx day k _ (show (fcallsK x.calls s[k]).length ≤ 1000 by omega), runA, if_pos hroom, wrap_nat (show k < 9223372036854775807 by omega)]
    rw [hnext]
    rfl
  · simp only [ref25_Day_L1, tlT, decide_eq_true_eq, List.length_map, Int.lt_irrefl, if_false]
  · have : 172800001 < rounds := by decide
    omega
  · simp
set_option maxHeartbeats 1000000 in
theorem day_ref (T : Timetable) (hT : FewP T) (hok : T.Ok) (day : Int) : ref25_Day_M [T.pv, .int .i64 day] = some (.rs 8 ((dayRuns T day).map Run.pv)) := by
  have hcm : T.cals.length ≤ maxLen := Nat.le_trans hT.cals (by decide)
  have hem : T.excs.length ≤ maxLen := Nat.le_trans hT.excs (by decide)
  have hfm : T.freqs.length ≤ maxLen := Nat.le_trans hT.freqs (by decide)
  have hf1 : T.freqs.length ≤ 1000 := by have := hT.freqs; omega
  simp only [ref25_Day_M, ref25_Day, ttA, tt0, tt1, tt2, tt3, tt4, tt5, tt6, tt7, tt8, tt9, tt10, tt11, tt12, asSl, asInt, if_true, bind_some']
  rw [dayRuns_K]
  refine loop_until (fun i => (day, (i : Int), tlT T ((dayRunsK T day i).map Run.pv, ()))) T.trips.length (fun i hi rec => ?_) (fun rec => ?_) ?_ rfl
  · have h1 : (i : Int) < (T.trips.length : Int) := by omega
    have hx : T.trips[i]? = some T.trips[i] := List.getElem?_eq_getElem hi
    have hxm : T.trips[i] ∈ T.trips := List.getElem_mem hi
    have h40 := hT.small _ hxm
    have hlen := dayRunsK_len T hf1 day i
    have ht := hT.trips
    generalize hxx : T.trips[i] = x at *
    have hat : tripRunsAt T day i = tripRuns T i x day := by unfold tripRunsAt; rw [hx]
    rw [dayRunsK_succ, hat]
    simp only [ref25_Day_L2, tlT, decide_eq_true_eq, List.length_map, h1, if_true, idxP_nat, List.getElem?_map, hx, Option.map_some, bind_some', trip2, trip4, asInt, asSl, active_ref T.cals hcm T.excs hem, asBool]
    unfold tripRuns
    cases hA : activeB T.cals T.excs x.cal day with
    | false => simp only [Bool.not_false, if_true, List.append_nil, wrap_nat (show i < 9223372036854775807 by omega)]
    | true =>
      simp only [Bool.not_true, Bool.false_eq_true, if_false, Bool.true_eq_false, rep_ref18 T.freqs hfm, bind_some', asBool]
      cases hR : repB T.freqs i with
      | false =>
        have hroom := room80 ((dayRunsK T day i).map Run.pv ++ [.agg [cell (runOf x i day 0 x.calls).pv 0, cell (runOf x i day 0 x.calls).pv 1, cell (runOf x i day 0 x.calls).pv 2, cell (runOf x i day 0 x.calls).pv 3, cell (runOf x i day 0 x.calls).pv 4, cell (runOf x i day 0 x.calls).pv 5, cell (runOf x i day 0 x.calls).pv 6, cell (runOf x i day 0 x.calls).pv 7]]) (by simp; omega)
        simp only [Bool.not_false, if_true, ttE, run_ref T i x hx day 0 _ (show x.calls.length ≤ 1000 by omega), bind_some', runA, if_pos hroom, wrap_nat (show i < 9223372036854775807 by omega), List.map_append, List.map_cons, List.map_nil]
        rfl
      | true =>
        simp only [Bool.not_true, Bool.false_eq_true, if_false, Bool.true_eq_false, inst_ref T.freqs hf1, bind_some']
        have := insts_ref T hT hok day i x hx rec (instI T.freqs i) (fun t ht => instI_range _ _ t ht) (instI_len _ hf1 _) (dayRunsK T day i) (by omega)
        rw [wrap_nat (show i < 9223372036854775807 by omega)] at this
        exact this
  · simp only [ref25_Day_L2, tlT, decide_eq_true_eq, List.length_map, Int.lt_irrefl, if_false]
  · have := hT.trips
    have : 41 < rounds := by decide
    omega

/-! ### by the program -/
theorem scan_mono {R : Type} (g : Nat → Nat) (hg : ∀ k, g k ≤ g (k + 1)) (h0 : g 0 ≤ 1024) (r : R) : ∀ n, (List.range n).findSome? (fun k => if g (k + 1) > 1024 then some r else none) = if g n > 1024 then some r else none
  | 0 => by simp; omega
  | n + 1 => by
    rw [List.range_succ, List.findSome?_append, scan_mono g hg h0 r n]
    have := hg n
    by_cases h : g n > 1024
    · rw [if_pos h, if_pos (by omega)]; rfl
    · rw [if_neg h]; simp
theorem mono_all (g : Nat → Nat) (hg : ∀ k, g k ≤ g (k + 1)) (h0 : g 0 ≤ 1024) {R : Type} (r : R) (n : Nat) (h : ∀ j, j < n → (if g (j + 1) > 1024 then some r else none) = none) : g n ≤ 1024 := by
  cases n with
  | zero => exact h0
  | succ n =>
    have := h n (by omega)
    split at this
    · cases this
    · omega
def tooMany : PV := .tup [.rs 8 [], .int .i64 5]
def lastI : Nat → Int
  | 0 => 0
  | k + 1 => k
def lastC (x : Trip) (day : Int) (s : List Int) : Nat → List PV
  | 0 => []
  | k + 1 => ((fcallsK x.calls (s.getD k 0)).map (shK (dayS day))).map Kall.pv
theorem L1_end (rec19 rec36) (day n to day' nt i : Int) (es : List PV) (c0 c1 c2 c3 c4 : PV) (a b c : Int) (id : Bytes) (r : Int) (f cn : Bool) (cs : List PV) (z0 z1 z2 z3 z4 z5 z6 z7 z8 z9 : List PV) (y0 y1 y2 : Int) (ov : List PV) :
    runs_days_L1 lpS rec19 (day, es, n, n, to, day', nt, i, c0, c1, c2, c3, c4, a, b, c, id, r, f, cn, cs, z0, z1, z2, z3, z4, z5, z6, z7, z8, z9, y0, y1, y2, ov, ()) rec36 = if decide ((ov.length : Int) > 1024) = true then some (.tup [.rs 8 [], .int .i64 5]) else rec19 (to, day', nt, IntKind.i64.wrap (i + 1), z0, z1, z2, z3, z4, z5, z6, z7, z8, z9, y0, y1, y2, ov, ()) := by
  have hn : ¬ decide (n < n) = true := by simp
  unfold runs_days_L1
  exact if_neg hn
theorem L1_round (rec19 rec36) (day n k to day' nt i : Int) (es : List PV) (c0 c1 c2 c3 c4 : PV) (a b c : Int) (id : Bytes) (r : Int) (f cn : Bool) (cs : List PV) (z0 z1 z2 z3 z4 z5 z6 z7 z8 z9 : List PV) (y0 y1 y2 : Int) (ov : List PV)
    (hk : k < n) (p : PV) (hp : idxP es k = some p) (t : Int) (ht : cell p 0 = .int .i64 t) (fc sc : List PV) (e : Int) (hf : frequency_Calls_M [.agg [c0, c1, c2, c3, c4], .int .i64 t] = some (.tup [.rs 5 fc, .int .i64 e]))
    (hs : call_Shift_M [.rs 5 fc, .int .i64 (IntKind.i64.wrap (day * 86400))] = some (.rs 5 sc)) (hroom : (ov ++ [PV.agg [.int .i64 a, .int .i64 b, .int .i64 k, .str id, .int .i64 r, .bool f, .bool cn, .rs 5 sc]]).length * 80 ≤ roomBound ∧ 0 < 80) :
    runs_days_L1 lpS rec19 (day, es, n, k, to, day', nt, i, c0, c1, c2, c3, c4, a, b, c, id, r, f, cn, cs, z0, z1, z2, z3, z4, z5, z6, z7, z8, z9, y0, y1, y2, ov, ()) rec36 =
      if (!decide (((ov ++ [PV.agg [.int .i64 a, .int .i64 b, .int .i64 k, .str id, .int .i64 r, .bool f, .bool cn, .rs 5 sc]]).length : Int) ≤ 1024)) = true then (if decide (((ov ++ [PV.agg [.int .i64 a, .int .i64 b, .int .i64 k, .str id, .int .i64 r, .bool f, .bool cn, .rs 5 sc]]).length : Int) > 1024) = true then some (.tup [.rs 8 [], .int .i64 5]) else rec19 (to, day', nt, IntKind.i64.wrap (i + 1), z0, z1, z2, z3, z4, z5, z6, z7, z8, z9, y0, y1, y2, ov ++ [PV.agg [.int .i64 a, .int .i64 b, .int .i64 k, .str id, .int .i64 r, .bool f, .bool cn, .rs 5 sc]], ()))
      else rec36 (day, es, n, IntKind.i64.wrap (k + 1), to, day', nt, i, c0, c1, c2, c3, c4, a, b, k, id, r, f, cn, sc, z0, z1, z2, z3, z4, z5, z6, z7, z8, z9, y0, y1, y2, ov ++ [PV.agg [.int .i64 a, .int .i64 b, .int .i64 k, .str id, .int .i64 r, .bool f, .bool cn, .rs 5 sc]], ()) := by
  have hkd : decide (k < n) = true := decide_eq_true hk
  simp only [runs_days_L1, hkd, if_true, hp, bind_some', ht, hf, hs, asTup, asSl, asInt, List.length_cons, List.length_nil, Nat.reduceAdd, List.getD_cons_zero, List.getD_cons_succ, if_pos hroom]
set_option maxHeartbeats 1000000 in
theorem insts_prog (T : Timetable) (hT : FewP T) (hok : T.Ok) (to day : Int) (i : Nat) (x : Trip) (hx : T.trips[i]? = some x) (rec19) (s : List Int) (hs : ∀ t ∈ s, 0 ≤ t ∧ t ≤ 172800) (hsl : s.length ≤ 172800000) (o : List Run) (ho : o.length ≤ 1024) :
    lpS.run (runs_days_L1 lpS rec19) (day, s.map iv, (s.length : Int), 0, to, day, (T.trips.length : Int), (i : Int), cell x.pv 0, cell x.pv 1, cell x.pv 2, cell x.pv 3, cell x.pv 4, (i : Int), day, 0, x.id, x.route, x.free, false, [], tlT T (o.map Run.pv, ())) =
      if o.length + s.length > 1024 then some tooMany else rec19 (to, day, (T.trips.length : Int), IntKind.i64.wrap ((i : Int) + 1), tlT T ((o ++ (List.range s.length).map fun (k : Nat) => runOf x i day k (fcallsK x.calls (s.getD k 0))).map Run.pv, ())) := by
  have hxm : x ∈ T.trips := List.mem_of_getElem? hx
  have hxok := hok.trips.2 x hxm
  have h40 := hT.small x hxm
  refine (loop_scan_inv (fun k => (day, s.map iv, (s.length : Int), (k : Int), to, day, (T.trips.length : Int), (i : Int), cell x.pv 0, cell x.pv 1, cell x.pv 2, cell x.pv 3, cell x.pv 4, (i : Int), day, lastI k, x.id, x.route, x.free, false, lastC x day s k, tlT T ((o ++ (List.range k).map fun (k : Nat) => runOf x i day k (fcallsK x.calls (s.getD k 0))).map Run.pv, ()))) s.length (fun k => if (fun j => o.length + j) (k + 1) > 1024 then some (some tooMany) else none)
    (fin := rec19 (to, day, (T.trips.length : Int), IntKind.i64.wrap ((i : Int) + 1), tlT T ((o ++ (List.range s.length).map fun (k : Nat) => runOf x i day k (fcallsK x.calls (s.getD k 0))).map Run.pv, ()))) (fun k hk hbad rec => ?_) (fun hbad rec => ?_) ?_ ?_).trans ?_
  · have hle : o.length + k ≤ 1024 := mono_all (fun j => o.length + j) (fun k => by simp) ho (some tooMany) k hbad
    have h1 : (k : Int) < (s.length : Int) := by omega
    have ci : ∀ n : Int, cell (iv n) 0 = .int .i64 n := fun _ => rfl
    have hr := hs s[k] (List.getElem_mem hk)
    have hcl := fcallsK_len x.calls s[k]
    have hgd : s.getD k 0 = s[k] := getD_get s k hk
    have hi64 : I64 s[k] := (i64_iff _).2 (by omega)
    have hnext : (o ++ (List.range (k + 1)).map fun (k : Nat) => runOf x i day k (fcallsK x.calls (s.getD k 0))).map Run.pv = (o ++ (List.range k).map fun (k : Nat) => runOf x i day k (fcallsK x.calls (s.getD k 0))).map Run.pv ++ [(runOf x i day k (fcallsK x.calls s[k])).pv] := by
      simp only [List.range_succ, List.map_append, List.map_cons, List.map_nil, hgd, List.append_assoc]
    have hlC : lastC x day s (k + 1) = ((fcallsK x.calls s[k]).map (shK (dayS day))).map Kall.pv := by simp only [lastC, hgd]
    have hlen : ((o ++ (List.range k).map fun (k : Nat) => runOf x i day k (fcallsK x.calls (s.getD k 0))).map Run.pv ++ [PV.agg [.int .i64 (i : Int), .int .i64 day, .int .i64 (k : Int), .str x.id, .int .i64 x.route, .bool x.free, .bool false, .rs 5 (((fcallsK x.calls s[k]).map (shK (IntKind.i64.wrap (day * 86400)))).map Kall.pv)]]).length = o.length + (k + 1) := by
      rw [List.length_append, List.length_map, List.length_append, List.length_map, List.length_range]; rfl
    have hroom := room80 ((o ++ (List.range k).map fun (k : Nat) => runOf x i day k (fcallsK x.calls (s.getD k 0))).map Run.pv ++ [PV.agg [.int .i64 (i : Int), .int .i64 day, .int .i64 (k : Int), .str x.id, .int .i64 x.route, .bool x.free, .bool false, .rs 5 (((fcallsK x.calls s[k]).map (shK (IntKind.i64.wrap (day * 86400)))).map Kall.pv)]]) (by rw [hlen]; omega)
    rw [hnext, hlC]
    generalize (o ++ (List.range k).map fun (k : Nat) => runOf x i day k (fcallsK x.calls (s.getD k 0))).map Run.pv = ov at hlen hroom
    refine (L1_round rec19 rec day s.length k to day T.trips.length i (s.map iv) (cell x.pv 0) (cell x.pv 1) (cell x.pv 2) (cell x.pv 3) (cell x.pv 4) i day (lastI k) x.id x.route x.free false (lastC x day s k) (T.stops.map Stop.pv) (T.routes.map Route.pv) (T.cals.map Cal.pv) (T.excs.map Exc.pv) (T.trips.map Trip.pv) (T.freqs.map Freq.pv) (T.thrs.map Thr.pv) (T.guars.map Guar.pv) (T.paths.map Path.pv) (T.prods.map Prdt.pv) T.disc T.within T.cap ov h1 (iv s[k]) (by rw [idxP_nat, ivs_get, List.getElem?_eq_getElem hk]; rfl) s[k] rfl _ _ _ (fcalls_eq x hxok s[k] hi64 h40) (shift_prog _ _ (show (fcallsK x.calls s[k]).length ≤ 1000 by omega)) hroom).trans ?_
    rw [wrap_nat (show k < 9223372036854775807 by omega)]
    simp only [hlen]
    by_cases hb : o.length + (k + 1) > 1024
    · rw [if_pos (show (!decide (((o.length + (k + 1) : Nat) : Int) ≤ 1024)) = true by simp; omega), if_pos (show decide (((o.length + (k + 1) : Nat) : Int) > 1024) = true from decide_eq_true (by omega)), if_pos hb]
      rfl
    · rw [if_neg (show ¬ (!decide (((o.length + (k + 1) : Nat) : Int) ≤ 1024)) = true by simp; omega), if_neg hb]
      rfl
  · have hle : o.length + s.length ≤ 1024 := mono_all (fun j => o.length + j) (fun k => by simp) ho (some tooMany) s.length hbad
    have hlen : ((o ++ (List.range s.length).map fun (k : Nat) => runOf x i day k (fcallsK x.calls (s.getD k 0))).map Run.pv).length = o.length + s.length := by simp
    refine (L1_end rec19 rec day s.length to day T.trips.length i (s.map iv) (cell x.pv 0) (cell x.pv 1) (cell x.pv 2) (cell x.pv 3) (cell x.pv 4) i day (lastI s.length) x.id x.route x.free false (lastC x day s s.length) (T.stops.map Stop.pv) (T.routes.map Route.pv) (T.cals.map Cal.pv) (T.excs.map Exc.pv) (T.trips.map Trip.pv) (T.freqs.map Freq.pv) (T.thrs.map Thr.pv) (T.guars.map Guar.pv) (T.paths.map Path.pv) (T.prods.map Prdt.pv) T.disc T.within T.cap _).trans ?_
    rw [hlen, if_neg (show ¬ decide (((o.length + s.length : Nat) : Int) > 1024) = true by rw [decide_eq_true_eq]; omega)]
    rfl
  · have : 172800001 < rounds := by decide
    omega
  · simp only [List.range_zero, List.map_nil, List.append_nil, lastI, lastC, Int.natCast_zero]
  · rw [scan_mono (fun j => o.length + j) (fun k => by simp) ho]
    by_cases hb : o.length + s.length > 1024
    · rw [if_pos hb, if_pos hb]; rfl
    · rw [if_neg hb, if_neg hb]; rfl
set_option maxHeartbeats 1000000 in
theorem day_prog (T : Timetable) (hT : FewP T) (hok : T.Ok) (to day : Int) (rec17) (o : List Run) (ho : o.length ≤ 1024) :
    lpS.run (runs_days_L2 lpS rec17) (to, day, (T.trips.length : Int), 0, tlT T (o.map Run.pv, ())) = if o.length + (dayRuns T day).length > 1024 then some tooMany else rec17 (to, IntKind.i64.wrap (day + 1), tlT T ((o ++ dayRuns T day).map Run.pv, ())) := by
  have hcm : T.cals.length ≤ maxLen := Nat.le_trans hT.cals (by decide)
  have hem : T.excs.length ≤ maxLen := Nat.le_trans hT.excs (by decide)
  have hfm : T.freqs.length ≤ maxLen := Nat.le_trans hT.freqs (by decide)
  have hf1 : T.freqs.length ≤ 1000 := by have := hT.freqs; omega
  have hmono : ∀ k, (fun j => o.length + (dayRunsK T day j).length) k ≤ (fun j => o.length + (dayRunsK T day j).length) (k + 1) := fun k => by
    simp only [dayRunsK_succ, List.length_append]; omega
  have h00 : (fun j => o.length + (dayRunsK T day j).length) 0 ≤ 1024 := by simpa [dayRunsK] using ho
  rw [dayRuns_K]
  refine (loop_scan_inv (fun i => (to, day, (T.trips.length : Int), (i : Int), tlT T ((o ++ dayRunsK T day i).map Run.pv, ()))) T.trips.length (fun k => if (fun j => o.length + (dayRunsK T day j).length) (k + 1) > 1024 then some (some tooMany) else none)
    (fin := rec17 (to, IntKind.i64.wrap (day + 1), tlT T ((o ++ dayRunsK T day T.trips.length).map Run.pv, ()))) (fun i hi hbad rec => ?_) (fun hbad rec => ?_) ?_ ?_).trans ?_
  · have hle : o.length + (dayRunsK T day i).length ≤ 1024 := mono_all _ hmono h00 (some tooMany) i hbad
    have h1 : (i : Int) < (T.trips.length : Int) := by omega
    have hx : T.trips[i]? = some T.trips[i] := List.getElem?_eq_getElem hi
    have hxm : T.trips[i] ∈ T.trips := List.getElem_mem hi
    have h40 := hT.small _ hxm
    have ht := hT.trips
    generalize hxx : T.trips[i] = x at *
    have hat : tripRunsAt T day i = tripRuns T i x day := by unfold tripRunsAt; rw [hx]
    have hl0 : ((o ++ dayRunsK T day i).map Run.pv).length = o.length + (dayRunsK T day i).length := by simp
    simp only [dayRunsK_succ, hat]
    simp only [runs_days_L2, tlT, decide_eq_true_eq, h1, if_true, idxP_nat, List.getElem?_map, hx, Option.map_some, bind_some', trip0, trip1, trip2, trip3, trip4, asInt, asSl, asStr, active_prog T.cals hcm T.excs hem, asBool, hl0]
    unfold tripRuns
    cases hA : activeB T.cals T.excs x.cal day with
    | false =>
      simp only [Bool.not_false, if_true, List.append_nil, List.length_nil, Nat.add_zero, wrap_nat (show i < 9223372036854775807 by omega)]
      rw [if_neg (show ¬ ((o.length + (dayRunsK T day i).length : Nat) : Int) > 1024 by omega), if_neg (by omega)]
      rfl
    | true =>
      simp only [Bool.not_true, Bool.false_eq_true, if_false, Bool.true_eq_false, rep_prog T.freqs hfm, bind_some', asBool]
      cases hR : repB T.freqs i with
      | false =>
        have hl1 : ((o ++ dayRunsK T day i).map Run.pv ++ [PV.agg [.int .i64 (i : Int), .int .i64 day, .int .i64 0, .str x.id, .int .i64 x.route, .bool x.free, .bool false, .rs 5 ((x.calls.map (shK (IntKind.i64.wrap (day * 86400)))).map Kall.pv)]]).length = o.length + (dayRunsK T day i).length + 1 := by
          rw [List.length_append, List.length_map, List.length_append]; rfl
        have hroom := room80 ((o ++ dayRunsK T day i).map Run.pv ++ [PV.agg [.int .i64 (i : Int), .int .i64 day, .int .i64 0, .str x.id, .int .i64 x.route, .bool x.free, .bool false, .rs 5 ((x.calls.map (shK (IntKind.i64.wrap (day * 86400)))).map Kall.pv)]]) (by rw [hl1]; omega)
        have hnext : (o ++ (dayRunsK T day i ++ [runOf x i day 0 x.calls])).map Run.pv = (o ++ dayRunsK T day i).map Run.pv ++ [(runOf x i day 0 x.calls).pv] := by simp
        simp only [Bool.not_false, if_true, shift_prog _ _ (show x.calls.length ≤ 1000 by omega), bind_some', if_pos hroom, wrap_nat (show i < 9223372036854775807 by omega), hnext]
        simp only [hl1, List.length_append, List.length_cons, List.length_nil, Nat.zero_add]
        by_cases hb : o.length + (dayRunsK T day i).length + 1 > 1024
        · rw [if_pos (show decide (((o.length + (dayRunsK T day i).length + 1 : Nat) : Int) > 1024) = true from decide_eq_true (by omega)), if_pos (show o.length + ((dayRunsK T day i).length + 1) > 1024 by omega)]
          rfl
        · rw [if_neg (show ¬ decide (((o.length + (dayRunsK T day i).length + 1 : Nat) : Int) > 1024) = true by rw [decide_eq_true_eq]; omega), if_neg (show ¬ o.length + ((dayRunsK T day i).length + 1) > 1024 by omega)]
          rfl
      | true =>
        simp only [Bool.not_true, Bool.false_eq_true, if_false, if_true, Bool.true_eq_false, inst_prog T.freqs hf1, asSl, bind_some', List.length_map, List.length_append, List.length_range]
        have hl2 : (o ++ dayRunsK T day i).length ≤ 1024 := by simp; omega
        have := insts_prog T hT hok to day i x hx rec (instI T.freqs i) (fun t ht => instI_range _ _ t ht) (instI_len _ hf1 _) (o ++ dayRunsK T day i) hl2
        simp only [tlT, trip0, trip1, trip2, trip3, trip4, List.length_append] at this
        rw [this, wrap_nat (show i < 9223372036854775807 by omega), List.append_assoc]
        by_cases hb : o.length + (dayRunsK T day i).length + (instI T.freqs i).length > 1024
        · rw [if_pos hb, if_pos (show o.length + ((dayRunsK T day i).length + (instI T.freqs i).length) > 1024 by omega)]
          rfl
        · rw [if_neg hb, if_neg (show ¬ o.length + ((dayRunsK T day i).length + (instI T.freqs i).length) > 1024 by omega)]
          rfl
  · simp only [runs_days_L2, tlT, decide_eq_true_eq, Int.lt_irrefl, if_false]
  · have := hT.trips
    have : 41 < rounds := by decide
    omega
  · simp [dayRunsK]
  · rw [scan_mono _ hmono h00]
    by_cases hb : o.length + (dayRunsK T day T.trips.length).length > 1024
    · rw [if_pos hb, if_pos hb]; rfl
    · rw [if_neg hb, if_neg hb]; rfl
/-- the answer for some days -/
def daysPV (l : List Run) : PV := if l.length > 1024 then tooMany else .tup [.rs 8 (l.map Run.pv), .int .i64 0]
theorem days_prog (T : Timetable) (hT : FewP T) (hok : T.Ok) (day : Int) (n : Nat) (h0 : 0 ≤ day) (h1 : day + n ≤ 100000) (to : Int) (hto : to = day + n - 1) : runs_days_M [T.pv, .int .i64 day, .int .i64 to] = some (daysPV (daysRuns T day n)) := by
  simp only [runs_days_M, runs_days, ttA, tt0, tt1, tt2, tt3, tt4, tt5, tt6, tt7, tt8, tt9, tt10, tt11, tt12, asSl, asInt, if_true, bind_some']
  have hmono : ∀ k, (fun j => (daysRuns T day j).length) k ≤ (fun j => (daysRuns T day j).length) (k + 1) := fun k => by
    simp only [daysRuns_succ, List.length_append]; omega
  have h00 : (fun j => (daysRuns T day j).length) 0 ≤ 1024 := by simp [daysRuns]
  refine (loop_scan_inv (fun (k : Nat) => (to, day + (k : Int), tlT T ((daysRuns T day k).map Run.pv, ()))) n (fun k => if (fun j => (daysRuns T day j).length) (k + 1) > 1024 then some (some tooMany) else none)
    (fin := some (.tup [.rs 8 ((daysRuns T day n).map Run.pv), .int .i64 0])) (fun k hk hbad rec => ?_) (fun hbad rec => ?_) ?_ ?_).trans ?_
  · have hle : (daysRuns T day k).length ≤ 1024 := mono_all _ hmono h00 (some tooMany) k hbad
    have hc : day + (k : Int) ≤ to := by omega
    have := day_prog T hT hok to (day + k) rec (daysRuns T day k) hle
    simp only [tlT] at this
    simp only [runs_days_L3, tlT, decide_eq_true_eq, hc, if_true, List.length_map, this, daysRuns_succ, List.length_append]
    rw [wrap_in (show -9223372036854775808 ≤ day + (k : Int) + 1 by omega) (by omega), show day + (k : Int) + 1 = day + ((k + 1 : Nat) : Int) by omega]
    by_cases hb : (daysRuns T day k).length + (dayRuns T (day + k)).length > 1024
    · rw [if_pos hb, if_pos hb]; rfl
    · rw [if_neg hb, if_neg hb]; rfl
  · have hc : ¬ day + (n : Int) ≤ to := by omega
    simp only [runs_days_L3, tlT, decide_eq_true_eq, hc, if_false]
  · have : 100001 < rounds := by decide
    omega
  · simp [daysRuns, tlT]
  · rw [scan_mono _ hmono h00]
    unfold daysPV
    by_cases hb : (daysRuns T day n).length > 1024
    · rw [if_pos hb, if_pos hb]; rfl
    · rw [if_neg hb, if_neg hb]; rfl
end Go.Ab.Tt
