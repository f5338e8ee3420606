/- Runs and links as plain data; the runs of a day and of some days, and what their keys are. Plain laws. -/
import Derived.Test.YtinbhofpofcmeaaGreatDoorCals
import Derived.Test.YtinbhofpofcmeaaGreatDoorRnA
namespace Go.Ab.Tt
set_option linter.unusedVariables false

structure Lnk where
  a : Int
  ac : Int
  b : Int
  bc : Int
  stay : Bool
  deriving DecidableEq
def Lnk.pv (x : Lnk) : PV := .agg [.int .i64 x.a, .int .i64 x.ac, .int .i64 x.b, .int .i64 x.bc, .bool x.stay]

def shK (by' : Int) (k : Kall) : Kall := { k with arr := IntKind.i64.wrap (k.arr + by'), dep := IntKind.i64.wrap (k.dep + by') }
def dayS (day : Int) : Int := IntKind.i64.wrap (day * 86400)
def runOf (x : Trip) (i day k : Int) (cs : List Kall) : Run := ⟨i, day, k, x.id, x.route, x.free, false, cs.map (shK (dayS day))⟩
/-- the starts of a frequency -/
def startsI (f : Freq) : List Int := if soundB f = true then (List.range (cntF f).toNat).map fun (j : Nat) => f.t0 + (j : Int) * f.every else []
/-- the starts of a trip, in order -/
def instF (l : List Int) (f : Freq) : List Int := (startsI f).foldl (fun l t => insR t l) l
def instI (fs : List Freq) (i : Int) : List Int := (fs.filter fun f => decide (f.trip = i)).foldl instF []
/-- the calls of a trip that is started at a time -/
def fcallsK (l : List Kall) (s : Int) : List Kall := if callsE l s = 0 then l.map fun k => mvK k ((l.map Kall.dep).headD 0) s else []
def tripRuns (T : Timetable) (i : Nat) (x : Trip) (day : Int) : List Run :=
  if activeB T.cals T.excs x.cal day = false then [] else
  if repB T.freqs i = false then [runOf x i day 0 x.calls] else
  (List.range (instI T.freqs i).length).map fun (k : Nat) => runOf x i day k (fcallsK x.calls ((instI T.freqs i).getD k 0))
def tripRunsAt (T : Timetable) (day : Int) (i : Nat) : List Run := match T.trips[i]? with
  | some x => tripRuns T i x day
  | none => []
def dayRuns (T : Timetable) (day : Int) : List Run := (List.range T.trips.length).flatMap (tripRunsAt T day)
def daysRuns (T : Timetable) (day : Int) (n : Nat) : List Run := (List.range n).flatMap fun (d : Nat) => dayRuns T (day + d)

theorem tripRuns_mem {T : Timetable} {i : Nat} {x : Trip} {day : Int} {r : Run} (h : r ∈ tripRuns T i x day) : ∃ (k : Nat) (cs : List Kall), r = runOf x i day k cs := by
  unfold tripRuns at h
  split at h
  · cases h
  · split at h
    · exact ⟨0, _, by simpa using h⟩
    · obtain ⟨k, _, rfl⟩ := List.mem_map.1 h
      exact ⟨k, _, rfl⟩
theorem at_mem {T : Timetable} {i : Nat} {day : Int} {r : Run} (h : r ∈ tripRunsAt T day i) : ∃ (x : Trip) (k : Nat) (cs : List Kall), T.trips[i]? = some x ∧ r = runOf x i day k cs := by
  unfold tripRunsAt at h
  split at h
  · rename_i x hx
    obtain ⟨k, cs, e⟩ := tripRuns_mem h
    exact ⟨x, k, cs, hx, e⟩
  · cases h
def Run.key (r : Run) : Int × Int × Int := (r.trip, r.day, r.inst)
theorem tripRuns_keys (T : Timetable) (i : Nat) (x : Trip) (day : Int) : (tripRuns T i x day).Pairwise fun r s => r.inst ≠ s.inst := by
  unfold tripRuns
  split
  · exact List.Pairwise.nil
  · split
    · simp
    · rw [List.pairwise_map]
      refine List.Pairwise.imp_of_mem (R := fun a b => a ≠ b) (fun _ _ h => ?_) List.nodup_range
      simp only [runOf]
      omega
theorem at_keys (T : Timetable) (day : Int) (i : Nat) : (tripRunsAt T day i).Pairwise fun r s => r.inst ≠ s.inst := by
  unfold tripRunsAt
  split
  · exact tripRuns_keys ..
  · exact List.Pairwise.nil
theorem dayRuns_keys (T : Timetable) (day : Int) : (dayRuns T day).Pairwise fun r s => r.key ≠ s.key := by
  unfold dayRuns
  rw [List.pairwise_flatMap]
  refine ⟨fun i _ => (at_keys T day i).imp fun h e => h (congrArg (fun k => k.2.2) e), ?_⟩
  refine List.Pairwise.imp_of_mem (R := fun a b => a ≠ b) (fun {a b} _ _ h r hr s hs e => ?_) List.nodup_range
  obtain ⟨x, k, cs, _, rfl⟩ := at_mem hr
  obtain ⟨y, k', cs', _, rfl⟩ := at_mem hs
  simp only [Run.key, runOf, Prod.mk.injEq] at e
  omega
theorem dayRuns_day {T : Timetable} {day : Int} {r : Run} (h : r ∈ dayRuns T day) : r.day = day := by
  obtain ⟨i, _, hr⟩ := List.mem_flatMap.1 h
  obtain ⟨x, k, cs, _, rfl⟩ := at_mem hr
  rfl
theorem daysRuns_keys (T : Timetable) (day : Int) (n : Nat) : (daysRuns T day n).Pairwise fun r s => r.key ≠ s.key := by
  unfold daysRuns
  rw [List.pairwise_flatMap]
  refine ⟨fun d _ => dayRuns_keys T _, ?_⟩
  refine List.Pairwise.imp_of_mem (R := fun a b => a ≠ b) (fun {a b} _ _ h r hr s hs e => ?_) List.nodup_range
  have h1 := dayRuns_day hr
  have h2 := dayRuns_day hs
  have : r.day = s.day := congrArg (fun k => k.2.1) e
  omega
theorem mem_day {T : Timetable} {day : Int} {r : Run} : r ∈ dayRuns T day ↔ ∃ (i : Nat) (x : Trip), T.trips[i]? = some x ∧ r.trip = i ∧ r ∈ tripRuns T i x day := by
  unfold dayRuns
  rw [List.mem_flatMap]
  constructor
  · rintro ⟨i, hi, hr⟩
    obtain ⟨x, k, cs, hx, e⟩ := at_mem hr
    unfold tripRunsAt at hr
    rw [hx] at hr
    exact ⟨i, x, hx, by rw [e]; rfl, hr⟩
  · rintro ⟨i, x, hx, _, hr⟩
    refine ⟨i, List.mem_range.2 (List.getElem?_eq_some_iff.1 hx).1, ?_⟩
    unfold tripRunsAt
    rw [hx]; exact hr
end Go.Ab.Tt

namespace Go.Ab.Tt
set_option maxRecDepth 100000
set_option linter.unusedVariables false
set_option linter.unusedSimpArgs false

/-! ### insertion -/
def shiftAt (l : List Int) (d : Int) (k : Nat) : List Int := l.take k ++ d :: l.drop k
theorem shiftAt_len (l : List Int) (d : Int) (k : Nat) (h : k ≤ l.length) : (shiftAt l d k).length = l.length + 1 := by
  simp [shiftAt]; omega
theorem shiftAt_low (l : List Int) (d : Int) (k j : Nat) (h : k ≤ l.length) (hj : j < k) : (shiftAt l d k)[j]? = l[j]? := by
  unfold shiftAt
  rw [List.getElem?_append_left (by simp; omega), List.getElem?_take_of_lt hj]
theorem shiftAt_at (l : List Int) (d : Int) (k : Nat) (h : k ≤ l.length) : (shiftAt l d k)[k]? = some d := by
  unfold shiftAt
  rw [List.getElem?_append_right (by simp; omega)]
  simp [Nat.min_eq_left h]
theorem shiftAt_set (l : List Int) (d x : Int) (k : Nat) (h : k ≤ l.length) : (shiftAt l d k).set k x = shiftAt l x k := by
  unfold shiftAt
  rw [List.set_append]
  simp [Nat.min_eq_left h]
theorem shiftAt_step (l : List Int) (k : Nat) (h : k < l.length) : shiftAt l l[k] (k + 1) = shiftAt l l[k] k := by
  unfold shiftAt
  rw [List.take_succ_eq_append_getElem h, List.drop_eq_getElem_cons h, List.append_assoc]
  rfl
theorem posR_gt (t : Int) (l : List Int) : ∀ n k, posR t l n ≤ k → k < n → l.getD k 0 > t
  | 0, k, _, h => absurd h (by omega)
  | n + 1, k, h1, h2 => by
    unfold posR at h1
    split at h1
    · rename_i hg
      by_cases e : k = n
      · subst e; exact hg
      · exact posR_gt t l n k h1 (by omega)
    · omega
theorem posR_stop (t : Int) (l : List Int) : ∀ n, posR t l n = 0 ∨ ∃ k, posR t l n = k + 1 ∧ ¬ l.getD k 0 > t
  | 0 => .inl rfl
  | n + 1 => by
    unfold posR
    split
    · exact posR_stop t l n
    · rename_i h; exact .inr ⟨n, rfl, h⟩
def shD (t : Int) (l : List Int) (k : Nat) : Int := if k = l.length then t else l.getD k 0
theorem ivs_get (l : List Int) (k : Nat) : (l.map iv)[k]? = l[k]?.map iv := List.getElem?_map ..
theorem ivs_set (l : List Int) (k : Nat) (x : Int) : (l.map iv).set k (.int .i64 x) = (l.set k x).map iv := by
  rw [List.map_set]; rfl
theorem wrap_sub1 (k : Nat) (h : k + 1 ≤ 9223372036854775807) : IntKind.i64.wrap (((k + 1 : Nat) : Int) - 1) = (k : Int) := by
  rw [wrap_in (by omega) (by omega)]; omega
theorem getD_get (l : List Int) (k : Nat) (h : k < l.length) : l.getD k 0 = l[k] := by simp [List.getD, List.getElem?_eq_getElem h]

theorem merge_loop (rec10) (t tr len i : Int) (es : List PV) (c0 c1 c2 : PV) (ev : Int) (l : List Int) (hl : l.length < 4611686018427387904) :
    lpS.run (frequency_Instances_L1 rec10) (t, (l.length : Int), t, tr, es, len, i, c0, c1, c2, .int .i64 ev, (l ++ [t]).map iv, ()) = rec10 (IntKind.i64.wrap (t + ev), tr, es, len, i, c0, c1, c2, .int .i64 ev, (insR t l).map iv, ()) := by
  have hp := posR_le t l l.length
  refine loop_until (fun j => (t, ((l.length - j : Nat) : Int), t, tr, es, len, i, c0, c1, c2, .int .i64 ev, (shiftAt l (shD t l (l.length - j)) (l.length - j)).map iv, ())) (l.length - posR t l l.length) (fun j hj rec => ?_) (fun rec => ?_) ?_ ?_
  · obtain ⟨k, hk⟩ : ∃ k, l.length - j = k + 1 := ⟨l.length - j - 1, by omega⟩
    have hkl : k < l.length := by omega
    have hgt : l[k] > t := by
      have := posR_gt t l l.length k (by omega) hkl
      rwa [getD_get l k hkl] at this
    have hlen := shiftAt_len l (shD t l (k + 1)) (k + 1) (by omega)
    have hlow := shiftAt_low l (shD t l (k + 1)) (k + 1) k (by omega) (by omega)
    have hat := shiftAt_at l (shD t l (k + 1)) (k + 1) (by omega)
    have hd : shD t l k = l[k] := by unfold shD; rw [if_neg (by omega), getD_get l k hkl]
    have hset := shiftAt_set l (shD t l (k + 1)) l[k] (k + 1) (by omega)
    rw [shiftAt_step l k hkl] at hset
    have e2 : l.length - (j + 1) = k := by omega
    have r1 : inRange (k : Int) (l.length + 1) := inRange_nat _ _ (by omega)
    have r2 : inRange ((k + 1 : Nat) : Int) (l.length + 1) := inRange_nat _ _ (by omega)
    simp only [hk, e2]
    simp only [frequency_Instances_L1, show decide (((k + 1 : Nat) : Int) > 0) = true by simp, cond_true, wrap_sub1 k (by omega), List.length_map, hlen, if_pos r1, if_pos r2, Int.toNat_natCast, ivs_get, hlow, List.getElem?_eq_getElem hkl, Option.map_some, bind_some', iv, cell, PV.cells, List.getD_cons_zero, asInt, if_true, show decide (l[k] > t) = true by simpa using hgt, hat]
    rw [ivs_set, hset, hd]
  · have e0 : l.length - (l.length - posR t l l.length) = posR t l l.length := by omega
    simp only [e0]
    generalize hpp : posR t l l.length = p at *
    have hlen := shiftAt_len l (shD t l p) p hp
    have hat := shiftAt_at l (shD t l p) p hp
    have hset := shiftAt_set l (shD t l p) t p hp
    have r1 : inRange (p : Int) (l.length + 1) := inRange_nat _ _ (by omega)
    have hfin : (insR t l).map iv = ((shiftAt l (shD t l p) p).map iv).set p (.int .i64 t) := by
      rw [ivs_set, hset]; unfold insR shiftAt; rw [hpp]
    rw [hfin]
    have stop : posR t l l.length = 0 ∨ ∃ k, posR t l l.length = k + 1 ∧ ¬ l.getD k 0 > t := posR_stop t l l.length
    rw [hpp] at stop
    rcases stop with h0 | ⟨k, hk, hng⟩
    · subst h0
      have r1' : inRange (0 : Int) (l.length + 1) := r1
      have hat' : (List.map iv (shiftAt l (shD t l 0) 0))[(0 : Int).toNat]? = some (iv (shD t l 0)) := by rw [show (0 : Int).toNat = 0 from rfl, ivs_get, hat]; rfl
      simp only [frequency_Instances_L1, Int.natCast_zero, show decide ((0 : Int) > 0) = false from rfl, cond_false, bind_some', Bool.false_eq_true, if_false, List.length_map, hlen, if_pos r1', hat', asInt, if_true]
      rfl
    · subst hk
      have hkl : k < l.length := by omega
      rw [getD_get l k hkl] at hng
      have hlow := shiftAt_low l (shD t l (k + 1)) (k + 1) k (by omega) (by omega)
      have r0 : inRange (k : Int) (l.length + 1) := inRange_nat _ _ (by omega)
      simp only [frequency_Instances_L1, show decide (((k + 1 : Nat) : Int) > 0) = true by simp, cond_true, wrap_sub1 k (by omega), List.length_map, hlen, if_pos r0, if_pos r1, Int.toNat_natCast, ivs_get, hlow, List.getElem?_eq_getElem hkl, Option.map_some, bind_some', iv, cell, PV.cells, List.getD_cons_zero, asInt, if_true, show decide (l[k] > t) = false by simpa using hng, Bool.false_eq_true, if_false, hat]
  · have h1 := rounds_gt
    have h2 : (4611686018427387904 : Nat) ≤ maxLen := by decide
    omega
  · simp [shiftAt, shD]

theorem startsI_sound (x : Freq) (h : soundB x = true) : startsI x = (List.range (cntF x).toNat).map fun (j : Nat) => x.t0 + (j : Int) * x.every := by unfold startsI; rw [if_pos h]
theorem startsI_un (x : Freq) (h : soundB x = false) : startsI x = [] := by unfold startsI; rw [if_neg (by simp [h])]
theorem startsI_len (x : Freq) : (startsI x).length ≤ 172800 := by
  unfold startsI
  split
  · rename_i h
    have := cnt_le x h
    simp; omega
  · simp
theorem fold_len (s : List Int) : ∀ l : List Int, (s.foldl (fun l t => insR t l) l).length = l.length + s.length := by
  induction s with
  | nil => intro l; rfl
  | cons t s ih => intro l; rw [List.foldl_cons, ih, insR_len, List.length_cons]; omega
theorem instF_len (l : List Int) (f : Freq) : (instF l f).length ≤ l.length + 172800 := by
  unfold instF
  rw [fold_len]
  have := startsI_len f
  omega
theorem insts_len (fs : List Freq) : ∀ l : List Int, (fs.foldl instF l).length ≤ l.length + 172800 * fs.length := by
  induction fs with
  | nil => intro l; simp
  | cons f fs ih =>
    intro l
    rw [List.foldl_cons]
    have h1 := ih (instF l f)
    have h2 := instF_len l f
    simp only [List.length_cons]
    omega
theorem starts_loop (rec3) (x : Freq) (h : soundB x = true) (tr len i : Int) (es : List PV) (l : List Int) (hl : l.length ≤ 1000000000) :
    lpS.run (frequency_Instances_L2 lpS rec3) (x.t0, tr, es, len, i, .int .i64 x.trip, .int .i64 x.t0, .int .i64 x.t1, .int .i64 x.every, l.map iv, ()) = rec3 (tr, es, len, IntKind.i64.wrap (i + 1), (instF l x).map iv, ()) := by
  have hc := cnt_le x h
  have hml := mul_le x h
  obtain ⟨h1, h2, h3, h4, h5⟩ := (sound_iff x).1 h
  have hst : ∀ k, k ≤ (cntF x).toNat → ((startsI x).take k).length = k := fun k hk => by rw [startsI_sound x h]; simp; omega
  refine loop_until (fun k => (x.t0 + (k : Int) * x.every, tr, es, len, i, .int .i64 x.trip, .int .i64 x.t0, .int .i64 x.t1, .int .i64 x.every, (((startsI x).take k).foldl (fun l t => insR t l) l).map iv, ())) (cntF x).toNat (fun k hk rec => ?_) (fun rec => ?_) ?_ ?_
  · have hk2 : (k : Int) ≤ cntF x - 1 := by omega
    have hmono : (k : Int) * x.every ≤ (cntF x - 1) * x.every := Int.mul_le_mul_of_nonneg_right hk2 (by omega)
    have hge : 0 ≤ (k : Int) * x.every := Int.mul_nonneg (by omega) (by omega)
    have hlt : x.t0 + (k : Int) * x.every < x.t1 := by omega
    have hsuc : ((k + 1 : Nat) : Int) * x.every = (k : Int) * x.every + x.every := by rw [Int.natCast_add, Int.add_mul]; simp
    have hw : IntKind.i64.wrap (x.t0 + (k : Int) * x.every + x.every) = x.t0 + ((k + 1 : Nat) : Int) * x.every := by
      rw [hsuc, wrap_in (by omega) (by omega)]; omega
    have hlk := fold_len ((startsI x).take k) l
    rw [hst k (by omega)] at hlk
    have hs : (startsI x).take (k + 1) = (startsI x).take k ++ [x.t0 + (k : Int) * x.every] := by
      rw [startsI_sound x h, ← List.map_take, ← List.map_take, List.take_range, List.take_range, Nat.min_eq_left (by omega), Nat.min_eq_left (by omega), List.range_succ, List.map_append]
      rfl
    have hnext : ((startsI x).take (k + 1)).foldl (fun l t => insR t l) l = insR (x.t0 + (k : Int) * x.every) (((startsI x).take k).foldl (fun l t => insR t l) l) := by rw [hs, List.foldl_append]; rfl
    generalize ((startsI x).take k).foldl (fun l t => insR t l) l = lk at hlk hnext
    have hroom : (lk.map iv ++ [PV.int .i64 (x.t0 + (k : Int) * x.every)]).length * 8 ≤ roomBound ∧ 0 < 8 := by
      refine ⟨?_, by decide⟩
      simp only [List.length_append, List.length_map, List.length_cons, List.length_nil]
      unfold roomBound; omega
    simp only [frequency_Instances_L2, asInt, if_true, bind_some', decide_eq_true_eq, hlt, if_pos hroom, List.length_map]
    rw [show lk.map iv ++ [PV.int .i64 (x.t0 + (k : Int) * x.every)] = (lk ++ [x.t0 + (k : Int) * x.every]).map iv by simp [iv], merge_loop _ _ _ _ _ _ _ _ _ _ lk (by omega), hw, hnext]
  · have he : (((cntF x).toNat : Nat) : Int) * x.every = cntF x * x.every := by rw [Int.toNat_of_nonneg (by omega)]
    have hlt : ¬ x.t0 + (((cntF x).toNat : Nat) : Int) * x.every < x.t1 := by rw [he]; omega
    have hall : (startsI x).take (cntF x).toNat = startsI x := List.take_of_length_le (by rw [startsI_sound x h]; simp)
    simp only [frequency_Instances_L2, asInt, if_true, bind_some', decide_eq_true_eq, if_neg hlt, hall]
    rfl
  · have : 172801 < rounds := by decide
    omega
  · simp

theorem filter_take_succ {A : Type} (p : A → Bool) (l : List A) (k : Nat) (h : k < l.length) : (l.take (k + 1)).filter p = (l.take k).filter p ++ if p l[k] = true then [l[k]] else [] := by
  rw [List.take_succ_eq_append_getElem h, List.filter_append]
  congr 1
  by_cases hp : p l[k] = true <;> simp [hp]
/-- the starts of a trip by the first k frequencies -/
def instK (fs : List Freq) (i : Int) (k : Nat) : List Int := ((fs.take k).filter fun f => decide (f.trip = i)).foldl instF []
theorem instK_len (fs : List Freq) (i : Int) (k : Nat) (hf : fs.length ≤ 1000) : (instK fs i k).length ≤ 172800000 := by
  unfold instK
  have h1 := insts_len ((fs.take k).filter fun f => decide (f.trip = i)) []
  have h2 : ((fs.take k).filter fun f => decide (f.trip = i)).length ≤ fs.length := Nat.le_trans (List.length_filter_le _ _) (by simp; omega)
  simp only [List.length_nil] at h1
  omega
theorem instK_succ (fs : List Freq) (i : Int) (k : Nat) (h : k < fs.length) : instK fs i (k + 1) = if fs[k].trip = i then instF (instK fs i k) fs[k] else instK fs i k := by
  unfold instK
  rw [filter_take_succ _ _ _ h, List.foldl_append]
  by_cases hp : fs[k].trip = i <;> simp [hp]
theorem instF_un (l : List Int) (f : Freq) (h : soundB f = false) : instF l f = l := by unfold instF; rw [startsI_un f h]; rfl
theorem instI_K (fs : List Freq) (i : Int) : instI fs i = instK fs i fs.length := by unfold instI instK; rw [List.take_length]
theorem inst_prog (fs : List Freq) (hf : fs.length ≤ 1000) (i : Int) : frequency_Instances_M [.rs 4 (fs.map Freq.pv), .int .i64 i] = some (.rs 1 ((instI fs i).map iv)) := by
  simp only [frequency_Instances_M, frequency_Instances, asSl, asInt, if_true, bind_some', List.length_map]
  rw [instI_K]
  refine loop_until (fun k => (i, fs.map Freq.pv, (fs.length : Int), (k : Int), (instK fs i k).map iv, ())) fs.length (fun k hk rec => ?_) (fun rec => ?_) ?_ ?_
  · have h1 : (k : Int) < (fs.length : Int) := by omega
    have hl := instK_len fs i k hf
    rw [instK_succ fs i k hk]
    simp only [frequency_Instances_L3, decide_eq_true_eq, h1, if_true, idxP_nat, List.getElem?_map, List.getElem?_eq_getElem hk, Option.map_some, bind_some', freq0, freq1, freq2, freq3, asInt, bne_d, freqE, fsound_prog, asBool, wrap_nat (show k < 9223372036854775807 by omega)]
    by_cases e : fs[k].trip = i
    · simp only [e, decide_true, Bool.not_true, Bool.false_eq_true, if_false, if_true]
      cases hs : soundB fs[k] with
      | false => simp only [Bool.not_false, if_true]; rw [instF_un _ _ hs]
      | true =>
        simp only [Bool.not_true, Bool.false_eq_true, if_false]
        have := starts_loop rec fs[k] hs i fs.length k (fs.map Freq.pv) (instK fs i k) (by omega)
        rw [e, wrap_nat (show k < 9223372036854775807 by omega)] at this
        exact this
    · simp only [e, decide_false, Bool.not_false, if_true, if_false]
  · simp only [frequency_Instances_L3, decide_eq_true_eq, Int.lt_irrefl, if_false]
  · have : 1001 < rounds := by decide
    omega
  · simp [instK]
end Go.Ab.Tt

namespace Go.Ab.Tt
set_option maxRecDepth 100000
set_option linter.unusedVariables false
set_option linter.unusedSimpArgs false

theorem fcalls_eq (x : Trip) (hx : x.Ok) (start : Int) (hs : I64 start) (h40 : x.calls.length ≤ 40) : frequency_Calls_M [x.pv, .int .i64 start] = some (.tup [.rs 5 ((fcallsK x.calls start).map Kall.pv), .int .i64 (callsE x.calls start)]) := by
  have hm := maxLen_lt
  have hkall : ∀ y ∈ x.calls, y.Ok := hx.calls.2
  simp only [frequency_Calls_M, frequency_Calls, tripA, trip0, trip1, trip2, trip3, trip4, asStr, asSl, asInt, asBool, if_true, bind_some', List.length_map]
  generalize x.calls = l at h40 hkall ⊢
  cases l with
  | nil => rfl
  | cons c l =>
    generalize hl : c :: l = cs at h40 hkall ⊢
    have hc0 : cs[0]? = some c := by rw [← hl]; rfl
    have hpos : 0 < cs.length := by rw [← hl]; simp
    have hcE : callsE cs start = if (List.range cs.length).all (kOkAt cs c.dep start) = true then 0 else 10 := by rw [← hl]; rfl
    have hcok : c.Ok := hkall c (by rw [← hl]; simp)
    have hne : ((cs.length : Int) == 0) = false := by rw [beq_eq_false_iff_ne]; omega
    have hix : idxP (cs.map Kall.pv) 0 = some c.pv := by
      have := idxP_nat (cs.map Kall.pv) 0
      simp only [Int.ofNat_eq_natCast, Int.natCast_zero] at this
      rw [show (0 : Int) = ((0 : Nat) : Int) from rfl, idxP_nat, List.getElem?_map, hc0]; rfl
    have hroom : 0 ≤ (cs.length : Int) ∧ (cs.length : Int) ≤ (cs.length : Int) ∧ (cs.length : Int).toNat * 32 ≤ roomBound ∧ 0 < 32 ∧ 0 < 5 := by
      refine ⟨by omega, by omega, ?_, by decide, by decide⟩
      unfold roomBound; omega
    rw [hne, hix]
    simp only [Bool.false_eq_true, if_false, bind_some', kall2, asInt, if_true, if_pos hroom, List.length_replicate, Int.toNat_natCast, List.take_of_length_le (Nat.le_of_eq (List.length_map _)), List.length_map]
    rw [List.drop_of_length_le (by simp), List.append_nil, List.length_map]
    have hroom2 : 0 ≤ (cs.length : Int) ∧ (cs.length : Int) ≤ (cs.length : Int) ∧ cs.length * 32 ≤ roomBound ∧ 0 < 32 ∧ 0 < 5 := hroom
    have hmain : lpS.run frequency_Calls_L1 (start, c.dep, (cs.length : Int), 0, cs.map Kall.pv, ()) = orFin ((List.range cs.length).findSome? fun k => if kOkAt cs c.dep start k = true then none else some (some (.tup [.rs 5 [], .int .i64 10]))) (some (.tup [.rs 5 (mix cs (fun x => mvK x c.dep start) cs.length), .int .i64 0])) := by
      refine loop_scan' (fun k => (start, c.dep, (cs.length : Int), (k : Int), mix cs (fun x => mvK x c.dep start) k, ())) cs.length _ (fun k hk rec => ?_) (fun rec => ?_) ?_ ?_
      · have h1 : (k : Int) < (cs.length : Int) := by omega
        have hkk : cs[k].Ok := hkall _ (List.getElem_mem hk)
        obtain ⟨n1, e1, q1⟩ := moved_ok cs[k].arr c.dep start hkk.arr hcok.dep hs
        obtain ⟨n2, e2, q2⟩ := moved_ok cs[k].dep c.dep start hkk.dep hcok.dep hs
        have hlen := mix_len cs (fun x => mvK x c.dep start) k (by omega)
        have hget := mix_get cs (fun x => mvK x c.dep start) k hk
        have hset := mix_set cs (fun x => mvK x c.dep start) k hk
        have hr : inRange (k : Int) cs.length := inRange_nat k _ hk
        have hkOk : kOkAt cs c.dep start k = (mvOk cs[k].arr c.dep start && mvOk cs[k].dep c.dep start) := by unfold kOkAt; rw [List.getElem?_eq_getElem hk]; rfl
        have hg2 : ∀ X, ((mix cs (fun x => mvK x c.dep start) k).set k X)[k]? = some X := fun X => by rw [List.getElem?_set_self (by rw [hlen]; exact hk)]
        simp only [frequency_Calls_L1, decide_eq_true_eq, h1, if_true, hlen, if_pos hr, Int.toNat_natCast, hget, bind_some', kall0, kall1, kall2, kall3, kall4, asInt, e1, e2, asTup, asBool, List.length_cons, List.length_nil, Nat.reduceAdd, List.getD_cons_zero, List.getD_cons_succ, List.length_set, hg2, cell_agg, over, List.set_set, wrap_nat (show k < 9223372036854775807 by omega)]
        rw [hkOk]
        cases hA : mvOk cs[k].arr c.dep start with
        | false => simp [orFin]
        | true =>
          cases hB : mvOk cs[k].dep c.dep start with
          | false => simp [orFin]
          | true =>
            rw [← hset, q1 hA, q2 hB]
            simp [orFin, mvK, Kall.pv]
      · simp only [frequency_Calls_L1, decide_eq_true_eq, Int.lt_irrefl, if_false]
      · have : 40 < rounds := by decide
        omega
      · simp only [mix_zero]; rfl
    have hF : fcallsK cs start = if (List.range cs.length).all (kOkAt cs c.dep start) = true then cs.map (fun x => mvK x c.dep start) else [] := by
      unfold fcallsK
      rw [hcE, show (cs.map Kall.dep).headD 0 = c.dep by rw [← hl]; rfl]
      by_cases hall : (List.range cs.length).all (kOkAt cs c.dep start) = true
      · rw [if_pos hall, if_pos hall, if_pos rfl]
      · rw [if_neg hall, if_neg hall, if_neg (by decide)]
    rw [if_pos hroom2, hmain, findSome_const, hcE, hF]
    by_cases hall : (List.range cs.length).all (kOkAt cs c.dep start) = true
    · rw [if_pos hall, if_pos hall, if_pos hall]
      simp [orFin, mix, List.map_map, Function.comp_def]
    · rw [if_neg hall, if_neg hall, if_neg hall]
      simp [orFin]

theorem rcalls_eq (x : Trip) (hx : x.Ok) (start : Int) (hs : 0 ≤ start ∧ start ≤ 172800) (h40 : x.calls.length ≤ 40) : ref18_Calls_M [x.pv, .int .i64 start] = some (.tup [.rs 5 ((fcallsK x.calls start).map Kall.pv), .int .i64 (callsE x.calls start)]) := by
  have hm := maxLen_lt
  have hkall : ∀ y ∈ x.calls, y.Ok := hx.calls.2
  simp only [ref18_Calls_M, ref18_Calls, tripA, trip0, trip1, trip2, trip3, trip4, asStr, asSl, asInt, asBool, if_true, bind_some', List.length_map]
  generalize x.calls = l at h40 hkall ⊢
  cases l with
  | nil => rfl
  | cons c l =>
    generalize hl : c :: l = cs at h40 hkall ⊢
    have hc0 : cs[0]? = some c := by rw [← hl]; rfl
    have hpos : 0 < cs.length := by rw [← hl]; simp
    have hcE : callsE cs start = if (List.range cs.length).all (kOkAt cs c.dep start) = true then 0 else 10 := by rw [← hl]; rfl
    have hcok : c.Ok := hkall c (by rw [← hl]; simp)
    have hne : ((cs.length : Int) == 0) = false := by rw [beq_eq_false_iff_ne]; omega
    have hix : idxP (cs.map Kall.pv) 0 = some c.pv := by
      rw [show (0 : Int) = ((0 : Nat) : Int) from rfl, idxP_nat, List.getElem?_map, hc0]; rfl
    rw [hne, hix]
    simp only [Bool.false_eq_true, if_false, bind_some', kall2, asInt, if_true]
    have hmain : lpS.run (ref18_Calls_L1 lpS) (start, c.dep, 0, x.id, x.route, x.cal, x.free, cs.map Kall.pv, [], ()) = orFin ((List.range cs.length).findSome? fun k => if kOkAt cs c.dep start k = true then none else some (some (.tup [.rs 5 [], .int .i64 10]))) (some (.tup [.rs 5 (cs.map fun x => (mvK x c.dep start).pv), .int .i64 0])) := by
      refine loop_scan' (fun k => (start, c.dep, (k : Int), x.id, x.route, x.cal, x.free, cs.map Kall.pv, (cs.take k).map (fun x => (mvK x c.dep start).pv), ())) cs.length _ (fun k hk rec => ?_) (fun rec => ?_) ?_ rfl
      · have h1 : (k : Int) < (cs.length : Int) := by omega
        have hkk : cs[k].Ok := hkall _ (List.getElem_mem hk)
        obtain ⟨n1, e1, q1⟩ := shift_ok cs[k].arr c.dep start hkk.arr hcok.dep hs
        obtain ⟨n2, e2, q2⟩ := shift_ok cs[k].dep c.dep start hkk.dep hcok.dep hs
        have hkOk : kOkAt cs c.dep start k = (mvOk cs[k].arr c.dep start && mvOk cs[k].dep c.dep start) := by unfold kOkAt; rw [List.getElem?_eq_getElem hk]; rfl
        have hroom : ∀ X : PV, (((cs.take k).map (fun x => (mvK x c.dep start).pv)) ++ [X]).length * 32 ≤ roomBound ∧ 0 < 32 := fun X => by
          refine ⟨?_, by decide⟩
          simp only [List.length_append, List.length_map, List.length_take, List.length_cons, List.length_nil]
          unfold roomBound; omega
        simp only [ref18_Calls_L1, decide_eq_true_eq, List.length_map, h1, if_true, idxP_nat, List.getElem?_map, List.getElem?_eq_getElem hk, Option.map_some, bind_some', kall0, kall1, kall2, kall3, kall4, asInt, e1, e2, asTup, asBool, List.length_cons, List.length_nil, Nat.reduceAdd, List.getD_cons_zero, List.getD_cons_succ, if_pos (hroom _), wrap_nat (show k < 9223372036854775807 by omega)]
        rw [hkOk]
        cases hA : mvOk cs[k].arr c.dep start with
        | false => simp [orFin]
        | true =>
          cases hB : mvOk cs[k].dep c.dep start with
          | false => simp [orFin]
          | true =>
            have ht : cs.take (k + 1) = cs.take k ++ [cs[k]] := (List.take_append_getElem hk).symm
            rw [ht, q1 hA, q2 hB]
            simp only [Bool.not_true, cond_false, bind_some', Bool.false_eq_true, if_false, Bool.and_true, if_true, orFin, List.map_append, List.map_cons, List.map_nil, mvK, Kall.pv]
      · simp only [ref18_Calls_L1, decide_eq_true_eq, List.length_map, Int.lt_irrefl, if_false, List.take_length]
      · have : 40 < rounds := by decide
        omega
    have hF : fcallsK cs start = if (List.range cs.length).all (kOkAt cs c.dep start) = true then cs.map (fun x => mvK x c.dep start) else [] := by
      unfold fcallsK
      rw [hcE, show (cs.map Kall.dep).headD 0 = c.dep by rw [← hl]; rfl]
      by_cases hall : (List.range cs.length).all (kOkAt cs c.dep start) = true
      · rw [if_pos hall, if_pos hall, if_pos rfl]
      · rw [if_neg hall, if_neg hall, if_neg (by decide)]
    rw [hmain, findSome_const, hcE, hF]
    by_cases hall : (List.range cs.length).all (kOkAt cs c.dep start) = true
    · rw [if_pos hall, if_pos hall, if_pos hall]
      simp [orFin, mix, List.map_map, Function.comp_def]
    · rw [if_neg hall, if_neg hall, if_neg hall]
      simp [orFin]
end Go.Ab.Tt

namespace Go.Ab.Tt
set_option maxRecDepth 100000
set_option linter.unusedVariables false
set_option linter.unusedSimpArgs false

theorem swap_loop (rec10) (tr i k : Int) (es s : List PV) (t : Int) (l : List Int) (hl : l.length < 4611686018427387904) :
    lpS.run (ref18_Instances_L1 rec10) (es, tr, i, s, k, (l.length : Int), (l ++ [t]).map iv, ()) = rec10 (es, tr, i, s, IntKind.i64.wrap (k + 1), (insR t l).map iv, ()) := by
  have hp := posR_le t l l.length
  refine loop_until (fun j => (es, tr, i, s, k, ((l.length - j : Nat) : Int), (shiftAt l t (l.length - j)).map iv, ())) (l.length - posR t l l.length) (fun j hj rec => ?_) (fun rec => ?_) ?_ ?_
  · obtain ⟨q, hk⟩ : ∃ q, l.length - j = q + 1 := ⟨l.length - j - 1, by omega⟩
    have hkl : q < l.length := by omega
    have hgt : l[q] > t := by
      have := posR_gt t l l.length q (by omega) hkl
      rwa [getD_get l q hkl] at this
    have hlen := shiftAt_len l t (q + 1) (by omega)
    have hlow := shiftAt_low l t (q + 1) q (by omega) (by omega)
    have hat := shiftAt_at l t (q + 1) (by omega)
    have hset := shiftAt_set l t l[q] (q + 1) (by omega)
    rw [shiftAt_step l q hkl] at hset
    have hset2 := shiftAt_set l l[q] t q (by omega)
    have hat2 := shiftAt_at l l[q] q (by omega)
    have hlen2 := shiftAt_len l l[q] q (by omega)
    have e2 : l.length - (j + 1) = q := by omega
    have r1 : inRange (q : Int) (l.length + 1) := inRange_nat _ _ (by omega)
    have r2 : inRange ((q + 1 : Nat) : Int) (l.length + 1) := inRange_nat _ _ (by omega)
    simp only [hk, e2]
    have hs1 : ((shiftAt l t (q + 1)).map iv).set (q + 1) (.int .i64 l[q]) = (shiftAt l l[q] q).map iv := by rw [ivs_set, hset]
    have hs2 : ((shiftAt l l[q] q).map iv).set q (.int .i64 t) = (shiftAt l t q).map iv := by rw [ivs_set, hset2]
    have g1 : ((shiftAt l t (q + 1)).map iv)[q]? = some (iv l[q]) := by rw [ivs_get, hlow, List.getElem?_eq_getElem hkl]; rfl
    have g2 : ((shiftAt l t (q + 1)).map iv)[q + 1]? = some (iv t) := by rw [ivs_get, hat]; rfl
    have g3 : ((shiftAt l l[q] q).map iv)[q]? = some (iv l[q]) := by rw [ivs_get, hat2]; rfl
    have ci : ∀ n : Int, cell (iv n) 0 = .int .i64 n := fun _ => rfl
    simp only [ref18_Instances_L1, show decide (((q + 1 : Nat) : Int) > 0) = true by simp, cond_true, wrap_sub1 q (by omega), List.length_map, hlen, if_pos r1, if_pos r2, Int.toNat_natCast, g1, g2, bind_some', ci, asInt, if_true, show decide (l[q] > t) = true by simpa using hgt, hs1, hlen2, g3, hs2]
  · have e0 : l.length - (l.length - posR t l l.length) = posR t l l.length := by omega
    simp only [e0]
    generalize hpp : posR t l l.length = p at *
    have hlen := shiftAt_len l t p hp
    have hat := shiftAt_at l t p hp
    have r1 : inRange (p : Int) (l.length + 1) := inRange_nat _ _ (by omega)
    have hfin : (insR t l).map iv = (shiftAt l t p).map iv := by unfold insR shiftAt; rw [hpp]
    rw [hfin]
    have ci : ∀ n : Int, cell (iv n) 0 = .int .i64 n := fun _ => rfl
    have stop : posR t l l.length = 0 ∨ ∃ k, posR t l l.length = k + 1 ∧ ¬ l.getD k 0 > t := posR_stop t l l.length
    rw [hpp] at stop
    rcases stop with h0 | ⟨q, hk, hng⟩
    · subst h0
      simp only [ref18_Instances_L1, Int.natCast_zero, show decide ((0 : Int) > 0) = false from rfl, cond_false, bind_some', Bool.false_eq_true, if_false]
    · subst hk
      have hkl : q < l.length := by omega
      rw [getD_get l q hkl] at hng
      have hlow := shiftAt_low l t (q + 1) q (by omega) (by omega)
      have r0 : inRange (q : Int) (l.length + 1) := inRange_nat _ _ (by omega)
      have g1 : ((shiftAt l t (q + 1)).map iv)[q]? = some (iv l[q]) := by rw [ivs_get, hlow, List.getElem?_eq_getElem hkl]; rfl
      have g2 : ((shiftAt l t (q + 1)).map iv)[q + 1]? = some (iv t) := by rw [ivs_get, hat]; rfl
      simp only [ref18_Instances_L1, show decide (((q + 1 : Nat) : Int) > 0) = true by simp, cond_true, wrap_sub1 q (by omega), List.length_map, hlen, if_pos r0, if_pos r1, Int.toNat_natCast, g1, g2, bind_some', ci, asInt, if_true, show decide (l[q] > t) = false by simpa using hng, Bool.false_eq_true, if_false]
  · have h1 := rounds_gt
    have h2 : (4611686018427387904 : Nat) ≤ maxLen := by decide
    omega
  · simp [shiftAt]

theorem starts_ref' (x : Freq) : ref18_Starts_M [x.pv] = some (.rs 1 ((startsI x).map iv)) := by
  cases h : soundB x with
  | true =>
    rw [starts_ref x h, startsI_sound x h]
    simp [startsL, iv, Function.comp_def]
  | false =>
    rw [startsI_un x h]
    simp only [ref18_Starts_M, ref18_Starts, freqA, freq0, freq1, freq2, freq3, asInt, asBool, if_true, bind_some', freqE, fsound_ref, h, Bool.not_false, List.map_nil]
theorem adds_loop (rec3) (tr i : Int) (es : List PV) (s l : List Int) (hs : s.length ≤ 172800) (hl : l.length ≤ 1000000000) :
    lpS.run (ref18_Instances_L2 lpS rec3) (es, tr, i, s.map iv, 0, l.map iv, ()) = rec3 (es, tr, IntKind.i64.wrap (i + 1), (s.foldl (fun l t => insR t l) l).map iv, ()) := by
  refine loop_until (fun k => (es, tr, i, s.map iv, (k : Int), ((s.take k).foldl (fun l t => insR t l) l).map iv, ())) s.length (fun k hk rec => ?_) (fun rec => ?_) ?_ ?_
  · have h1 : (k : Int) < (s.length : Int) := by omega
    have hlk := fold_len (s.take k) l
    rw [List.length_take, Nat.min_eq_left (by omega)] at hlk
    have hnext : (s.take (k + 1)).foldl (fun l t => insR t l) l = insR s[k] ((s.take k).foldl (fun l t => insR t l) l) := by rw [List.take_succ_eq_append_getElem hk, List.foldl_append]; rfl
    generalize (s.take k).foldl (fun l t => insR t l) l = lk at hlk hnext
    have ci : ∀ n : Int, cell (iv n) 0 = .int .i64 n := fun _ => rfl
    have hroom : (lk.map iv ++ [PV.int .i64 s[k]]).length * 8 ≤ roomBound ∧ 0 < 8 := by
      refine ⟨?_, by decide⟩
      simp only [List.length_append, List.length_map, List.length_cons, List.length_nil]
      unfold roomBound; omega
    simp only [ref18_Instances_L2, decide_eq_true_eq, List.length_map, h1, if_true, idxP_nat, ivs_get, List.getElem?_eq_getElem hk, Option.map_some, bind_some', ci, asInt, if_pos hroom]
    have ha : lk.map iv ++ [PV.int .i64 s[k]] = (lk ++ [s[k]]).map iv := by simp [iv]
    have hw : IntKind.i64.wrap ((((lk ++ [s[k]]).map iv).length : Int) - 1) = (lk.length : Int) := by
      rw [List.length_map, List.length_append, List.length_cons, List.length_nil]
      exact wrap_sub1 _ (by omega)
    rw [ha, hw, swap_loop _ _ _ _ _ _ _ lk (by omega), wrap_nat (show k < 9223372036854775807 by omega), hnext]
  · simp only [ref18_Instances_L2, decide_eq_true_eq, List.length_map, Int.lt_irrefl, if_false, List.take_length]
  · have : 172801 < rounds := by decide
    omega
  · simp
theorem inst_ref (fs : List Freq) (hf : fs.length ≤ 1000) (i : Int) : ref18_Instances_M [.rs 4 (fs.map Freq.pv), .int .i64 i] = some (.rs 1 ((instI fs i).map iv)) := by
  simp only [ref18_Instances_M, ref18_Instances, asSl, asInt, if_true, bind_some']
  rw [instI_K]
  refine loop_until (fun k => (fs.map Freq.pv, i, (k : Int), (instK fs i k).map iv, ())) fs.length (fun k hk rec => ?_) (fun rec => ?_) ?_ ?_
  · have h1 : (k : Int) < (fs.length : Int) := by omega
    have hl := instK_len fs i k hf
    rw [instK_succ fs i k hk]
    simp only [ref18_Instances_L3, decide_eq_true_eq, List.length_map, h1, if_true, idxP_nat, List.getElem?_map, List.getElem?_eq_getElem hk, Option.map_some, bind_some', freq0, freq1, freq2, freq3, asInt, bne_d, freqE, starts_ref', asSl, wrap_nat (show k < 9223372036854775807 by omega)]
    by_cases e : fs[k].trip = i
    · simp only [e, decide_true, Bool.not_true, Bool.false_eq_true, if_false, if_true]
      have := adds_loop rec i k (fs.map Freq.pv) (startsI fs[k]) (instK fs i k) (startsI_len _) (by omega)
      rw [wrap_nat (show k < 9223372036854775807 by omega)] at this
      exact this
    · simp only [e, decide_false, Bool.not_false, if_true, if_false]
  · simp only [ref18_Instances_L3, decide_eq_true_eq, List.length_map, Int.lt_irrefl, if_false]
  · have : 1001 < rounds := by decide
    omega
  · simp [instK]
theorem rep_ref18 (fs : List Freq) (hl : fs.length ≤ maxLen) (t : Int) : ref18_Repeated_M [.rs 4 (fs.map Freq.pv), .int .i64 t] = some (.bool (repB fs t)) := by
  have hm := maxLen_lt
  simp only [ref18_Repeated_M, ref18_Repeated, asSl, asInt, if_true, bind_some', List.length_map]
  refine (dup_scan (fun k => (fs.map Freq.pv, t, (k : Int), ())) fs.length (fun k => decide ((fs.map Freq.trip)[k]? = some t)) (no := some (.bool true)) (fin := some (.bool false)) (fun k hk rec => ?_) (fun rec => ?_) ?_ rfl).trans ?_
  · have h1 : (k : Int) < (fs.length : Int) := by omega
    simp only [ref18_Repeated_L1, decide_eq_true_eq, List.length_map, h1, if_true, idxP_nat, List.getElem?_map, List.getElem?_eq_getElem hk, Option.map_some, bind_some', freq0, asInt, wrap_nat (show k < 9223372036854775807 by omega), beq_d, Option.some.injEq]
  · simp only [ref18_Repeated_L1, decide_eq_true_eq, List.length_map, Int.lt_irrefl, if_false]
  · have := rounds_gt; omega
  · have h := any_mem (fs.map Freq.trip) fs.length (by simp) t
    rw [h, List.take_of_length_le (by simp)]
    unfold repB
    by_cases h : t ∈ fs.map Freq.trip <;> simp only [h, decide_true, decide_false, if_true, Bool.false_eq_true, if_false]
end Go.Ab.Tt
