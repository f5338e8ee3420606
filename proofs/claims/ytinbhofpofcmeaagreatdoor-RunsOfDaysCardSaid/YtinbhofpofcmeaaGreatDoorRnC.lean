/- The starts of a trip in order, the calls of a trip that is started at a time, calls moved by some seconds, a run: the program and the document give the same. -/
import Derived.Test.YtinbhofpofcmeaaGreatDoorRnB
namespace Go.Ab.Tt
set_option maxRecDepth 100000
set_option linter.unusedVariables false
set_option linter.unusedSimpArgs false

/-! ### insertion -/
def shiftAt (l : List Int) (d : Int) (k : Nat) : List Int := l.take k ++ d :: l.drop k
theorem shiftAt_len (l : List Int) (d : Int) (k : Nat) (h : k ≤ l.length) : (shiftAt l d k).length = l.length + 1 := by
  simp [shiftAt]; omega
theorem shiftAt_low (l : List Int) (d : Int) (k j : Nat) (h : k ≤ l.length) (hj : j < k) : (shiftAt l d k)[j]? = l[j]? := by
  unfold shiftAt
  rw [List.getElem?_append_left (by simp; omega), List.getElem?_take_of_lt hj]
theorem shiftAt_at (l : List Int) (d : Int) (k : Nat) (h : k ≤ l.length) : (shiftAt l d k)[k]? = some d := by
  unfold shiftAt
  rw [List.getElem?_append_right (by simp; omega)]
  simp [Nat.min_eq_left h]
theorem shiftAt_set (l : List Int) (d x : Int) (k : Nat) (h : k ≤ l.length) : (shiftAt l d k).set k x = shiftAt l x k := by
  unfold shiftAt
  rw [List.set_append]
  simp [Nat.min_eq_left h]
theorem shiftAt_step (l : List Int) (k : Nat) (h : k < l.length) : shiftAt l l[k] (k + 1) = shiftAt l l[k] k := by
  unfold shiftAt
  rw [List.take_succ_eq_append_getElem h, List.drop_eq_getElem_cons h, List.append_assoc]
  rfl
theorem posR_gt (t : Int) (l : List Int) : ∀ n k, posR t l n ≤ k → k < n → l.getD k 0 > t
  | 0, k, _, h => absurd h (by omega)
  | n + 1, k, h1, h2 => by
    unfold posR at h1
    split at h1
    · rename_i hg
      by_cases e : k = n
      · subst e; exact hg
      · exact posR_gt t l n k h1 (by omega)
    · omega
theorem posR_stop (t : Int) (l : List Int) : ∀ n, posR t l n = 0 ∨ ∃ k, posR t l n = k + 1 ∧ ¬ l.getD k 0 > t
  | 0 => .inl rfl
  | n + 1 => by
    unfold posR
    split
    · exact posR_stop t l n
    · rename_i h; exact .inr ⟨n, rfl, h⟩
def shD (t : Int) (l : List Int) (k : Nat) : Int := if k = l.length then t else l.getD k 0
theorem ivs_get (l : List Int) (k : Nat) : (l.map iv)[k]? = l[k]?.map iv := List.getElem?_map ..
theorem ivs_set (l : List Int) (k : Nat) (x : Int) : (l.map iv).set k (.int .i64 x) = (l.set k x).map iv := by
  rw [List.map_set]; rfl
theorem wrap_sub1 (k : Nat) (h : k + 1 ≤ 9223372036854775807) : IntKind.i64.wrap (((k + 1 : Nat) : Int) - 1) = (k : Int) := by
  rw [wrap_in (by omega) (by omega)]; omega
theorem getD_get (l : List Int) (k : Nat) (h : k < l.length) : l.getD k 0 = l[k] := by simp [List.getD, List.getElem?_eq_getElem h]

theorem merge_loop (rec10) (t tr len i : Int) (es : List PV) (c0 c1 c2 : PV) (ev : Int) (l : List Int) (hl : l.length < 4611686018427387904) :
    lpS.run (frequency_Instances_L1 rec10) (t, (l.length : Int), t, tr, es, len, i, c0, c1, c2, .int .i64 ev, (l ++ [t]).map iv, ()) = rec10 (IntKind.i64.wrap (t + ev), tr, es, len, i, c0, c1, c2, .int .i64 ev, (insR t l).map iv, ()) := by
  have hp := posR_le t l l.length
  refine loop_until (fun j => (t, ((l.length - j : Nat) : Int), t, tr, es, len, i, c0, c1, c2, .int .i64 ev, (shiftAt l (shD t l (l.length - j)) (l.length - j)).map iv, ())) (l.length - posR t l l.length) (fun j hj rec => ?_) (fun rec => ?_) ?_ ?_
  · obtain ⟨k, hk⟩ : ∃ k, l.length - j = k + 1 := ⟨l.length - j - 1, by omega⟩
    have hkl : k < l.length := by omega
    have hgt : l[k] > t := by
      have := posR_gt t l l.length k (by omega) hkl
      rwa [getD_get l k hkl] at this
    have hlen := shiftAt_len l (shD t l (k + 1)) (k + 1) (by omega)
    have hlow := shiftAt_low l (shD t l (k + 1)) (k + 1) k (by omega) (by omega)
    have hat := shiftAt_at l (shD t l (k + 1)) (k + 1) (by omega)
    have hd : shD t l k = l[k] := by unfold shD; rw [if_neg (by omega), getD_get l k hkl]
    have hset := shiftAt_set l (shD t l (k + 1)) l[k] (k + 1) (by omega)
    rw [shiftAt_step l k hkl] at hset
    have e2 : l.length - (j + 1) = k := by omega
    have r1 : inRange (k : Int) (l.length + 1) := inRange_nat _ _ (by omega)
    have r2 : inRange ((k + 1 : Nat) : Int) (l.length + 1) := inRange_nat _ _ (by omega)
    simp only [hk, e2]
    simp only [frequency_Instances_L1, show decide (((k + 1 : Nat) : Int) > 0) = true by simp, cond_true, wrap_sub1 k (by omega), List.length_map, hlen, if_pos r1, if_pos r2, Int.toNat_natCast, ivs_get, hlow, List.getElem?_eq_getElem hkl, Option.map_some, bind_some', iv, cell, PV.cells, List.getD_cons_zero, asInt, if_true, show decide (l[k] > t) = true by simpa using hgt, hat]
    rw [ivs_set, hset, hd]
  · have e0 : l.length - (l.length - posR t l l.length) = posR t l l.length := by omega
    simp only [e0]
    generalize hpp : posR t l l.length = p at *
    have hlen := shiftAt_len l (shD t l p) p hp
    have hat := shiftAt_at l (shD t l p) p hp
    have hset := shiftAt_set l (shD t l p) t p hp
    have r1 : inRange (p : Int) (l.length + 1) := inRange_nat _ _ (by omega)
    have hfin : (insR t l).map iv = ((shiftAt l (shD t l p) p).map iv).set p (.int .i64 t) := by
      rw [ivs_set, hset]; unfold insR shiftAt; rw [hpp]
    rw [hfin]
    have stop : posR t l l.length = 0 ∨ ∃ k, posR t l l.length = k + 1 ∧ ¬ l.getD k 0 > t := posR_stop t l l.length
    rw [hpp] at stop
    rcases stop with h0 | ⟨k, hk, hng⟩
    · subst h0
      have r1' : inRange (0 : Int) (l.length + 1) := r1
      have hat' : (List.map iv (shiftAt l (shD t l 0) 0))[(0 : Int).toNat]? = some (iv (shD t l 0)) := by rw [show (0 : Int).toNat = 0 from rfl, ivs_get, hat]; rfl
      simp only [frequency_Instances_L1, Int.natCast_zero, show decide ((0 : Int) > 0) = false from rfl, cond_false, bind_some', Bool.false_eq_true, if_false, List.length_map, hlen, if_pos r1', hat', asInt, if_true]
      rfl
    · subst hk
      have hkl : k < l.length := by omega
      rw [getD_get l k hkl] at hng
      have hlow := shiftAt_low l (shD t l (k + 1)) (k + 1) k (by omega) (by omega)
      have r0 : inRange (k : Int) (l.length + 1) := inRange_nat _ _ (by omega)
      simp only [frequency_Instances_L1, show decide (((k + 1 : Nat) : Int) > 0) = true by simp, cond_true, wrap_sub1 k (by omega), List.length_map, hlen, if_pos r0, if_pos r1, Int.toNat_natCast, ivs_get, hlow, List.getElem?_eq_getElem hkl, Option.map_some, bind_some', iv, cell, PV.cells, List.getD_cons_zero, asInt, if_true, show decide (l[k] > t) = false by simpa using hng, Bool.false_eq_true, if_false, hat]
  · have h1 := rounds_gt
    have h2 : (4611686018427387904 : Nat) ≤ maxLen := by decide
    omega
  · simp [shiftAt, shD]

theorem startsI_sound (x : Freq) (h : soundB x = true) : startsI x = (List.range (cntF x).toNat).map fun (j : Nat) => x.t0 + (j : Int) * x.every := by unfold startsI; rw [if_pos h]
theorem startsI_un (x : Freq) (h : soundB x = false) : startsI x = [] := by unfold startsI; rw [if_neg (by simp [h])]
theorem startsI_len (x : Freq) : (startsI x).length ≤ 172800 := by
  unfold startsI
  split
  · rename_i h
    have := cnt_le x h
    simp; omega
  · simp
theorem fold_len (s : List Int) : ∀ l : List Int, (s.foldl (fun l t => insR t l) l).length = l.length + s.length := by
  induction s with
  | nil => intro l; rfl
  | cons t s ih => intro l; rw [List.foldl_cons, ih, insR_len, List.length_cons]; omega
theorem instF_len (l : List Int) (f : Freq) : (instF l f).length ≤ l.length + 172800 := by
  unfold instF
  rw [fold_len]
  have := startsI_len f
  omega
theorem insts_len (fs : List Freq) : ∀ l : List Int, (fs.foldl instF l).length ≤ l.length + 172800 * fs.length := by
  induction fs with
  | nil => intro l; simp
  | cons f fs ih =>
    intro l
    rw [List.foldl_cons]
    have h1 := ih (instF l f)
    have h2 := instF_len l f
    simp only [List.length_cons]
    omega
theorem starts_loop (rec3) (x : Freq) (h : soundB x = true) (tr len i : Int) (es : List PV) (l : List Int) (hl : l.length ≤ 1000000000) :
    lpS.run (frequency_Instances_L2 lpS rec3) (x.t0, tr, es, len, i, .int .i64 x.trip, .int .i64 x.t0, .int .i64 x.t1, .int .i64 x.every, l.map iv, ()) = rec3 (tr, es, len, IntKind.i64.wrap (i + 1), (instF l x).map iv, ()) := by
  have hc := cnt_le x h
  have hml := mul_le x h
  obtain ⟨h1, h2, h3, h4, h5⟩ := (sound_iff x).1 h
  have hst : ∀ k, k ≤ (cntF x).toNat → ((startsI x).take k).length = k := fun k hk => by rw [startsI_sound x h]; simp; omega
  refine loop_until (fun k => (x.t0 + (k : Int) * x.every, tr, es, len, i, .int .i64 x.trip, .int .i64 x.t0, .int .i64 x.t1, .int .i64 x.every, (((startsI x).take k).foldl (fun l t => insR t l) l).map iv, ())) (cntF x).toNat (fun k hk rec => ?_) (fun rec => ?_) ?_ ?_
  · have hk2 : (k : Int) ≤ cntF x - 1 := by omega
    have hmono : (k : Int) * x.every ≤ (cntF x - 1) * x.every := Int.mul_le_mul_of_nonneg_right hk2 (by omega)
    have hge : 0 ≤ (k : Int) * x.every := Int.mul_nonneg (by omega) (by omega)
    have hlt : x.t0 + (k : Int) * x.every < x.t1 := by omega
    have hsuc : ((k + 1 : Nat) : Int) * x.every = (k : Int) * x.every + x.every := by rw [Int.natCast_add, Int.add_mul]; simp
    have hw : IntKind.i64.wrap (x.t0 + (k : Int) * x.every + x.every) = x.t0 + ((k + 1 : Nat) : Int) * x.every := by
      rw [hsuc, wrap_in (by omega) (by omega)]; omega
    have hlk := fold_len ((startsI x).take k) l
    rw [hst k (by omega)] at hlk
    have hs : (startsI x).take (k + 1) = (startsI x).take k ++ [x.t0 + (k : Int) * x.every] := by
      rw [startsI_sound x h, ← List.map_take, ← List.map_take, List.take_range, List.take_range, Nat.min_eq_left (by omega), Nat.min_eq_left (by omega), List.range_succ, List.map_append]
      rfl
    have hnext : ((startsI x).take (k + 1)).foldl (fun l t => insR t l) l = insR (x.t0 + (k : Int) * x.every) (((startsI x).take k).foldl (fun l t => insR t l) l) := by rw [hs, List.foldl_append]; rfl
    generalize ((startsI x).take k).foldl (fun l t => insR t l) l = lk at hlk hnext
    have hroom : (lk.map iv ++ [PV.int .i64 (x.t0 + (k : Int) * x.every)]).length * 8 ≤ roomBound ∧ 0 < 8 := by
      refine ⟨?_, by decide⟩
      simp only [List.length_append, List.length_map, List.length_cons, List.length_nil]
      unfold roomBound; omega
    simp only [frequency_Instances_L2, asInt, if_true, bind_some', decide_eq_true_eq, hlt, if_pos hroom, List.length_map]
    rw [show lk.map iv ++ [PV.int .i64 (x.t0 + (k : Int) * x.every)] = (lk ++ [x.t0 + (k : Int) * x.every]).map iv by simp [iv], merge_loop _ _ _ _ _ _ _ _ _ _ lk (by omega), hw, hnext]
  · have he : (((cntF x).toNat : Nat) : Int) * x.every = cntF x * x.every := by rw [Int.toNat_of_nonneg (by omega)]
    have hlt : ¬ x.t0 + (((cntF x).toNat : Nat) : Int) * x.every < x.t1 := by rw [he]; omega
    have hall : (startsI x).take (cntF x).toNat = startsI x := List.take_of_length_le (by rw [startsI_sound x h]; simp)
    simp only [frequency_Instances_L2, asInt, if_true, bind_some', decide_eq_true_eq, if_neg hlt, hall]
    rfl
  · have : 172801 < rounds := by decide
    omega
  · simp

theorem filter_take_succ {A : Type} (p : A → Bool) (l : List A) (k : Nat) (h : k < l.length) : (l.take (k + 1)).filter p = (l.take k).filter p ++ if p l[k] = true then [l[k]] else [] := by
  rw [List.take_succ_eq_append_getElem h, List.filter_append]
  congr 1
  by_cases hp : p l[k] = true <;> simp [hp]
/-- the starts of a trip by the first k frequencies -/
def instK (fs : List Freq) (i : Int) (k : Nat) : List Int := ((fs.take k).filter fun f => decide (f.trip = i)).foldl instF []
theorem instK_len (fs : List Freq) (i : Int) (k : Nat) (hf : fs.length ≤ 1000) : (instK fs i k).length ≤ 172800000 := by
  unfold instK
  have h1 := insts_len ((fs.take k).filter fun f => decide (f.trip = i)) []
  have h2 : ((fs.take k).filter fun f => decide (f.trip = i)).length ≤ fs.length := Nat.le_trans (List.length_filter_le _ _) (by simp; omega)
  simp only [List.length_nil] at h1
  omega
theorem instK_succ (fs : List Freq) (i : Int) (k : Nat) (h : k < fs.length) : instK fs i (k + 1) = if fs[k].trip = i then instF (instK fs i k) fs[k] else instK fs i k := by
  unfold instK
  rw [filter_take_succ _ _ _ h, List.foldl_append]
  by_cases hp : fs[k].trip = i <;> simp [hp]
theorem instF_un (l : List Int) (f : Freq) (h : soundB f = false) : instF l f = l := by unfold instF; rw [startsI_un f h]; rfl
theorem instI_K (fs : List Freq) (i : Int) : instI fs i = instK fs i fs.length := by unfold instI instK; rw [List.take_length]
theorem inst_prog (fs : List Freq) (hf : fs.length ≤ 1000) (i : Int) : frequency_Instances_M [.rs 4 (fs.map Freq.pv), .int .i64 i] = some (.rs 1 ((instI fs i).map iv)) := by
  simp only [frequency_Instances_M, frequency_Instances, asSl, asInt, if_true, bind_some', List.length_map]
  rw [instI_K]
  refine loop_until (fun k => (i, fs.map Freq.pv, (fs.length : Int), (k : Int), (instK fs i k).map iv, ())) fs.length (fun k hk rec => ?_) (fun rec => ?_) ?_ ?_
  · have h1 : (k : Int) < (fs.length : Int) := by omega
    have hl := instK_len fs i k hf
    rw [instK_succ fs i k hk]
    simp only [frequency_Instances_L3, decide_eq_true_eq, h1, if_true, idxP_nat, List.getElem?_map, List.getElem?_eq_getElem hk, Option.map_some, bind_some', freq0, freq1, freq2, freq3, asInt, bne_d, freqE, fsound_prog, asBool, wrap_nat (show k < 9223372036854775807 by omega)]
    by_cases e : fs[k].trip = i
    · simp only [e, decide_true, Bool.not_true, Bool.false_eq_true, if_false, if_true]
      cases hs : soundB fs[k] with
      | false => simp only [Bool.not_false, if_true]; rw [instF_un _ _ hs]
      | true =>
        simp only [Bool.not_true, Bool.false_eq_true, if_false]
        have := starts_loop rec fs[k] hs i fs.length k (fs.map Freq.pv) (instK fs i k) (by omega)
        rw [e, wrap_nat (show k < 9223372036854775807 by omega)] at this
        exact this
    · simp only [e, decide_false, Bool.not_false, if_true, if_false]
  · simp only [frequency_Instances_L3, decide_eq_true_eq, Int.lt_irrefl, if_false]
  · have : 1001 < rounds := by decide
    omega
  · simp [instK]
end Go.Ab.Tt
