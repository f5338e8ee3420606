/- The starts of a trip in order, by the document. -/
import Derived.Test.YtinbhofpofcmeaaGreatDoorRnC
namespace Go.Ab.Tt
set_option maxRecDepth 100000
set_option linter.unusedVariables false
set_option linter.unusedSimpArgs false

theorem swap_loop (rec10) (tr i k : Int) (es s : List PV) (t : Int) (l : List Int) (hl : l.length < 4611686018427387904) :
    lpS.run (ref18_Instances_L1 rec10) (es, tr, i, s, k, (l.length : Int), (l ++ [t]).map iv, ()) = rec10 (es, tr, i, s, IntKind.i64.wrap (k + 1), (insR t l).map iv, ()) := by
  have hp := posR_le t l l.length
  refine loop_until (fun j => (es, tr, i, s, k, ((l.length - j : Nat) : Int), (shiftAt l t (l.length - j)).map iv, ())) (l.length - posR t l l.length) (fun j hj rec => ?_) (fun rec => ?_) ?_ ?_
  · obtain ⟨q, hk⟩ : ∃ q, l.length - j = q + 1 := ⟨l.length - j - 1, by omega⟩
    have hkl : q < l.length := by omega
    have hgt : l[q] > t := by
      have := posR_gt t l l.length q (by omega) hkl
      rwa [getD_get l q hkl] at this
    have hlen := shiftAt_len l t (q + 1) (by omega)
    have hlow := shiftAt_low l t (q + 1) q (by omega) (by omega)
    have hat := shiftAt_at l t (q + 1) (by omega)
    have hset := shiftAt_set l t l[q] (q + 1) (by omega)
    rw [shiftAt_step l q hkl] at hset
    have hset2 := shiftAt_set l l[q] t q (by omega)
    have hat2 := shiftAt_at l l[q] q (by omega)
    have hlen2 := shiftAt_len l l[q] q (by omega)
    have e2 : l.length - (j + 1) = q := by omega
    have r1 : inRange (q : Int) (l.length + 1) := inRange_nat _ _ (by omega)
    have r2 : inRange ((q + 1 : Nat) : Int) (l.length + 1) := inRange_nat _ _ (by omega)
    simp only [hk, e2]
    have hs1 : ((shiftAt l t (q + 1)).map iv).set (q + 1) (.int .i64 l[q]) = (shiftAt l l[q] q).map iv := by rw [ivs_set, hset]
    have hs2 : ((shiftAt l l[q] q).map iv).set q (.int .i64 t) = (shiftAt l t q).map iv := by rw [ivs_set, hset2]
    have g1 : ((shiftAt l t (q + 1)).map iv)[q]? = some (iv l[q]) := by rw [ivs_get, hlow, List.getElem?_eq_getElem hkl]; rfl
    have g2 : ((shiftAt l t (q + 1)).map iv)[q + 1]? = some (iv t) := by rw [ivs_get, hat]; rfl
    have g3 : ((shiftAt l l[q] q).map iv)[q]? = some (iv l[q]) := by rw [ivs_get, hat2]; rfl
    have ci : ∀ n : Int, cell (iv n) 0 = .int .i64 n := fun _ => rfl
    simp only [ref18_Instances_L1, show decide (((q + 1 : Nat) : Int) > 0) = true by simp, cond_true, wrap_sub1 q (by omega), List.length_map, hlen, if_pos r1, if_pos r2, Int.toNat_natCast, g1, g2, bind_some', ci, asInt, if_true, show decide (l[q] > t) = true by simpa using hgt, hs1, hlen2, g3, hs2]
  · have e0 : l.length - (l.length - posR t l l.length) = posR t l l.length := by omega
    simp only [e0]
    generalize hpp : posR t l l.length = p at *
    have hlen := shiftAt_len l t p hp
    have hat := shiftAt_at l t p hp
    have r1 : inRange (p : Int) (l.length + 1) := inRange_nat _ _ (by omega)
    have hfin : (insR t l).map iv = (shiftAt l t p).map iv := by unfold insR shiftAt; rw [hpp]
    rw [hfin]
    have ci : ∀ n : Int, cell (iv n) 0 = .int .i64 n := fun _ => rfl
    have stop : posR t l l.length = 0 ∨ ∃ k, posR t l l.length = k + 1 ∧ ¬ l.getD k 0 > t := posR_stop t l l.length
    rw [hpp] at stop
    rcases stop with h0 | ⟨q, hk, hng⟩
    · subst h0
      simp only [ref18_Instances_L1, Int.natCast_zero, show decide ((0 : Int) > 0) = false from rfl, cond_false, bind_some', Bool.false_eq_true, if_false]
    · subst hk
      have hkl : q < l.length := by omega
      rw [getD_get l q hkl] at hng
      have hlow := shiftAt_low l t (q + 1) q (by omega) (by omega)
      have r0 : inRange (q : Int) (l.length + 1) := inRange_nat _ _ (by omega)
      have g1 : ((shiftAt l t (q + 1)).map iv)[q]? = some (iv l[q]) := by rw [ivs_get, hlow, List.getElem?_eq_getElem hkl]; rfl
      have g2 : ((shiftAt l t (q + 1)).map iv)[q + 1]? = some (iv t) := by rw [ivs_get, hat]; rfl
      simp only [ref18_Instances_L1, show decide (((q + 1 : Nat) : Int) > 0) = true by simp, cond_true, wrap_sub1 q (by omega), List.length_map, hlen, if_pos r0, if_pos r1, Int.toNat_natCast, g1, g2, bind_some', ci, asInt, if_true, show decide (l[q] > t) = false by simpa using hng, Bool.false_eq_true, if_false]
  · have h1 := rounds_gt
    have h2 : (4611686018427387904 : Nat) ≤ maxLen := by decide
    omega
  · simp [shiftAt]

theorem starts_ref' (x : Freq) : ref18_Starts_M [x.pv] = some (.rs 1 ((startsI x).map iv)) := by
  cases h : soundB x with
  | true =>
    rw [starts_ref x h, startsI_sound x h]
    simp [startsL, iv, Function.comp_def]
  | false =>
    rw [startsI_un x h]
    simp only [ref18_Starts_M, ref18_Starts, freqA, freq0, freq1, freq2, freq3, asInt, asBool, if_true, bind_some', freqE, fsound_ref, h, Bool.not_false, List.map_nil]
theorem adds_loop (rec3) (tr i : Int) (es : List PV) (s l : List Int) (hs : s.length ≤ 172800) (hl : l.length ≤ 1000000000) :
    lpS.run (ref18_Instances_L2 lpS rec3) (es, tr, i, s.map iv, 0, l.map iv, ()) = rec3 (es, tr, IntKind.i64.wrap (i + 1), (s.foldl (fun l t => insR t l) l).map iv, ()) := by
  refine loop_until (fun k => (es, tr, i, s.map iv, (k : Int), ((s.take k).foldl (fun l t => insR t l) l).map iv, ())) s.length (fun k hk rec => ?_) (fun rec => ?_) ?_ ?_
  · have h1 : (k : Int) < (s.length : Int) := by omega
    have hlk := fold_len (s.take k) l
    rw [List.length_take, Nat.min_eq_left (by omega)] at hlk
    have hnext : (s.take (k + 1)).foldl (fun l t => insR t l) l = insR s[k] ((s.take k).foldl (fun l t => insR t l) l) := by rw [List.take_succ_eq_append_getElem hk, List.foldl_append]; rfl
    generalize (s.take k).foldl (fun l t => insR t l) l = lk at hlk hnext
    have ci : ∀ n : Int, cell (iv n) 0 = .int .i64 n := fun _ => rfl
    have hroom : (lk.map iv ++ [PV.int .i64 s[k]]).length * 8 ≤ roomBound ∧ 0 < 8 := by
      refine ⟨?_, by decide⟩
      simp only [List.length_append, List.length_map, List.length_cons, List.length_nil]
      unfold roomBound; omega
    simp only [ref18_Instances_L2, decide_eq_true_eq, List.length_map, h1, if_true, idxP_nat, ivs_get, List.getElem?_eq_getElem hk, Option.map_some, bind_some', ci, asInt, if_pos hroom]
    have ha : lk.map iv ++ [PV.int .i64 s[k]] = (lk ++ [s[k]]).map iv := by simp [iv]
    have hw : IntKind.i64.wrap ((((lk ++ [s[k]]).map iv).length : Int) - 1) = (lk.length : Int) := by
      rw [List.length_map, List.length_append, List.length_cons, List.length_nil]
      exact wrap_sub1 _ (by omega)
    rw [ha, hw, swap_loop _ _ _ _ _ _ _ lk (by omega), wrap_nat (show k < 9223372036854775807 by omega), hnext]
  · simp only [ref18_Instances_L2, decide_eq_true_eq, List.length_map, Int.lt_irrefl, if_false, List.take_length]
  · have : 172801 < rounds := by decide
    omega
  · simp
theorem inst_ref (fs : List Freq) (hf : fs.length ≤ 1000) (i : Int) : ref18_Instances_M [.rs 4 (fs.map Freq.pv), .int .i64 i] = some (.rs 1 ((instI fs i).map iv)) := by
  simp only [ref18_Instances_M, ref18_Instances, asSl, asInt, if_true, bind_some']
  rw [instI_K]
  refine loop_until (fun k => (fs.map Freq.pv, i, (k : Int), (instK fs i k).map iv, ())) fs.length (fun k hk rec => ?_) (fun rec => ?_) ?_ ?_
  · have h1 : (k : Int) < (fs.length : Int) := by omega
    have hl := instK_len fs i k hf
    rw [instK_succ fs i k hk]
    simp only [ref18_Instances_L3, decide_eq_true_eq, List.length_map, h1, if_true, idxP_nat, List.getElem?_map, List.getElem?_eq_getElem hk, Option.map_some, bind_some', freq0, freq1, freq2, freq3, asInt, bne_d, freqE, starts_ref', asSl, wrap_nat (show k < 9223372036854775807 by omega)]
    by_cases e : fs[k].trip = i
    · simp only [e, decide_true, Bool.not_true, Bool.false_eq_true, if_false, if_true]
      have := adds_loop rec i k (fs.map Freq.pv) (startsI fs[k]) (instK fs i k) (startsI_len _) (by omega)
      rw [wrap_nat (show k < 9223372036854775807 by omega)] at this
      exact this
    · simp only [e, decide_false, Bool.not_false, if_true, if_false]
  · simp only [ref18_Instances_L3, decide_eq_true_eq, List.length_map, Int.lt_irrefl, if_false]
  · have : 1001 < rounds := by decide
    omega
  · simp [instK]
theorem rep_ref18 (fs : List Freq) (hl : fs.length ≤ maxLen) (t : Int) : ref18_Repeated_M [.rs 4 (fs.map Freq.pv), .int .i64 t] = some (.bool (repB fs t)) := by
  have hm := maxLen_lt
  simp only [ref18_Repeated_M, ref18_Repeated, asSl, asInt, if_true, bind_some', List.length_map]
  refine (dup_scan (fun k => (fs.map Freq.pv, t, (k : Int), ())) fs.length (fun k => decide ((fs.map Freq.trip)[k]? = some t)) (no := some (.bool true)) (fin := some (.bool false)) (fun k hk rec => ?_) (fun rec => ?_) ?_ rfl).trans ?_
  · have h1 : (k : Int) < (fs.length : Int) := by omega
    simp only [ref18_Repeated_L1, decide_eq_true_eq, List.length_map, h1, if_true, idxP_nat, List.getElem?_map, List.getElem?_eq_getElem hk, Option.map_some, bind_some', freq0, asInt, wrap_nat (show k < 9223372036854775807 by omega), beq_d, Option.some.injEq]
  · simp only [ref18_Repeated_L1, decide_eq_true_eq, List.length_map, Int.lt_irrefl, if_false]
  · have := rounds_gt; omega
  · have h := any_mem (fs.map Freq.trip) fs.length (by simp) t
    rw [h, List.take_of_length_le (by simp)]
    unfold repB
    by_cases h : t ∈ fs.map Freq.trip <;> simp only [h, decide_true, decide_false, if_true, Bool.false_eq_true, if_false]
end Go.Ab.Tt
