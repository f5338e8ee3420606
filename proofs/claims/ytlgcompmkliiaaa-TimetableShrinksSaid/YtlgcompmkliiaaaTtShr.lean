/- A timetable that is accepted is accepted without the last elements of some lists. -/
import Derived.Test.YtlgcompmkliiaaaTtLaws
namespace Go.Ab.Tt
set_option maxRecDepth 100000
set_option linter.unusedVariables false

theorem scanE_zero (f : Nat → Int) (n : Nat) : (scanE f n).2 = 0 ↔ ∀ k, k < n → f k = 0 := by
  unfold scanE
  cases hf : (List.range n).findSome? (fun k => if f k = 0 then none else some ((k : Int), f k)) with
  | none =>
    rw [List.findSome?_eq_none_iff] at hf
    refine ⟨fun _ k hk => ?_, fun _ => rfl⟩
    have := hf k (by simpa using hk)
    by_cases h : f k = 0
    · exact h
    · rw [if_neg h] at this; cases this
  | some r =>
    obtain ⟨k, hk, hr⟩ := List.exists_of_findSome?_eq_some hf
    by_cases h : f k = 0
    · rw [if_pos h] at hr; cases hr
    · rw [if_neg h] at hr
      cases hr
      exact ⟨fun h' => absurd h' h, fun h' => h' k (by simpa using hk)⟩
theorem lim_zero (m n : Nat) (f : Nat → Int) : (if n > m then ((0 : Int), (5 : Int)) else scanE f n).2 = 0 ↔ n ≤ m ∧ ∀ k, k < n → f k = 0 := by
  by_cases h : n > m
  · rw [if_pos h]
    constructor
    · intro h'; exact absurd h' (by decide)
    · intro h'; have := h'.1; omega
  · rw [if_neg h, scanE_zero]
    exact ⟨fun h' => ⟨by omega, h'⟩, fun h' => h'.2⟩
theorem take_get {A : Type} (l : List A) (n k : Nat) (h : k < (l.take n).length) : (l.take n)[k]? = l[k]? := by
  rw [List.getElem?_take_of_lt (by simp at h; omega)]
theorem take_take_le {A : Type} (l : List A) (n k : Nat) (h : k < (l.take n).length) : (l.take n).take k = l.take k := by
  rw [List.take_take, Nat.min_eq_left (by simp at h; omega)]
theorem exc_take (l : List Exc) (c : Int) (n : Nat) (h : (excRes l c).2 = 0) : (excRes (l.take n) c).2 = 0 := by
  unfold excRes at *
  rw [lim_zero] at *
  refine ⟨by have := List.length_take_le' n l; omega, fun k hk => ?_⟩
  have hk' : k < l.length := by have := List.length_take_le' n l; omega
  have := h.2 k hk'
  unfold excErr at *
  rw [take_get l n k hk, List.map_take, List.take_take, Nat.min_eq_left (by simp at hk; omega)]
  exact this
theorem path_take (l : List Path) (c : Int) (n : Nat) (h : (pathRes l c).2 = 0) : (pathRes (l.take n) c).2 = 0 := by
  unfold pathRes at *
  rw [lim_zero] at *
  refine ⟨by have := List.length_take_le' n l; omega, fun k hk => ?_⟩
  have hk' : k < l.length := by have := List.length_take_le' n l; omega
  have := h.2 k hk'
  unfold pathErr at *
  rw [take_get l n k hk, List.map_take, List.take_take, Nat.min_eq_left (by simp at hk; omega)]
  exact this
theorem freq_take (l : List Freq) (ts : List Trip) (n : Nat) (h : (freqRes l ts).2 = 0) : (freqRes (l.take n) ts).2 = 0 := by
  unfold freqRes at *
  rw [lim_zero] at *
  refine ⟨by have := List.length_take_le' n l; omega, fun k hk => ?_⟩
  have hk' : k < l.length := by have := List.length_take_le' n l; omega
  have := h.2 k hk'
  unfold freqErr sumS anyM at *
  rw [take_get l n k hk, take_take_le l n k hk]
  exact this
theorem rep_take (fs : List Freq) (n : Nat) (a b : Int) (h : pairRep (fs.take n) a b = true) : pairRep fs a b = true := by
  unfold pairRep repB at *
  simp only [Bool.or_eq_true, decide_eq_true_eq, List.map_take] at *
  exact h.imp (fun h => List.mem_of_mem_take h) (fun h => List.mem_of_mem_take h)
theorem thr_take (l : List Thr) (ts : List Trip) (fs : List Freq) (n m : Nat) (h : (thrRes l ts fs).2 = 0) : (thrRes (l.take n) ts (fs.take m)).2 = 0 := by
  unfold thrRes at *
  rw [lim_zero] at *
  refine ⟨by have := List.length_take_le' n l; omega, fun k hk => ?_⟩
  have hk' : k < l.length := by have := List.length_take_le' n l; omega
  have := h.2 k hk'
  unfold thrErr at *
  rw [take_get l n k hk, List.map_take, List.map_take, List.take_take, List.take_take, Nat.min_eq_left (by simp at hk; omega), take_take_le l n k hk]
  rw [List.getElem?_eq_getElem hk'] at this ⊢
  simp only at this ⊢
  by_cases h1 : pairB l[k].a l[k].b ts.length = true
  · rw [if_pos h1] at this; cases this
  · rw [if_neg h1] at this ⊢
    by_cases h2 : pairRep fs l[k].a l[k].b = true
    · rw [if_pos h2] at this; cases this
    · rw [if_neg h2] at this
      rw [if_neg fun h3 => h2 (rep_take fs m _ _ h3)]
      exact this
theorem guar_take (l : List Guar) (ts : List Trip) (fs : List Freq) (c : Int) (n m : Nat) (h : (guarRes l ts fs c).2 = 0) : (guarRes (l.take n) ts (fs.take m) c).2 = 0 := by
  unfold guarRes at *
  rw [lim_zero] at *
  refine ⟨by have := List.length_take_le' n l; omega, fun k hk => ?_⟩
  have hk' : k < l.length := by have := List.length_take_le' n l; omega
  have := h.2 k hk'
  unfold guarErr at *
  rw [take_get l n k hk, take_take_le l n k hk]
  rw [List.getElem?_eq_getElem hk'] at this ⊢
  simp only at this ⊢
  by_cases h1 : (pairB l[k].a l[k].b ts.length || !inB l[k].stop c) = true
  · rw [if_pos h1] at this; cases this
  · rw [if_neg h1] at this ⊢
    by_cases h2 : pairRep fs l[k].a l[k].b = true
    · rw [if_pos h2] at this; cases this
    · rw [if_neg h2] at this
      rw [if_neg fun h3 => h2 (rep_take fs m _ _ h3)]
      exact this

/-- the timetable with its short lists -/
def shrunk (T : Timetable) (n : Nat) : Timetable := { T with excs := T.excs.take n, freqs := T.freqs.take n, thrs := T.thrs.take n, guars := T.guars.take n, paths := T.paths.take n }
theorem shrunk_ok (T : Timetable) (hT : T.Ok) (n : Nat) : (shrunk T n).Ok := by
  have key : ∀ {A : Type} (l : List A) (p : A → Prop), (l.length ≤ maxLen ∧ ∀ y ∈ l, p y) → (l.take n).length ≤ maxLen ∧ ∀ y ∈ l.take n, p y := fun l p h =>
    ⟨Nat.le_trans (List.length_take_le' n l) h.1, fun y hy => h.2 y (List.mem_of_mem_take hy)⟩
  exact ⟨hT.stops, hT.routes, hT.cals, key _ _ hT.excs, hT.trips, key _ _ hT.freqs, key _ _ hT.thrs, key _ _ hT.guars, key _ _ hT.paths, hT.prods, hT.disc, hT.within, hT.cap⟩
theorem shrunk_part (T : Timetable) (n p : Nat) (h : (partRes T p).2 = 0) : (partRes (shrunk T n) p).2 = 0 := by
  match p with
  | 0 => exact h
  | 1 => exact h
  | 2 => exact h
  | 3 => exact exc_take _ _ _ h
  | 4 => exact h
  | 5 => exact freq_take _ _ _ h
  | 6 => exact thr_take _ _ _ _ _ h
  | 7 => exact guar_take _ _ _ _ _ _ h
  | 8 => exact path_take _ _ _ h
  | _ + 9 => exact h
theorem cut_eq {A : Type} (l : List A) (f : A → PV) (n : Int) (hn : ¬ n < 0) : List.drop (Int.toNat 0) (List.take (if (l.length : Int) < n then (l.length : Int) else n).toNat (l.map f)) = (l.take n.toNat).map f := by
  rw [show Int.toNat 0 = 0 from rfl, List.drop_zero, List.map_take]
  split
  · rename_i h
    rw [List.take_of_length_le (by simp), List.take_of_length_le (by simp; omega)]
  · rfl
theorem cut_len {A : Type} (l : List A) (f : A → PV) (n : Int) (hn : ¬ n < 0) (s : Nat) (hs : s ≠ 0) : (0 : Int) ≤ 0 ∧ (0 ≤ if (l.length : Int) < n then (l.length : Int) else n) ∧ (if (l.length : Int) < n then (l.length : Int) else n) ≤ (l.length : Int) ∧ True ∧ s ≠ 0 := by
  refine ⟨by omega, ?_, ?_, trivial, hs⟩ <;> split <;> omega
theorem ttShr (T : Timetable) (n : Nat) : PV.agg [.rs 4 (T.stops.map Stop.pv), .rs 3 (T.routes.map Route.pv), .rs 10 (T.cals.map Cal.pv), .rs 3 ((T.excs.take n).map Exc.pv), .rs 5 (T.trips.map Trip.pv), .rs 4 ((T.freqs.take n).map Freq.pv), .rs 2 ((T.thrs.take n).map Thr.pv), .rs 3 ((T.guars.take n).map Guar.pv), .rs 4 ((T.paths.take n).map Path.pv), .rs 6 (T.prods.map Prdt.pv), .int .i64 T.disc, .int .i64 T.within, .int .i64 T.cap] = (shrunk T n).pv := rfl
theorem shrinks_law (T : Timetable) (n : Int) (hT : T.Ok) (hn : (Lit.int .i64 n).wf = true) : law22_TimetableShrinks_M [T.pv, .int .i64 n] = some (.bool true) := by
  have hf := few_ok T hT.trips.1
  have h3 := exampleHolds22
  simp only [law22_TimetableShrinks_M, law22_TimetableShrinks, ttA, tt0, tt1, tt2, tt3, tt4, tt5, tt6, tt7, tt8, tt9, tt10, tt11, tt12, asSl, asInt, asBool, if_true, bind_some', ttE, hf, bif_or']
  cases hfb : (!fewB T || decide (n < 0)) with
  | true => simp only [if_true, h3, bind_some', asBool]
  | false =>
    rw [Bool.or_eq_false_iff, Bool.not_eq_false', decide_eq_false_iff_not] at hfb
    have hs := small_of_few T hfb.1
    have hs' : Small (shrunk T n.toNat) := hs
    obtain ⟨p, i, e, hw, he⟩ := whole_form T
    obtain ⟨p', i', e', hw', he'⟩ := whole_form (shrunk T n.toNat)
    have hee : e = 0 → e' = 0 := fun h => he'.2 fun p hp => shrunk_part T _ p (he.1 h p hp)
    have hb : (e != 0 || e' == 0) = true := by
      by_cases h : e = 0
      · rw [hee h, h]; decide
      · have hne : (e != 0) = true := by simp [bne, h]
        rw [hne]; rfl
    have hn0 := hfb.2
    simp only [whole3] at hw
    simp only [whole_prog T hT hs, hw, whole3, Bool.false_eq_true, if_false, bind_some', asTup, asInt, asBool, if_true, List.length_cons, List.length_nil, Nat.reduceAdd, List.getD_cons_zero, List.getD_cons_succ, List.length_map]
    rw [if_pos (cut_len T.excs Exc.pv n hn0 3 (by decide)), if_pos (cut_len T.freqs Freq.pv n hn0 4 (by decide)), if_pos (cut_len T.thrs Thr.pv n hn0 2 (by decide)), if_pos (cut_len T.guars Guar.pv n hn0 3 (by decide)), if_pos (cut_len T.paths Path.pv n hn0 4 (by decide))]
    rw [cut_eq T.excs Exc.pv n hn0, cut_eq T.freqs Freq.pv n hn0, cut_eq T.thrs Thr.pv n hn0, cut_eq T.guars Guar.pv n hn0, cut_eq T.paths Path.pv n hn0, ttShr, whole_prog _ (shrunk_ok T hT _) hs', hw']
    simp only [whole3, bind_some', asTup, asInt, asBool, if_true, List.length_cons, List.length_nil, Nat.reduceAdd, List.getD_cons_zero, List.getD_cons_succ, h3, hb, cond_true]
end Go.Ab.Tt
