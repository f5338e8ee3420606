/- The law on fewer warnings: without its last trip, to which nothing refers, a valid timetable stays valid and keeps its warnings about unused elements and unreachable stops. -/
import Derived.Test.YtnbhhepiekhbjaaGreatLtTwo
namespace Go.Ab.Tt
set_option maxRecDepth 1000000
set_option linter.unusedVariables false

/-! ### what refers to a trip -/
def refsB (T : Timetable) (t : Int) : Bool := repB T.freqs t || (decide (t ∈ T.thrs.map Thr.a) || decide (t ∈ T.thrs.map Thr.b)) || (decide (t ∈ T.guars.map Guar.a) || decide (t ∈ T.guars.map Guar.b))
def hit2 {A : Type} (l : List A) (f g : A → Int) (s : Int) (k : Nat) : Bool := match l[k]? with | some x => decide (f x = s) || decide (g x = s) | none => false
theorem hit2_any {A : Type} (l : List A) (f g : A → Int) (s : Int) : (List.range l.length).any (hit2 l f g s) = (decide (s ∈ l.map f) || decide (s ∈ l.map g)) := by
  rw [← range_mem, ← range_mem, Bool.eq_iff_iff, Bool.or_eq_true]
  unfold hit2 hitG
  simp only [List.any_eq_true, List.mem_range]
  constructor
  · rintro ⟨k, hk, h⟩
    rw [List.getElem?_eq_getElem hk] at h
    simp only [Bool.or_eq_true] at h
    rcases h with h | h
    · exact .inl ⟨k, hk, by rw [List.getElem?_eq_getElem hk]; exact h⟩
    · exact .inr ⟨k, hk, by rw [List.getElem?_eq_getElem hk]; exact h⟩
  · rintro (⟨k, hk, h⟩ | ⟨k, hk, h⟩)
    · refine ⟨k, hk, ?_⟩
      rw [List.getElem?_eq_getElem hk] at h ⊢
      simp only at h ⊢
      rw [h]; rfl
    · refine ⟨k, hk, ?_⟩
      rw [List.getElem?_eq_getElem hk] at h ⊢
      simp only at h ⊢
      rw [h, Bool.or_true]
theorem uses_guars (T : Timetable) (hT : T.Ok) (s : Int) : lpS.run law24_uses_L1 (s, 0, tl T ()) = some (.bool (decide (s ∈ T.guars.map Guar.a) || decide (s ∈ T.guars.map Guar.b))) := by
  have hm := maxLen_lt
  have hl := hT.guars.1
  refine (dup_scan (fun k => (s, (k : Int), tl T ())) T.guars.length (hit2 T.guars Guar.a Guar.b s) (no := some (.bool true)) (fin := some (.bool false)) (fun k hk rec => ?_) (fun rec => ?_) ?_ rfl).trans ?_
  · have h1 : (k : Int) < (T.guars.length : Int) := by omega
    simp only [law24_uses_L1, tl, List.length_map, decide_eq_true_eq, h1, if_true, idxP_nat, List.getElem?_map, List.getElem?_eq_getElem hk, Option.map_some, bind_some', guar0, guar1, asInt, beq_d, bif_or', wrap_nat (show k < 9223372036854775807 by omega), hit2]
  · simp only [law24_uses_L1, tl, List.length_map, decide_eq_true_eq, Int.lt_irrefl, if_false]
  · have := rounds_gt; omega
  · rw [hit2_any]; exact if_bool _
theorem uses_ok (T : Timetable) (hT : T.Ok) (s : Int) : law24_uses_M [T.pv, .int .i64 s] = some (.bool (refsB T s)) := by
  have hm := maxLen_lt
  have hl := hT.thrs.1
  have hg := uses_guars T hT s
  simp only [law24_uses_M, law24_uses, ttA, tt0, tt1, tt2, tt3, tt4, tt5, tt6, tt7, tt8, tt9, tt10, tt11, tt12, asSl, asInt, asBool, if_true, bind_some', repeated_ok T.freqs hT.freqs.1]
  unfold refsB
  cases repB T.freqs s with
  | true => simp only [if_true, Bool.true_or]
  | false =>
    simp only [Bool.false_eq_true, if_false, Bool.false_or]
    refine (dup_scan (fun k => (s, (k : Int), tl T ())) T.thrs.length (hit2 T.thrs Thr.a Thr.b s) (no := some (.bool true)) (fin := some (.bool (decide (s ∈ T.guars.map Guar.a) || decide (s ∈ T.guars.map Guar.b)))) (fun k hk rec => ?_) (fun rec => ?_) ?_ rfl).trans ?_
    · have h1 : (k : Int) < (T.thrs.length : Int) := by omega
      simp only [law24_uses_L2, tl, List.length_map, decide_eq_true_eq, h1, if_true, idxP_nat, List.getElem?_map, List.getElem?_eq_getElem hk, Option.map_some, bind_some', thr0, thr1, asInt, beq_d, bif_or', wrap_nat (show k < 9223372036854775807 by omega), hit2]
    · simp only [tl] at hg
      simp only [law24_uses_L2, tl, List.length_map, decide_eq_true_eq, Int.lt_irrefl, if_false, hg]
    · have := rounds_gt; omega
    · rw [hit2_any]
      cases (decide (s ∈ T.thrs.map Thr.a) || decide (s ∈ T.thrs.map Thr.b)) <;> simp

/-! ### without its last trip -/
def lessT (T : Timetable) : Timetable := { T with trips := T.trips.take (T.trips.length - 1) }
theorem less_ok (T : Timetable) (hT : T.Ok) : (lessT T).Ok where
  stops := hT.stops
  routes := hT.routes
  cals := hT.cals
  excs := hT.excs
  trips := ⟨by have := hT.trips.1; simp only [lessT, List.length_take]; omega, fun y hy => hT.trips.2 y (List.mem_of_mem_take hy)⟩
  freqs := hT.freqs
  thrs := hT.thrs
  guars := hT.guars
  paths := hT.paths
  prods := hT.prods
  disc := hT.disc
  within := hT.within
  cap := hT.cap
theorem less_bounds (T : Timetable) (hB : Bounds T) : Bounds (lessT T) where
  stops := hB.stops
  routes := hB.routes
  cals := hB.cals
  trips := by have := hB.trips; simp only [lessT, List.length_take]; omega
  small := fun y hy => hB.small y (List.mem_of_mem_take hy)
theorem scanE_zero (f : Nat → Int) (n : Nat) (h : ∀ k, k < n → f k = 0) : (scanE f n).2 = 0 := by
  unfold scanE
  have : (List.range n).findSome? (fun k => if f k = 0 then none else some ((k : Int), f k)) = none := by
    rw [List.findSome?_eq_none_iff]
    intro k hk
    rw [if_pos (h k (by simpa using hk))]
  rw [this]
/-- an index that stays in range -/
theorem less_get (l : List Trip) (t : Int) (n : Nat) (hn : l.length = n + 1) (h0 : 0 ≤ t) (hlt : t < (l.length : Int)) (hne : t ≠ n) : t < ((l.take n).length : Int) ∧ (l.take n)[t.toNat]? = l[t.toNat]? := by
  rw [List.length_take]
  refine ⟨by omega, ?_⟩
  rw [List.getElem?_take_of_lt (by omega)]
theorem less_valid (T : Timetable) (n : Nat) (hn : T.trips.length = n + 1) (hv : ttOk T = true) (hr : refsB T n = false) : ttOk (lessT T) = true := by
  rw [valid_iff] at hv ⊢
  have hl : lessT T = { T with trips := T.trips.take n } := by unfold lessT; rw [hn]; rfl
  unfold refsB at hr
  simp only [Bool.or_eq_false_iff, decide_eq_false_iff_not] at hr
  obtain ⟨⟨hrep, hta, htb⟩, hga, hgb⟩ := hr
  have hrep' : (n : Int) ∉ T.freqs.map Freq.trip := by unfold repB at hrep; simpa using hrep
  intro p hp
  have hvp := hv p hp
  rw [hl]
  match p, hp with
  | 0, _ => exact hvp
  | 1, _ => exact hvp
  | 2, _ => exact hvp
  | 3, _ => exact hvp
  | 4, _ =>
    simp only [partRes] at hvp ⊢
    unfold tripRes at hvp ⊢
    by_cases h64 : T.trips.length > 256
    · rw [if_pos h64] at hvp; cases hvp
    rw [if_neg h64] at hvp
    rw [if_neg (by rw [List.length_take]; omega)]
    refine scanE_zero _ _ fun k hk => ?_
    rw [List.length_take] at hk
    have := scanE_all _ _ hvp k (by omega)
    unfold tripErr at this ⊢
    rw [List.getElem?_take_of_lt (by omega), List.map_take, List.take_take, Nat.min_eq_left (by omega)]
    exact this
  | 5, _ =>
    simp only [partRes] at hvp ⊢
    unfold freqRes at hvp ⊢
    by_cases h64 : T.freqs.length > 64
    · rw [if_pos h64] at hvp; cases hvp
    rw [if_neg h64] at hvp ⊢
    refine scanE_zero _ _ fun k hk => ?_
    have := scanE_all _ _ hvp k hk
    unfold freqErr at this ⊢
    rw [List.getElem?_eq_getElem hk] at this ⊢
    simp only at this ⊢
    by_cases c : (decide (T.freqs[k].trip < 0) || decide (T.freqs[k].trip ≥ (T.trips.length : Int))) = true
    · rw [if_pos c] at this; cases this
    rw [if_neg c] at this
    rw [Bool.not_eq_true, Bool.or_eq_false_iff, decide_eq_false_iff_not, decide_eq_false_iff_not] at c
    have hne : T.freqs[k].trip ≠ n := fun he => hrep' (List.mem_map.2 ⟨_, List.getElem_mem hk, he⟩)
    obtain ⟨g1, g2⟩ := less_get T.trips T.freqs[k].trip n hn (by omega) (by omega) hne
    have c' : ¬ (decide (T.freqs[k].trip < 0) || decide (T.freqs[k].trip ≥ ((T.trips.take n).length : Int))) = true := by
      rw [Bool.not_eq_true, Bool.or_eq_false_iff, decide_eq_false_iff_not, decide_eq_false_iff_not]; omega
    rw [if_neg c']
    have hf : fitsAt (T.trips.take n) T.freqs[k] = fitsAt T.trips T.freqs[k] := by unfold fitsAt; rw [g2]
    rw [hf]; exact this
  | 6, _ =>
    simp only [partRes] at hvp ⊢
    unfold thrRes at hvp ⊢
    by_cases h64 : T.thrs.length > 128
    · rw [if_pos h64] at hvp; cases hvp
    rw [if_neg h64] at hvp ⊢
    refine scanE_zero _ _ fun k hk => ?_
    have := scanE_all _ _ hvp k hk
    unfold thrErr at this ⊢
    rw [List.getElem?_eq_getElem hk] at this ⊢
    simp only at this ⊢
    by_cases c : pairB T.thrs[k].a T.thrs[k].b T.trips.length = true
    · rw [if_pos c] at this; cases this
    rw [if_neg c] at this
    rw [Bool.not_eq_true] at c
    obtain ⟨i, j, e1, e2, l1, l2⟩ := pair_in _ _ _ c
    have n1 : T.thrs[k].a ≠ n := fun he => hta (List.mem_map.2 ⟨_, List.getElem_mem hk, he⟩)
    have n2 : T.thrs[k].b ≠ n := fun he => htb (List.mem_map.2 ⟨_, List.getElem_mem hk, he⟩)
    obtain ⟨g1, g2⟩ := less_get T.trips T.thrs[k].a n hn (by omega) (by omega) n1
    obtain ⟨g3, g4⟩ := less_get T.trips T.thrs[k].b n hn (by omega) (by omega) n2
    have c' : pairB T.thrs[k].a T.thrs[k].b (T.trips.take n).length = false := by
      unfold pairB inB at c ⊢
      simp only [Bool.or_eq_false_iff, Bool.not_eq_false', Bool.and_eq_true, decide_eq_true_eq, decide_eq_false_iff_not] at c ⊢
      exact ⟨⟨⟨c.1.1.1, g1⟩, ⟨c.1.2.1, g3⟩⟩, c.2⟩
    rw [c', g2, g4]
    exact this
  | 7, _ =>
    simp only [partRes] at hvp ⊢
    unfold guarRes at hvp ⊢
    by_cases h64 : T.guars.length > 128
    · rw [if_pos h64] at hvp; cases hvp
    rw [if_neg h64] at hvp ⊢
    refine scanE_zero _ _ fun k hk => ?_
    have := scanE_all _ _ hvp k hk
    unfold guarErr at this ⊢
    rw [List.getElem?_eq_getElem hk] at this ⊢
    simp only at this ⊢
    by_cases c : (pairB T.guars[k].a T.guars[k].b T.trips.length || !inB T.guars[k].stop T.stops.length) = true
    · rw [if_pos c] at this; cases this
    rw [if_neg c] at this
    rw [Bool.not_eq_true, Bool.or_eq_false_iff] at c
    obtain ⟨i, j, e1, e2, l1, l2⟩ := pair_in _ _ _ c.1
    have n1 : T.guars[k].a ≠ n := fun he => hga (List.mem_map.2 ⟨_, List.getElem_mem hk, he⟩)
    have n2 : T.guars[k].b ≠ n := fun he => hgb (List.mem_map.2 ⟨_, List.getElem_mem hk, he⟩)
    obtain ⟨g1, g2⟩ := less_get T.trips T.guars[k].a n hn (by omega) (by omega) n1
    obtain ⟨g3, g4⟩ := less_get T.trips T.guars[k].b n hn (by omega) (by omega) n2
    have c1 := c.1
    have c' : pairB T.guars[k].a T.guars[k].b (T.trips.take n).length = false := by
      unfold pairB inB at c1 ⊢
      simp only [Bool.or_eq_false_iff, Bool.not_eq_false', Bool.and_eq_true, decide_eq_true_eq, decide_eq_false_iff_not] at c1 ⊢
      exact ⟨⟨⟨c1.1.1.1, g1⟩, ⟨c1.1.2.1, g3⟩⟩, c1.2⟩
    rw [c', c.2, g2, g4]
    exact this
  | 8, _ => exact hvp
  | 9, _ => exact hvp

/-! ### what is kept -/
theorem miss_mono (kind : Int) (f g : Int → Bool) (n : Nat) (h : ∀ a, g a = true → f a = true) (w : Warn) (hw : w ∈ missW kind f n) : w ∈ missW kind g n := by
  unfold missW at hw ⊢
  rw [List.mem_map] at hw ⊢
  obtain ⟨i, hi, he⟩ := hw
  rw [List.mem_filter] at hi
  refine ⟨i, ?_, he⟩
  rw [List.mem_filter]
  refine ⟨hi.1, ?_⟩
  have h2 := hi.2
  rw [Bool.not_eq_true'] at h2 ⊢
  cases hg : g i with
  | false => rfl
  | true => rw [h i hg] at h2; cases h2
theorem take_flat {A : Type} (l : List Trip) (n : Nat) (f : Trip → List A) (a : A) (h : a ∈ (l.take n).flatMap f) : a ∈ l.flatMap f := by
  rw [List.mem_flatMap] at h ⊢
  obtain ⟨x, hx, ha⟩ := h
  exact ⟨x, List.mem_of_mem_take hx, ha⟩
theorem kept (T : Timetable) (w : Warn) (hw : w ∈ progW T) (hk : w.kind ≤ 3 ∨ w.kind = 6) : w ∈ progW (lessT T) := by
  have m1 : ∀ a, usedS (lessT T) a = true → usedS T a = true := fun a h => by
    unfold usedS at h ⊢
    rw [decide_eq_true_eq, List.mem_append] at h ⊢
    rcases h with h | h
    · exact .inl (take_flat _ _ _ _ h)
    · exact .inr h
  have m2 : ∀ a, usedR (lessT T) a = true → usedR T a = true := fun a h => by
    unfold usedR at h ⊢
    rw [decide_eq_true_eq, List.mem_map] at h ⊢
    obtain ⟨x, hx, he⟩ := h
    exact ⟨x, List.mem_of_mem_take hx, he⟩
  have m3 : ∀ a, usedC (lessT T) a = true → usedC T a = true := fun a h => by
    unfold usedC at h ⊢
    rw [decide_eq_true_eq, List.mem_map] at h ⊢
    obtain ⟨x, hx, he⟩ := h
    exact ⟨x, List.mem_of_mem_take hx, he⟩
  have m6 : ∀ a, reachS (lessT T) a = true → reachS T a = true := fun a h => by
    unfold reachS at h ⊢
    rw [decide_eq_true_eq, List.mem_append] at h ⊢
    rcases h with h | h
    · exact .inl (take_flat _ _ _ _ h)
    · exact .inr h
  unfold progW at hw ⊢
  simp only [List.mem_append] at hw ⊢
  rcases hw with (((((hw | hw) | hw) | hw) | hw) | hw) | hw
  · exact .inl (.inl (.inl (.inl (.inl (.inl (miss_mono 1 _ _ _ m1 w hw))))))
  · exact .inl (.inl (.inl (.inl (.inl (.inr (miss_mono 2 _ _ _ m2 w hw))))))
  · exact .inl (.inl (.inl (.inl (.inr (miss_mono 3 _ _ _ m3 w hw)))))
  · have := missW_kind _ _ _ w hw; omega
  · have := overL_kind _ _ w hw; omega
  · exact .inl (.inr (miss_mono 6 _ _ _ m6 w hw))
  · have := missW_kind _ _ _ w hw; omega
theorem has_ok (l : List Warn) (hl : l.length ≤ 10000) (w : Warn) : law24_has_M [.rs 3 (l.map Warn.pv), w.pv] = some (.bool (decide (w ∈ l))) := by
  simp only [law24_has_M, law24_has, asSl, asInt, if_true, bind_some', warnA, warn0, warn1, warn2]
  refine (dup_scan (fun k => (l.map Warn.pv, (k : Int), w.kind, w.a, w.b, ())) l.length (fun k => decide (l[k]? = some w)) (no := some (.bool true)) (fin := some (.bool false)) (fun k hk rec => ?_) (fun rec => ?_) ?_ rfl).trans ?_
  · have h1 : (k : Int) < (l.length : Int) := by omega
    simp only [law24_has_L1, decide_eq_true_eq, List.length_map, h1, if_true, idxP_nat, List.getElem?_map, List.getElem?_eq_getElem hk, Option.map_some, bind_some', warn0, warn1, warn2, warn_chk, and_self, warn_eq, Option.some.injEq, wrap_nat (show k < 9223372036854775807 by omega)]
  · simp only [law24_has_L1, decide_eq_true_eq, List.length_map, Int.lt_irrefl, if_false]
  · have := rounds_gt; have : 100000 ≤ maxLen := by decide
    omega
  · rw [any_mem l l.length (by omega), List.take_length]; exact if_bool _
theorem fewer_law (T : Timetable) (hT : T.Ok) : law24_LintFewer_M [T.pv] = some (.bool true) := by
  have hm := maxLen_lt
  have htl := hT.trips.1
  obtain ⟨b, hb, hB⟩ := large_ok T hT
  simp only [law24_LintFewer_M, law24_LintFewer, ttA, tt0, tt1, tt2, tt3, tt4, tt5, tt6, tt7, tt8, tt9, tt10, tt11, tt12, asSl, asInt, asBool, if_true, bind_some', ttE, hb, List.length_map]
  cases b with
  | true => simp only [cond_true, bind_some', if_true, exampleHolds24]
  | false =>
    have hB' := hB rfl
    have hv := valid_ok T hT hB'.small
    simp only [cond_false, hv, bind_some', bif_or']
    cases hok : ttOk T with
    | false => simp only [Bool.not_false, Bool.true_or, cond_true, if_true, exampleHolds24, bind_some']
    | true =>
      cases hn : T.trips.length with
      | zero =>
        have : decide (IntKind.i64.wrap (((0 : Nat) : Int) - 1) < 0) = true := by decide
        simp only [Bool.not_true, Bool.false_or, this, cond_true, if_true, exampleHolds24, bind_some']
      | succ n =>
        have hw1 : IntKind.i64.wrap (((n + 1 : Nat) : Int) - 1) = (n : Int) := by rw [wrap_in (by omega) (by omega)]; omega
        have hneg : decide ((n : Int) < 0) = false := by simp
        simp only [Bool.not_true, Bool.false_or, hw1, hneg, cond_false, uses_ok T hT, bind_some']
        cases hr : refsB T n with
        | true => simp only [if_true, exampleHolds24, bind_some']
        | false =>
          have hv2 := less_valid T n hn hok hr
          have w1 := warnings_prog T hT hB'
          have w2 := warnings_prog (lessT T) (less_ok T hT) (less_bounds T hB')
          have l1 := progW_len T hB'
          have l2 := progW_len (lessT T) (less_bounds T hB')
          simp only [hok, hv2, if_true] at w1 w2
          have hpv : PV.agg [.rs 4 (T.stops.map Stop.pv), .rs 3 (T.routes.map Route.pv), .rs 10 (T.cals.map Cal.pv), .rs 3 (T.excs.map Exc.pv), .rs 5 (List.drop (Int.toNat 0) (List.take (Int.toNat (n : Int)) (T.trips.map Trip.pv))), .rs 4 (T.freqs.map Freq.pv), .rs 2 (T.thrs.map Thr.pv), .rs 3 (T.guars.map Guar.pv), .rs 4 (T.paths.map Path.pv), .rs 6 (T.prods.map Prdt.pv), .int .i64 T.disc, .int .i64 T.within, .int .i64 T.cap] = (lessT T).pv := by
            unfold lessT Timetable.pv
            rw [hn]
            simp [List.map_take]
          simp only [Bool.false_eq_true, if_false, w1, bind_some', if_true]
          rw [if_pos ⟨by omega, by omega, by omega, trivial, by decide⟩, hpv, w2]
          simp only [bind_some', asSl, if_true]
          refine loop_until (fun k => ((progW T).map Warn.pv, (progW (lessT T)).map Warn.pv, (k : Int), ())) (progW T).length (fun k hk rec => ?_) (fun rec => ?_) ?_ rfl
          · have h1 : (k : Int) < ((progW T).length : Int) := by omega
            have hh := has_ok (progW (lessT T)) (by omega) (progW T)[k]
            have hbad : ((decide ((progW T)[k].kind ≤ 3) || decide ((progW T)[k].kind = 6)) && !decide ((progW T)[k] ∈ progW (lessT T))) = false := by
              by_cases hc : (decide ((progW T)[k].kind ≤ 3) || decide ((progW T)[k].kind = 6)) = true
              · have := kept T _ (List.getElem_mem hk) (by simpa using hc)
                simp [this]
              · rw [Bool.not_eq_true] at hc
                rw [hc]; rfl
            simp only [law24_LintFewer_L1, decide_eq_true_eq, List.length_map, h1, if_true, idxP_nat, List.getElem?_map, List.getElem?_eq_getElem hk, Option.map_some, bind_some', warn0, warn1, warn2, warnE, asInt, asBool, beq_d, bif_or', hh, bif_and, hbad, Bool.false_eq_true, if_false, wrap_nat (show k < 9223372036854775807 by omega)]
          · simp only [law24_LintFewer_L1, decide_eq_true_eq, List.length_map, Int.lt_irrefl, if_false, bind_some', exampleHolds24, asBool]
          · have := rounds_gt; have : 100000 ≤ maxLen := by decide
            omega
end Go.Ab.Tt
