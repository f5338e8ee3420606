/- The law RunsMeet. -/
import Derived.Test.YtinbhofpofcmeaaGreatDoorRnP
namespace Go.Ab.Tt
set_option maxRecDepth 100000
set_option linter.unusedVariables false
set_option linter.unusedSimpArgs false

structure LinkOk (l : List Run) (x : Lnk) : Prop where
  ends : ∃ (a b : Nat) (r q : Run) (i k : Nat) (c d : Kall), x.a = a ∧ x.b = b ∧ a ≠ b ∧ l[a]? = some r ∧ l[b]? = some q ∧ r.day = q.day ∧ x.ac = i ∧ x.bc = k ∧ r.calls[i]? = some c ∧ q.calls[k]? = some d ∧ c.stop = d.stop ∧ ¬ d.dep < c.arr ∧ (x.stay = true → i + 1 = r.calls.length ∧ k = 0)
def Lnk.key (x : Lnk) : Int × Int × Int × Int := (x.a, x.ac, x.b, x.bc)
theorem meets_at {a b : List Kall} {s : Int} (h : meetsB a b s = true) : ∃ (i k : Nat) (c d : Kall), mI a b s = ((i : Int), (k : Int)) ∧ a[i]? = some c ∧ b[k]? = some d ∧ c.stop = s ∧ d.stop = s ∧ ¬ d.dep < c.arr := by
  unfold meetsB at h
  unfold mI
  cases hi : (List.range a.length).find? (aliP a s) with
  | none => rw [hi] at h; cases h
  | some i =>
    rw [hi] at h
    simp only at h ⊢
    cases hk : (List.range b.length).find? (boaP b s) with
    | none => rw [hk] at h; cases h
    | some k =>
      rw [hk] at h
      simp only at h ⊢
      rw [if_pos h]
      have h1 := List.find?_some hi
      have h2 := List.find?_some hk
      unfold aliP at h1
      unfold boaP at h2
      unfold mtB at h
      cases ha : a[i]? with
      | none => rw [ha] at h1; simp at h1
      | some c =>
        cases hb : b[k]? with
        | none => rw [hb] at h2; simp at h2
        | some d =>
          rw [ha] at h1; rw [hb] at h2; rw [ha, hb] at h
          simp only [Bool.and_eq_true, decide_eq_true_eq, Bool.not_eq_true', decide_eq_false_iff_not] at h1 h2 h
          exact ⟨i, k, c, d, rfl, ha, hb, h1.2.1, h2.2.1, h⟩
theorem stay_ok {T : Timetable} (hV : ValidT T) {l : List Run} (hk : ∀ r ∈ l, knownB T r = true) {a : Nat} {r : Run} (ha : l[a]? = some r) {x : Lnk} (hx : stayL T l a r = some x) : LinkOk l x ∧ x.a = a ∧ x.stay = true := by
  unfold stayL at hx
  obtain ⟨n, hn, hx⟩ := Option.bind_eq_some_iff.1 hx
  obtain ⟨b, hb, hx⟩ := Option.map_eq_some_iff.1 hx
  obtain ⟨hbl, q, hq, hqk⟩ := findK_lt hb
  have hn' := hn
  unfold nextI at hn'
  obtain ⟨y, hy, hyb⟩ := Option.map_eq_some_iff.1 hn'
  have hym := List.mem_of_find?_eq_some hy
  have hya : y.a = r.trip := by simpa using List.find?_some hy
  obtain ⟨hp, hrep⟩ := thr_valid hV hym
  obtain ⟨gi, gj, hgi, hgj, hil, hjl⟩ := pair_in y.a y.b T.trips hp
  have hne : y.a ≠ y.b := by
    unfold pairB at hp
    simp only [Bool.or_eq_false_iff, decide_eq_false_iff_not] at hp
    exact hp.2
  have hra : repB T.freqs y.a = false ∧ repB T.freqs y.b = false := by
    unfold pairRep at hrep
    simpa using hrep
  simp only [Run.key, Prod.mk.injEq] at hqk
  obtain ⟨hd, i1, x1, hi1, hx1, e1⟩ := known_zero (hk r (List.mem_of_getElem? ha)) (by rw [← hya]; exact hra.1)
  obtain ⟨_, i2, x2, hi2, hx2, e2⟩ := known_zero (hk q (List.mem_of_getElem? hq)) (by rw [hqk.1, ← hyb]; exact hra.2)
  have c1 : r.calls = x1.calls.map (shK (dayS r.day)) := by rw [e1]; rfl
  have c2 : q.calls = x2.calls.map (shK (dayS r.day)) := by rw [← hqk.2.1, e2]; rfl
  -- the pair follows
  obtain ⟨kk, hkk⟩ := List.mem_iff_getElem?.1 hym
  have hfol : followsE x1 x2 = 0 := by
    have h6 : (thrRes T.thrs T.trips T.freqs).2 = 0 := hV 6 (by decide)
    unfold thrRes at h6
    by_cases h : T.thrs.length > 128
    · rw [if_pos h] at h6; cases h6
    · rw [if_neg h] at h6
      have he := scanE_all _ _ h6 kk (List.getElem?_eq_some_iff.1 hkk).1
      unfold thrErr at he
      rw [hkk] at he
      simp only at he
      rw [if_neg (by simp [hp]), if_neg (by simp [hrep])] at he
      have t1 : T.trips[y.a.toNat]? = some x1 := by rw [hya, hi1, Int.toNat_natCast]; exact hx1
      have t2 : T.trips[y.b.toNat]? = some x2 := by rw [hyb, ← hqk.1, hi2, Int.toNat_natCast]; exact hx2
      rw [t1, t2] at he
      simp only at he
      by_cases hz : followsE x1 x2 = 0
      · exact hz
      · rw [if_neg hz] at he; exact absurd he hz
  have tp := trip_valid hV hx1
  have tq := trip_valid hV hx2
  obtain ⟨_, hD0, hD1⟩ := dayS_eq hd
  have hl1 : x1.calls.length - 1 < x1.calls.length := by have := tp.two; omega
  have hl2 : 0 < x2.calls.length := by have := tq.two; omega
  have g1 := List.getElem?_eq_getElem hl1
  have g2 := List.getElem?_eq_getElem hl2
  unfold followsE at hfol
  by_cases hcal : (!decide (x1.cal = x2.cal)) = true
  · rw [if_pos hcal] at hfol; cases hfol
  · rw [if_neg hcal, g1, g2] at hfol
    simp only at hfol
    by_cases hs : (!decide (x1.calls[x1.calls.length - 1].stop = x2.calls[0].stop)) = true
    · rw [if_pos hs] at hfol; cases hfol
    · rw [if_neg hs] at hfol
      by_cases ht : x2.calls[0].dep < x1.calls[x1.calls.length - 1].arr
      · rw [if_pos ht] at hfol; cases hfol
      · have hy1 := tp.call _ _ g1
        have hy2 := tq.call _ _ g2
        have w1 : (shK (dayS r.day) x1.calls[x1.calls.length - 1]).arr = x1.calls[x1.calls.length - 1].arr + dayS r.day := wrap_in (by omega) (by omega)
        have w2 : (shK (dayS r.day) x2.calls[0]).dep = x2.calls[0].dep + dayS r.day := wrap_in (by omega) (by omega)
        have hrl : r.calls.length = x1.calls.length := by rw [c1, List.length_map]
        have htw := tp.two
        subst hx
        refine ⟨⟨a, b, r, q, x1.calls.length - 1, 0, shK (dayS r.day) x1.calls[x1.calls.length - 1], shK (dayS r.day) x2.calls[0], rfl, rfl, ?_, ha, hq, hqk.2.1.symm, ?_, rfl, ?_, ?_, ?_, ?_, fun _ => ⟨by omega, rfl⟩⟩, rfl, rfl⟩
        · intro e
          subst e
          rw [ha] at hq
          cases hq
          exact hne (by rw [hya, hyb]; exact hqk.1)
        · simp only [hrl]; omega
        · rw [c1, List.getElem?_map, g1]; rfl
        · rw [c2, List.getElem?_map, g2]; rfl
        · have : x1.calls[x1.calls.length - 1].stop = x2.calls[0].stop := by simpa using hs
          exact this
        · rw [w1, w2]; omega
theorem guar_ok {T : Timetable} (hV : ValidT T) {l : List Run} {a : Nat} {r : Run} (ha : l[a]? = some r) {g : Guar} (hg : g ∈ T.guars) {x : Lnk} (hx : guarL T l a r g = some x) :
    LinkOk l x ∧ x.a = a ∧ g.a = r.trip ∧ stayL T l a r ≠ some { x with stay := true } ∧ ∃ (b i : Nat) (q : Run) (c : Kall), x.b = b ∧ l[b]? = some q ∧ g.b = q.trip ∧ x.ac = i ∧ r.calls[i]? = some c ∧ c.stop = g.stop := by
  obtain ⟨gi, gj, gp, gq, hgi, hgj, _, _, _, _, _⟩ := guar_valid hV hg
  have hne : g.a ≠ g.b := by
    obtain ⟨k, hk⟩ := List.mem_iff_getElem?.1 hg
    have h7 : (guarRes T.guars T.trips T.freqs T.stops.length).2 = 0 := hV 7 (by decide)
    unfold guarRes at h7
    by_cases h : T.guars.length > 128
    · rw [if_pos h] at h7; cases h7
    · rw [if_neg h] at h7
      have he := scanE_all _ _ h7 k (List.getElem?_eq_some_iff.1 hk).1
      unfold guarErr at he
      rw [hk] at he
      simp only at he
      by_cases h1 : (pairB g.a g.b T.trips.length || !inB g.stop T.stops.length) = true
      · rw [if_pos h1] at he; cases he
      · simp only [Bool.or_eq_true, not_or, Bool.not_eq_true] at h1
        have := h1.1
        unfold pairB at this
        simp only [Bool.or_eq_false_iff, decide_eq_false_iff_not] at this
        exact this.2
  unfold guarL at hx
  by_cases hga : g.a = r.trip
  · rw [if_pos hga] at hx
    obtain ⟨b, hb, hx⟩ := Option.bind_eq_some_iff.1 hx
    obtain ⟨q, hq, hx⟩ := Option.bind_eq_some_iff.1 hx
    obtain ⟨_, q', hq', hqk⟩ := findK_lt hb
    rw [hq] at hq'
    cases hq'
    simp only [Run.key, Prod.mk.injEq] at hqk
    by_cases hc : meetsB r.calls q.calls g.stop = false ∨ stayL T l a r = some ⟨a, (mI r.calls q.calls g.stop).1, b, (mI r.calls q.calls g.stop).2, true⟩
    · rw [if_pos hc] at hx; cases hx
    · rw [if_neg hc] at hx
      rw [not_or] at hc
      obtain ⟨i, k, c, d, hm, hci, hdk, hcs, hds, ht⟩ := meets_at (show meetsB r.calls q.calls g.stop = true by simpa using hc.1)
      rw [hm] at hx hc
      simp only [Option.some.injEq] at hx
      subst hx
      refine ⟨⟨a, b, r, q, i, k, c, d, rfl, rfl, ?_, ha, hq, hqk.2.1.symm, rfl, rfl, hci, hdk, by rw [hcs, hds], ht, fun h => by cases h⟩, rfl, hga, hc.2, b, i, q, c, rfl, hq, hqk.1.symm, rfl, hci, hcs⟩
      intro e
      subst e
      rw [ha] at hq
      cases hq
      exact hne (by rw [hga, hqk.1])
  · rw [if_neg hga] at hx; cases hx
theorem guars_nodup {T : Timetable} (hV : ValidT T) : T.guars.Pairwise fun g h => g ≠ h := by
  rw [List.pairwise_iff_getElem]
  intro i j hi hj hij e
  have h7 : (guarRes T.guars T.trips T.freqs T.stops.length).2 = 0 := hV 7 (by decide)
  unfold guarRes at h7
  by_cases h : T.guars.length > 128
  · rw [if_pos h] at h7; cases h7
  · rw [if_neg h] at h7
    have he := scanE_all _ _ h7 j hj
    unfold guarErr at he
    rw [List.getElem?_eq_getElem hj] at he
    simp only at he
    obtain ⟨gi, gj, gp, gq, hgi, hgj, hgp, hgq, hra, hrb, hmt⟩ := guar_valid hV (List.getElem_mem hj)
    have t1 : T.trips[T.guars[j].a.toNat]? = some gp := by rw [hgi, Int.toNat_natCast]; exact hgp
    have t2 : T.trips[T.guars[j].b.toNat]? = some gq := by rw [hgj, Int.toNat_natCast]; exact hgq
    by_cases h1 : (pairB T.guars[j].a T.guars[j].b T.trips.length || !inB T.guars[j].stop T.stops.length) = true
    · rw [if_pos h1] at he; cases he
    · rw [if_neg h1] at he
      by_cases h2 : pairRep T.freqs T.guars[j].a T.guars[j].b = true
      · rw [if_pos h2] at he; cases he
      · rw [if_neg h2, t1, t2] at he
        simp only at he
        rw [if_neg (by simp [hmt])] at he
        have hmem : T.guars[j] ∈ T.guars.take j := by
          rw [← e, List.mem_iff_getElem?]
          exact ⟨i, by rw [List.getElem?_take_of_lt hij, List.getElem?_eq_getElem hi]⟩
        rw [if_pos hmem] at he
        cases he
theorem linksOf_pair {T : Timetable} (hV : ValidT T) {l : List Run} (hk : ∀ r ∈ l, knownB T r = true) {a : Nat} {r : Run} (ha : l[a]? = some r) : (linksOf T l a r).Pairwise fun x y => x.key ≠ y.key := by
  unfold linksOf
  rw [List.pairwise_append]
  refine ⟨?_, ?_, ?_⟩
  · cases stayL T l a r <;> simp
  · rw [List.pairwise_filterMap]
    refine List.Pairwise.imp_of_mem (R := fun g h => g ≠ h) (fun {g h} hg hh hne x hx y hy e => ?_) (guars_nodup hV)
    obtain ⟨_, _, hga, _, b, i, q, c, hb, hq, hgb, hi, hc, hcs⟩ := guar_ok hV ha hg hx
    obtain ⟨_, _, hga', _, b', i', q', c', hb', hq', hgb', hi', hc', hcs'⟩ := guar_ok hV ha hh hy
    simp only [Lnk.key, Prod.mk.injEq] at e
    have eb : b = b' := by omega
    have ei : i = i' := by omega
    subst eb; subst ei
    rw [hq] at hq'; cases hq'
    rw [hc] at hc'; cases hc'
    apply hne
    obtain ⟨g1, g2, g3⟩ := g
    obtain ⟨k1, k2, k3⟩ := h
    simp only at hga hga' hgb hgb' hcs hcs'
    rw [Guar.mk.injEq]
    exact ⟨by omega, by omega, by omega⟩
  · intro x hx y hy e
    obtain ⟨g, hg, hy⟩ := List.mem_filterMap.1 hy
    obtain ⟨_, hya, _, hns, _⟩ := guar_ok hV ha hg hy
    have hxs : stayL T l a r = some x := by
      cases hs : stayL T l a r with
      | none => rw [hs] at hx; cases hx
      | some z =>
        rw [hs] at hx
        simp only [Option.toList_some, List.mem_singleton] at hx
        rw [hx]
    obtain ⟨_, hxa, hxst⟩ := stay_ok hV hk ha hxs
    apply hns
    rw [hxs]
    simp only [Lnk.key, Prod.mk.injEq] at e
    obtain ⟨x1, x2, x3, x4, x5⟩ := x
    obtain ⟨y1, y2, y3, y4, y5⟩ := y
    simp only at e hxst
    obtain ⟨e1, e2, e3, e4⟩ := e
    subst e1; subst e2; subst e3; subst e4; subst hxst
    rfl
theorem link_ok {T : Timetable} (hV : ValidT T) {l : List Run} (hk : ∀ r ∈ l, knownB T r = true) {n : Nat} {x : Lnk} (hx : x ∈ allLinks T l n) : LinkOk l x := by
  obtain ⟨a, _, hx⟩ := List.mem_flatMap.1 hx
  unfold linksAt at hx
  cases ha : l[a]? with
  | none => rw [ha] at hx; cases hx
  | some r =>
    rw [ha] at hx
    simp only [linksOf, List.mem_append, List.mem_filterMap] at hx
    rcases hx with hx | ⟨g, hg, hx⟩
    · cases hs : stayL T l a r with
      | none => rw [hs] at hx; cases hx
      | some z =>
        rw [hs] at hx
        simp only [Option.toList_some, List.mem_singleton] at hx
        subst hx
        exact (stay_ok hV hk ha hs).1
    · exact (guar_ok hV ha hg hx).1
theorem at_a {T : Timetable} (hV : ValidT T) {l : List Run} (hk : ∀ r ∈ l, knownB T r = true) {a : Nat} {x : Lnk} (hx : x ∈ linksAt T l a) : x.a = a := by
  unfold linksAt at hx
  cases ha : l[a]? with
  | none => rw [ha] at hx; cases hx
  | some r =>
    rw [ha] at hx
    simp only [linksOf, List.mem_append, List.mem_filterMap] at hx
    rcases hx with hx | ⟨g, hg, hx⟩
    · cases hs : stayL T l a r with
      | none => rw [hs] at hx; cases hx
      | some z =>
        rw [hs] at hx
        simp only [Option.toList_some, List.mem_singleton] at hx
        subst hx
        exact (stay_ok hV hk ha hs).2.1
    · exact (guar_ok hV ha hg hx).2.1
theorem all_pair {T : Timetable} (hV : ValidT T) {l : List Run} (hk : ∀ r ∈ l, knownB T r = true) (n : Nat) : (allLinks T l n).Pairwise fun x y => x.key ≠ y.key := by
  unfold allLinks
  rw [List.pairwise_flatMap]
  refine ⟨fun a _ => ?_, ?_⟩
  · unfold linksAt
    cases ha : l[a]? with
    | none => simp
    | some r => exact linksOf_pair hV hk ha
  · refine List.Pairwise.imp_of_mem (R := fun a b => a ≠ b) (fun {a b} _ _ h x hx y hy e => ?_) List.nodup_range
    have h1 := at_a hV hk hx
    have h2 := at_a hV hk hy
    have : x.a = y.a := congrArg (fun k => k.1) e
    omega

/-! ### the runs of some days are known -/
theorem days_known {T : Timetable} {a b : Int} (ha : dayB a = true) (hb : dayB b = true) {n : Nat} (hn : a + n ≤ b + 1) {r : Run} (hr : r ∈ daysRuns T a n) : knownB T r = true := by
  obtain ⟨d, hd, hr⟩ := List.mem_flatMap.1 hr
  have hday := dayRuns_day hr
  have hdl := List.mem_range.1 hd
  have h1 := (dayB_iff a).1 ha
  have h2 := (dayB_iff b).1 hb
  unfold knownB
  rw [Bool.and_eq_true, decide_eq_true_eq, hday]
  exact ⟨(dayB_iff _).2 (by omega), hr⟩
theorem days_index {T : Timetable} {a b : Int} (ha : dayB a = true) (hb : dayB b = true) {n : Nat} (hn : a + n ≤ b + 1) : idxR T (daysRuns T a n) = none := by
  unfold idxR
  rw [List.findSome?_eq_none_iff]
  intro k hk
  have hkl := List.mem_range.1 hk
  unfold badR
  rw [List.getElem?_eq_getElem hkl]
  simp only
  rw [days_known ha hb hn (List.getElem_mem hkl)]
  have hno : findK (daysRuns T a n) (daysRuns T a n)[k].key k = none := by
    unfold findK
    rw [List.find?_eq_none]
    intro j hj
    have hjk := List.mem_range.1 hj
    have hp := List.pairwise_iff_getElem.1 (daysRuns_keys T a n) j k (by omega) hkl hjk
    rw [kat_get (by omega)]
    simpa using hp
  rw [hno]
  simp

/-! ### the loops -/
theorem lnk0 (x : Lnk) : cell x.pv 0 = .int .i64 x.a := rfl
theorem lnk1 (x : Lnk) : cell x.pv 1 = .int .i64 x.ac := rfl
theorem lnk2 (x : Lnk) : cell x.pv 2 = .int .i64 x.b := rfl
theorem lnk3 (x : Lnk) : cell x.pv 3 = .int .i64 x.bc := rfl
theorem lnk4 (x : Lnk) : cell x.pv 4 = .bool x.stay := rfl
theorem twice_loop (rec34) (L M : List PV) (m : List Lnk) (len i : Int) (hi : IntKind.i64.wrap (i + 1) = i + 1) (x : Lnk) (hm : m.length ≤ 100000) (h : ∀ y ∈ m, x.key ≠ y.key) :
    lpS.run (law25_RunsMeet_L1 rec34) (L, M, M, len, i, m.map Lnk.pv, (m.length : Int), 0, cell x.pv 0, cell x.pv 1, cell x.pv 2, cell x.pv 3, cell x.pv 4, ()) = rec34 (L, M, M, len, i + 1, ()) := by
  refine loop_until (fun (k : Nat) => (L, M, M, len, i, m.map Lnk.pv, (m.length : Int), (k : Int), cell x.pv 0, cell x.pv 1, cell x.pv 2, cell x.pv 3, cell x.pv 4, ())) m.length (fun k hk rec => ?_) (fun rec => ?_) ?_ rfl
  · have h1 : (k : Int) < (m.length : Int) := by omega
    have hne := h m[k] (List.getElem_mem hk)
    have hf : (decide (x.a = m[k].a) && decide (x.ac = m[k].ac) && decide (x.b = m[k].b) && decide (x.bc = m[k].bc)) = false := by
      rw [Bool.eq_false_iff]
      intro e
      simp only [Bool.and_eq_true, decide_eq_true_eq] at e
      exact hne (by simp only [Lnk.key, e.1.1.1, e.1.1.2, e.1.2, e.2])
    simp only [law25_RunsMeet_L1, decide_eq_true_eq, h1, if_true, idxP_nat, List.getElem?_map, List.getElem?_eq_getElem hk, Option.map_some, bind_some', lnk0, lnk1, lnk2, lnk3, lnk4, asInt, beq_d, bif_and, hf, Bool.false_eq_true, if_false, wrap_nat (show k < 9223372036854775807 by omega)]
  · simp only [law25_RunsMeet_L1, decide_eq_true_eq, Int.lt_irrefl, if_false, hi]
  · have : 100001 < rounds := by decide
    omega
theorem meet_loop (l : List Run) (m : List Lnk) (hm : m.length ≤ 1024) (hl : l.length ≤ 1024) (hc : ∀ r ∈ l, r.calls.length ≤ 40) (hok : ∀ x ∈ m, LinkOk l x) (hp : m.Pairwise fun x y => x.key ≠ y.key) :
    lpS.run (law25_RunsMeet_L2 lpS) (l.map Run.pv, m.map Lnk.pv, m.map Lnk.pv, (m.length : Int), 0, ()) = some (.bool true) := by
  refine loop_until (fun (k : Nat) => (l.map Run.pv, m.map Lnk.pv, m.map Lnk.pv, (m.length : Int), (k : Int), ())) m.length (fun k hk rec => ?_) (fun rec => ?_) ?_ rfl
  · have h1 : (k : Int) < (m.length : Int) := by omega
    obtain ⟨a, b, r, q, i, j, c, d, ea, eb, hab, hr, hq, hday, ei, ej, hci, hdj, hst, htm, hstay⟩ := (hok m[k] (List.getElem_mem hk)).ends
    have hal := (List.getElem?_eq_some_iff.1 hr).1
    have hbl := (List.getElem?_eq_some_iff.1 hq).1
    have hil := (List.getElem?_eq_some_iff.1 hci).1
    have hjl := (List.getElem?_eq_some_iff.1 hdj).1
    have hrc := hc r (List.mem_of_getElem? hr)
    have n1 : decide ((a : Int) < 0) = false := decide_eq_false (by omega)
    have n2 : decide ((a : Int) ≥ (l.length : Int)) = false := decide_eq_false (by omega)
    have n3 : decide ((b : Int) < 0) = false := decide_eq_false (by omega)
    have n4 : decide ((b : Int) ≥ (l.length : Int)) = false := decide_eq_false (by omega)
    have n5 : decide ((a : Int) = (b : Int)) = false := decide_eq_false (by omega)
    have n6 : decide ((i : Int) < 0) = false := decide_eq_false (by omega)
    have n7 : decide ((i : Int) ≥ (r.calls.length : Int)) = false := decide_eq_false (by omega)
    have n8 : decide ((j : Int) < 0) = false := decide_eq_false (by omega)
    have n9 : decide ((j : Int) ≥ (q.calls.length : Int)) = false := decide_eq_false (by omega)
    have nt : decide (d.dep < c.arr) = false := decide_eq_false (by omega)
    have hw : IntKind.i64.wrap ((r.calls.length : Int) - 1) = (r.calls.length : Int) - 1 := wrap_in (by omega) (by omega)
    have hs1 : m[k].stay = true → decide ((i : Int) = (r.calls.length : Int) - 1) = true ∧ decide ((j : Int) = 0) = true := fun h => by
      have := hstay h
      simp only [decide_eq_true_eq]
      omega
    have hsl : (0 : Int) ≤ 0 ∧ 0 ≤ (k : Int) ∧ (k : Int) ≤ (m.length : Int) ∧ True ∧ 5 ≠ 0 := ⟨by omega, by omega, by omega, trivial, by decide⟩
    have htake : List.drop (Int.toNat 0) (List.take (Int.toNat (k : Int)) (m.map Lnk.pv)) = (m.take k).map Lnk.pv := by rw [Int.toNat_natCast]; simp [List.map_take]
    have hlt : (m.take k).length = k := by rw [List.length_take]; omega
    have hne : ∀ y ∈ m.take k, m[k].key ≠ y.key := fun y hy => by
      obtain ⟨t, ht⟩ := List.mem_iff_getElem?.1 hy
      have htk : t < k := by have := (List.getElem?_eq_some_iff.1 ht).1; omega
      rw [List.getElem?_take_of_lt htk, List.getElem?_eq_getElem (by omega)] at ht
      have := List.pairwise_iff_getElem.1 hp t k (by omega) hk htk
      obtain rfl := Option.some.inj ht
      exact fun e => this e.symm
    have htw := twice_loop rec (l.map Run.pv) (m.map Lnk.pv) (m.take k) (m.length : Int) (k : Int) (by rw [wrap_nat (show k < 9223372036854775807 by omega)]; omega) m[k] (by omega) hne
    simp only [lnk0, lnk1, lnk2, lnk3, lnk4] at htw
    simp only [law25_RunsMeet_L2, decide_eq_true_eq, h1, if_true, idxP_nat, List.getElem?_map, List.getElem?_eq_getElem hk, Option.map_some, bind_some', lnk0, lnk1, lnk2, lnk3, lnk4, asInt, asSl, asBool, ea, eb, ei, ej, hr, hq, run1, run7, hci, hdj, kall0, kall1, kall2, List.length_map, n1, n2, n3, n4, n5, n6, n7, n8, n9, nt, cond_false, beq_d, bne_d, hday, hst, decide_true, Bool.not_true, Bool.false_eq_true, if_false, hw]
    have hcond : (bif m[k].stay then (bif !decide ((i : Int) = (r.calls.length : Int) - 1) then some true else some !decide ((j : Int) = 0)).bind fun b => some b else some false) = some false := by
      cases hst : m[k].stay with
      | false => rfl
      | true =>
        have := hs1 hst
        rw [this.1, this.2]
        rfl
    rw [ea, ei, eb, ej] at htw
    rw [hcond]
    simp only [bind_some', Bool.false_eq_true, if_false]
    refine (if_pos hsl).trans ?_
    rw [htake, List.length_map]
    exact htw
  · simp only [law25_RunsMeet_L2, decide_eq_true_eq, Int.lt_irrefl, if_false, exampleHolds25, bind_some', asBool]
  · have : 1025 < rounds := by decide
    omega
theorem meet_law (T : Timetable) (hok : T.Ok) (a b : Int) : law25_RunsMeet_M [T.pv, .int .i64 a, .int .i64 b] = some (.bool true) := by
  obtain ⟨c, hb, hf⟩ := light_ok T
  simp only [law25_RunsMeet_M, law25_RunsMeet, ttA, tt0, tt1, tt2, tt3, tt4, tt5, tt6, tt7, tt8, tt9, tt10, tt11, tt12, asSl, asInt, if_true, bind_some', ttE, hb, asBool, exampleHolds25]
  cases c with
  | false => rfl
  | true =>
    have hT := hf rfl
    obtain ⟨l, e, h1, h2, h3, h4⟩ := ofdays_both T hT hok a b
    simp only [Bool.not_true, Bool.false_eq_true, if_false, h1, runsPV, asTup, asSl, asInt, if_true, bind_some', List.length_cons, List.length_nil, Nat.reduceAdd, List.getD_cons_zero, List.getD_cons_succ, bne_d, bif_or', List.length_map]
    by_cases hc : (!decide (e = 0) || decide ((l.length : Int) > 200)) = true
    · rw [if_pos hc]
    · rw [if_neg hc]
      simp only [Bool.or_eq_true, Bool.not_eq_true', decide_eq_false_iff_not, decide_eq_true_eq, not_or, Decidable.not_not] at hc
      obtain ⟨hV, ha, hbd, hab, h8, rfl, hl⟩ := h3 hc.1
      obtain ⟨n, hn⟩ : ∃ n : Nat, (b - a + 1).toNat = n := ⟨_, rfl⟩
      rw [hn] at hl ⊢
      have hn' : a + n ≤ b + 1 := by omega
      have hp := whole_prog T hok hT.small
      rw [whole_valid hV] at hp
      have hc40 : ∀ r ∈ daysRuns T a n, r.calls.length ≤ 40 := fun r hr => daysRuns_calls hT hr
      have hlk := links_prog T hT hok (daysRuns T a n) hl hc40 0 0 0 hp
      have hkn : ∀ r ∈ daysRuns T a n, knownB T r = true := fun r hr => days_known ha hbd hn' hr
      unfold linksR at hlk
      rw [days_index ha hbd hn'] at hlk
      simp only [if_true] at hlk
      by_cases hbig : (allLinks T (daysRuns T a n) (daysRuns T a n).length).length > 1024
      · rw [if_pos hbig] at hlk
        simp only [hlk, linkPV, bind_some', asTup, asSl, asInt, if_true, List.length_cons, List.length_nil, Nat.reduceAdd, List.getD_cons_zero, List.getD_cons_succ, beq_self_eq_true]
      · rw [if_neg hbig] at hlk
        simp only [hlk, linkPV, bind_some', asTup, asSl, asInt, if_true, List.length_cons, List.length_nil, Nat.reduceAdd, List.getD_cons_zero, List.getD_cons_succ, beq_d, decide_true, Bool.not_true, Bool.false_eq_true, if_false, List.length_map, show decide ((0 : Int) = 5) = false from rfl]
        exact meet_loop _ _ (by omega) hl hc40 (fun x hx => link_ok hV hkn hx) (all_pair hV hkn _)
end Go.Ab.Tt
