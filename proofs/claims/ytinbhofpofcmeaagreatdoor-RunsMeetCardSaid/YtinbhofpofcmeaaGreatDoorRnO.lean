/- The links of a run, by the program and by the document. -/
import Derived.Test.YtinbhofpofcmeaaGreatDoorRnN
namespace Go.Ab.Tt
set_option maxRecDepth 100000
set_option linter.unusedVariables false
set_option linter.unusedSimpArgs false

/-! ### what a valid timetable says of through services and guarantees -/
theorem thr_valid {T : Timetable} (hV : ValidT T) {x : Thr} (hx : x ∈ T.thrs) : pairB x.a x.b T.trips.length = false ∧ pairRep T.freqs x.a x.b = false := by
  obtain ⟨k, hk⟩ := List.mem_iff_getElem?.1 hx
  have h6 : (thrRes T.thrs T.trips T.freqs).2 = 0 := hV 6 (by decide)
  unfold thrRes at h6
  by_cases h : T.thrs.length > 128
  · rw [if_pos h] at h6; cases h6
  · rw [if_neg h] at h6
    have he := scanE_all _ _ h6 k (List.getElem?_eq_some_iff.1 hk).1
    unfold thrErr at he
    rw [hk] at he
    simp only at he
    by_cases h1 : pairB x.a x.b T.trips.length = true
    · rw [if_pos h1] at he; cases he
    · rw [if_neg h1] at he
      by_cases h2 : pairRep T.freqs x.a x.b = true
      · rw [if_pos h2] at he; cases he
      · exact ⟨by simpa using h1, by simpa using h2⟩
theorem guar_valid {T : Timetable} (hV : ValidT T) {g : Guar} (hg : g ∈ T.guars) : ∃ (i j : Nat) (p q : Trip), g.a = i ∧ g.b = j ∧ T.trips[i]? = some p ∧ T.trips[j]? = some q ∧ repB T.freqs g.a = false ∧ repB T.freqs g.b = false ∧ meetsB p.calls q.calls g.stop = true := by
  obtain ⟨k, hk⟩ := List.mem_iff_getElem?.1 hg
  have h7 : (guarRes T.guars T.trips T.freqs T.stops.length).2 = 0 := hV 7 (by decide)
  unfold guarRes at h7
  by_cases h : T.guars.length > 128
  · rw [if_pos h] at h7; cases h7
  · rw [if_neg h] at h7
    have he := scanE_all _ _ h7 k (List.getElem?_eq_some_iff.1 hk).1
    unfold guarErr at he
    rw [hk] at he
    simp only at he
    by_cases h1 : (pairB g.a g.b T.trips.length || !inB g.stop T.stops.length) = true
    · rw [if_pos h1] at he; cases he
    · rw [if_neg h1] at he
      by_cases h2 : pairRep T.freqs g.a g.b = true
      · rw [if_pos h2] at he; cases he
      · rw [if_neg h2] at he
        simp only [Bool.or_eq_true, not_or, Bool.not_eq_true] at h1
        obtain ⟨i, j, hi, hj, hil, hjl⟩ := pair_in g.a g.b T.trips h1.1
        have hp : T.trips[g.a.toNat]? = some T.trips[i] := by rw [hi, Int.toNat_natCast, List.getElem?_eq_getElem hil]
        have hq : T.trips[g.b.toNat]? = some T.trips[j] := by rw [hj, Int.toNat_natCast, List.getElem?_eq_getElem hjl]
        rw [hp, hq] at he
        simp only at he
        have hr : repB T.freqs g.a = false ∧ repB T.freqs g.b = false := by
          unfold pairRep at h2
          simpa using h2
        refine ⟨i, j, _, _, hi, hj, List.getElem?_eq_getElem hil, List.getElem?_eq_getElem hjl, hr.1, hr.2, ?_⟩
        by_cases h3 : meetsB T.trips[i].calls T.trips[j].calls g.stop = false
        · rw [if_pos h3] at he; cases he
        · simpa using h3
theorem known_zero {T : Timetable} {r : Run} (hk : knownB T r = true) (hr : repB T.freqs r.trip = false) : dayB r.day = true ∧ ∃ (i : Nat) (x : Trip), r.trip = i ∧ T.trips[i]? = some x ∧ r = runOf x i r.day 0 x.calls := by
  unfold knownB at hk
  rw [Bool.and_eq_true, decide_eq_true_eq] at hk
  obtain ⟨i, x, hx, hi, hm⟩ := mem_day.1 hk.2
  refine ⟨hk.1, i, x, hi, hx, ?_⟩
  unfold tripRuns at hm
  by_cases ha : activeB T.cals T.excs x.cal r.day = false
  · rw [if_pos ha] at hm; cases hm
  · rw [if_neg ha, if_pos (by rw [← hi]; exact hr)] at hm
    simpa using hm

/-! ### meeting, shifted -/
def mI (a b : List Kall) (s : Int) : Int × Int := match (List.range a.length).find? (aliP a s) with
  | none => (0, 0)
  | some i => match (List.range b.length).find? (boaP b s) with
    | none => (0, 0)
    | some k => if mtB a b i k = true then ((i : Int), (k : Int)) else (0, 0)
theorem meets_mI (a b : List Kall) (s : Int) : meetsPV a b s = .tup [.int .i64 (mI a b s).1, .int .i64 (mI a b s).2, .bool (meetsB a b s)] := by
  unfold meetsPV mI meetsB
  cases (List.range a.length).find? (aliP a s) with
  | none => rfl
  | some i =>
    cases (List.range b.length).find? (boaP b s) with
    | none => rfl
    | some k =>
      simp only [mtPV]
      cases h : mtB a b i k <;> simp

/-! ### the links of a run -/
def stayL (T : Timetable) (l : List Run) (a : Nat) (r : Run) : Option Lnk := (nextI T.thrs r.trip).bind fun n => (findK l (n, r.day, 0) l.length).map fun (b : Nat) => (⟨(a : Int), (r.calls.length : Int) - 1, (b : Int), 0, true⟩ : Lnk)
def guarL (T : Timetable) (l : List Run) (a : Nat) (r : Run) (g : Guar) : Option Lnk :=
  if g.a = r.trip then (findK l (g.b, r.day, 0) l.length).bind fun b => (l[b]?).bind fun q =>
    if meetsB r.calls q.calls g.stop = false ∨ stayL T l a r = some ⟨a, (mI r.calls q.calls g.stop).1, b, (mI r.calls q.calls g.stop).2, true⟩ then none
    else some ⟨a, (mI r.calls q.calls g.stop).1, b, (mI r.calls q.calls g.stop).2, false⟩
  else none
def linksOf (T : Timetable) (l : List Run) (a : Nat) (r : Run) : List Lnk := (stayL T l a r).toList ++ T.guars.filterMap (guarL T l a r)
theorem findK_lt {l : List Run} {k} {b : Nat} (h : findK l k l.length = some b) : b < l.length ∧ ∃ r, l[b]? = some r ∧ r.key = k := by
  unfold findK at h
  have h1 := List.mem_range.1 (List.mem_of_find?_eq_some h)
  have h2 := List.find?_some h
  unfold kat at h2
  rw [List.getElem?_eq_getElem h1] at h2
  exact ⟨h1, _, List.getElem?_eq_getElem h1, by simpa using h2⟩
theorem filterMap_take {A B : Type} (f : A → Option B) (l : List A) (k : Nat) (h : k < l.length) : (l.take (k + 1)).filterMap f = (l.take k).filterMap f ++ (f l[k]).toList := by
  rw [List.take_succ_eq_append_getElem h, List.filterMap_append]
  cases hf : f l[k] <;> simp [hf]
theorem lnk_peq (s : Lnk) (a i b k : Int) : peqL [PV.int .i64 s.a, .int .i64 s.ac, .int .i64 s.b, .int .i64 s.bc, .bool s.stay] [PV.int .i64 a, .int .i64 i, .int .i64 b, .int .i64 k, .bool true] = decide (s = ⟨a, i, b, k, true⟩) := by
  obtain ⟨s0, s1, s2, s3, s4⟩ := s
  rw [Bool.eq_iff_iff]; simp [peqL, peq]
def stf (s : Option Lnk) : Lnk := s.getD ⟨-1, 0, 0, 0, false⟩
theorem stf_eq (s : Option Lnk) (a : Nat) (i b k : Int) : decide (stf s = ⟨a, i, b, k, true⟩) = decide (s = some ⟨a, i, b, k, true⟩) := by
  refine decide_eq_decide.2 ?_
  cases s with
  | none => simp [stf]
  | some x => simp [stf]
theorem room40 (l : List PV) (h : l.length ≤ 1000000) : l.length * 40 ≤ roomBound ∧ 0 < 40 := ⟨by unfold roomBound; omega, by decide⟩
theorem stay_len (o : Option Lnk) : o.toList.length ≤ 1 := by cases o <;> simp
theorem fm_len {A B : Type} (f : A → Option B) (l : List A) : (l.filterMap f).length ≤ l.length := List.length_filterMap_le f l
def lkI (o : Option Nat) : Int := match o with | some i => (i : Int) | none => 0
theorem kmap_look0 (l : List Run) (k) : mlook (k3 k) (.int .i64 0) (kmap l l.length) = .int .i64 (lkI (findK l k l.length)) := by
  rw [kmap_look l k _ _ (Nat.le_refl _)]
  cases findK l k l.length <;> rfl
theorem lkI_some (i : Nat) : lkI (some i) = (i : Int) := rfl
theorem of_loop (T : Timetable) (hT : FewP T) (l : List Run) (hl : l.length ≤ 1024) (hc : ∀ r ∈ l, r.calls.length ≤ 40) (a : Nat) (r : Run) (ha : l[a]? = some r) :
    lpS.run (runs_of_L3 lpS) (l.map Run.pv, mpv l, (a : Int), T.guars.map Guar.pv, (T.guars.length : Int), 0, (stayL T l a r).toList.map Lnk.pv, cell r.pv 0, cell r.pv 1, cell r.pv 2, cell r.pv 3, cell r.pv 4, cell r.pv 5, cell r.pv 6, cell r.pv 7, (stf (stayL T l a r)).a, (stf (stayL T l a r)).ac, (stf (stayL T l a r)).b, (stf (stayL T l a r)).bc, (stf (stayL T l a r)).stay, ()) =
      some (.rs 5 ((linksOf T l a r).map Lnk.pv)) := by
  have hg140 := hT.guars
  have hrc := hc r (List.mem_of_getElem? ha)
  have hs1 := stay_len (stayL T l a r)
  obtain ⟨st, hst⟩ : ∃ st, stayL T l a r = st := ⟨_, rfl⟩
  refine loop_until (fun (k : Nat) => (l.map Run.pv, mpv l, (a : Int), T.guars.map Guar.pv, (T.guars.length : Int), (k : Int), ((stayL T l a r).toList ++ (T.guars.take k).filterMap (guarL T l a r)).map Lnk.pv, cell r.pv 0, cell r.pv 1, cell r.pv 2, cell r.pv 3, cell r.pv 4, cell r.pv 5, cell r.pv 6, cell r.pv 7, (stf (stayL T l a r)).a, (stf (stayL T l a r)).ac, (stf (stayL T l a r)).b, (stf (stayL T l a r)).bc, (stf (stayL T l a r)).stay, ())) T.guars.length (fun k hk rec => ?_) (fun rec => ?_) ?_ ?_
  · have h1 : (k : Int) < (T.guars.length : Int) := by omega
    obtain ⟨g, hg⟩ : ∃ g, T.guars[k] = g := ⟨_, rfl⟩
    have hkey : PV.agg [.int .i64 g.b, .int .i64 r.day, .int .i64 0] = k3 (g.b, r.day, 0) := rfl
    have hfl := fm_len (guarL T l a r) (T.guars.take k)
    rw [List.length_take] at hfl
    have hroom : ∀ X : PV, (((stayL T l a r).toList ++ (T.guars.take k).filterMap (guarL T l a r)).map Lnk.pv ++ [X]).length * 40 ≤ roomBound ∧ 0 < 40 := fun X => room40 _ (by simp only [List.length_append, List.length_map, List.length_cons, List.length_nil]; omega)
    have hnext : ((stayL T l a r).toList ++ (T.guars.take (k + 1)).filterMap (guarL T l a r)).map Lnk.pv = ((stayL T l a r).toList ++ (T.guars.take k).filterMap (guarL T l a r)).map Lnk.pv ++ (guarL T l a r g).toList.map Lnk.pv := by
      rw [filterMap_take _ _ _ hk, ← List.append_assoc, List.map_append, hg]
    rw [hnext]
    generalize ((stayL T l a r).toList ++ (T.guars.take k).filterMap (guarL T l a r)).map Lnk.pv = ov at hroom
    simp only [runs_of_L3, decide_eq_true_eq, h1, if_true, idxP_nat, List.getElem?_map, List.getElem?_eq_getElem hk, hg, Option.map_some, bind_some', guar0, guar1, guar2, run0, run1, run7, asInt, asSl, mpv, mapCase, zip_fs, hkey, kmap_look0, kmap_has l _ _ (Nat.le_refl _), bne_d]
    unfold guarL
    by_cases hga : g.a = r.trip
    · simp only [hga, decide_true, Bool.not_true, cond_false, bind_some', if_true]
      cases hf : findK l (g.b, r.day, 0) l.length with
      | none =>
        simp only [Option.isSome_none, Bool.not_false, if_true, Option.bind_none, Option.toList_none, List.map_nil, List.append_nil, wrap_nat (show k < 9223372036854775807 by omega)]
      | some b =>
        obtain ⟨hbl, q, hq, hqk⟩ := findK_lt hf
        have hqc := hc q (List.mem_of_getElem? hq)
        have hmp := meets_prog r.calls q.calls (Nat.le_trans hrc (by decide)) (Nat.lt_of_le_of_lt hqc (by decide)) g.stop
        rw [meets_mI] at hmp
        simp only [Option.isSome_some, lkI_some, Bool.not_true, Bool.false_eq_true, if_false, idxP_nat, List.getElem?_map, hq, Option.map_some, bind_some', run7, asSl, if_true, hmp, asTup, asInt, asBool, List.length_cons, List.length_nil, Nat.reduceAdd, List.getD_cons_zero, List.getD_cons_succ, lnk_peq, stf_eq, Option.bind_some]
        cases hm : meetsB r.calls q.calls g.stop with
        | false => simp only [Bool.not_false, cond_true, bind_some', if_true, true_or, Option.toList_none, List.map_nil, List.append_nil, wrap_nat (show k < 9223372036854775807 by omega)]
        | true =>
          simp only [Bool.not_true, cond_false, bind_some', Bool.true_eq_false, false_or, decide_eq_true_eq]
          by_cases he : stayL T l a r = some ⟨a, (mI r.calls q.calls g.stop).1, b, (mI r.calls q.calls g.stop).2, true⟩
          · rw [if_pos he, if_pos he]
            simp only [Option.toList_none, List.map_nil, List.append_nil, wrap_nat (show k < 9223372036854775807 by omega)]
          · rw [if_neg he, if_neg he]
            have hrm := hroom (PV.agg [.int .i64 (a : Int), .int .i64 (mI r.calls q.calls g.stop).1, .int .i64 (b : Int), .int .i64 (mI r.calls q.calls g.stop).2, .bool false])
            refine (if_pos hrm).trans ?_
            rw [wrap_nat (show k < 9223372036854775807 by omega)]
            rfl
    · simp only [hga, decide_false, Bool.not_false, cond_true, bind_some', if_true, if_false, Option.toList_none, List.map_nil, List.append_nil, wrap_nat (show k < 9223372036854775807 by omega)]
  · simp only [runs_of_L3, decide_eq_true_eq, Int.lt_irrefl, if_false, List.take_length, linksOf]
  · have : 141 < rounds := by decide
    omega
  · simp
theorem of_prog (T : Timetable) (hT : FewP T) (hok : T.Ok) (l : List Run) (hl : l.length ≤ 1024) (hc : ∀ r ∈ l, r.calls.length ≤ 40) (a : Nat) (r : Run) (ha : l[a]? = some r) :
    runs_of_M [T.pv, .rs 8 (l.map Run.pv), mpv l, .int .i64 a] = some (.rs 5 ((linksOf T l a r).map Lnk.pv)) := by
  have hrc := hc r (List.mem_of_getElem? ha)
  have hloop := of_loop T hT l hl hc a r ha
  have hnext := next_prog T.thrs hok.thrs.1 r.trip
  simp only [runs_of_M, runs_of, ttA, tt0, tt1, tt2, tt3, tt4, tt5, tt6, tt7, tt8, tt9, tt10, tt11, tt12, asSl, asInt, if_true, bind_some', mpv, mapCase, idxP_nat, List.getElem?_map, ha, Option.map_some, run0, run1, run7, hnext]
  unfold stayL at hloop
  cases hn : nextI T.thrs r.trip with
  | none =>
    rw [hn] at hloop
    simp only [nextPV, asTup, asInt, asBool, List.length_cons, List.length_nil, Nat.reduceAdd, if_true, bind_some', List.getD_cons_zero, List.getD_cons_succ, Bool.false_eq_true, if_false, List.length_map]
    exact hloop
  | some n =>
    rw [hn] at hloop
    have hkey : PV.agg [.int .i64 n, .int .i64 r.day, .int .i64 0] = k3 (n, r.day, 0) := rfl
    simp only [nextPV, asTup, asInt, asBool, List.length_cons, List.length_nil, Nat.reduceAdd, if_true, bind_some', List.getD_cons_zero, List.getD_cons_succ, zip_fs, hkey, kmap_look0, kmap_has l _ _ (Nat.le_refl _)]
    simp only [Option.bind_some] at hloop
    cases hf : findK l (n, r.day, 0) l.length with
    | none =>
      rw [hf] at hloop
      simp only [Option.isSome_none, Bool.false_eq_true, if_false, bind_some', List.length_map]
      exact hloop
    | some b =>
      rw [hf] at hloop
      have hw : IntKind.i64.wrap ((r.calls.length : Int) - 1) = (r.calls.length : Int) - 1 := wrap_in (by omega) (by omega)
      simp only [Option.isSome_some, lkI_some, if_true, bind_some', asSl, List.length_map, hw]
      exact hloop

/-! ### the document's -/
end Go.Ab.Tt
