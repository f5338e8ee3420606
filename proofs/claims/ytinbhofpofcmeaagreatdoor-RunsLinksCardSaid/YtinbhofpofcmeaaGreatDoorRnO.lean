/- The links of a run, by the program and by the document. -/
import Derived.Test.YtinbhofpofcmeaaGreatDoorRnN
namespace Go.Ab.Tt
set_option maxRecDepth 100000
set_option linter.unusedVariables false
set_option linter.unusedSimpArgs false

/-! ### what a valid timetable says of through services and guarantees -/
theorem thr_valid {T : Timetable} (hV : ValidT T) {x : Thr} (hx : x ∈ T.thrs) : pairB x.a x.b T.trips.length = false ∧ pairRep T.freqs x.a x.b = false := by
  obtain ⟨k, hk⟩ := List.mem_iff_getElem?.1 hx
  have h6 : (thrRes T.thrs T.trips T.freqs).2 = 0 := hV 6 (by decide)
  unfold thrRes at h6
  by_cases h : T.thrs.length > 128
  · rw [if_pos h] at h6; cases h6
  · rw [if_neg h] at h6
    have he := scanE_all _ _ h6 k (List.getElem?_eq_some_iff.1 hk).1
    unfold thrErr at he
    rw [hk] at he
    simp only at he
    by_cases h1 : pairB x.a x.b T.trips.length = true
    · rw [if_pos h1] at he; cases he
    · rw [if_neg h1] at he
      by_cases h2 : pairRep T.freqs x.a x.b = true
      · rw [if_pos h2] at he; cases he
      · exact ⟨by simpa using h1, by simpa using h2⟩
theorem guar_valid {T : Timetable} (hV : ValidT T) {g : Guar} (hg : g ∈ T.guars) : ∃ (i j : Nat) (p q : Trip), g.a = i ∧ g.b = j ∧ T.trips[i]? = some p ∧ T.trips[j]? = some q ∧ repB T.freqs g.a = false ∧ repB T.freqs g.b = false ∧ meetsB p.calls q.calls g.stop = true := by
  obtain ⟨k, hk⟩ := List.mem_iff_getElem?.1 hg
  have h7 : (guarRes T.guars T.trips T.freqs T.stops.length).2 = 0 := hV 7 (by decide)
  unfold guarRes at h7
  by_cases h : T.guars.length > 128
  · rw [if_pos h] at h7; cases h7
  · rw [if_neg h] at h7
    have he := scanE_all _ _ h7 k (List.getElem?_eq_some_iff.1 hk).1
    unfold guarErr at he
    rw [hk] at he
    simp only at he
    by_cases h1 : (pairB g.a g.b T.trips.length || !inB g.stop T.stops.length) = true
    · rw [if_pos h1] at he; cases he
    · rw [if_neg h1] at he
      by_cases h2 : pairRep T.freqs g.a g.b = true
      · rw [if_pos h2] at he; cases he
      · rw [if_neg h2] at he
        simp only [Bool.or_eq_true, not_or, Bool.not_eq_true] at h1
        obtain ⟨i, j, hi, hj, hil, hjl⟩ := pair_in g.a g.b T.trips h1.1
        have hp : T.trips[g.a.toNat]? = some T.trips[i] := by rw [hi, Int.toNat_natCast, List.getElem?_eq_getElem hil]
        have hq : T.trips[g.b.toNat]? = some T.trips[j] := by rw [hj, Int.toNat_natCast, List.getElem?_eq_getElem hjl]
        rw [hp, hq] at he
        simp only at he
        have hr : repB T.freqs g.a = false ∧ repB T.freqs g.b = false := by
          unfold pairRep at h2
          simpa using h2
        refine ⟨i, j, _, _, hi, hj, List.getElem?_eq_getElem hil, List.getElem?_eq_getElem hjl, hr.1, hr.2, ?_⟩
        by_cases h3 : meetsB T.trips[i].calls T.trips[j].calls g.stop = false
        · rw [if_pos h3] at he; cases he
        · simpa using h3
theorem known_zero {T : Timetable} {r : Run} (hk : knownB T r = true) (hr : repB T.freqs r.trip = false) : dayB r.day = true ∧ ∃ (i : Nat) (x : Trip), r.trip = i ∧ T.trips[i]? = some x ∧ r = runOf x i r.day 0 x.calls := by
  unfold knownB at hk
  rw [Bool.and_eq_true, decide_eq_true_eq] at hk
  obtain ⟨i, x, hx, hi, hm⟩ := mem_day.1 hk.2
  refine ⟨hk.1, i, x, hi, hx, ?_⟩
  unfold tripRuns at hm
  by_cases ha : activeB T.cals T.excs x.cal r.day = false
  · rw [if_pos ha] at hm; cases hm
  · rw [if_neg ha, if_pos (by rw [← hi]; exact hr)] at hm
    simpa using hm

/-! ### meeting, shifted -/
theorem ali_shift (D s : Int) (l : List Kall) : aliP (l.map (shK D)) s = aliP l s := by
  funext k
  unfold aliP
  rw [List.getElem?_map]
  cases l[k]? <;> rfl
theorem boa_shift (D s : Int) (l : List Kall) : boaP (l.map (shK D)) s = boaP l s := by
  funext k
  unfold boaP
  rw [List.getElem?_map, List.length_map]
  cases l[k]? <;> rfl
theorem meets_shift {T : Timetable} (hV : ValidT T) {i j : Nat} {p q : Trip} (hp : T.trips[i]? = some p) (hq : T.trips[j]? = some q) {d : Int} (hd : dayB d = true) (s : Int) : meetsB (p.calls.map (shK (dayS d))) (q.calls.map (shK (dayS d))) s = meetsB p.calls q.calls s := by
  obtain ⟨_, hD0, hD1⟩ := dayS_eq hd
  have tp := trip_valid hV hp
  have tq := trip_valid hV hq
  unfold meetsB
  rw [ali_shift, boa_shift, List.length_map, List.length_map]
  cases (List.range p.calls.length).find? (aliP p.calls s) with
  | none => rfl
  | some a =>
    cases (List.range q.calls.length).find? (boaP q.calls s) with
    | none => rfl
    | some b =>
      simp only [mtB, List.getElem?_map]
      cases ha : p.calls[a]? with
      | none => rfl
      | some x =>
        cases hb : q.calls[b]? with
        | none => rfl
        | some y =>
          have hx := tp.call a x ha
          have hy := tq.call b y hb
          have e1 : (shK (dayS d) x).arr = x.arr + dayS d := wrap_in (by omega) (by omega)
          have e2 : (shK (dayS d) y).dep = y.dep + dayS d := wrap_in (by omega) (by omega)
          show (!decide ((shK (dayS d) y).dep < (shK (dayS d) x).arr)) = !decide (y.dep < x.arr)
          congr 1
          exact decide_eq_decide.2 (by rw [e1, e2]; omega)
def mI (a b : List Kall) (s : Int) : Int × Int := match (List.range a.length).find? (aliP a s) with
  | none => (0, 0)
  | some i => match (List.range b.length).find? (boaP b s) with
    | none => (0, 0)
    | some k => if mtB a b i k = true then ((i : Int), (k : Int)) else (0, 0)
theorem meets_mI (a b : List Kall) (s : Int) : meetsPV a b s = .tup [.int .i64 (mI a b s).1, .int .i64 (mI a b s).2, .bool (meetsB a b s)] := by
  unfold meetsPV mI meetsB
  cases (List.range a.length).find? (aliP a s) with
  | none => rfl
  | some i =>
    cases (List.range b.length).find? (boaP b s) with
    | none => rfl
    | some k =>
      simp only [mtPV]
      cases h : mtB a b i k <;> simp

/-! ### the links of a run -/
def stayL (T : Timetable) (l : List Run) (a : Nat) (r : Run) : Option Lnk := (nextI T.thrs r.trip).bind fun n => (findK l (n, r.day, 0) l.length).map fun (b : Nat) => (⟨(a : Int), (r.calls.length : Int) - 1, (b : Int), 0, true⟩ : Lnk)
def guarL (T : Timetable) (l : List Run) (a : Nat) (r : Run) (g : Guar) : Option Lnk :=
  if g.a = r.trip then (findK l (g.b, r.day, 0) l.length).bind fun b => (l[b]?).bind fun q =>
    if meetsB r.calls q.calls g.stop = false ∨ stayL T l a r = some ⟨a, (mI r.calls q.calls g.stop).1, b, (mI r.calls q.calls g.stop).2, true⟩ then none
    else some ⟨a, (mI r.calls q.calls g.stop).1, b, (mI r.calls q.calls g.stop).2, false⟩
  else none
def linksOf (T : Timetable) (l : List Run) (a : Nat) (r : Run) : List Lnk := (stayL T l a r).toList ++ T.guars.filterMap (guarL T l a r)
theorem findK_lt {l : List Run} {k} {b : Nat} (h : findK l k l.length = some b) : b < l.length ∧ ∃ r, l[b]? = some r ∧ r.key = k := by
  unfold findK at h
  have h1 := List.mem_range.1 (List.mem_of_find?_eq_some h)
  have h2 := List.find?_some h
  unfold kat at h2
  rw [List.getElem?_eq_getElem h1] at h2
  exact ⟨h1, _, List.getElem?_eq_getElem h1, by simpa using h2⟩
theorem filterMap_take {A B : Type} (f : A → Option B) (l : List A) (k : Nat) (h : k < l.length) : (l.take (k + 1)).filterMap f = (l.take k).filterMap f ++ (f l[k]).toList := by
  rw [List.take_succ_eq_append_getElem h, List.filterMap_append]
  cases hf : f l[k] <;> simp [hf]
theorem lnk_peq (s : Lnk) (a i b k : Int) : peqL [PV.int .i64 s.a, .int .i64 s.ac, .int .i64 s.b, .int .i64 s.bc, .bool s.stay] [PV.int .i64 a, .int .i64 i, .int .i64 b, .int .i64 k, .bool true] = decide (s = ⟨a, i, b, k, true⟩) := by
  obtain ⟨s0, s1, s2, s3, s4⟩ := s
  rw [Bool.eq_iff_iff]; simp [peqL, peq]
def stf (s : Option Lnk) : Lnk := s.getD ⟨-1, 0, 0, 0, false⟩
theorem stf_eq (s : Option Lnk) (a : Nat) (i b k : Int) : decide (stf s = ⟨a, i, b, k, true⟩) = decide (s = some ⟨a, i, b, k, true⟩) := by
  refine decide_eq_decide.2 ?_
  cases s with
  | none => simp [stf]
  | some x => simp [stf]
theorem room40 (l : List PV) (h : l.length ≤ 1000000) : l.length * 40 ≤ roomBound ∧ 0 < 40 := ⟨by unfold roomBound; omega, by decide⟩
theorem stay_len (o : Option Lnk) : o.toList.length ≤ 1 := by cases o <;> simp
theorem fm_len {A B : Type} (f : A → Option B) (l : List A) : (l.filterMap f).length ≤ l.length := List.length_filterMap_le f l
def lkI (o : Option Nat) : Int := match o with | some i => (i : Int) | none => 0
theorem kmap_look0 (l : List Run) (k) : mlook (k3 k) (.int .i64 0) (kmap l l.length) = .int .i64 (lkI (findK l k l.length)) := by
  rw [kmap_look l k _ _ (Nat.le_refl _)]
  cases findK l k l.length <;> rfl
theorem lkI_some (i : Nat) : lkI (some i) = (i : Int) := rfl
theorem of_loop (T : Timetable) (hT : FewP T) (l : List Run) (hl : l.length ≤ 1024) (hc : ∀ r ∈ l, r.calls.length ≤ 40) (a : Nat) (r : Run) (ha : l[a]? = some r) :
    lpS.run (runs_of_L3 lpS) (l.map Run.pv, mpv l, (a : Int), T.guars.map Guar.pv, (T.guars.length : Int), 0, (stayL T l a r).toList.map Lnk.pv, cell r.pv 0, cell r.pv 1, cell r.pv 2, cell r.pv 3, cell r.pv 4, cell r.pv 5, cell r.pv 6, cell r.pv 7, (stf (stayL T l a r)).a, (stf (stayL T l a r)).ac, (stf (stayL T l a r)).b, (stf (stayL T l a r)).bc, (stf (stayL T l a r)).stay, ()) =
      some (.rs 5 ((linksOf T l a r).map Lnk.pv)) := by
  have hg140 := hT.guars
  have hrc := hc r (List.mem_of_getElem? ha)
  have hs1 := stay_len (stayL T l a r)
  obtain ⟨st, hst⟩ : ∃ st, stayL T l a r = st := ⟨_, rfl⟩
  refine loop_until (fun (k : Nat) => (l.map Run.pv, mpv l, (a : Int), T.guars.map Guar.pv, (T.guars.length : Int), (k : Int), ((stayL T l a r).toList ++ (T.guars.take k).filterMap (guarL T l a r)).map Lnk.pv, cell r.pv 0, cell r.pv 1, cell r.pv 2, cell r.pv 3, cell r.pv 4, cell r.pv 5, cell r.pv 6, cell r.pv 7, (stf (stayL T l a r)).a, (stf (stayL T l a r)).ac, (stf (stayL T l a r)).b, (stf (stayL T l a r)).bc, (stf (stayL T l a r)).stay, ())) T.guars.length (fun k hk rec => ?_) (fun rec => ?_) ?_ ?_
  · have h1 : (k : Int) < (T.guars.length : Int) := by omega
    obtain ⟨g, hg⟩ : ∃ g, T.guars[k] = g := ⟨_, rfl⟩
    have hkey : PV.agg [.int .i64 g.b, .int .i64 r.day, .int .i64 0] = k3 (g.b, r.day, 0) := rfl
    have hfl := fm_len (guarL T l a r) (T.guars.take k)
    rw [List.length_take] at hfl
    have hroom : ∀ X : PV, (((stayL T l a r).toList ++ (T.guars.take k).filterMap (guarL T l a r)).map Lnk.pv ++ [X]).length * 40 ≤ roomBound ∧ 0 < 40 := fun X => room40 _ (by simp only [List.length_append, List.length_map, List.length_cons, List.length_nil]; omega)
    have hnext : ((stayL T l a r).toList ++ (T.guars.take (k + 1)).filterMap (guarL T l a r)).map Lnk.pv = ((stayL T l a r).toList ++ (T.guars.take k).filterMap (guarL T l a r)).map Lnk.pv ++ (guarL T l a r g).toList.map Lnk.pv := by
      rw [filterMap_take _ _ _ hk, ← List.append_assoc, List.map_append, hg]
    rw [hnext]
    generalize ((stayL T l a r).toList ++ (T.guars.take k).filterMap (guarL T l a r)).map Lnk.pv = ov at hroom
    simp only [runs_of_L3, decide_eq_true_eq, h1, if_true, idxP_nat, List.getElem?_map, List.getElem?_eq_getElem hk, hg, Option.map_some, bind_some', guar0, guar1, guar2, run0, run1, run7, asInt, asSl, mpv, mapCase, zip_fs, hkey, kmap_look0, kmap_has l _ _ (Nat.le_refl _), bne_d]
    unfold guarL
    by_cases hga : g.a = r.trip
    · simp only [hga, decide_true, Bool.not_true, cond_false, bind_some', if_true]
      cases hf : findK l (g.b, r.day, 0) l.length with
      | none =>
        simp only [Option.isSome_none, Bool.not_false, if_true, Option.bind_none, Option.toList_none, List.map_nil, List.append_nil, wrap_nat (show k < 9223372036854775807 by omega)]
      | some b =>
        obtain ⟨hbl, q, hq, hqk⟩ := findK_lt hf
        have hqc := hc q (List.mem_of_getElem? hq)
        have hmp := meets_prog r.calls q.calls (Nat.le_trans hrc (by decide)) (Nat.lt_of_le_of_lt hqc (by decide)) g.stop
        rw [meets_mI] at hmp
        simp only [Option.isSome_some, lkI_some, Bool.not_true, Bool.false_eq_true, if_false, idxP_nat, List.getElem?_map, hq, Option.map_some, bind_some', run7, asSl, if_true, hmp, asTup, asInt, asBool, List.length_cons, List.length_nil, Nat.reduceAdd, List.getD_cons_zero, List.getD_cons_succ, lnk_peq, stf_eq, Option.bind_some]
        cases hm : meetsB r.calls q.calls g.stop with
        | false => simp only [Bool.not_false, cond_true, bind_some', if_true, true_or, Option.toList_none, List.map_nil, List.append_nil, wrap_nat (show k < 9223372036854775807 by omega)]
        | true =>
          simp only [Bool.not_true, cond_false, bind_some', Bool.true_eq_false, false_or, decide_eq_true_eq]
          by_cases he : stayL T l a r = some ⟨a, (mI r.calls q.calls g.stop).1, b, (mI r.calls q.calls g.stop).2, true⟩
          · rw [if_pos he, if_pos he]
            simp only [Option.toList_none, List.map_nil, List.append_nil, wrap_nat (show k < 9223372036854775807 by omega)]
          · rw [if_neg he, if_neg he]
            have hrm := hroom (PV.agg [.int .i64 (a : Int), .int .i64 (mI r.calls q.calls g.stop).1, .int .i64 (b : Int), .int .i64 (mI r.calls q.calls g.stop).2, .bool false])
            refine (if_pos hrm).trans ?_
            rw [wrap_nat (show k < 9223372036854775807 by omega)]
            rfl
    · simp only [hga, decide_false, Bool.not_false, cond_true, bind_some', if_true, if_false, Option.toList_none, List.map_nil, List.append_nil, wrap_nat (show k < 9223372036854775807 by omega)]
  · simp only [runs_of_L3, decide_eq_true_eq, Int.lt_irrefl, if_false, List.take_length, linksOf]
  · have : 141 < rounds := by decide
    omega
  · simp
theorem of_prog (T : Timetable) (hT : FewP T) (hok : T.Ok) (l : List Run) (hl : l.length ≤ 1024) (hc : ∀ r ∈ l, r.calls.length ≤ 40) (a : Nat) (r : Run) (ha : l[a]? = some r) :
    runs_of_M [T.pv, .rs 8 (l.map Run.pv), mpv l, .int .i64 a] = some (.rs 5 ((linksOf T l a r).map Lnk.pv)) := by
  have hrc := hc r (List.mem_of_getElem? ha)
  have hloop := of_loop T hT l hl hc a r ha
  have hnext := next_prog T.thrs hok.thrs.1 r.trip
  simp only [runs_of_M, runs_of, ttA, tt0, tt1, tt2, tt3, tt4, tt5, tt6, tt7, tt8, tt9, tt10, tt11, tt12, asSl, asInt, if_true, bind_some', mpv, mapCase, idxP_nat, List.getElem?_map, ha, Option.map_some, run0, run1, run7, hnext]
  unfold stayL at hloop
  cases hn : nextI T.thrs r.trip with
  | none =>
    rw [hn] at hloop
    simp only [nextPV, asTup, asInt, asBool, List.length_cons, List.length_nil, Nat.reduceAdd, if_true, bind_some', List.getD_cons_zero, List.getD_cons_succ, Bool.false_eq_true, if_false, List.length_map]
    exact hloop
  | some n =>
    rw [hn] at hloop
    have hkey : PV.agg [.int .i64 n, .int .i64 r.day, .int .i64 0] = k3 (n, r.day, 0) := rfl
    simp only [nextPV, asTup, asInt, asBool, List.length_cons, List.length_nil, Nat.reduceAdd, if_true, bind_some', List.getD_cons_zero, List.getD_cons_succ, zip_fs, hkey, kmap_look0, kmap_has l _ _ (Nat.le_refl _)]
    simp only [Option.bind_some] at hloop
    cases hf : findK l (n, r.day, 0) l.length with
    | none =>
      rw [hf] at hloop
      simp only [Option.isSome_none, Bool.false_eq_true, if_false, bind_some', List.length_map]
      exact hloop
    | some b =>
      rw [hf] at hloop
      have hw : IntKind.i64.wrap ((r.calls.length : Int) - 1) = (r.calls.length : Int) - 1 := wrap_in (by omega) (by omega)
      simp only [Option.isSome_some, lkI_some, if_true, bind_some', asSl, List.length_map, hw]
      exact hloop

/-! ### the document's -/
def tdat (l : List Run) (n d : Int) (i : Nat) : Bool := match l[i]? with | some r => decide (r.trip = n) && decide (r.day = d) | none => false
theorem find25 (l : List Run) (hl : l.length ≤ maxLen) (n d : Int) : ref25_find_M [.rs 8 (l.map Run.pv), .int .i64 n, .int .i64 d] = some (.int .i64 (idxOr ((List.range l.length).find? (tdat l n d)))) := by
  have hm := maxLen_lt
  simp only [ref25_find_M, ref25_find, asSl, asInt, if_true, bind_some']
  refine (loop_scan' (fun k => (l.map Run.pv, n, d, (k : Int), ())) l.length (fun k => if tdat l n d k = true then some (some (.int .i64 (k : Int))) else none) (fin := some (.int .i64 (-1))) (fun k hk rec => ?_) (fun rec => ?_) ?_ rfl).trans ?_
  · have h1 : (k : Int) < (l.length : Int) := by omega
    have ht : tdat l n d k = (decide (l[k].trip = n) && decide (l[k].day = d)) := by unfold tdat; rw [List.getElem?_eq_getElem hk]
    simp only [ref25_find_L1, decide_eq_true_eq, List.length_map, h1, if_true, idxP_nat, List.getElem?_map, List.getElem?_eq_getElem hk, Option.map_some, bind_some', run0, run1, asInt, beq_d, bif_and, wrap_nat (show k < 9223372036854775807 by omega), ht]
    cases (decide (l[k].trip = n) && decide (l[k].day = d)) <;> rfl
  · simp only [ref25_find_L1, decide_eq_true_eq, List.length_map, Int.lt_irrefl, if_false]
  · have := rounds_gt; omega
  · rw [findSome_if (tdat l n d) (fun k => some (PV.int .i64 (k : Int)))]
    cases (List.range l.length).find? (tdat l n d) <;> rfl
theorem td_key {T : Timetable} {l : List Run} (hk : ∀ r ∈ l, knownB T r = true) {n d : Int} (hn : repB T.freqs n = false) : tdat l n d = kat l (n, d, 0) := by
  funext i
  unfold tdat kat
  cases h : l[i]? with
  | none => rfl
  | some r =>
    simp only
    rw [Bool.eq_iff_iff, Bool.and_eq_true, decide_eq_true_eq, decide_eq_true_eq, decide_eq_true_eq]
    unfold Run.key
    simp only [Prod.mk.injEq]
    constructor
    · rintro ⟨h1, h2⟩
      obtain ⟨_, j, x, _, _, e⟩ := known_zero (hk r (List.mem_of_getElem? h)) (by rw [h1]; exact hn)
      exact ⟨h1, h2, by rw [e]; rfl⟩
    · rintro ⟨h1, h2, _⟩
      exact ⟨h1, h2⟩
theorem find_key {T : Timetable} {l : List Run} (hl : l.length ≤ maxLen) (hk : ∀ r ∈ l, knownB T r = true) {n : Int} (d : Int) (hn : repB T.freqs n = false) : ref25_find_M [.rs 8 (l.map Run.pv), .int .i64 n, .int .i64 d] = some (.int .i64 (idxOr (findK l (n, d, 0) l.length))) := by
  rw [find25 l hl, td_key hk hn]; rfl
theorem stay_iff {T : Timetable} {l : List Run} {a : Nat} {r : Run} {n : Int} {b : Nat} {i k : Int} (hb : findK l (n, r.day, 0) l.length = some b) :
    stayL T l a r = some ⟨a, i, b, k, true⟩ ↔ nextI T.thrs r.trip = some n ∧ i = (r.calls.length : Int) - 1 ∧ k = 0 := by
  unfold stayL
  constructor
  · intro h
    obtain ⟨m, hm, h⟩ := Option.bind_eq_some_iff.1 h
    obtain ⟨b', hb', h⟩ := Option.map_eq_some_iff.1 h
    simp only [Lnk.mk.injEq, true_and, and_true] at h
    have e : b' = b := by omega
    subst e
    obtain ⟨_, q, hq, hk1⟩ := findK_lt hb
    obtain ⟨_, q', hq', hk2⟩ := findK_lt hb'
    rw [hq] at hq'
    cases hq'
    rw [hk1] at hk2
    simp only [Prod.mk.injEq, and_true] at hk2
    exact ⟨by rw [hm, hk2], h.1.symm, h.2.2.symm⟩
  · rintro ⟨h1, h2, h3⟩
    rw [h1, Option.bind_some, hb, h2, h3]
    rfl
theorem next_rep {T : Timetable} (hV : ValidT T) {t n : Int} (h : nextI T.thrs t = some n) : repB T.freqs n = false := by
  unfold nextI at h
  obtain ⟨x, hx, rfl⟩ := Option.map_eq_some_iff.1 h
  have := (thr_valid hV (List.mem_of_find?_eq_some hx)).2
  unfold pairRep at this
  rw [Bool.or_eq_false_iff] at this
  exact this.2
theorem from_loop (T : Timetable) (hT : FewP T) (hV : ValidT T) (l : List Run) (hl : l.length ≤ 1024) (hk : ∀ r ∈ l, knownB T r = true) (hc : ∀ r ∈ l, r.calls.length ≤ 40) (a : Nat) (r : Run) (ha : l[a]? = some r) (nx : Int) (ok : Bool) (hnx : ∀ x, (ok && decide (nx = x)) = decide (nextI T.thrs r.trip = some x)) :
    lpS.run (ref25_from_L1 lpS) (l.map Run.pv, (a : Int), nx, ok, 0, tlT T ((stayL T l a r).toList.map Lnk.pv, cell r.pv 0, cell r.pv 1, cell r.pv 2, cell r.pv 3, cell r.pv 4, cell r.pv 5, cell r.pv 6, cell r.pv 7, ())) =
      some (.rs 5 ((linksOf T l a r).map Lnk.pv)) := by
  have hg140 := hT.guars
  have hrm := List.mem_of_getElem? ha
  have hrc := hc r hrm
  have hs1 := stay_len (stayL T l a r)
  refine loop_until (fun (k : Nat) => (l.map Run.pv, (a : Int), nx, ok, (k : Int), tlT T (((stayL T l a r).toList ++ (T.guars.take k).filterMap (guarL T l a r)).map Lnk.pv, cell r.pv 0, cell r.pv 1, cell r.pv 2, cell r.pv 3, cell r.pv 4, cell r.pv 5, cell r.pv 6, cell r.pv 7, ()))) T.guars.length (fun k hkk rec => ?_) (fun rec => ?_) ?_ ?_
  · have h1 : (k : Int) < (T.guars.length : Int) := by omega
    obtain ⟨g, hg⟩ : ∃ g, T.guars[k] = g := ⟨_, rfl⟩
    have hgm : g ∈ T.guars := hg ▸ List.getElem_mem hkk
    obtain ⟨gi, gj, gp, gq, hgi, hgj, hgp, hgq, hra, hrb, hmt⟩ := guar_valid hV hgm
    have hfl := fm_len (guarL T l a r) (T.guars.take k)
    rw [List.length_take] at hfl
    have hroom : ∀ X : PV, (((stayL T l a r).toList ++ (T.guars.take k).filterMap (guarL T l a r)).map Lnk.pv ++ [X]).length * 40 ≤ roomBound ∧ 0 < 40 := fun X => room40 _ (by simp only [List.length_append, List.length_map, List.length_cons, List.length_nil]; omega)
    have hnext : ((stayL T l a r).toList ++ (T.guars.take (k + 1)).filterMap (guarL T l a r)).map Lnk.pv = ((stayL T l a r).toList ++ (T.guars.take k).filterMap (guarL T l a r)).map Lnk.pv ++ (guarL T l a r g).toList.map Lnk.pv := by
      rw [filterMap_take _ _ _ hkk, ← List.append_assoc, List.map_append, hg]
    rw [hnext]
    generalize ((stayL T l a r).toList ++ (T.guars.take k).filterMap (guarL T l a r)).map Lnk.pv = ov at hroom
    simp only [tlT]
    simp only [ref25_from_L1, decide_eq_true_eq, List.length_map, h1, if_true, idxP_nat, List.getElem?_map, List.getElem?_eq_getElem hkk, hg, Option.map_some, bind_some', guar0, guar1, guar2, run0, run1, run7, asInt, asSl, bne_d]
    unfold guarL
    by_cases hga : g.a = r.trip
    · have hfk := find_key (T := T) (Nat.le_trans hl (by decide)) hk r.day hrb
      simp only [hga, decide_true, Bool.not_true, Bool.false_eq_true, if_false, if_true, hfk, bind_some']
      cases hf : findK l (g.b, r.day, 0) l.length with
      | none =>
        have hneg : (idxOr (none : Option Nat)) < 0 := by decide
        simp only [hneg, if_true, Option.bind_none, Option.toList_none, List.map_nil, List.append_nil, wrap_nat (show k < 9223372036854775807 by omega)]
      | some b =>
        obtain ⟨hbl, q, hq, hqk⟩ := findK_lt hf
        have hqm := List.mem_of_getElem? hq
        have hqc := hc q hqm
        have hmp := meets_ref r.calls q.calls (Nat.lt_of_le_of_lt hrc (by decide)) (Nat.lt_of_le_of_lt hqc (by decide)) g.stop
        have hqt : q.trip = g.b ∧ q.day = r.day := by
          simp only [Run.key, Prod.mk.injEq] at hqk
          exact ⟨hqk.1, hqk.2.1⟩
        have hmB : meetsB r.calls q.calls g.stop = true := by
          obtain ⟨hd, i1, x1, hi1, hx1, e1⟩ := known_zero (hk r hrm) (by rw [← hga]; exact hra)
          obtain ⟨_, i2, x2, hi2, hx2, e2⟩ := known_zero (hk q hqm) (by rw [hqt.1]; exact hrb)
          have : i1 = gi := by omega
          subst this
          have : i2 = gj := by omega
          subst this
          rw [hgp] at hx1; cases hx1
          rw [hgq] at hx2; cases hx2
          have c1 : r.calls = gp.calls.map (shK (dayS r.day)) := by rw [e1]; rfl
          have c2 : q.calls = gq.calls.map (shK (dayS r.day)) := by rw [← hqt.2, e2]; rfl
          rw [c1, c2, meets_shift hV hgp hgq hd]
          exact hmt
        rw [meets_mI, hmB] at hmp
        have hnn : ¬ (b : Int) < 0 := by omega
        have hio : idxOr (some b) = (b : Int) := rfl
        have hw : IntKind.i64.wrap ((r.calls.length : Int) - 1) = (r.calls.length : Int) - 1 := wrap_in (by omega) (by omega)
        simp only [hnn, if_false, hio, idxP_nat, List.getElem?_map, hq, Option.map_some, bind_some', run7, asSl, if_true, hmp, asTup, asInt, asBool, List.length_cons, List.length_nil, Nat.reduceAdd, List.getD_cons_zero, List.getD_cons_succ, Option.bind_some, beq_d, bif_and, hnx, List.length_map, hw, hmB, Bool.true_eq_false, false_or]
        by_cases he : stayL T l a r = some ⟨a, (mI r.calls q.calls g.stop).1, b, (mI r.calls q.calls g.stop).2, true⟩
        · have h3 := (stay_iff hf).1 he
          have hye : (decide (nextI T.thrs r.trip = some g.b) && decide ((mI r.calls q.calls g.stop).1 = (r.calls.length : Int) - 1) && decide ((mI r.calls q.calls g.stop).2 = 0)) = true := by
            simp only [Bool.and_eq_true, decide_eq_true_eq]
            exact ⟨⟨h3.1, h3.2.1⟩, h3.2.2⟩
          rw [if_pos he, if_pos hye]
          simp only [Option.toList_none, List.map_nil, List.append_nil, wrap_nat (show k < 9223372036854775807 by omega)]
        · have hne : ¬ (decide (nextI T.thrs r.trip = some g.b) && decide ((mI r.calls q.calls g.stop).1 = (r.calls.length : Int) - 1) && decide ((mI r.calls q.calls g.stop).2 = 0)) = true := by
            intro h
            simp only [Bool.and_eq_true, decide_eq_true_eq] at h
            exact he ((stay_iff hf).2 ⟨h.1.1, h.1.2, h.2⟩)
          rw [if_neg he, if_neg hne]
          have hrm := hroom (PV.agg [.int .i64 (a : Int), .int .i64 (mI r.calls q.calls g.stop).1, .int .i64 (b : Int), .int .i64 (mI r.calls q.calls g.stop).2, .bool false])
          refine (if_pos hrm).trans ?_
          rw [wrap_nat (show k < 9223372036854775807 by omega)]
          rfl
    · simp only [hga, decide_false, Bool.not_false, if_true, if_false, Option.toList_none, List.map_nil, List.append_nil, wrap_nat (show k < 9223372036854775807 by omega)]
  · simp only [ref25_from_L1, tlT, decide_eq_true_eq, List.length_map, Int.lt_irrefl, if_false, List.take_length, linksOf]
  · have : 141 < rounds := by decide
    omega
  · simp [tlT]
theorem from_ref (T : Timetable) (hT : FewP T) (hok : T.Ok) (hV : ValidT T) (l : List Run) (hl : l.length ≤ 1024) (hk : ∀ r ∈ l, knownB T r = true) (hc : ∀ r ∈ l, r.calls.length ≤ 40) (a : Nat) (r : Run) (ha : l[a]? = some r) :
    ref25_from_M [T.pv, .rs 8 (l.map Run.pv), .int .i64 a] = some (.rs 5 ((linksOf T l a r).map Lnk.pv)) := by
  have hrc := hc r (List.mem_of_getElem? ha)
  have hnext := next_ref T.thrs hok.thrs.1 r.trip
  have hloop := from_loop T hT hV l hl hk hc a r ha
  simp only [ref25_from_M, ref25_from, ttA, tt0, tt1, tt2, tt3, tt4, tt5, tt6, tt7, tt8, tt9, tt10, tt11, tt12, asSl, asInt, if_true, bind_some', idxP_nat, List.getElem?_map, ha, Option.map_some, run0, run1, run7, hnext]
  cases hn : nextI T.thrs r.trip with
  | none =>
    have := hloop 0 false (fun x => by rw [hn]; exact (decide_eq_false (by simp)).symm)
    have hst : stayL T l a r = none := by unfold stayL; rw [hn]; rfl
    rw [hst] at this
    simp only [nextPV, asTup, asInt, asBool, List.length_cons, List.length_nil, Nat.reduceAdd, if_true, bind_some', List.getD_cons_zero, List.getD_cons_succ, Bool.false_eq_true, if_false]
    exact this
  | some n =>
    have := hloop n true (fun x => by rw [hn]; simp)
    have hfk := find_key (T := T) (Nat.le_trans hl (by decide)) hk r.day (next_rep hV hn)
    simp only [nextPV, asTup, asInt, asBool, List.length_cons, List.length_nil, Nat.reduceAdd, if_true, bind_some', List.getD_cons_zero, List.getD_cons_succ, hfk]
    cases hf : findK l (n, r.day, 0) l.length with
    | none =>
      have hst : stayL T l a r = none := by unfold stayL; rw [hn, Option.bind_some, hf]; rfl
      rw [hst] at this
      have hneg : ¬ idxOr (none : Option Nat) ≥ 0 := by decide
      simp only [hneg, decide_false, Bool.false_eq_true, if_false]
      exact this
    | some b =>
      have hw : IntKind.i64.wrap ((r.calls.length : Int) - 1) = (r.calls.length : Int) - 1 := wrap_in (by omega) (by omega)
      have hst : stayL T l a r = some ⟨a, (r.calls.length : Int) - 1, b, 0, true⟩ := by unfold stayL; rw [hn, Option.bind_some, hf]; rfl
      rw [hst] at this
      have hpos : idxOr (some b) ≥ 0 := by show (b : Int) ≥ 0; omega
      simp only [hpos, decide_true, if_true, asSl, bind_some', List.length_map, hw]
      exact this
end Go.Ab.Tt
