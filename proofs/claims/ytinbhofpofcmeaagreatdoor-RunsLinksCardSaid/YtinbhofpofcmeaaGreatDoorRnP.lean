/- The links of runs, or the error; the law RunsLinks. -/
import Derived.Test.YtinbhofpofcmeaaGreatDoorRnO
namespace Go.Ab.Tt
set_option maxRecDepth 100000
set_option linter.unusedVariables false
set_option linter.unusedSimpArgs false

def linksAt (T : Timetable) (l : List Run) (a : Nat) : List Lnk := match l[a]? with | some r => linksOf T l a r | none => []
def allLinks (T : Timetable) (l : List Run) (n : Nat) : List Lnk := (List.range n).flatMap (linksAt T l)
theorem allLinks_succ (T : Timetable) (l : List Run) (n : Nat) : allLinks T l (n + 1) = allLinks T l n ++ linksAt T l n := by
  simp [allLinks, List.range_succ, List.flatMap_append]
theorem linksAt_len (T : Timetable) (hT : FewP T) (l : List Run) (a : Nat) : (linksAt T l a).length ≤ 141 := by
  unfold linksAt
  cases l[a]? with
  | none => simp
  | some r =>
    simp only [linksOf, List.length_append]
    have h1 := stay_len (stayL T l a r)
    have h2 := fm_len (guarL T l a r) T.guars
    have := hT.guars
    omega
theorem allLinks_len (T : Timetable) (hT : FewP T) (l : List Run) : ∀ n, (allLinks T l n).length ≤ 141 * n
  | 0 => by simp [allLinks]
  | n + 1 => by
    rw [allLinks_succ, List.length_append]
    have := allLinks_len T hT l n
    have := linksAt_len T hT l n
    omega
def linkPV (m : List Lnk) (e : Int) : PV := .tup [.rs 5 (m.map Lnk.pv), .int .i64 e]
def linksR (T : Timetable) (l : List Run) : PV := match idxR T l with
  | some e => linkPV [] e
  | none => if (allLinks T l l.length).length > 1024 then linkPV [] 5 else linkPV (allLinks T l l.length) 0
theorem out_prog (T : Timetable) (hT : FewP T) (hok : T.Ok) (l : List Run) (hl : l.length ≤ 1024) (hc : ∀ r ∈ l, r.calls.length ≤ 40) :
    lpS.run (runs_Links_L2 lpS) (l.map Run.pv, mpv l, (l.length : Int), 0, tlT T ([], ())) = some (if (allLinks T l l.length).length > 1024 then linkPV [] 5 else linkPV (allLinks T l l.length) 0) := by
  refine (loop_scan' (fun k => (l.map Run.pv, mpv l, (l.length : Int), (k : Int), tlT T ((allLinks T l k).map Lnk.pv, ()))) l.length (fun k => if (fun j => (allLinks T l j).length) (k + 1) > 1024 then some (some (linkPV [] 5)) else none) (fin := some (linkPV (allLinks T l l.length) 0)) (fun k hk rec => ?_) (fun rec => ?_) ?_ ?_).trans ?_
  · have h1 : (k : Int) < (l.length : Int) := by omega
    have hof := of_prog T hT hok l hl hc k l[k] (List.getElem?_eq_getElem hk)
    have hat : linksAt T l k = linksOf T l k l[k] := by unfold linksAt; rw [List.getElem?_eq_getElem hk]
    have hlen := allLinks_len T hT l (k + 1)
    have hroom := room40 ((allLinks T l k).map Lnk.pv ++ (linksOf T l k l[k]).map Lnk.pv) (by rw [allLinks_succ, List.length_append, hat] at hlen; simp only [List.length_append, List.length_map]; omega)
    have hll : ((allLinks T l k).map Lnk.pv ++ (linksOf T l k l[k]).map Lnk.pv).length = (allLinks T l (k + 1)).length := by rw [allLinks_succ, hat]; simp
    simp only [tlT]
    simp only [runs_Links_L2, decide_eq_true_eq, h1, if_true, ttE, hof, bind_some', asSl]
    have hmp : (allLinks T l (k + 1)).map Lnk.pv = (allLinks T l k).map Lnk.pv ++ (linksOf T l k l[k]).map Lnk.pv := by rw [allLinks_succ, hat, List.map_append]
    rw [if_pos hroom, hll, ← hmp]
    by_cases hb : (allLinks T l (k + 1)).length > 1024
    · rw [if_pos (show (((allLinks T l (k + 1)).length : Nat) : Int) > 1024 by omega), if_pos hb]; rfl
    · rw [if_neg (show ¬ (((allLinks T l (k + 1)).length : Nat) : Int) > 1024 by omega), if_neg hb, wrap_nat (show k < 9223372036854775807 by omega)]; rfl
  · simp only [runs_Links_L2, tlT, decide_eq_true_eq, Int.lt_irrefl, if_false]
    rfl
  · have : 1025 < rounds := by decide
    omega
  · simp [tlT, allLinks]
  · rw [scan_mono (fun j => (allLinks T l j).length) (fun k => by show (allLinks T l k).length ≤ (allLinks T l (k + 1)).length; rw [allLinks_succ, List.length_append]; omega) (by simp [allLinks])]
    by_cases hb : (allLinks T l l.length).length > 1024
    · rw [if_pos hb, if_pos hb]; rfl
    · rw [if_neg hb, if_neg hb]; rfl
theorem links_prog (T : Timetable) (hT : FewP T) (hok : T.Ok) (l : List Run) (hl : l.length ≤ 1024) (hc : ∀ r ∈ l, r.calls.length ≤ 40) (p i e : Int) (hw : timetable_Check_M [T.pv] = some (whole3 p i e)) :
    runs_Links_M [T.pv, .rs 8 (l.map Run.pv)] = some (if e = 0 then linksR T l else linkPV [] e) := by
  have hidx := index_prog T hT hok l (Nat.le_trans hl (by decide))
  have hlim : ¬ ((l.length : Int) > 1024) := by omega
  simp only [runs_Links_M, runs_Links, ttA, tt0, tt1, tt2, tt3, tt4, tt5, tt6, tt7, tt8, tt9, tt10, tt11, tt12, asSl, asInt, if_true, bind_some', ttE, hw, whole3, asTup, List.length_cons, List.length_nil, Nat.reduceAdd, List.getD_cons_zero, List.getD_cons_succ, bne_d, List.length_map, decide_eq_true_eq, hlim, if_false, hidx]
  by_cases he : e = 0
  · simp only [he, decide_true, Bool.not_true, Bool.false_eq_true, if_false, if_true]
    unfold linksR
    cases hx : idxR T l with
    | some e' =>
      have hne : e' ≠ 0 := by
        obtain ⟨k, _, hk⟩ := List.exists_of_findSome?_eq_some hx
        unfold badR at hk
        split at hk
        · split at hk
          · cases hk; decide
          · split at hk
            · cases hk; decide
            · cases hk
        · cases hk
      simp only [bind_some', mapCase, List.length_cons, List.length_nil, Nat.reduceAdd, if_true, List.getD_cons_zero, List.getD_cons_succ, hne, decide_false, Bool.not_false]
      rfl
    | none =>
      have ho := out_prog T hT hok l hl hc
      simp only [tlT] at ho
      simp only [bind_some', mpv, mapCase, List.length_cons, List.length_nil, Nat.reduceAdd, if_true, List.getD_cons_zero, List.getD_cons_succ, decide_true, Bool.not_true, Bool.false_eq_true, if_false]
      exact ho
  · simp only [he, decide_false, Bool.not_false, if_true, if_false]
    rfl
/-! ### the document's -/
theorem any_findK (l : List Run) (k) (n : Nat) : (List.range n).any (kat l k) = (findK l k n).isSome := by
  unfold findK
  rw [Bool.eq_iff_iff, List.any_eq_true, List.find?_isSome]
theorem out_ref (T : Timetable) (hT : FewP T) (hok : T.Ok) (hV : ValidT T) (l : List Run) (hl : l.length ≤ 1024) (hk : ∀ r ∈ l, knownB T r = true) (hc : ∀ r ∈ l, r.calls.length ≤ 40) :
    lpS.run (ref25_Links_L2 lpS) (l.map Run.pv, 0, tlT T ([], ())) = some (if (allLinks T l l.length).length > 1024 then linkPV [] 5 else linkPV (allLinks T l l.length) 0) := by
  refine loop_until (fun (k : Nat) => (l.map Run.pv, (k : Int), tlT T ((allLinks T l k).map Lnk.pv, ()))) l.length (fun k hkk rec => ?_) (fun rec => ?_) ?_ ?_
  · have h1 : (k : Int) < (l.length : Int) := by omega
    have hof := from_ref T hT hok hV l hl hk hc k l[k] (List.getElem?_eq_getElem hkk)
    have hat : linksAt T l k = linksOf T l k l[k] := by unfold linksAt; rw [List.getElem?_eq_getElem hkk]
    have hlen := allLinks_len T hT l (k + 1)
    have hroom := room40 ((allLinks T l k).map Lnk.pv ++ (linksOf T l k l[k]).map Lnk.pv) (by rw [allLinks_succ, List.length_append, hat] at hlen; simp only [List.length_append, List.length_map]; omega)
    simp only [tlT]
    simp only [ref25_Links_L2, decide_eq_true_eq, List.length_map, h1, if_true, ttE, hof, bind_some', asSl]
    rw [if_pos hroom, allLinks_succ, hat, List.map_append, wrap_nat (show k < 9223372036854775807 by omega)]
  · simp only [ref25_Links_L2, tlT, decide_eq_true_eq, List.length_map, Int.lt_irrefl, if_false]
    by_cases hb : (allLinks T l l.length).length > 1024
    · rw [if_pos hb, if_pos (by omega)]; rfl
    · rw [if_neg hb, if_neg (by omega)]; rfl
  · have : 1025 < rounds := by decide
    omega
  · simp [tlT, allLinks]
theorem known_all {T : Timetable} {l : List Run} (h : idxR T l = none) : ∀ r ∈ l, knownB T r = true := fun r hr => by
  obtain ⟨k, hk⟩ := List.mem_iff_getElem?.1 hr
  unfold idxR at h
  have := List.findSome?_eq_none_iff.1 h k (List.mem_range.2 (List.getElem?_eq_some_iff.1 hk).1)
  unfold badR at this
  rw [hk] at this
  simp only at this
  cases hkn : knownB T r with
  | true => rfl
  | false => rw [hkn] at this; cases this
theorem links_ref (T : Timetable) (hT : FewP T) (hok : T.Ok) (l : List Run) (hl : l.length ≤ 1024) (hc : ∀ r ∈ l, r.calls.length ≤ 40) (p i e : Int) (hw : ref22_Check_M [T.pv] = some (whole3 p i e)) (hV : e = 0 → ValidT T) :
    ref25_Links_M [T.pv, .rs 8 (l.map Run.pv)] = some (if e = 0 then linksR T l else linkPV [] e) := by
  have hlim : ¬ ((l.length : Int) > 1024) := by omega
  simp only [ref25_Links_M, ref25_Links, ttA, tt0, tt1, tt2, tt3, tt4, tt5, tt6, tt7, tt8, tt9, tt10, tt11, tt12, asSl, asInt, if_true, bind_some', ttE, hw, whole3, asTup, List.length_cons, List.length_nil, Nat.reduceAdd, List.getD_cons_zero, List.getD_cons_succ, bne_d, List.length_map, decide_eq_true_eq, hlim, if_false]
  by_cases he : e = 0
  · simp only [he, decide_true, Bool.not_true, Bool.false_eq_true, if_false, if_true]
    refine (loop_scan_inv (fun k => (l.map Run.pv, (k : Int), tlT T ())) l.length (fun k => (badR T l k).map fun e => some (linkPV [] e)) (fin := some (if (allLinks T l l.length).length > 1024 then linkPV [] 5 else linkPV (allLinks T l l.length) 0)) (fun k hk _ rec => ?_) (fun hbad rec => ?_) ?_ rfl).trans ?_
    · have h1 : (k : Int) < (l.length : Int) := by omega
      have hb : badR T l k = if knownB T l[k] = false then some 9 else if (findK l l[k].key k).isSome = true then some 6 else none := by unfold badR; rw [List.getElem?_eq_getElem hk]
      have hkn := known_ref T hT hok l[k]
      simp only [tlT]
      simp only [ref25_Links_L3, decide_eq_true_eq, List.length_map, h1, if_true, idxP_nat, List.getElem?_map, List.getElem?_eq_getElem hk, Option.map_some, bind_some', ttE, runE, hkn, asBool]
      rw [hb]
      cases knownB T l[k] with
      | false => rfl
      | true =>
        simp only [Bool.not_true, Bool.false_eq_true, if_false, Bool.true_eq_false]
        refine (dup_scan (fun j => (l.map Run.pv, (k : Int), (j : Int), tlT T ())) k (kat l l[k].key) (no := some (linkPV [] 6)) (fin := rec (l.map Run.pv, ((k + 1 : Nat) : Int), tlT T ())) (fun j hj rec' => ?_) (fun rec' => ?_) ?_ rfl).trans ?_
        · have h2 : (j : Int) < (k : Int) := by omega
          have hjl : j < l.length := by omega
          have hkat : kat l l[k].key j = (decide (l[j].trip = l[k].trip) && decide (l[j].day = l[k].day) && decide (l[j].inst = l[k].inst)) := by
            rw [kat_get hjl]
            unfold Run.key
            rw [Bool.eq_iff_iff]; simp [and_assoc]
          simp only [tlT]
          simp only [ref25_Links_L1, decide_eq_true_eq, h2, if_true, idxP_nat, List.getElem?_map, List.getElem?_eq_getElem hk, List.getElem?_eq_getElem hjl, Option.map_some, bind_some', run0, run1, run2, asInt, beq_d, bif_and, wrap_nat (show j < 9223372036854775807 by omega), hkat]
          rfl
        · simp only [ref25_Links_L1, tlT, decide_eq_true_eq, Int.lt_irrefl, if_false, wrap_nat (show k < 9223372036854775807 by omega)]
        · have : 1025 < rounds := by decide
          omega
        · rw [any_findK]
          cases (findK l l[k].key k).isSome <;> rfl
    · have hn : idxR T l = none := by
        unfold idxR
        rw [List.findSome?_eq_none_iff]
        intro k hk
        have := hbad k (List.mem_range.1 hk)
        simpa using this
      have ho := out_ref T hT hok (hV he) l hl (known_all hn) hc
      simp only [tlT] at ho
      simp only [ref25_Links_L3, tlT, decide_eq_true_eq, List.length_map, Int.lt_irrefl, if_false, ho]
    · have : 1025 < rounds := by decide
      omega
    · unfold linksR idxR
      have : ∀ L : List Nat, (L.findSome? fun k => (badR T l k).map fun e => some (linkPV [] e)) = (L.findSome? (badR T l)).map fun e => some (linkPV [] e) := fun L => by
        induction L with
        | nil => rfl
        | cons a L ih => simp only [List.findSome?_cons]; cases badR T l a <;> simp [ih]
      rw [this]
      cases (List.range l.length).findSome? (badR T l) <;> rfl
  · simp only [he, decide_false, Bool.not_false, if_true, if_false]
    rfl
theorem lnk_eqb (x y : Lnk) : peqL [cell x.pv 0, cell x.pv 1, cell x.pv 2, cell x.pv 3, cell x.pv 4] [cell y.pv 0, cell y.pv 1, cell y.pv 2, cell y.pv 3, cell y.pv 4] = decide (x = y) := by
  obtain ⟨a1, a2, a3, a4, a5⟩ := x
  obtain ⟨b1, b2, b3, b4, b5⟩ := y
  simp [cell, Lnk.pv, PV.cells, peqL, Ab.peq]
  rw [Bool.eq_iff_iff]; simp [and_assoc]
theorem samelinks (m : List Lnk) (hl : m.length ≤ maxLen) : ref25_SameLinks_M [.rs 5 (m.map Lnk.pv), .rs 5 (m.map Lnk.pv)] = some (.bool true) := by
  have hm := maxLen_lt
  simp only [ref25_SameLinks_M, ref25_SameLinks, asSl, if_true, bind_some', List.length_map, bne_d, decide_true, Bool.not_true, Bool.false_eq_true, if_false]
  refine loop_until (fun k => (m.map Lnk.pv, m.map Lnk.pv, (k : Int), ())) m.length (fun k hk rec => ?_) (fun rec => ?_) ?_ rfl
  · have h1 : (k : Int) < (m.length : Int) := by omega
    simp only [ref25_SameLinks_L1, decide_eq_true_eq, List.length_map, h1, if_true, idxP_nat, List.getElem?_map, List.getElem?_eq_getElem hk, Option.map_some, bind_some', wrap_nat (show k < 9223372036854775807 by omega)]
    rw [if_pos ⟨rfl, rfl⟩, lnk_eqb]
    simp
  · simp only [ref25_SameLinks_L1, decide_eq_true_eq, List.length_map, Int.lt_irrefl, if_false]
  · have := rounds_gt; omega
theorem linksR_form (T : Timetable) (hT : FewP T) (l : List Run) (hl : l.length ≤ 1024) (e : Int) : ∃ m e', (if e = 0 then linksR T l else linkPV [] e) = linkPV m e' ∧ m.length ≤ 1024 := by
  by_cases he : e = 0
  · rw [if_pos he]
    unfold linksR
    cases idxR T l with
    | some e' => exact ⟨[], e', rfl, by simp⟩
    | none =>
      by_cases hb : (allLinks T l l.length).length > 1024
      · exact ⟨[], 5, if_pos hb, by simp⟩
      · exact ⟨allLinks T l l.length, 0, if_neg hb, by omega⟩
  · exact ⟨[], e, by rw [if_neg he], by simp⟩
def bigR (l : List Run) (k : Nat) : Bool := match l[k]? with | some r => decide ((r.calls.length : Int) > 40) || decide ((r.id.length : Int) > 256) | none => false
theorem links_law (T : Timetable) (hok : T.Ok) (l : List Run) : law25_RunsLinks_M [T.pv, .rs 8 (l.map Run.pv)] = some (.bool true) := by
  obtain ⟨c, hb, hf⟩ := light_ok T
  simp only [law25_RunsLinks_M, law25_RunsLinks, ttA, tt0, tt1, tt2, tt3, tt4, tt5, tt6, tt7, tt8, tt9, tt10, tt11, tt12, asSl, asInt, if_true, bind_some', ttE, hb, asBool, exampleHolds25, bif_or', List.length_map]
  by_cases hc : (!c || decide ((l.length : Int) > 30)) = true
  · rw [if_pos hc]
  · rw [if_neg hc]
    simp only [Bool.or_eq_true, Bool.not_eq_true', decide_eq_true_eq, not_or, Bool.not_eq_false] at hc
    have hT := hf hc.1
    have hl : l.length ≤ 30 := by omega
    refine (loop_scan_inv (fun k => (l.map Run.pv, l.map Run.pv, (l.length : Int), (k : Int), tlT T ())) l.length (fun k => if bigR l k = true then some (some (PV.bool true)) else none) (fin := some (PV.bool true)) (fun k hk _ rec => ?_) (fun hbad rec => ?_) ?_ rfl).trans ?_
    · have h1 : (k : Int) < (l.length : Int) := by omega
      have hbk : bigR l k = (decide ((l[k].calls.length : Int) > 40) || decide ((l[k].id.length : Int) > 256)) := by unfold bigR; rw [List.getElem?_eq_getElem hk]
      simp only [tlT]
      simp only [law25_RunsLinks_L1, decide_eq_true_eq, h1, if_true, idxP_nat, List.getElem?_map, List.getElem?_eq_getElem hk, Option.map_some, bind_some', run3, run7, asSl, asStr, List.length_map, bif_or', exampleHolds25, asBool, wrap_nat (show k < 9223372036854775807 by omega)]
      rw [hbk]
      cases (decide ((l[k].calls.length : Int) > 40) || decide ((l[k].id.length : Int) > 256)) <;> rfl
    · have hc40 : ∀ r ∈ l, r.calls.length ≤ 40 := fun r hr => by
        obtain ⟨k, hk⟩ := List.mem_iff_getElem?.1 hr
        have := hbad k (List.getElem?_eq_some_iff.1 hk).1
        unfold bigR at this
        rw [hk] at this
        simp only at this
        split at this
        · cases this
        · rename_i h
          simp only [Bool.or_eq_true, decide_eq_true_eq, not_or] at h
          omega
      obtain ⟨p, i, e, hw, hv⟩ := whole_cases T
      have hp := whole_prog T hok hT.small
      have hr := whole_ref T hok hT.small
      rw [hw] at hp hr
      have h1 := links_prog T hT hok l (by omega) hc40 p i e hp
      have h2 := links_ref T hT hok l (by omega) hc40 p i e hr hv
      obtain ⟨m, e', hme, hml⟩ := linksR_form T hT l (by omega) e
      rw [hme] at h1 h2
      simp only [law25_RunsLinks_L1, tlT, decide_eq_true_eq, Int.lt_irrefl, if_false, ttE, h1, h2, linkPV, bind_some', asTup, asSl, asInt, if_true, List.length_cons, List.length_nil, Nat.reduceAdd, List.getD_cons_zero, List.getD_cons_succ, samelinks m (Nat.le_trans hml (by decide)), asBool, beq_self_eq_true, cond_true, exampleHolds25]
    · have : 41 < rounds := by decide
      omega
    · cases h : (List.range l.length).findSome? (fun k => if bigR l k = true then some (some (PV.bool true)) else none) with
      | none => rfl
      | some r =>
        obtain ⟨k, _, hk⟩ := List.exists_of_findSome?_eq_some h
        split at hk
        · simp only [Option.some.injEq] at hk; rw [← hk]; rfl
        · cases hk
end Go.Ab.Tt
