/- The links of runs, or the error; the law RunsLinks. -/
import Derived.Test.YtinbhofpofcmeaaGreatDoorRnO
namespace Go.Ab.Tt
set_option maxRecDepth 100000
set_option linter.unusedVariables false
set_option linter.unusedSimpArgs false

def linksAt (T : Timetable) (l : List Run) (a : Nat) : List Lnk := match l[a]? with | some r => linksOf T l a r | none => []
def allLinks (T : Timetable) (l : List Run) (n : Nat) : List Lnk := (List.range n).flatMap (linksAt T l)
theorem allLinks_succ (T : Timetable) (l : List Run) (n : Nat) : allLinks T l (n + 1) = allLinks T l n ++ linksAt T l n := by
  simp [allLinks, List.range_succ, List.flatMap_append]
theorem linksAt_len (T : Timetable) (hT : FewP T) (l : List Run) (a : Nat) : (linksAt T l a).length ≤ 141 := by
  unfold linksAt
  cases l[a]? with
  | none => simp
  | some r =>
    simp only [linksOf, List.length_append]
    have h1 := stay_len (stayL T l a r)
    have h2 := fm_len (guarL T l a r) T.guars
    have := hT.guars
    omega
theorem allLinks_len (T : Timetable) (hT : FewP T) (l : List Run) : ∀ n, (allLinks T l n).length ≤ 141 * n
  | 0 => by simp [allLinks]
  | n + 1 => by
    rw [allLinks_succ, List.length_append]
    have := allLinks_len T hT l n
    have := linksAt_len T hT l n
    omega
def linkPV (m : List Lnk) (e : Int) : PV := .tup [.rs 5 (m.map Lnk.pv), .int .i64 e]
def linksR (T : Timetable) (l : List Run) : PV := match idxR T l with
  | some e => linkPV [] e
  | none => if (allLinks T l l.length).length > 1024 then linkPV [] 5 else linkPV (allLinks T l l.length) 0
theorem out_prog (T : Timetable) (hT : FewP T) (hok : T.Ok) (l : List Run) (hl : l.length ≤ 1024) (hc : ∀ r ∈ l, r.calls.length ≤ 40) :
    lpS.run (runs_Links_L2 lpS) (l.map Run.pv, mpv l, (l.length : Int), 0, tlT T ([], ())) = some (if (allLinks T l l.length).length > 1024 then linkPV [] 5 else linkPV (allLinks T l l.length) 0) := by
  refine (loop_scan' (fun k => (l.map Run.pv, mpv l, (l.length : Int), (k : Int), tlT T ((allLinks T l k).map Lnk.pv, ()))) l.length (fun k => if (fun j => (allLinks T l j).length) (k + 1) > 1024 then some (some (linkPV [] 5)) else none) (fin := some (linkPV (allLinks T l l.length) 0)) (fun k hk rec => ?_) (fun rec => ?_) ?_ ?_).trans ?_
  · have h1 : (k : Int) < (l.length : Int) := by omega
    have hof := of_prog T hT hok l hl hc k l[k] (List.getElem?_eq_getElem hk)
    have hat : linksAt T l k = linksOf T l k l[k] := by unfold linksAt; rw [List.getElem?_eq_getElem hk]
    have hlen := allLinks_len T hT l (k + 1)
    have hroom := room40 ((allLinks T l k).map Lnk.pv ++ (linksOf T l k l[k]).map Lnk.pv) (by rw [allLinks_succ, List.length_append, hat] at hlen; simp only [List.length_append, List.length_map]; omega)
    have hll : ((allLinks T l k).map Lnk.pv ++ (linksOf T l k l[k]).map Lnk.pv).length = (allLinks T l (k + 1)).length := by rw [allLinks_succ, hat]; simp
    simp only [tlT]
    simp only [runs_Links_L2, decide_eq_true_eq, h1, if_true, ttE, hof, bind_some', asSl]
    have hmp : (allLinks T l (k + 1)).map Lnk.pv = (allLinks T l k).map Lnk.pv ++ (linksOf T l k l[k]).map Lnk.pv := by rw [allLinks_succ, hat, List.map_append]
    rw [if_pos hroom, hll, ← hmp]
    by_cases hb : (allLinks T l (k + 1)).length > 1024
    · rw [if_pos (show (((allLinks T l (k + 1)).length : Nat) : Int) > 1024 by omega), if_pos hb]; rfl
    · rw [if_neg (show ¬ (((allLinks T l (k + 1)).length : Nat) : Int) > 1024 by omega), if_neg hb, wrap_nat (show k < 9223372036854775807 by omega)]; rfl
  · simp only [runs_Links_L2, tlT, decide_eq_true_eq, Int.lt_irrefl, if_false]
    rfl
  · have : 1025 < rounds := by decide
    omega
  · simp [tlT, allLinks]
  · rw [scan_mono (fun j => (allLinks T l j).length) (fun k => by show (allLinks T l k).length ≤ (allLinks T l (k + 1)).length; rw [allLinks_succ, List.length_append]; omega) (by simp [allLinks])]
    by_cases hb : (allLinks T l l.length).length > 1024
    · rw [if_pos hb, if_pos hb]; rfl
    · rw [if_neg hb, if_neg hb]; rfl
theorem links_prog (T : Timetable) (hT : FewP T) (hok : T.Ok) (l : List Run) (hl : l.length ≤ 1024) (hc : ∀ r ∈ l, r.calls.length ≤ 40) (p i e : Int) (hw : timetable_Check_M [T.pv] = some (whole3 p i e)) :
    runs_Links_M [T.pv, .rs 8 (l.map Run.pv)] = some (if e = 0 then linksR T l else linkPV [] e) := by
  have hidx := index_prog T hT hok l (Nat.le_trans hl (by decide))
  have hlim : ¬ ((l.length : Int) > 1024) := by omega
  simp only [runs_Links_M, runs_Links, ttA, tt0, tt1, tt2, tt3, tt4, tt5, tt6, tt7, tt8, tt9, tt10, tt11, tt12, asSl, asInt, if_true, bind_some', ttE, hw, whole3, asTup, List.length_cons, List.length_nil, Nat.reduceAdd, List.getD_cons_zero, List.getD_cons_succ, bne_d, List.length_map, decide_eq_true_eq, hlim, if_false, hidx]
  by_cases he : e = 0
  · simp only [he, decide_true, Bool.not_true, Bool.false_eq_true, if_false, if_true]
    unfold linksR
    cases hx : idxR T l with
    | some e' =>
      have hne : e' ≠ 0 := by
        obtain ⟨k, _, hk⟩ := List.exists_of_findSome?_eq_some hx
        unfold badR at hk
        split at hk
        · split at hk
          · cases hk; decide
          · split at hk
            · cases hk; decide
            · cases hk
        · cases hk
      simp only [bind_some', mapCase, List.length_cons, List.length_nil, Nat.reduceAdd, if_true, List.getD_cons_zero, List.getD_cons_succ, hne, decide_false, Bool.not_false]
      rfl
    | none =>
      have ho := out_prog T hT hok l hl hc
      simp only [tlT] at ho
      simp only [bind_some', mpv, mapCase, List.length_cons, List.length_nil, Nat.reduceAdd, if_true, List.getD_cons_zero, List.getD_cons_succ, decide_true, Bool.not_true, Bool.false_eq_true, if_false]
      exact ho
  · simp only [he, decide_false, Bool.not_false, if_true, if_false]
    rfl
/-! ### the document's -/
end Go.Ab.Tt
