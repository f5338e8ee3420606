/- Stops and routes: the document's checks. -/
import Derived.Test.YtinbhofpofcmeaaGreatDoorTtChk1
namespace Go.Ab.Tt
set_option maxRecDepth 100000
set_option linter.unusedVariables false

theorem stop_find (l : List Stop) (hl : l.length ≤ maxLen) (s : Bytes) : ref13_Find_M [.rs 4 (l.map Stop.pv), .str s] = some (.int .i64 (findI (l.map Stop.id) s)) := by
  have hm := maxLen_lt
  simp only [ref13_Find_M, ref13_Find, asSl, asStr, if_true, bind_some']
  refine (loop_scan' (fun k => (l.map Stop.pv, s, (k : Int), ())) l.length (fun k => if decide ((l.map Stop.id)[k]? = some s) = true then some (some (.int .i64 k)) else none) (fin := some (.int .i64 (-1))) (fun k hk rec => ?_) (fun rec => ?_) ?_ rfl).trans ?_
  · have h1 : (k : Int) < (l.length : Int) := by omega
    simp only [ref13_Find_L1, decide_eq_true_eq, List.length_map, h1, if_true, idxP_nat, List.getElem?_map, List.getElem?_eq_getElem hk, Option.map_some, bind_some', Stop.pv, cell, PV.cells, List.getD_cons_zero, asStr, wrap_nat (show k < 9223372036854775807 by omega), beq_d, Option.some.injEq]
    by_cases he : l[k].id = s
    · simp [he, orFin]
    · simp [he, orFin]
  · simp only [ref13_Find_L1, decide_eq_true_eq, List.length_map, Int.lt_irrefl, if_false]
  · have := rounds_gt; omega
  · rw [findSome_if]
    unfold findI
    simp only [List.length_map]
    cases (List.range l.length).find? fun k => decide ((l.map Stop.id)[k]? = some s) <;> rfl

theorem stop_ref (l : List Stop) (hl : l.length ≤ maxLen ∧ ∀ y ∈ l, y.Ok) : ref13_Check_M [.rs 4 (l.map Stop.pv)] = some (res (stopRes l).1 (stopRes l).2) := by
  have hm := maxLen_lt
  simp only [ref13_Check_M, ref13_Check, asSl, if_true, bind_some', List.length_map]
  unfold stopRes
  by_cases h64 : l.length > 64
  · rw [if_pos (by simp; omega), if_pos h64]; rfl
  · rw [if_neg (by simp; omega), if_neg h64, ← scanE_eq]
    refine loop_scan' (fun k => (l.map Stop.pv, (k : Int), ())) l.length _ (fun k hk rec => ?_) (fun rec => ?_) ?_ rfl
    · have h1 : (k : Int) < (l.length : Int) := by omega
      have hid := ref13id_ok l[k].id (hl.2 _ (List.getElem_mem hk)).id
      have hfind := stop_find l hl.1 l[k].id
      have hlt := find_lt (l.map Stop.id) k (by simpa using hk)
      simp only [List.getElem_map] at hlt
      simp only [ref13_Check_L1, decide_eq_true_eq, List.length_map, h1, if_true, idxP_nat, List.getElem?_map, List.getElem?_eq_getElem hk, Option.map_some, bind_some', Stop.pv, cell, PV.cells, List.getD_cons_zero, List.getD_cons_succ, asStr, asInt, asBool, hid, hfind, bif_or', wrap_nat (show k < 9223372036854775807 by omega)]
      unfold stopErr
      rw [List.getElem?_eq_getElem hk]
      simp only
      generalize (decide (l[k].zone < 0) || decide (l[k].zone ≥ 16) || decide (l[k].change < 0) || decide (l[k].change > 3600)) = c
      cases validB l[k].id with
      | false => rfl
      | true =>
        by_cases hmem : l[k].id ∈ (l.map Stop.id).take k
        · simp only [hlt.2 hmem, hmem, if_true, Bool.not_true, Bool.false_eq_true, Bool.true_eq_false, if_false]; rfl
        · have hn : ¬ findI (l.map Stop.id) l[k].id < (k : Int) := fun h => hmem (hlt.1 h)
          simp only [hn, hmem, if_true, Bool.not_true, Bool.false_eq_true, Bool.true_eq_false, if_false]
          cases c <;> rfl
    · simp only [ref13_Check_L1, decide_eq_true_eq, List.length_map, Int.lt_irrefl, if_false]; rfl
    · have := rounds_gt; omega

/-! ### routes -/
def routeErr (l : List Route) (k : Nat) : Int := match l[k]? with
  | none => 0
  | some x => if validB x.id = false then 12 else if x.id ∈ (l.map Route.id).take k then 6 else if (decide (x.mode ≥ 0) && decide (x.mode < 8)) = false then 2 else 0
def routeRes (l : List Route) : Int × Int := if l.length > 64 then (0, 5) else scanE (routeErr l) l.length

theorem route_prog (l : List Route) (hl : l.length ≤ maxLen ∧ ∀ y ∈ l, y.Ok) : route_Check_M [.rs 3 (l.map Route.pv)] = some (res (routeRes l).1 (routeRes l).2) := by
  have hm := maxLen_lt
  simp only [route_Check_M, route_Check, asSl, if_true, bind_some', List.length_map]
  unfold routeRes
  by_cases h64 : l.length > 64
  · rw [if_pos (by simp; omega), if_pos h64]; rfl
  · rw [if_neg (by simp; omega), if_neg h64, ← scanE_eq]
    refine loop_scan' (fun k => (l.map Route.pv, (l.length : Int), (k : Int), seen PV.str ((l.map Route.id).take k), ())) l.length _ (fun k hk rec => ?_) (fun rec => ?_) ?_ rfl
    · have h1 : (k : Int) < (l.length : Int) := by omega
      have hid := ident_ok l[k].id (hl.2 _ (List.getElem_mem hk)).id
      have hput := seen_put str_key l[k].id ((l.map Route.id).take k)
      have hlook := seen_look str_key l[k].id ((l.map Route.id).take k)
      simp only [route_Check_L1, decide_eq_true_eq, h1, if_true, idxP_nat, List.getElem?_map, List.getElem?_eq_getElem hk, Option.map_some, bind_some', Route.pv, cell, PV.cells, List.getD_cons_zero, List.getD_cons_succ, asStr, asInt, asBool, hid, hput, hlook, bif_or', wrap_nat (show k < 9223372036854775807 by omega), ids_snoc Route.id l k hk, route_known_M, route_known, bif_and]
      unfold routeErr
      rw [List.getElem?_eq_getElem hk]
      simp only
      generalize (decide (l[k].mode ≥ 0) && decide (l[k].mode < 8)) = c
      cases validB l[k].id with
      | false => rfl
      | true =>
        by_cases hmem : l[k].id ∈ (l.map Route.id).take k
        · simp only [hmem, if_true, Bool.not_true, Bool.false_eq_true, Bool.true_eq_false, if_false]; rfl
        · simp only [hmem, if_true, Bool.not_true, Bool.false_eq_true, Bool.true_eq_false, if_false]
          cases c <;> rfl
    · simp only [route_Check_L1, decide_eq_true_eq, Int.lt_irrefl, if_false]; rfl
    · have := rounds_gt; omega

theorem route_inner (l : List Route) (hl : l.length ≤ maxLen) (i : Nat) (hi : i < l.length) (rec2 : List PV × Int × Unit → Option PV) :
    lpS.run (ref15_Check_L1 rec2) (l.map Route.pv, (i : Int), 0, ()) = if l[i].id ∈ (l.map Route.id).take i then some (res i 6) else if (decide (l[i].mode ≥ 0) && decide (l[i].mode < 8)) = false then some (res i 2) else rec2 (l.map Route.pv, IntKind.i64.wrap ((i : Int) + 1), ()) := by
  have hm := maxLen_lt
  refine (loop_scan' (fun k => (l.map Route.pv, (i : Int), (k : Int), ())) i (fun k => if decide ((l.map Route.id)[k]? = some l[i].id) = true then some (some (res i 6)) else none) (fin := if (decide (l[i].mode ≥ 0) && decide (l[i].mode < 8)) = false then some (res i 2) else rec2 (l.map Route.pv, IntKind.i64.wrap ((i : Int) + 1), ())) (fun k hk rec => ?_) (fun rec => ?_) ?_ rfl).trans ?_
  · have h1 : (k : Int) < (i : Int) := by omega
    have hk' : k < l.length := by omega
    simp only [ref15_Check_L1, decide_eq_true_eq, h1, if_true, idxP_nat, List.getElem?_map, List.getElem?_eq_getElem hk', List.getElem?_eq_getElem hi, Option.map_some, bind_some', Route.pv, cell, PV.cells, List.getD_cons_zero, asStr, wrap_nat (show k < 9223372036854775807 by omega), beq_d, Option.some.injEq]
    by_cases he : l[k].id = l[i].id
    · simp [he, orFin, res]
    · simp [he, orFin]
  · simp only [ref15_Check_L1, decide_eq_true_eq, Int.lt_irrefl, if_false, idxP_nat, List.getElem?_map, List.getElem?_eq_getElem hi, Option.map_some, bind_some', Route.pv, cell, PV.cells, List.getD_cons_zero, List.getD_cons_succ, asInt, asBool, if_true, ref15_mode_M, ref15_mode, bif_and]
    generalize (decide (l[i].mode ≥ 0) && decide (l[i].mode < 8)) = c
    cases c <;> rfl
  · have := rounds_gt; omega
  · rw [findSome_if]
    cases hf : (List.range i).find? fun k => decide ((l.map Route.id)[k]? = some l[i].id) with
    | none =>
      have hn : l[i].id ∉ (l.map Route.id).take i := fun hmem => by
        obtain ⟨j, hj⟩ := List.mem_iff_getElem?.1 hmem
        have hji : j < i := by have := (List.getElem?_eq_some_iff.1 hj).1; simp at this; omega
        rw [List.getElem?_take_of_lt hji] at hj
        rw [List.find?_eq_none] at hf
        exact hf j (by simpa using hji) (by simpa using hj)
      rw [if_neg hn]; rfl
    | some j =>
      rw [List.find?_range_eq_some] at hf
      obtain ⟨h1, h2, _⟩ := hf
      have hmem : l[i].id ∈ (l.map Route.id).take i := List.mem_iff_getElem?.2 ⟨j, by rw [List.getElem?_take_of_lt (by simpa using h2)]; simpa using h1⟩
      rw [if_pos hmem]; rfl

theorem route_ref (l : List Route) (hl : l.length ≤ maxLen ∧ ∀ y ∈ l, y.Ok) : ref15_Check_M [.rs 3 (l.map Route.pv)] = some (res (routeRes l).1 (routeRes l).2) := by
  have hm := maxLen_lt
  simp only [ref15_Check_M, ref15_Check, asSl, if_true, bind_some', List.length_map]
  unfold routeRes
  by_cases h64 : l.length > 64
  · rw [if_pos (by simp; omega), if_pos h64]; rfl
  · rw [if_neg (by simp; omega), if_neg h64, ← scanE_eq]
    refine loop_scan' (fun k => (l.map Route.pv, (k : Int), ())) l.length _ (fun k hk rec => ?_) (fun rec => ?_) ?_ rfl
    · have h1 : (k : Int) < (l.length : Int) := by omega
      have hid := ref15name_ok l[k].id (hl.2 _ (List.getElem_mem hk)).id
      have hin := route_inner l hl.1 k hk rec
      have hpv : cell (l[k].pv) 0 = .str l[k].id := rfl
      simp only [ref15_Check_L2, decide_eq_true_eq, List.length_map, h1, if_true, idxP_nat, List.getElem?_map, List.getElem?_eq_getElem hk, Option.map_some, bind_some', hpv, asStr, asBool, hid, hin, wrap_nat (show k < 9223372036854775807 by omega)]
      unfold routeErr
      rw [List.getElem?_eq_getElem hk]
      simp only
      generalize (decide (l[k].mode ≥ 0) && decide (l[k].mode < 8)) = c
      cases validB l[k].id with
      | false => rfl
      | true =>
        by_cases hmem : l[k].id ∈ (l.map Route.id).take k
        · simp only [hmem, if_true, Bool.not_true, Bool.false_eq_true, Bool.true_eq_false, if_false]; rfl
        · simp only [hmem, if_true, Bool.not_true, Bool.false_eq_true, Bool.true_eq_false, if_false]
          cases c <;> rfl
    · simp only [ref15_Check_L2, decide_eq_true_eq, List.length_map, Int.lt_irrefl, if_false]; rfl
    · have := rounds_gt; omega
end Go.Ab.Tt
