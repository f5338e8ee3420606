/- Trips and their calls: the program's checks and the document's. -/
import Derived.Test.YtinbhofpofcmeaaGreatDoorTtChk1
namespace Go.Ab.Tt
set_option maxRecDepth 100000
set_option linter.unusedVariables false

theorem kall0 (x : Kall) : cell x.pv 0 = .int .i64 x.stop := rfl
theorem kall1 (x : Kall) : cell x.pv 1 = .int .i64 x.arr := rfl
theorem kall2 (x : Kall) : cell x.pv 2 = .int .i64 x.dep := rfl
def prevK (l : List Kall) : Nat → Option Kall
  | 0 => none
  | k + 1 => l[k]?
def callE (c : Kall) (p : Option Kall) (stops low high : Int) : Int :=
  if (decide (c.stop < 0) || decide (c.stop ≥ stops)) = true then 9
  else if (match p with | some p => decide (p.stop = c.stop) | none => false) = true then 13
  else if (decide (c.arr < low) || decide (c.arr > c.dep) || decide (c.dep > high) || (match p with | some p => decide (c.arr < p.dep) | none => false)) = true then 10 else 0
def callErr (l : List Kall) (stops low high : Int) (k : Nat) : Int := match l[k]? with
  | none => 0
  | some c => callE c (prevK l k) stops low high
def callRes (l : List Kall) (stops low high : Int) : Int × Int := if (decide ((l.length : Int) < 2) || decide ((l.length : Int) > 32)) = true then (0, 5) else scanE (callErr l stops low high) l.length

theorem wrap_pred (j : Nat) (h : j < 9223372036854775807) : IntKind.i64.wrap (((j + 1 : Nat) : Int) - 1) = (j : Int) := by
  rw [wrap_in (by omega) (by omega)]; omega
theorem call_one_ok (l : List Kall) (stops low high : Int) (k : Nat) (hk : k < l.length) (hl : l.length ≤ maxLen) : call_one_M [.rs 5 (l.map Kall.pv), .int .i64 k, .int .i64 stops, .int .i64 low, .int .i64 high] = some (.int .i64 (callErr l stops low high k)) := by
  have hm := maxLen_lt
  simp only [call_one_M, call_one, asSl, asInt, if_true, bind_some', idxP_nat, List.getElem?_map, List.getElem?_eq_getElem hk, Option.map_some, kall0, kall1, kall2, bif_or']
  unfold callErr callE
  rw [List.getElem?_eq_getElem hk]
  simp only
  cases k with
  | zero =>
    have h0 : decide (((0 : Nat) : Int) > 0) = false := by decide
    simp only [h0, cond_false, bind_some', bif_or', Bool.or_false, prevK]
    generalize (decide (l[0].stop < 0) || decide (l[0].stop ≥ stops)) = A
    generalize (decide (l[0].arr < low) || decide (l[0].arr > l[0].dep) || decide (l[0].dep > high)) = B
    cases A <;> cases B <;> rfl
  | succ j =>
    have h0 : decide (((j + 1 : Nat) : Int) > 0) = true := by rw [decide_eq_true_eq]; omega
    have hj : j < l.length := by omega
    simp only [h0, cond_true, bind_some', wrap_pred j (by omega), idxP_nat, List.getElem?_map, List.getElem?_eq_getElem hj, Option.map_some, kall0, kall2, asInt, if_true, prevK, beq_d, bif_or']
    generalize (decide (l[j + 1].stop < 0) || decide (l[j + 1].stop ≥ stops)) = A
    generalize (decide (l[j + 1].arr < low) || decide (l[j + 1].arr > l[j + 1].dep) || decide (l[j + 1].dep > high)) = B
    generalize decide (l[j].stop = l[j + 1].stop) = C
    generalize decide (l[j + 1].arr < l[j].dep) = D
    cases A <;> cases B <;> cases C <;> cases D <;> rfl

theorem call_prog (l : List Kall) (stops low high : Int) (hl : l.length ≤ maxLen) : call_Check_M [.rs 5 (l.map Kall.pv), .int .i64 stops, .int .i64 low, .int .i64 high] = some (res (callRes l stops low high).1 (callRes l stops low high).2) := by
  have hm := maxLen_lt
  simp only [call_Check_M, call_Check, asSl, asInt, if_true, bind_some', List.length_map, bif_or']
  unfold callRes
  split
  · rfl
  · rw [← scanE_eq]
    refine loop_scan' (fun k => (l.map Kall.pv, stops, low, high, (l.length : Int), (k : Int), ())) l.length _ (fun k hk rec => ?_) (fun rec => ?_) ?_ rfl
    · have h1 : (k : Int) < (l.length : Int) := by omega
      simp only [call_Check_L1, decide_eq_true_eq, h1, if_true, call_one_ok l stops low high k hk hl, bind_some', asInt, wrap_nat (show k < 9223372036854775807 by omega), bne_d]
      by_cases he : callErr l stops low high k = 0
      · simp [he, errAt, orFin]
      · simp [he, errAt, orFin, res]
    · simp only [call_Check_L1, decide_eq_true_eq, Int.lt_irrefl, if_false]; rfl
    · have := rounds_gt; omega

theorem calls_ref (l : List Kall) (stops : Int) (hl : l.length ≤ maxLen) : ref17_calls_M [.rs 5 (l.map Kall.pv), .int .i64 stops] = some (.int .i64 (callRes l stops 0 172800).2) := by
  have hm := maxLen_lt
  simp only [ref17_calls_M, ref17_calls, asSl, asInt, if_true, bind_some', List.length_map, bif_or']
  unfold callRes
  split
  · rfl
  · rw [← errOnly_eq]
    refine loop_scan' (fun k => (l.map Kall.pv, stops, (k : Int), ())) l.length _ (fun k hk rec => ?_) (fun rec => ?_) ?_ rfl
    · have h1 : (k : Int) < (l.length : Int) := by omega
      simp only [ref17_calls_L1, decide_eq_true_eq, List.length_map, h1, if_true, idxP_nat, List.getElem?_map, List.getElem?_eq_getElem hk, Option.map_some, bind_some', kall0, kall1, kall2, asInt, bif_or', wrap_nat (show k < 9223372036854775807 by omega)]
      unfold callErr callE
      rw [List.getElem?_eq_getElem hk]
      simp only
      cases k with
      | zero =>
        have h0 : decide (((0 : Nat) : Int) > 0) = false := by decide
        simp only [h0, cond_false, bind_some', bif_or', Bool.or_false, prevK]
        generalize (decide (l[0].stop < 0) || decide (l[0].stop ≥ stops)) = A
        generalize (decide (l[0].arr < 0) || decide (l[0].arr > l[0].dep) || decide (l[0].dep > 172800)) = B
        cases A <;> cases B <;> rfl
      | succ j =>
        have h0 : decide (((j + 1 : Nat) : Int) > 0) = true := by rw [decide_eq_true_eq]; omega
        have hj : j < l.length := by omega
        have hc : decide (l[j + 1].stop = l[j].stop) = decide (l[j].stop = l[j + 1].stop) := by rw [Bool.eq_iff_iff]; simp; exact eq_comm
        simp only [h0, cond_true, bind_some', wrap_pred j (by omega), idxP_nat, List.getElem?_map, List.getElem?_eq_getElem hj, Option.map_some, kall0, kall2, asInt, if_true, prevK, beq_d, bif_or', hc]
        generalize (decide (l[j + 1].stop < 0) || decide (l[j + 1].stop ≥ stops)) = A
        generalize (decide (l[j + 1].arr < 0) || decide (l[j + 1].arr > l[j + 1].dep) || decide (l[j + 1].dep > 172800)) = B
        generalize decide (l[j].stop = l[j + 1].stop) = C
        generalize decide (l[j + 1].arr < l[j].dep) = D
        cases A <;> cases B <;> cases C <;> cases D <;> rfl
    · simp only [ref17_calls_L1, decide_eq_true_eq, List.length_map, Int.lt_irrefl, if_false]
    · have := rounds_gt; omega

/-! ### trips -/
theorem trip0 (x : Trip) : cell x.pv 0 = .str x.id := rfl
theorem trip1 (x : Trip) : cell x.pv 1 = .int .i64 x.route := rfl
theorem trip2 (x : Trip) : cell x.pv 2 = .int .i64 x.cal := rfl
theorem trip4 (x : Trip) : cell x.pv 4 = .rs 5 (x.calls.map Kall.pv) := rfl
def tripErr (l : List Trip) (stops routes cals : Int) (k : Nat) : Int := match l[k]? with
  | none => 0
  | some x => if validB x.id = false then 12 else if x.id ∈ (l.map Trip.id).take k then 6 else if (decide (x.route < 0) || decide (x.route ≥ routes) || decide (x.cal < 0) || decide (x.cal ≥ cals)) = true then 9 else (callRes x.calls stops 0 172800).2
def tripRes (l : List Trip) (stops routes cals : Int) : Int × Int := if l.length > 256 then (0, 5) else scanE (tripErr l stops routes cals) l.length

theorem trip_prog (l : List Trip) (stops routes cals : Int) (hl : l.length ≤ maxLen ∧ ∀ y ∈ l, y.Ok) : trip_Check_M [.rs 5 (l.map Trip.pv), .int .i64 stops, .int .i64 routes, .int .i64 cals] = some (res (tripRes l stops routes cals).1 (tripRes l stops routes cals).2) := by
  have hm := maxLen_lt
  simp only [trip_Check_M, trip_Check, asSl, asInt, if_true, bind_some', List.length_map]
  unfold tripRes
  by_cases h64 : l.length > 256
  · rw [if_pos (by simp; omega), if_pos h64]; rfl
  · rw [if_neg (by simp; omega), if_neg h64, ← scanE_eq]
    refine loop_scan' (fun k => (stops, routes, cals, l.map Trip.pv, (l.length : Int), (k : Int), seen PV.str ((l.map Trip.id).take k), ())) l.length _ (fun k hk rec => ?_) (fun rec => ?_) ?_ rfl
    · have h1 : (k : Int) < (l.length : Int) := by omega
      have hid := ident_ok l[k].id (hl.2 _ (List.getElem_mem hk)).id
      have hput := seen_put str_key l[k].id ((l.map Trip.id).take k)
      have hlook := seen_look str_key l[k].id ((l.map Trip.id).take k)
      have hcall := call_prog l[k].calls stops 0 172800 (hl.2 _ (List.getElem_mem hk)).calls.1
      simp only [res] at hcall
      simp only [trip_Check_L1, decide_eq_true_eq, h1, if_true, idxP_nat, List.getElem?_map, List.getElem?_eq_getElem hk, Option.map_some, bind_some', trip0, trip1, trip2, trip4, asStr, asInt, asBool, asSl, hid, hput, hlook, hcall, asTup, List.length_cons, List.length_nil, Nat.reduceAdd, List.getD_cons_zero, List.getD_cons_succ, bif_or', wrap_nat (show k < 9223372036854775807 by omega), ids_snoc Trip.id l k hk, bne_d]
      unfold tripErr
      rw [List.getElem?_eq_getElem hk]
      simp only
      generalize (callRes l[k].calls stops 0 172800).2 = e
      cases validB l[k].id with
      | false => rfl
      | true =>
        by_cases hmem : l[k].id ∈ (l.map Trip.id).take k
        · simp only [hmem, if_true, Bool.not_true, Bool.false_eq_true, Bool.true_eq_false, if_false]; rfl
        · simp only [hmem, if_true, Bool.not_true, Bool.false_eq_true, Bool.true_eq_false, if_false]
          cases decide (l[k].route < 0) <;> cases decide (l[k].route ≥ routes) <;> cases decide (l[k].cal < 0) <;> cases decide (l[k].cal ≥ cals) <;> (try rfl)
          by_cases he : e = 0
          · simp [he, errAt, orFin]
          · simp [he, errAt, orFin, res]
    · simp only [trip_Check_L1, decide_eq_true_eq, Int.lt_irrefl, if_false]; rfl
    · have := rounds_gt; omega

theorem trip_find (l : List Trip) (hl : l.length ≤ maxLen) (s : Bytes) : ref17_Find_M [.rs 5 (l.map Trip.pv), .str s] = some (.int .i64 (findI (l.map Trip.id) s)) := by
  have hm := maxLen_lt
  simp only [ref17_Find_M, ref17_Find, asSl, asStr, if_true, bind_some']
  refine (loop_scan' (fun k => (l.map Trip.pv, s, (k : Int), ())) l.length (fun k => if decide ((l.map Trip.id)[k]? = some s) = true then some (some (.int .i64 k)) else none) (fin := some (.int .i64 (-1))) (fun k hk rec => ?_) (fun rec => ?_) ?_ rfl).trans ?_
  · have h1 : (k : Int) < (l.length : Int) := by omega
    simp only [ref17_Find_L1, decide_eq_true_eq, List.length_map, h1, if_true, idxP_nat, List.getElem?_map, List.getElem?_eq_getElem hk, Option.map_some, bind_some', trip0, asStr, wrap_nat (show k < 9223372036854775807 by omega), beq_d, Option.some.injEq]
    by_cases he : l[k].id = s
    · simp [he, orFin]
    · simp [he, orFin]
  · simp only [ref17_Find_L1, decide_eq_true_eq, List.length_map, Int.lt_irrefl, if_false]
  · have := rounds_gt; omega
  · rw [findSome_if]
    unfold findI
    simp only [List.length_map]
    cases (List.range l.length).find? fun k => decide ((l.map Trip.id)[k]? = some s) <;> rfl

theorem trip_one (l : List Trip) (stops routes cals : Int) (hl : l.length ≤ maxLen ∧ ∀ y ∈ l, y.Ok) (k : Nat) (hk : k < l.length) : ref17_one_M [.rs 5 (l.map Trip.pv), .int .i64 k, .int .i64 stops, .int .i64 routes, .int .i64 cals] = some (.int .i64 (tripErr l stops routes cals k)) := by
  have hm := maxLen_lt
  have hid := ref05_ok l[k].id (hl.2 _ (List.getElem_mem hk)).id
  have hcall := calls_ref l[k].calls stops (hl.2 _ (List.getElem_mem hk)).calls.1
  have hfind := trip_find (l.take k) (by simp; omega) l[k].id
  have hge := find_ge ((l.take k).map Trip.id) l[k].id
  have htk : (l.take k).map Trip.id = (l.map Trip.id).take k := by rw [List.map_take]
  have htp : (l.take k).map Trip.pv = (l.map Trip.pv).take k := by rw [List.map_take]
  rw [htk] at hge hfind
  rw [htp] at hfind
  have hc : (0 : Int) ≤ 0 ∧ (0 : Int) ≤ (k : Int) ∧ (k : Int) ≤ ((l.map Trip.pv).length : Int) ∧ True ∧ 5 ≠ 0 := ⟨by omega, by omega, by simp; omega, trivial, by decide⟩
  simp only [ref17_one_M, ref17_one, asSl, asInt, if_true, bind_some', idxP_nat, List.getElem?_map, List.getElem?_eq_getElem hk, Option.map_some, trip0, trip1, trip2, trip4, asStr, asBool, hid, hcall, Int.toNat_natCast, Int.toNat_zero, List.drop_zero, hfind, bif_or', decide_eq_true_eq]
  unfold tripErr
  rw [List.getElem?_eq_getElem hk]
  simp only
  generalize (callRes l[k].calls stops 0 172800).2 = e
  generalize (decide (l[k].route < 0) || decide (l[k].route ≥ routes) || decide (l[k].cal < 0) || decide (l[k].cal ≥ cals)) = c
  cases validB l[k].id with
  | false => rfl
  | true =>
    rw [if_pos hc]
    by_cases hmem : l[k].id ∈ (l.map Trip.id).take k
    · simp only [hge.2 hmem, hmem, if_true, Bool.not_true, Bool.false_eq_true, Bool.true_eq_false, if_false]
    · have hn : ¬ findI ((l.map Trip.id).take k) l[k].id ≥ 0 := fun h => hmem (hge.1 h)
      simp only [hn, hmem, if_true, Bool.not_true, Bool.false_eq_true, Bool.true_eq_false, if_false]
      cases c <;> rfl

theorem trip_ref (l : List Trip) (stops routes cals : Int) (hl : l.length ≤ maxLen ∧ ∀ y ∈ l, y.Ok) : ref17_Check_M [.rs 5 (l.map Trip.pv), .int .i64 stops, .int .i64 routes, .int .i64 cals] = some (res (tripRes l stops routes cals).1 (tripRes l stops routes cals).2) := by
  have hm := maxLen_lt
  simp only [ref17_Check_M, ref17_Check, asSl, asInt, if_true, bind_some', List.length_map]
  unfold tripRes
  by_cases h64 : l.length > 256
  · rw [if_pos (by simp; omega), if_pos h64]; rfl
  · rw [if_neg (by simp; omega), if_neg h64, ← scanE_eq]
    refine loop_scan' (fun k => (l.map Trip.pv, stops, routes, cals, (k : Int), ())) l.length _ (fun k hk rec => ?_) (fun rec => ?_) ?_ rfl
    · have h1 : (k : Int) < (l.length : Int) := by omega
      simp only [ref17_Check_L1, decide_eq_true_eq, List.length_map, h1, if_true, trip_one l stops routes cals hl k hk, bind_some', asInt, wrap_nat (show k < 9223372036854775807 by omega), bne_d]
      by_cases he : tripErr l stops routes cals k = 0
      · simp [he, errAt, orFin]
      · simp [he, errAt, orFin, res]
    · simp only [ref17_Check_L1, decide_eq_true_eq, List.length_map, Int.lt_irrefl, if_false]; rfl
    · have := rounds_gt; omega
end Go.Ab.Tt
