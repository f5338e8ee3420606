/- Fare products and footpaths: the program's checks and the document's. -/
import Derived.Test.YtinbhofpofcmeaaGreatDoorTtChk1
namespace Go.Ab.Tt
set_option maxRecDepth 100000
set_option linter.unusedVariables false

def wi (n a b : Int) : Bool := decide (n ≥ a) && decide (n ≤ b)
theorem within_prog (n a b : Int) : product_within_M [.int .i64 n, .int .i64 a, .int .i64 b] = some (.bool (wi n a b)) := by simp only [product_within_M, product_within, asInt, if_true, bind_some', bif_and]; rfl
theorem within_ref (n a b : Int) : ref21_within_M [.int .i64 n, .int .i64 a, .int .i64 b] = some (.bool (wi n a b)) := by simp only [ref21_within_M, ref21_within, asInt, if_true, bind_some', bif_and]; rfl
theorem prd0 (x : Prdt) : cell x.pv 0 = .str x.id := rfl
theorem prd1 (x : Prdt) : cell x.pv 1 = .int .i64 x.price := rfl
theorem prd2 (x : Prdt) : cell x.pv 2 = .int .i64 x.rides := rfl
theorem prd3 (x : Prdt) : cell x.pv 3 = .int .i64 x.zones := rfl
theorem prd4 (x : Prdt) : cell x.pv 4 = .int .i64 x.secs := rfl
theorem prd5 (x : Prdt) : cell x.pv 5 = .int .i64 x.modes := rfl
def prodBad (x : Prdt) : Bool := !wi x.price 0 1000000 || !wi x.rides 1 8 || !wi x.zones 1 16 || !wi x.secs 0 86400 || !wi x.modes 1 255
def prodErr (l : List Prdt) (k : Nat) : Int := match l[k]? with
  | none => 0
  | some x => if validB x.id = false then 12 else if x.id ∈ (l.map Prdt.id).take k then 6 else if prodBad x = true then 2 else 0
def faresPV (l : List Prdt) (disc within cap : Int) : PV := .agg [.rs 6 (l.map Prdt.pv), .int .i64 disc, .int .i64 within, .int .i64 cap]
def fareRes (l : List Prdt) (disc within cap : Int) : Int × Int :=
  if (!wi disc 0 1000000 || !wi within 0 86400 || !wi cap 0 1000000) = true then (-1, 2) else if l.length > 16 then (0, 5) else scanE (prodErr l) l.length

theorem fares_prog (l : List Prdt) (disc within cap : Int) (hl : l.length ≤ maxLen ∧ ∀ y ∈ l, y.Ok) : product_Check_M [faresPV l disc within cap] = some (res (fareRes l disc within cap).1 (fareRes l disc within cap).2) := by
  have hm := maxLen_lt
  simp only [product_Check_M, product_Check, faresPV, asAgg, cell, PV.cells, List.getD_cons_zero, List.getD_cons_succ, List.length_cons, List.length_nil, Nat.reduceAdd, asSl, asInt, asBool, if_true, bind_some', List.length_map, within_prog, bif_or']
  unfold fareRes
  generalize (!wi disc 0 1000000 || !wi within 0 86400 || !wi cap 0 1000000) = c
  cases c with
  | true => rfl
  | false =>
    simp only [Bool.false_eq_true, if_false]
    by_cases h64 : l.length > 16
    · rw [if_pos (by simp; omega), if_pos h64]; rfl
    · rw [if_neg (by simp; omega), if_neg h64, ← scanE_eq]
      refine loop_scan' (fun k => (l.map Prdt.pv, (l.length : Int), (k : Int), seen PV.str ((l.map Prdt.id).take k), ())) l.length _ (fun k hk rec => ?_) (fun rec => ?_) ?_ rfl
      · have h1 : (k : Int) < (l.length : Int) := by omega
        have hid := ident_ok l[k].id (hl.2 _ (List.getElem_mem hk)).id
        have hput := seen_put str_key l[k].id ((l.map Prdt.id).take k)
        have hlook := seen_look str_key l[k].id ((l.map Prdt.id).take k)
        simp only [product_Check_L1, decide_eq_true_eq, h1, if_true, idxP_nat, List.getElem?_map, List.getElem?_eq_getElem hk, Option.map_some, bind_some', prd0, prd1, prd2, prd3, prd4, prd5, asStr, asInt, asBool, hid, hput, hlook, within_prog, bif_or', wrap_nat (show k < 9223372036854775807 by omega), ids_snoc Prdt.id l k hk]
        unfold prodErr
        rw [List.getElem?_eq_getElem hk]
        have hb : (!wi l[k].price 0 1000000 || !wi l[k].rides 1 8 || !wi l[k].zones 1 16 || !wi l[k].secs 0 86400 || !wi l[k].modes 1 255) = prodBad l[k] := rfl
        simp only [hb]
        generalize prodBad l[k] = c
        cases validB l[k].id with
        | false => rfl
        | true =>
          by_cases hmem : l[k].id ∈ (l.map Prdt.id).take k
          · simp only [hmem, if_true, Bool.not_true, Bool.false_eq_true, Bool.true_eq_false, if_false]; rfl
          · simp only [hmem, if_true, Bool.not_true, Bool.false_eq_true, Bool.true_eq_false, if_false]
            cases c <;> rfl
      · simp only [product_Check_L1, decide_eq_true_eq, Int.lt_irrefl, if_false]; rfl
      · have := rounds_gt; omega

theorem right_ok (x : Prdt) : ref21_Right_M [.agg [cell x.pv 0, cell x.pv 1, cell x.pv 2, cell x.pv 3, cell x.pv 4, cell x.pv 5]] = some (.bool (!prodBad x)) := by
  simp only [prd0, prd1, prd2, prd3, prd4, prd5]
  simp only [ref21_Right_M, ref21_Right, asAgg, cell, PV.cells, List.getD_cons_zero, List.getD_cons_succ, List.length_cons, List.length_nil, Nat.reduceAdd, asStr, asInt, asBool, if_true, bind_some', within_ref, bif_and]
  unfold prodBad
  cases wi x.price 0 1000000 <;> cases wi x.rides 1 8 <;> cases wi x.zones 1 16 <;> cases wi x.secs 0 86400 <;> cases wi x.modes 1 255 <;> rfl

theorem prod_inner (l : List Prdt) (hl : l.length ≤ maxLen) (i : Nat) (hi : i < l.length) (rec2 : List PV × Int × Unit → Option PV) :
    lpS.run (ref21_Check_L1 rec2) (l.map Prdt.pv, (i : Int), 0, ()) = if l[i].id ∈ (l.map Prdt.id).take i then some (res i 6) else if prodBad l[i] = true then some (res i 2) else rec2 (l.map Prdt.pv, IntKind.i64.wrap ((i : Int) + 1), ()) := by
  have hm := maxLen_lt
  refine (dup_scan (fun k => (l.map Prdt.pv, (i : Int), (k : Int), ())) i (fun k => decide ((l.map Prdt.id)[k]? = some l[i].id)) (no := some (res i 6)) (fin := if prodBad l[i] = true then some (res i 2) else rec2 (l.map Prdt.pv, IntKind.i64.wrap ((i : Int) + 1), ())) (fun k hk rec => ?_) (fun rec => ?_) ?_ rfl).trans ?_
  · have h1 : (k : Int) < (i : Int) := by omega
    have hk' : k < l.length := by omega
    simp only [ref21_Check_L1, decide_eq_true_eq, h1, if_true, idxP_nat, List.getElem?_map, List.getElem?_eq_getElem hk', List.getElem?_eq_getElem hi, Option.map_some, bind_some', prd0, asStr, wrap_nat (show k < 9223372036854775807 by omega), beq_d, Option.some.injEq]
    rfl
  · simp only [ref21_Check_L1, decide_eq_true_eq, Int.lt_irrefl, if_false, idxP_nat, List.getElem?_map, List.getElem?_eq_getElem hi, Option.map_some, bind_some', right_ok, asBool, Bool.not_not]
    rfl
  · have := rounds_gt; omega
  · rw [any_mem _ _ (by simp; omega)]; simp only [decide_eq_true_eq]

theorem fares_ref (l : List Prdt) (disc within cap : Int) (hl : l.length ≤ maxLen ∧ ∀ y ∈ l, y.Ok) : ref21_Check_M [faresPV l disc within cap] = some (res (fareRes l disc within cap).1 (fareRes l disc within cap).2) := by
  have hm := maxLen_lt
  simp only [ref21_Check_M, ref21_Check, faresPV, asAgg, cell, PV.cells, List.getD_cons_zero, List.getD_cons_succ, List.length_cons, List.length_nil, Nat.reduceAdd, asSl, asInt, asBool, if_true, bind_some', List.length_map, within_ref, bif_or']
  unfold fareRes
  generalize (!wi disc 0 1000000 || !wi within 0 86400 || !wi cap 0 1000000) = c
  cases c with
  | true => rfl
  | false =>
    simp only [Bool.false_eq_true, if_false]
    by_cases h64 : l.length > 16
    · rw [if_pos (by simp; omega), if_pos h64]; rfl
    · rw [if_neg (by simp; omega), if_neg h64, ← scanE_eq]
      refine loop_scan' (fun k => (l.map Prdt.pv, (k : Int), ())) l.length _ (fun k hk rec => ?_) (fun rec => ?_) ?_ rfl
      · have h1 : (k : Int) < (l.length : Int) := by omega
        have hid := ref15name_ok l[k].id (hl.2 _ (List.getElem_mem hk)).id
        have hin := prod_inner l hl.1 k hk rec
        simp only [ref21_Check_L2, decide_eq_true_eq, List.length_map, h1, if_true, idxP_nat, List.getElem?_map, List.getElem?_eq_getElem hk, Option.map_some, bind_some', prd0, asStr, asBool, hid, hin, wrap_nat (show k < 9223372036854775807 by omega)]
        unfold prodErr
        rw [List.getElem?_eq_getElem hk]
        simp only
        generalize prodBad l[k] = c
        cases validB l[k].id with
        | false => rfl
        | true =>
          by_cases hmem : l[k].id ∈ (l.map Prdt.id).take k
          · simp only [hmem, if_true, Bool.not_true, Bool.false_eq_true, Bool.true_eq_false, if_false]; rfl
          · simp only [hmem, if_true, Bool.not_true, Bool.false_eq_true, Bool.true_eq_false, if_false]
            cases c <;> rfl
      · simp only [ref21_Check_L2, decide_eq_true_eq, List.length_map, Int.lt_irrefl, if_false]; rfl
      · have := rounds_gt; omega

/-! ### footpaths -/
theorem path0 (x : Path) : cell x.pv 0 = .int .i64 x.a := rfl
theorem path1 (x : Path) : cell x.pv 1 = .int .i64 x.b := rfl
theorem path2 (x : Path) : cell x.pv 2 = .int .i64 x.secs := rfl
theorem path3 (x : Path) : cell x.pv 3 = .bool x.free := rfl
def pathKey (x : Path) : Int × Int × Bool := (x.a, x.b, x.free)
def pathPV (x : Int × Int × Bool) : PV := .agg [.int .i64 x.1, .int .i64 x.2.1, .bool x.2.2]
theorem path_key (a b : Int × Int × Bool) : peqL (pathPV a).cells (pathPV b).cells = decide (a = b) := by
  obtain ⟨a1, a2, a3⟩ := a
  obtain ⟨b1, b2, b3⟩ := b
  rw [Bool.eq_iff_iff]; simp [pathPV, PV.cells, peqL, peq]
def pathErr (l : List Path) (n : Int) (k : Nat) : Int := match l[k]? with
  | none => 0
  | some x => if (decide (x.a < 0) || decide (x.a ≥ n) || decide (x.b < 0) || decide (x.b ≥ n) || decide (x.a = x.b)) = true then 9 else if (decide (x.secs < 1) || decide (x.secs > 14400)) = true then 2 else if pathKey x ∈ (l.map pathKey).take k then 6 else 0
def pathRes (l : List Path) (n : Int) : Int × Int := if l.length > 512 then (0, 5) else scanE (pathErr l n) l.length

theorem sound_prog (l : List Path) (n : Int) (hl : l.length ≤ maxLen) : footpath_sound_M [.rs 4 (l.map Path.pv), .int .i64 n] = some (res (scanE (pathErr l n) l.length).1 (scanE (pathErr l n) l.length).2) := by
  have hm := maxLen_lt
  simp only [footpath_sound_M, footpath_sound, asSl, asInt, if_true, bind_some', List.length_map]
  rw [← scanE_eq]
  refine loop_scan' (fun k => (n, l.map Path.pv, (l.length : Int), (k : Int), seen pathPV ((l.map pathKey).take k), ())) l.length _ (fun k hk rec => ?_) (fun rec => ?_) ?_ rfl
  · have h1 : (k : Int) < (l.length : Int) := by omega
    have hput : mput (.agg [.int .i64 l[k].a, .int .i64 l[k].b, .bool l[k].free]) (.bool true) (seen pathPV ((l.map pathKey).take k)) = _ := seen_put path_key (pathKey l[k]) ((l.map pathKey).take k)
    have hlook : mlook (.agg [.int .i64 l[k].a, .int .i64 l[k].b, .bool l[k].free]) (.bool false) (seen pathPV ((l.map pathKey).take k)) = _ := seen_look path_key (pathKey l[k]) ((l.map pathKey).take k)
    simp only [footpath_sound_L1, decide_eq_true_eq, h1, if_true, idxP_nat, List.getElem?_map, List.getElem?_eq_getElem hk, Option.map_some, bind_some', path0, path1, path2, path3, asInt, asBool, hput, hlook, beq_d, wrap_nat (show k < 9223372036854775807 by omega), ids_snoc pathKey l k hk]
    unfold pathErr
    rw [List.getElem?_eq_getElem hk]
    simp only
    by_cases hmem : pathKey l[k] ∈ (l.map pathKey).take k
    · simp only [hmem, if_true]
      by_cases e1 : l[k].a < 0 <;> by_cases e2 : l[k].a ≥ n <;> by_cases e3 : l[k].b < 0 <;> by_cases e4 : l[k].b ≥ n <;> by_cases e5 : l[k].a = l[k].b <;> by_cases e6 : l[k].secs < 1 <;> by_cases e7 : l[k].secs > 14400 <;>
        simp only [e1, e2, e3, e4, e5, e6, e7, decide_true, decide_false, Bool.or_true, Bool.true_or, Bool.or_false, if_true, if_false, Bool.false_eq_true] <;> rfl
    · simp only [hmem, if_false, Bool.false_eq_true]
      by_cases e1 : l[k].a < 0 <;> by_cases e2 : l[k].a ≥ n <;> by_cases e3 : l[k].b < 0 <;> by_cases e4 : l[k].b ≥ n <;> by_cases e5 : l[k].a = l[k].b <;> by_cases e6 : l[k].secs < 1 <;> by_cases e7 : l[k].secs > 14400 <;>
        simp only [e1, e2, e3, e4, e5, e6, e7, decide_true, decide_false, Bool.or_true, Bool.true_or, Bool.or_false, if_true, if_false, Bool.false_eq_true] <;> rfl
  · simp only [footpath_sound_L1, decide_eq_true_eq, Int.lt_irrefl, if_false]; rfl
  · have := rounds_gt; omega

theorem path_prog (l : List Path) (n : Int) (hl : l.length ≤ maxLen) : footpath_Check_M [.rs 4 (l.map Path.pv), .int .i64 n] = some (res (pathRes l n).1 (pathRes l n).2) := by
  have h := sound_prog l n hl
  simp only [res] at h
  simp only [footpath_Check_M, footpath_Check, asSl, asInt, if_true, bind_some', List.length_map, h, asTup, List.length_cons, List.length_nil, Nat.reduceAdd, List.getD_cons_zero, List.getD_cons_succ, decide_eq_true_eq]
  unfold pathRes
  by_cases h64 : l.length > 512
  · rw [if_pos (by omega), if_pos h64]; rfl
  · rw [if_neg (by omega), if_neg h64]; rfl

theorem path_inner (l : List Path) (n : Int) (hl : l.length ≤ maxLen) (i : Nat) (hi : i < l.length) (rec3 : List PV × Int × Int × Unit → Option PV) :
    lpS.run (ref20_valid_L1 rec3) (l.map Path.pv, n, (i : Int), 0, .int .i64 l[i].a, .int .i64 l[i].b, .int .i64 l[i].secs, .bool l[i].free, ()) = if pathKey l[i] ∈ (l.map pathKey).take i then some (res i 6) else rec3 (l.map Path.pv, n, IntKind.i64.wrap ((i : Int) + 1), ()) := by
  have hm := maxLen_lt
  refine (dup_scan (fun k => (l.map Path.pv, n, (i : Int), (k : Int), PV.int .i64 l[i].a, PV.int .i64 l[i].b, PV.int .i64 l[i].secs, PV.bool l[i].free, ())) i (fun k => decide ((l.map pathKey)[k]? = some (pathKey l[i]))) (no := some (res i 6)) (fin := rec3 (l.map Path.pv, n, IntKind.i64.wrap ((i : Int) + 1), ())) (fun k hk rec => ?_) (fun rec => ?_) ?_ rfl).trans ?_
  · have h1 : (k : Int) < (i : Int) := by omega
    have hk' : k < l.length := by omega
    have hd : decide ((l.map pathKey)[k]? = some (pathKey l[i])) = (decide (l[k].a = l[i].a) && decide (l[k].b = l[i].b) && decide (l[k].free = l[i].free)) := by
      rw [Bool.eq_iff_iff]
      simp [List.getElem?_eq_getElem hk', pathKey, and_assoc]
    simp only [ref20_valid_L1, decide_eq_true_eq, h1, if_true, idxP_nat, List.getElem?_map, List.getElem?_eq_getElem hk', Option.map_some, bind_some', path0, path1, path3, asInt, asBool, wrap_nat (show k < 9223372036854775807 by omega), beq_d, bif_and]
    simp only [List.getElem?_map] at hd
    by_cases e1 : l[k].a = l[i].a <;> by_cases e2 : l[k].b = l[i].b <;> by_cases e3 : l[k].free = l[i].free <;> simp [e1, e2, e3, pathKey, res]
  · simp only [ref20_valid_L1, decide_eq_true_eq, Int.lt_irrefl, if_false]
  · have := rounds_gt; omega
  · rw [any_mem _ _ (by simp; omega)]; simp only [decide_eq_true_eq]

theorem valid_ref (l : List Path) (n : Int) (hl : l.length ≤ maxLen) : ref20_valid_M [.rs 4 (l.map Path.pv), .int .i64 n] = some (res (scanE (pathErr l n) l.length).1 (scanE (pathErr l n) l.length).2) := by
  have hm := maxLen_lt
  simp only [ref20_valid_M, ref20_valid, asSl, asInt, if_true, bind_some']
  rw [← scanE_eq]
  refine loop_scan' (fun k => (l.map Path.pv, n, (k : Int), ())) l.length _ (fun k hk rec => ?_) (fun rec => ?_) ?_ rfl
  · have h1 : (k : Int) < (l.length : Int) := by omega
    have hin := path_inner l n hl k hk rec
    simp only [ref20_valid_L2, decide_eq_true_eq, List.length_map, h1, if_true, idxP_nat, List.getElem?_map, List.getElem?_eq_getElem hk, Option.map_some, bind_some', path0, path1, path2, path3, asInt, hin, beq_d, bif_or', wrap_nat (show k < 9223372036854775807 by omega)]
    unfold pathErr
    rw [List.getElem?_eq_getElem hk]
    simp only
    generalize (decide (l[k].a < 0) || decide (l[k].a ≥ n) || decide (l[k].b < 0) || decide (l[k].b ≥ n) || decide (l[k].a = l[k].b)) = A
    generalize (decide (l[k].secs < 1) || decide (l[k].secs > 14400)) = B
    by_cases hmem : pathKey l[k] ∈ (l.map pathKey).take k
    · simp only [hmem, if_true]
      cases A <;> cases B <;> rfl
    · simp only [hmem, if_false]
      cases A <;> cases B <;> rfl
  · simp only [ref20_valid_L2, decide_eq_true_eq, List.length_map, Int.lt_irrefl, if_false]; rfl
  · have := rounds_gt; omega
theorem path_ref (l : List Path) (n : Int) (hl : l.length ≤ maxLen) : ref20_Check_M [.rs 4 (l.map Path.pv), .int .i64 n] = some (res (pathRes l n).1 (pathRes l n).2) := by
  have h := valid_ref l n hl
  simp only [res] at h
  simp only [ref20_Check_M, ref20_Check, asSl, asInt, if_true, bind_some', List.length_map, h, asTup, List.length_cons, List.length_nil, Nat.reduceAdd, List.getD_cons_zero, List.getD_cons_succ, decide_eq_true_eq]
  unfold pathRes
  by_cases h64 : l.length > 512
  · rw [if_pos (by omega), if_pos h64]; rfl
  · rw [if_neg (by omega), if_neg h64]; rfl
end Go.Ab.Tt
