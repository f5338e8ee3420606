/- Identifiers, stops and routes: the program's checks and the document's give the same. -/
import Derived.Test.YtacjfkmonjbcmaaTtChk0
import Derived.Test.YtacjfkmonjbcmaaSh2
namespace Go.Ab.Tt
set_option maxRecDepth 100000
set_option linter.unusedVariables false

theorem ident_ok (s : Bytes) (hs : s.length ≤ maxLen) : ident_Valid_M [.str s] = some (.bool (validB s)) := by
  have hm := maxLen_lt
  simp only [ident_Valid_M, ident_Valid, asStr, bind_some']
  refine (loop_bytes s hs identByte (some (.bool false)) (some (.bool (decide ((s.length : Int) > 0) && decide ((s.length : Int) ≤ 32)))) (fun k hk rec => ?_) (fun rec => ?_)).trans ?_
  · have h1 : (k : Int) < (s.length : Int) := by omega
    simp only [ident_Valid_L1, decide_eq_true_eq, h1, if_true, idxB_nat, List.getElem?_eq_getElem hk, bind_some', bif_and, wrap_nat (show k < 9223372036854775807 by omega), beq_d]
    generalize s[k] = b
    unfold identByte
    generalize (decide (97 ≤ (b.toNat : Int)) && decide ((b.toNat : Int) ≤ 122)) = x1
    generalize (decide (65 ≤ (b.toNat : Int)) && decide ((b.toNat : Int) ≤ 90)) = x2
    generalize (decide (48 ≤ (b.toNat : Int)) && decide ((b.toNat : Int) ≤ 57)) = x3
    by_cases e4 : (b.toNat : Int) = 45 <;> by_cases e5 : (b.toNat : Int) = 95 <;> by_cases e6 : (b.toNat : Int) = 46 <;> cases x1 <;> cases x2 <;> cases x3 <;> simp [e4, e5, e6]
  · simp only [ident_Valid_L1, decide_eq_true_eq, Int.lt_irrefl, if_false, bif_and, bind_some']
  · unfold validB
    cases s.all identByte with
    | true =>
      simp only [if_true, Bool.and_true, Option.some.injEq, PV.bool.injEq]
      rw [Bool.eq_iff_iff]
      simp only [Bool.and_eq_true, decide_eq_true_eq]
      omega
    | false => simp

/-! ### stops -/
def stopErr (l : List Stop) (k : Nat) : Int := match l[k]? with
  | none => 0
  | some x => if validB x.id = false then 12 else if x.id ∈ (l.map Stop.id).take k then 6 else if (decide (x.zone < 0) || decide (x.zone ≥ 16) || decide (x.change < 0) || decide (x.change > 3600)) = true then 2 else 0
def stopRes (l : List Stop) : Int × Int := if l.length > 64 then (0, 5) else scanE (stopErr l) l.length

theorem stop_prog (l : List Stop) (hl : l.length ≤ maxLen ∧ ∀ y ∈ l, y.Ok) : stop_Check_M [.rs 4 (l.map Stop.pv)] = some (res (stopRes l).1 (stopRes l).2) := by
  have hm := maxLen_lt
  simp only [stop_Check_M, stop_Check, asSl, if_true, bind_some', List.length_map]
  unfold stopRes
  by_cases h64 : l.length > 64
  · rw [if_pos (by simp; omega), if_pos h64]; rfl
  · rw [if_neg (by simp; omega), if_neg h64, ← scanE_eq]
    refine loop_scan' (fun k => (l.map Stop.pv, (l.length : Int), (k : Int), seen PV.str ((l.map Stop.id).take k), ())) l.length _ (fun k hk rec => ?_) (fun rec => ?_) ?_ rfl
    · have h1 : (k : Int) < (l.length : Int) := by omega
      have hid := ident_ok l[k].id (hl.2 _ (List.getElem_mem hk)).id
      have hput := seen_put str_key l[k].id ((l.map Stop.id).take k)
      have hlook := seen_look str_key l[k].id ((l.map Stop.id).take k)
      simp only [stop_Check_L1, decide_eq_true_eq, h1, if_true, idxP_nat, List.getElem?_map, List.getElem?_eq_getElem hk, Option.map_some, bind_some', Stop.pv, cell, PV.cells, List.getD_cons_zero, List.getD_cons_succ, asStr, asInt, asBool, hid, hput, hlook, bif_or', wrap_nat (show k < 9223372036854775807 by omega), ids_snoc Stop.id l k hk]
      unfold stopErr
      rw [List.getElem?_eq_getElem hk]
      simp only
      generalize (decide (l[k].zone < 0) || decide (l[k].zone ≥ 16) || decide (l[k].change < 0) || decide (l[k].change > 3600)) = c
      cases validB l[k].id with
      | false => rfl
      | true =>
        by_cases hmem : l[k].id ∈ (l.map Stop.id).take k
        · simp only [hmem, if_true, Bool.not_true, Bool.false_eq_true, Bool.true_eq_false, if_false]; rfl
        · simp only [hmem, if_true, Bool.not_true, Bool.false_eq_true, Bool.true_eq_false, if_false]
          cases c <;> rfl
    · simp only [stop_Check_L1, decide_eq_true_eq, Int.lt_irrefl, if_false]; rfl
    · have := rounds_gt; omega
end Go.Ab.Tt

namespace Go.Ab.Tt
set_option maxRecDepth 100000
set_option linter.unusedVariables false
set_option linter.unusedSimpArgs false

end Go.Ab.Tt

namespace Go.Ab.Tt
set_option maxRecDepth 100000
set_option linter.unusedVariables false
set_option linter.unusedSimpArgs false

def routeErr (l : List Route) (k : Nat) : Int := match l[k]? with
  | none => 0
  | some x => if validB x.id = false then 12 else if x.id ∈ (l.map Route.id).take k then 6 else if (decide (x.mode ≥ 0) && decide (x.mode < 8)) = false then 2 else 0
def routeRes (l : List Route) : Int × Int := if l.length > 64 then (0, 5) else scanE (routeErr l) l.length

theorem route_prog (l : List Route) (hl : l.length ≤ maxLen ∧ ∀ y ∈ l, y.Ok) : route_Check_M [.rs 3 (l.map Route.pv)] = some (res (routeRes l).1 (routeRes l).2) := by
  have hm := maxLen_lt
  simp only [route_Check_M, route_Check, asSl, if_true, bind_some', List.length_map]
  unfold routeRes
  by_cases h64 : l.length > 64
  · rw [if_pos (by simp; omega), if_pos h64]; rfl
  · rw [if_neg (by simp; omega), if_neg h64, ← scanE_eq]
    refine loop_scan' (fun k => (l.map Route.pv, (l.length : Int), (k : Int), seen PV.str ((l.map Route.id).take k), ())) l.length _ (fun k hk rec => ?_) (fun rec => ?_) ?_ rfl
    · have h1 : (k : Int) < (l.length : Int) := by omega
      have hid := ident_ok l[k].id (hl.2 _ (List.getElem_mem hk)).id
      have hput := seen_put str_key l[k].id ((l.map Route.id).take k)
      have hlook := seen_look str_key l[k].id ((l.map Route.id).take k)
      simp only [route_Check_L1, decide_eq_true_eq, h1, if_true, idxP_nat, List.getElem?_map, List.getElem?_eq_getElem hk, Option.map_some, bind_some', Route.pv, cell, PV.cells, List.getD_cons_zero, List.getD_cons_succ, asStr, asInt, asBool, hid, hput, hlook, bif_or', wrap_nat (show k < 9223372036854775807 by omega), ids_snoc Route.id l k hk, route_known_M, route_known, bif_and]
      unfold routeErr
      rw [List.getElem?_eq_getElem hk]
      simp only
      generalize (decide (l[k].mode ≥ 0) && decide (l[k].mode < 8)) = c
      cases validB l[k].id with
      | false => rfl
      | true =>
        by_cases hmem : l[k].id ∈ (l.map Route.id).take k
        · simp only [hmem, if_true, Bool.not_true, Bool.false_eq_true, Bool.true_eq_false, if_false]; rfl
        · simp only [hmem, if_true, Bool.not_true, Bool.false_eq_true, Bool.true_eq_false, if_false]
          cases c <;> rfl
    · simp only [route_Check_L1, decide_eq_true_eq, Int.lt_irrefl, if_false]; rfl
    · have := rounds_gt; omega

end Go.Ab.Tt

namespace Go.Ab.Tt
set_option maxRecDepth 100000
set_option linter.unusedVariables false
set_option linter.unusedSimpArgs false

def wi (n a b : Int) : Bool := decide (n ≥ a) && decide (n ≤ b)
theorem within_prog (n a b : Int) : product_within_M [.int .i64 n, .int .i64 a, .int .i64 b] = some (.bool (wi n a b)) := by simp only [product_within_M, product_within, asInt, if_true, bind_some', bif_and]; rfl
theorem prd0 (x : Prdt) : cell x.pv 0 = .str x.id := rfl
theorem prd1 (x : Prdt) : cell x.pv 1 = .int .i64 x.price := rfl
theorem prd2 (x : Prdt) : cell x.pv 2 = .int .i64 x.rides := rfl
theorem prd3 (x : Prdt) : cell x.pv 3 = .int .i64 x.zones := rfl
theorem prd4 (x : Prdt) : cell x.pv 4 = .int .i64 x.secs := rfl
theorem prd5 (x : Prdt) : cell x.pv 5 = .int .i64 x.modes := rfl
def prodBad (x : Prdt) : Bool := !wi x.price 0 1000000 || !wi x.rides 1 8 || !wi x.zones 1 16 || !wi x.secs 0 86400 || !wi x.modes 1 255
def prodErr (l : List Prdt) (k : Nat) : Int := match l[k]? with
  | none => 0
  | some x => if validB x.id = false then 12 else if x.id ∈ (l.map Prdt.id).take k then 6 else if prodBad x = true then 2 else 0
def faresPV (l : List Prdt) (disc within cap : Int) : PV := .agg [.rs 6 (l.map Prdt.pv), .int .i64 disc, .int .i64 within, .int .i64 cap]
def fareRes (l : List Prdt) (disc within cap : Int) : Int × Int :=
  if (!wi disc 0 1000000 || !wi within 0 86400 || !wi cap 0 1000000) = true then (-1, 2) else if l.length > 16 then (0, 5) else scanE (prodErr l) l.length

theorem fares_prog (l : List Prdt) (disc within cap : Int) (hl : l.length ≤ maxLen ∧ ∀ y ∈ l, y.Ok) : product_Check_M [faresPV l disc within cap] = some (res (fareRes l disc within cap).1 (fareRes l disc within cap).2) := by
  have hm := maxLen_lt
  simp only [product_Check_M, product_Check, faresPV, asAgg, cell, PV.cells, List.getD_cons_zero, List.getD_cons_succ, List.length_cons, List.length_nil, Nat.reduceAdd, asSl, asInt, asBool, if_true, bind_some', List.length_map, within_prog, bif_or']
  unfold fareRes
  generalize (!wi disc 0 1000000 || !wi within 0 86400 || !wi cap 0 1000000) = c
  cases c with
  | true => rfl
  | false =>
    simp only [Bool.false_eq_true, if_false]
    by_cases h64 : l.length > 16
    · rw [if_pos (by simp; omega), if_pos h64]; rfl
    · rw [if_neg (by simp; omega), if_neg h64, ← scanE_eq]
      refine loop_scan' (fun k => (l.map Prdt.pv, (l.length : Int), (k : Int), seen PV.str ((l.map Prdt.id).take k), ())) l.length _ (fun k hk rec => ?_) (fun rec => ?_) ?_ rfl
      · have h1 : (k : Int) < (l.length : Int) := by omega
        have hid := ident_ok l[k].id (hl.2 _ (List.getElem_mem hk)).id
        have hput := seen_put str_key l[k].id ((l.map Prdt.id).take k)
        have hlook := seen_look str_key l[k].id ((l.map Prdt.id).take k)
        simp only [product_Check_L1, decide_eq_true_eq, h1, if_true, idxP_nat, List.getElem?_map, List.getElem?_eq_getElem hk, Option.map_some, bind_some', prd0, prd1, prd2, prd3, prd4, prd5, asStr, asInt, asBool, hid, hput, hlook, within_prog, bif_or', wrap_nat (show k < 9223372036854775807 by omega), ids_snoc Prdt.id l k hk]
        unfold prodErr
        rw [List.getElem?_eq_getElem hk]
        have hb : (!wi l[k].price 0 1000000 || !wi l[k].rides 1 8 || !wi l[k].zones 1 16 || !wi l[k].secs 0 86400 || !wi l[k].modes 1 255) = prodBad l[k] := rfl
        simp only [hb]
        generalize prodBad l[k] = c
        cases validB l[k].id with
        | false => rfl
        | true =>
          by_cases hmem : l[k].id ∈ (l.map Prdt.id).take k
          · simp only [hmem, if_true, Bool.not_true, Bool.false_eq_true, Bool.true_eq_false, if_false]; rfl
          · simp only [hmem, if_true, Bool.not_true, Bool.false_eq_true, Bool.true_eq_false, if_false]
            cases c <;> rfl
      · simp only [product_Check_L1, decide_eq_true_eq, Int.lt_irrefl, if_false]; rfl
      · have := rounds_gt; omega


end Go.Ab.Tt

namespace Go.Ab.Tt
set_option maxRecDepth 100000
set_option linter.unusedVariables false
set_option linter.unusedSimpArgs false

theorem kall0 (x : Kall) : cell x.pv 0 = .int .i64 x.stop := rfl
theorem kall1 (x : Kall) : cell x.pv 1 = .int .i64 x.arr := rfl
theorem kall2 (x : Kall) : cell x.pv 2 = .int .i64 x.dep := rfl
def prevK (l : List Kall) : Nat → Option Kall
  | 0 => none
  | k + 1 => l[k]?
def callE (c : Kall) (p : Option Kall) (stops low high : Int) : Int :=
  if (decide (c.stop < 0) || decide (c.stop ≥ stops)) = true then 9
  else if (match p with | some p => decide (p.stop = c.stop) | none => false) = true then 13
  else if (decide (c.arr < low) || decide (c.arr > c.dep) || decide (c.dep > high) || (match p with | some p => decide (c.arr < p.dep) | none => false)) = true then 10 else 0
def callErr (l : List Kall) (stops low high : Int) (k : Nat) : Int := match l[k]? with
  | none => 0
  | some c => callE c (prevK l k) stops low high
def callRes (l : List Kall) (stops low high : Int) : Int × Int := if (decide ((l.length : Int) < 2) || decide ((l.length : Int) > 32)) = true then (0, 5) else scanE (callErr l stops low high) l.length

theorem wrap_pred (j : Nat) (h : j < 9223372036854775807) : IntKind.i64.wrap (((j + 1 : Nat) : Int) - 1) = (j : Int) := by
  rw [wrap_in (by omega) (by omega)]; omega
theorem call_one_ok (l : List Kall) (stops low high : Int) (k : Nat) (hk : k < l.length) (hl : l.length ≤ maxLen) : call_one_M [.rs 5 (l.map Kall.pv), .int .i64 k, .int .i64 stops, .int .i64 low, .int .i64 high] = some (.int .i64 (callErr l stops low high k)) := by
  have hm := maxLen_lt
  simp only [call_one_M, call_one, asSl, asInt, if_true, bind_some', idxP_nat, List.getElem?_map, List.getElem?_eq_getElem hk, Option.map_some, kall0, kall1, kall2, bif_or']
  unfold callErr callE
  rw [List.getElem?_eq_getElem hk]
  simp only
  cases k with
  | zero =>
    have h0 : decide (((0 : Nat) : Int) > 0) = false := by decide
    simp only [h0, cond_false, bind_some', bif_or', Bool.or_false, prevK]
    generalize (decide (l[0].stop < 0) || decide (l[0].stop ≥ stops)) = A
    generalize (decide (l[0].arr < low) || decide (l[0].arr > l[0].dep) || decide (l[0].dep > high)) = B
    cases A <;> cases B <;> rfl
  | succ j =>
    have h0 : decide (((j + 1 : Nat) : Int) > 0) = true := by rw [decide_eq_true_eq]; omega
    have hj : j < l.length := by omega
    simp only [h0, cond_true, bind_some', wrap_pred j (by omega), idxP_nat, List.getElem?_map, List.getElem?_eq_getElem hj, Option.map_some, kall0, kall2, asInt, if_true, prevK, beq_d, bif_or']
    generalize (decide (l[j + 1].stop < 0) || decide (l[j + 1].stop ≥ stops)) = A
    generalize (decide (l[j + 1].arr < low) || decide (l[j + 1].arr > l[j + 1].dep) || decide (l[j + 1].dep > high)) = B
    generalize decide (l[j].stop = l[j + 1].stop) = C
    generalize decide (l[j + 1].arr < l[j].dep) = D
    cases A <;> cases B <;> cases C <;> cases D <;> rfl

theorem call_prog (l : List Kall) (stops low high : Int) (hl : l.length ≤ maxLen) : call_Check_M [.rs 5 (l.map Kall.pv), .int .i64 stops, .int .i64 low, .int .i64 high] = some (res (callRes l stops low high).1 (callRes l stops low high).2) := by
  have hm := maxLen_lt
  simp only [call_Check_M, call_Check, asSl, asInt, if_true, bind_some', List.length_map, bif_or']
  unfold callRes
  split
  · rfl
  · rw [← scanE_eq]
    refine loop_scan' (fun k => (l.map Kall.pv, stops, low, high, (l.length : Int), (k : Int), ())) l.length _ (fun k hk rec => ?_) (fun rec => ?_) ?_ rfl
    · have h1 : (k : Int) < (l.length : Int) := by omega
      simp only [call_Check_L1, decide_eq_true_eq, h1, if_true, call_one_ok l stops low high k hk hl, bind_some', asInt, wrap_nat (show k < 9223372036854775807 by omega), bne_d]
      by_cases he : callErr l stops low high k = 0
      · simp [he, errAt, orFin]
      · simp [he, errAt, orFin, res]
    · simp only [call_Check_L1, decide_eq_true_eq, Int.lt_irrefl, if_false]; rfl
    · have := rounds_gt; omega

end Go.Ab.Tt

namespace Go.Ab.Tt
set_option maxRecDepth 100000
set_option linter.unusedVariables false
set_option linter.unusedSimpArgs false

structure Run where
  trip : Int
  day : Int
  inst : Int
  id : Bytes
  route : Int
  free : Bool
  canc : Bool
  calls : List Kall
  deriving DecidableEq
def Run.pv (x : Run) : PV := .agg [.int .i64 x.trip, .int .i64 x.day, .int .i64 x.inst, .str x.id, .int .i64 x.route, .bool x.free, .bool x.canc, .rs 5 (x.calls.map Kall.pv)]
structure Run.OkM (M : Nat) (x : Run) : Prop where
  trip : I64 x.trip
  day : I64 x.day
  inst : I64 x.inst
  id : x.id.length ≤ M
  route : I64 x.route
  calls : x.calls.length ≤ M ∧ ∀ y ∈ x.calls, y.OkM M
abbrev Run.Ok (x : Run) : Prop := x.OkM maxLen
theorem runA (r : Run) : asAgg 8 r.pv = some () := rfl
theorem runE (r : Run) : PV.agg [cell r.pv 0, cell r.pv 1, cell r.pv 2, cell r.pv 3, cell r.pv 4, cell r.pv 5, cell r.pv 6, cell r.pv 7] = r.pv := rfl
theorem run0 (x : Run) : cell x.pv 0 = .int .i64 x.trip := rfl
theorem run1 (x : Run) : cell x.pv 1 = .int .i64 x.day := rfl
theorem run2 (x : Run) : cell x.pv 2 = .int .i64 x.inst := rfl
theorem run3 (x : Run) : cell x.pv 3 = .str x.id := rfl
theorem run4 (x : Run) : cell x.pv 4 = .int .i64 x.route := rfl
theorem run5 (x : Run) : cell x.pv 5 = .bool x.free := rfl
theorem run6 (x : Run) : cell x.pv 6 = .bool x.canc := rfl
theorem run7 (x : Run) : cell x.pv 7 = .rs 5 (x.calls.map Kall.pv) := rfl
structure Link where
  a : Int
  ac : Int
  b : Int
  bc : Int
  stay : Bool
  deriving DecidableEq
def Link.pv (x : Link) : PV := .agg [.int .i64 x.a, .int .i64 x.ac, .int .i64 x.b, .int .i64 x.bc, .bool x.stay]
structure Link.OkM (M : Nat) (x : Link) : Prop where
  a : I64 x.a
  ac : I64 x.ac
  b : I64 x.b
  bc : I64 x.bc
abbrev Link.Ok (x : Link) : Prop := x.OkM maxLen
theorem link0 (x : Link) : cell x.pv 0 = .int .i64 x.a := rfl
theorem link1 (x : Link) : cell x.pv 1 = .int .i64 x.ac := rfl
theorem link2 (x : Link) : cell x.pv 2 = .int .i64 x.b := rfl
theorem link3 (x : Link) : cell x.pv 3 = .int .i64 x.bc := rfl
theorem link4 (x : Link) : cell x.pv 4 = .bool x.stay := rfl
theorem path0 (x : Path) : cell x.pv 0 = .int .i64 x.a := rfl
theorem path1 (x : Path) : cell x.pv 1 = .int .i64 x.b := rfl
theorem path2 (x : Path) : cell x.pv 2 = .int .i64 x.secs := rfl
theorem path3 (x : Path) : cell x.pv 3 = .bool x.free := rfl
structure Network where
  stops : List Stop
  routes : List Route
  runs : List Run
  links : List Link
  paths : List Path
  prods : List Prdt
  disc : Int
  within : Int
  cap : Int
  deriving DecidableEq
def Network.pv (x : Network) : PV := .agg [.rs 4 (x.stops.map Stop.pv), .rs 3 (x.routes.map Route.pv), .rs 8 (x.runs.map Run.pv), .rs 5 (x.links.map Link.pv), .rs 4 (x.paths.map Path.pv), .rs 6 (x.prods.map Prdt.pv), .int .i64 x.disc, .int .i64 x.within, .int .i64 x.cap]
structure Network.OkM (M : Nat) (x : Network) : Prop where
  stops : x.stops.length ≤ M ∧ ∀ y ∈ x.stops, y.OkM M
  routes : x.routes.length ≤ M ∧ ∀ y ∈ x.routes, y.OkM M
  runs : x.runs.length ≤ M ∧ ∀ y ∈ x.runs, y.OkM M
  links : x.links.length ≤ M ∧ ∀ y ∈ x.links, y.OkM M
  paths : x.paths.length ≤ M ∧ ∀ y ∈ x.paths, y.OkM M
  prods : x.prods.length ≤ M ∧ ∀ y ∈ x.prods, y.OkM M
  disc : I64 x.disc
  within : I64 x.within
  cap : I64 x.cap
abbrev Network.Ok (x : Network) : Prop := x.OkM maxLen
theorem netA (x : Network) : asAgg 9 x.pv = some () := rfl
theorem net0 (x : Network) : asSl 4 (cell x.pv 0) = some (x.stops.map Stop.pv) := rfl
theorem net1 (x : Network) : asSl 3 (cell x.pv 1) = some (x.routes.map Route.pv) := rfl
theorem net2 (x : Network) : asSl 8 (cell x.pv 2) = some (x.runs.map Run.pv) := rfl
theorem net3 (x : Network) : asSl 5 (cell x.pv 3) = some (x.links.map Link.pv) := rfl
theorem net4 (x : Network) : asSl 4 (cell x.pv 4) = some (x.paths.map Path.pv) := rfl
theorem net5 (x : Network) : asSl 6 (cell x.pv 5) = some (x.prods.map Prdt.pv) := rfl
theorem net6 (x : Network) : asInt .i64 (cell x.pv 6) = some x.disc := rfl
theorem net7 (x : Network) : asInt .i64 (cell x.pv 7) = some x.within := rfl
theorem net8 (x : Network) : asInt .i64 (cell x.pv 8) = some x.cap := rfl
theorem netE (x : Network) : PV.agg [.rs 4 (x.stops.map Stop.pv), .rs 3 (x.routes.map Route.pv), .rs 8 (x.runs.map Run.pv), .rs 5 (x.links.map Link.pv), .rs 4 (x.paths.map Path.pv), .rs 6 (x.prods.map Prdt.pv), .int .i64 x.disc, .int .i64 x.within, .int .i64 x.cap] = x.pv := rfl

/-! ### results of the parts -/
def r3 (p i e : Int) : PV := .agg [.int .i64 p, .int .i64 i, .int .i64 e]
def prt (p : Int) (x : Int × Int) : PV := if x.2 = 0 then r3 0 0 0 else r3 p x.1 x.2
theorem r3A (p i e : Int) : asAgg 3 (r3 p i e) = some () := rfl
theorem r30 (p i e : Int) : cell (r3 p i e) 0 = .int .i64 p := rfl
theorem r31 (p i e : Int) : cell (r3 p i e) 1 = .int .i64 i := rfl
theorem r32 (p i e : Int) : cell (r3 p i e) 2 = .int .i64 e := rfl
theorem of_ok (p i e : Int) : network_of_M [.int .i64 p, .int .i64 i, .int .i64 e] = some (r3 p i e) := rfl
theorem nwithin_ok (n m : Int) : network_within_M [.int .i64 n, .int .i64 m] = some (.bool (decide (n ≥ 0) && decide (n < m))) := by
  simp only [network_within_M, network_within, asInt, if_true, bind_some', bif_and]
theorem scanE_gen {R : Type} (f : Nat → Int) (n : Nat) (g : Int → Int → R) (fin : Option R) :
    orFin ((List.range n).findSome? fun k => if f k = 0 then none else some (some (g k (f k)))) fin = if (scanE f n).2 = 0 then fin else some (g (scanE f n).1 (scanE f n).2) := by
  unfold scanE
  have : (List.range n).findSome? (fun k => if f k = 0 then none else some (some (g k (f k)))) = ((List.range n).findSome? (fun k => if f k = 0 then none else some ((k : Int), f k))).map fun x => some (g x.1 x.2) := by
    rw [List.map_findSome?]
    congr 1
    funext k
    by_cases h : f k = 0 <;> simp [h]
  rw [this]
  cases hf : (List.range n).findSome? (fun k => if f k = 0 then none else some ((k : Int), f k)) with
  | none => rfl
  | some x =>
    obtain ⟨k, _, hk⟩ := List.exists_of_findSome?_eq_some hf
    have hx : x.2 ≠ 0 := by
      by_cases h0 : f k = 0
      · rw [if_pos h0] at hk; cases hk
      · rw [if_neg h0] at hk
        simp only [Option.some.injEq] at hk
        subst hk; exact h0
    simp only [Option.map_some, orFin]
    rw [if_neg hx]
theorem scanE_zero (f : Nat → Int) (n : Nat) : (scanE f n).2 = 0 ↔ ∀ k, k < n → f k = 0 := by
  unfold scanE
  cases hf : (List.range n).findSome? (fun k => if f k = 0 then none else some ((k : Int), f k)) with
  | none =>
    simp only [true_iff]
    intro k hk
    rw [List.findSome?_eq_none_iff] at hf
    have := hf k (by simpa using hk)
    by_cases h0 : f k = 0
    · exact h0
    · rw [if_neg h0] at this; cases this
  | some x =>
    obtain ⟨k, hk, hx⟩ := List.exists_of_findSome?_eq_some hf
    by_cases h0 : f k = 0
    · rw [if_pos h0] at hx; cases hx
    · rw [if_neg h0] at hx
      simp only [Option.some.injEq] at hx
      subst hx
      exact ⟨fun h => absurd h h0, fun h => absurd (h k (by simpa using hk)) h0⟩
/-- the same, where a round may use that no earlier one has ended the loop -/
theorem loop_scan_pre {S R : Type} {body : S → (S → Option R) → Option R} (st : Nat → S) (n : Nat) (bad : Nat → Option (Option R)) {fin : Option R}
    (h : ∀ k, k < n → (∀ j, j < k → bad j = none) → ∀ rec, body (st k) rec = orFin (bad k) (rec (st (k + 1)))) (hend : (∀ j, j < n → bad j = none) → ∀ rec, body (st n) rec = fin) (hn : n < rounds) {s0 : S} (h0 : st 0 = s0) :
    lpS.run body s0 = orFin ((List.range n).findSome? bad) fin := by
  by_cases hall : ∀ j, j < n → bad j = none
  · have : (List.range n).findSome? bad = none := by
      rw [List.findSome?_eq_none_iff]
      intro k hk
      exact hall k (by simpa using hk)
    rw [this]
    refine loop_until st n (fun k hk rec => ?_) (hend hall) hn h0
    rw [h k hk (fun j hj => hall j (by omega)), hall k hk]; rfl
  · have hex : ∃ m, m < n ∧ bad m ≠ none ∧ ∀ j, j < m → bad j = none := by
      have key : ∀ m, (∃ i, i < m ∧ i < n ∧ bad i ≠ none) → ∃ m, m < n ∧ bad m ≠ none ∧ ∀ j, j < m → bad j = none := by
        intro m
        induction m with
        | zero => rintro ⟨i, hi, _⟩; omega
        | succ m ih =>
          intro hi
          by_cases hc : ∃ i, i < m ∧ i < n ∧ bad i ≠ none
          · exact ih hc
          · obtain ⟨i, h1, h2, h3⟩ := hi
            have him : i = m := by
              by_cases h : i < m
              · exact absurd ⟨i, h, h2, h3⟩ hc
              · omega
            subst him
            refine ⟨i, h2, h3, fun j hj => ?_⟩
            cases hb : bad j with
            | none => rfl
            | some x => exact absurd ⟨j, hj, by omega, by rw [hb]; exact fun h => nomatch h⟩ hc
      have hc : ∃ i, i < n ∧ bad i ≠ none := by
        by_cases hc : ∃ i, i < n ∧ bad i ≠ none
        · exact hc
        · refine absurd (fun j hj => ?_) hall
          cases hb : bad j with
          | none => rfl
          | some x => exact absurd ⟨j, hj, by rw [hb]; exact fun h => nomatch h⟩ hc
      obtain ⟨i, h1, h2⟩ := hc
      exact key n ⟨i, h1, h1, h2⟩
    obtain ⟨m, hm, hb, hlt⟩ := hex
    cases hbm : bad m with
    | none => exact absurd hbm hb
    | some x =>
      have hf : (List.range n).findSome? bad = some x := by
        have hnm : n = m + (n - m) := by omega
        rw [hnm, List.range_add, List.findSome?_append]
        have h1 : (List.range m).findSome? bad = none := by
          rw [List.findSome?_eq_none_iff]
          intro k hk
          exact hlt k (by simpa using hk)
        rw [h1, Option.none_or]
        have hd : n - m = (n - m - 1) + 1 := by omega
        rw [hd, List.range_succ_eq_map, List.map_cons, List.findSome?_cons, Nat.add_zero, hbm]
      rw [hf]
      refine loop_until st m (fun k hk rec => ?_) (fun rec => ?_) (by omega) h0
      · rw [h k (by omega) (fun j hj => hlt j (by omega)), hlt k hk]; rfl
      · rw [h m hm hlt, hbm]; rfl
/-- a loop that compares two lists of one length -/
theorem eq_scan {A R : Type} [DecidableEq A] (a b : List A) (h : a.length = b.length) (no fin : Option R) :
    orFin ((List.range a.length).findSome? fun k => if a[k]? = b[k]? then none else some no) fin = if a = b then fin else no := by
  by_cases hab : a = b
  · rw [if_pos hab]
    have : (List.range a.length).findSome? (fun k => if a[k]? = b[k]? then none else some no) = none := by
      rw [List.findSome?_eq_none_iff]
      intro k _
      rw [if_pos (by rw [hab])]
    rw [this]; rfl
  · rw [if_neg hab]
    cases hf : (List.range a.length).findSome? (fun k => if a[k]? = b[k]? then none else some no) with
    | none =>
      refine absurd (List.ext_getElem? fun k => ?_) hab
      rw [List.findSome?_eq_none_iff] at hf
      by_cases hk : k < a.length
      · have := hf k (by simpa using hk)
        by_cases h0 : a[k]? = b[k]?
        · exact h0
        · rw [if_neg h0] at this; cases this
      · rw [List.getElem?_eq_none (by omega), List.getElem?_eq_none (by omega)]
    | some x =>
      obtain ⟨k, hk, hx⟩ := List.exists_of_findSome?_eq_some hf
      by_cases h0 : a[k]? = b[k]?
      · rw [if_pos h0] at hx; cases hx
      · rw [if_neg h0] at hx
        simp only [Option.some.injEq] at hx
        subst hx; rfl
end Go.Ab.Tt
