/- Calendars and exceptions: the program's checks and the document's. -/
import Derived.Test.YtinbhofpofcmeaaGreatDoorTtChk1
namespace Go.Ab.Tt
set_option maxRecDepth 100000
set_option linter.unusedVariables false

def dv (n : Int) : Bool := decide (0 ≤ n) && decide (n ≤ 36524)
theorem date_ok (n : Int) : date_Valid_M [.int .i64 n] = some (.bool (dv n)) := by simp only [date_Valid_M, date_Valid, asInt, if_true, bind_some', bif_and]; rfl
theorem ref02_ok (n : Int) : ref02_Valid_M [.int .i64 n] = some (.bool (dv n)) := by simp only [ref02_Valid_M, ref02_Valid, asInt, if_true, bind_some', bif_and]; rfl

def calErr (l : List Cal) (k : Nat) : Int := match l[k]? with
  | none => 0
  | some x => if validB x.id = false then 12 else if x.id ∈ (l.map Cal.id).take k then 6 else if (!dv x.day0 || !dv x.day1 || decide (x.day0 > x.day1)) = true then 11 else 0
def calRes (l : List Cal) : Int × Int := if l.length > 64 then (0, 5) else scanE (calErr l) l.length
theorem cal0 (x : Cal) : cell x.pv 0 = .str x.id := rfl
theorem cal8 (x : Cal) : cell x.pv 8 = .int .i64 x.day0 := rfl
theorem cal9 (x : Cal) : cell x.pv 9 = .int .i64 x.day1 := rfl

theorem cal_prog (l : List Cal) (hl : l.length ≤ maxLen ∧ ∀ y ∈ l, y.Ok) : calendar_Check_M [.rs 10 (l.map Cal.pv)] = some (res (calRes l).1 (calRes l).2) := by
  have hm := maxLen_lt
  simp only [calendar_Check_M, calendar_Check, asSl, if_true, bind_some', List.length_map]
  unfold calRes
  by_cases h64 : l.length > 64
  · rw [if_pos (by simp; omega), if_pos h64]; rfl
  · rw [if_neg (by simp; omega), if_neg h64, ← scanE_eq]
    refine loop_scan' (fun k => (l.map Cal.pv, (l.length : Int), (k : Int), seen PV.str ((l.map Cal.id).take k), ())) l.length _ (fun k hk rec => ?_) (fun rec => ?_) ?_ rfl
    · have h1 : (k : Int) < (l.length : Int) := by omega
      have hid := ident_ok l[k].id (hl.2 _ (List.getElem_mem hk)).id
      have hput := seen_put str_key l[k].id ((l.map Cal.id).take k)
      have hlook := seen_look str_key l[k].id ((l.map Cal.id).take k)
      simp only [calendar_Check_L1, decide_eq_true_eq, h1, if_true, idxP_nat, List.getElem?_map, List.getElem?_eq_getElem hk, Option.map_some, bind_some', cal0, cal8, cal9, asStr, asInt, asBool, hid, hput, hlook, date_ok, wrap_nat (show k < 9223372036854775807 by omega), ids_snoc Cal.id l k hk]
      unfold calErr
      rw [List.getElem?_eq_getElem hk]
      simp only
      cases validB l[k].id with
      | false => rfl
      | true =>
        by_cases hmem : l[k].id ∈ (l.map Cal.id).take k
        · simp only [hmem, if_true, Bool.not_true, Bool.false_eq_true, Bool.true_eq_false, if_false]; rfl
        · simp only [hmem, if_true, Bool.not_true, Bool.false_eq_true, Bool.true_eq_false, if_false]
          by_cases hgt : l[k].day0 > l[k].day1
          · simp only [hgt, decide_true, Bool.or_true, if_true]
            cases dv l[k].day0 <;> cases dv l[k].day1 <;> rfl
          · simp only [hgt, decide_false, Bool.or_false, if_false]
            cases dv l[k].day0 <;> cases dv l[k].day1 <;> rfl
    · simp only [calendar_Check_L1, decide_eq_true_eq, Int.lt_irrefl, if_false]; rfl
    · have := rounds_gt; omega

theorem cal_inner (l : List Cal) (hl : l.length ≤ maxLen) (i : Nat) (hi : i < l.length) (rec2 : List PV × Int × Unit → Option PV) :
    lpS.run (ref14_Check_L1 rec2) (l.map Cal.pv, (i : Int), 0, ()) = if l[i].id ∈ (l.map Cal.id).take i then some (res i 6) else if (!dv l[i].day0 || !dv l[i].day1 || decide (l[i].day0 > l[i].day1)) = true then some (res i 11) else rec2 (l.map Cal.pv, IntKind.i64.wrap ((i : Int) + 1), ()) := by
  have hm := maxLen_lt
  refine (dup_scan (fun k => (l.map Cal.pv, (i : Int), (k : Int), ())) i (fun k => decide ((l.map Cal.id)[k]? = some l[i].id)) (no := some (res i 6)) (fin := if (!dv l[i].day0 || !dv l[i].day1 || decide (l[i].day0 > l[i].day1)) = true then some (res i 11) else rec2 (l.map Cal.pv, IntKind.i64.wrap ((i : Int) + 1), ())) (fun k hk rec => ?_) (fun rec => ?_) ?_ rfl).trans ?_
  · have h1 : (k : Int) < (i : Int) := by omega
    have hk' : k < l.length := by omega
    simp only [ref14_Check_L1, decide_eq_true_eq, h1, if_true, idxP_nat, List.getElem?_map, List.getElem?_eq_getElem hk', List.getElem?_eq_getElem hi, Option.map_some, bind_some', cal0, asStr, wrap_nat (show k < 9223372036854775807 by omega), beq_d, Option.some.injEq]
    rfl
  · simp only [ref14_Check_L1, decide_eq_true_eq, Int.lt_irrefl, if_false, idxP_nat, List.getElem?_map, List.getElem?_eq_getElem hi, Option.map_some, bind_some', cal8, cal9, asInt, asBool, if_true, ref02_ok, bif_or']
    rfl
  · have := rounds_gt; omega
  · rw [any_mem _ _ (by simp; omega)]; simp only [decide_eq_true_eq]

theorem cal_ref (l : List Cal) (hl : l.length ≤ maxLen ∧ ∀ y ∈ l, y.Ok) : ref14_Check_M [.rs 10 (l.map Cal.pv)] = some (res (calRes l).1 (calRes l).2) := by
  have hm := maxLen_lt
  simp only [ref14_Check_M, ref14_Check, asSl, if_true, bind_some', List.length_map]
  unfold calRes
  by_cases h64 : l.length > 64
  · rw [if_pos (by simp; omega), if_pos h64]; rfl
  · rw [if_neg (by simp; omega), if_neg h64, ← scanE_eq]
    refine loop_scan' (fun k => (l.map Cal.pv, (k : Int), ())) l.length _ (fun k hk rec => ?_) (fun rec => ?_) ?_ rfl
    · have h1 : (k : Int) < (l.length : Int) := by omega
      have hid := ref05_ok l[k].id (hl.2 _ (List.getElem_mem hk)).id
      have hin := cal_inner l hl.1 k hk rec
      simp only [ref14_Check_L2, decide_eq_true_eq, List.length_map, h1, if_true, idxP_nat, List.getElem?_map, List.getElem?_eq_getElem hk, Option.map_some, bind_some', cal0, asStr, asBool, hid, hin, wrap_nat (show k < 9223372036854775807 by omega)]
      unfold calErr
      rw [List.getElem?_eq_getElem hk]
      simp only
      generalize (!dv l[k].day0 || !dv l[k].day1 || decide (l[k].day0 > l[k].day1)) = c
      cases validB l[k].id with
      | false => rfl
      | true =>
        by_cases hmem : l[k].id ∈ (l.map Cal.id).take k
        · simp only [hmem, if_true, Bool.not_true, Bool.false_eq_true, Bool.true_eq_false, if_false]; rfl
        · simp only [hmem, if_true, Bool.not_true, Bool.false_eq_true, Bool.true_eq_false, if_false]
          cases c <;> rfl
    · simp only [ref14_Check_L2, decide_eq_true_eq, List.length_map, Int.lt_irrefl, if_false]; rfl
    · have := rounds_gt; omega

/-! ### exceptions -/
def excKey (x : Exc) : Int × Int := (x.cal, x.day)
def excErr (l : List Exc) (n : Int) (k : Nat) : Int := match l[k]? with
  | none => 0
  | some x => if (decide (x.cal < 0) || decide (x.cal ≥ n)) = true then 9 else if dv x.day = false then 11 else if excKey x ∈ (l.map excKey).take k then 6 else 0
def excRes (l : List Exc) (n : Int) : Int × Int := if l.length > 256 then (0, 5) else scanE (excErr l n) l.length
def pairPV (x : Int × Int) : PV := .agg [.int .i64 x.1, .int .i64 x.2]
theorem pair_key (a b : Int × Int) : peqL (pairPV a).cells (pairPV b).cells = decide (a = b) := by
  obtain ⟨a1, a2⟩ := a
  obtain ⟨b1, b2⟩ := b
  rw [Bool.eq_iff_iff]; simp [pairPV, PV.cells, peqL, peq]
theorem exc0 (x : Exc) : cell x.pv 0 = .int .i64 x.cal := rfl
theorem exc1 (x : Exc) : cell x.pv 1 = .int .i64 x.day := rfl

theorem exc_prog (l : List Exc) (n : Int) (hl : l.length ≤ maxLen ∧ ∀ y ∈ l, y.Ok) : calendar_CheckExceptions_M [.rs 3 (l.map Exc.pv), .int .i64 n] = some (res (excRes l n).1 (excRes l n).2) := by
  have hm := maxLen_lt
  simp only [calendar_CheckExceptions_M, calendar_CheckExceptions, asSl, asInt, if_true, bind_some', List.length_map]
  unfold excRes
  by_cases h64 : l.length > 256
  · rw [if_pos (by simp; omega), if_pos h64]; rfl
  · rw [if_neg (by simp; omega), if_neg h64, ← scanE_eq]
    refine loop_scan' (fun k => (n, l.map Exc.pv, (l.length : Int), (k : Int), seen pairPV ((l.map excKey).take k), ())) l.length _ (fun k hk rec => ?_) (fun rec => ?_) ?_ rfl
    · have h1 : (k : Int) < (l.length : Int) := by omega
      have hput : mput (.agg [.int .i64 l[k].cal, .int .i64 l[k].day]) (.bool true) (seen pairPV ((l.map excKey).take k)) = _ := seen_put pair_key (excKey l[k]) ((l.map excKey).take k)
      have hlook : mlook (.agg [.int .i64 l[k].cal, .int .i64 l[k].day]) (.bool false) (seen pairPV ((l.map excKey).take k)) = _ := seen_look pair_key (excKey l[k]) ((l.map excKey).take k)
      simp only [calendar_CheckExceptions_L1, decide_eq_true_eq, h1, if_true, idxP_nat, List.getElem?_map, List.getElem?_eq_getElem hk, Option.map_some, bind_some', exc0, exc1, asInt, asBool, hput, hlook, date_ok, bif_or', wrap_nat (show k < 9223372036854775807 by omega), ids_snoc excKey l k hk]
      unfold excErr
      rw [List.getElem?_eq_getElem hk]
      simp only
      generalize (decide (l[k].cal < 0) || decide (l[k].cal ≥ n)) = c
      by_cases hmem : excKey l[k] ∈ (l.map excKey).take k
      · simp only [hmem, if_true]
        cases c <;> cases dv l[k].day <;> rfl
      · simp only [hmem, if_false]
        cases c <;> cases dv l[k].day <;> rfl
    · simp only [calendar_CheckExceptions_L1, decide_eq_true_eq, Int.lt_irrefl, if_false]; rfl
    · have := rounds_gt; omega

theorem exc_inner (l : List Exc) (n : Int) (hl : l.length ≤ maxLen) (i : Nat) (hi : i < l.length) (rec3 : List PV × Int × Int × Unit → Option PV) :
    lpS.run (ref14_CheckExceptions_L1 rec3) (l.map Exc.pv, n, (i : Int), 0, ()) = if excKey l[i] ∈ (l.map excKey).take i then some (res i 6) else rec3 (l.map Exc.pv, n, IntKind.i64.wrap ((i : Int) + 1), ()) := by
  have hm := maxLen_lt
  refine (dup_scan (fun k => (l.map Exc.pv, n, (i : Int), (k : Int), ())) i (fun k => decide ((l.map excKey)[k]? = some (excKey l[i]))) (no := some (res i 6)) (fin := rec3 (l.map Exc.pv, n, IntKind.i64.wrap ((i : Int) + 1), ())) (fun k hk rec => ?_) (fun rec => ?_) ?_ rfl).trans ?_
  · have h1 : (k : Int) < (i : Int) := by omega
    have hk' : k < l.length := by omega
    simp only [ref14_CheckExceptions_L1, decide_eq_true_eq, h1, if_true, idxP_nat, List.getElem?_map, List.getElem?_eq_getElem hk', List.getElem?_eq_getElem hi, Option.map_some, bind_some', exc0, exc1, asInt, wrap_nat (show k < 9223372036854775807 by omega), beq_d, bif_and, Option.some.injEq, excKey, Prod.mk.injEq, Bool.and_eq_true]
    rfl
  · simp only [ref14_CheckExceptions_L1, decide_eq_true_eq, Int.lt_irrefl, if_false]
  · have := rounds_gt; omega
  · rw [any_mem _ _ (by simp; omega)]; simp only [decide_eq_true_eq]

theorem exc_ref (l : List Exc) (n : Int) (hl : l.length ≤ maxLen ∧ ∀ y ∈ l, y.Ok) : ref14_CheckExceptions_M [.rs 3 (l.map Exc.pv), .int .i64 n] = some (res (excRes l n).1 (excRes l n).2) := by
  have hm := maxLen_lt
  simp only [ref14_CheckExceptions_M, ref14_CheckExceptions, asSl, asInt, if_true, bind_some', List.length_map]
  unfold excRes
  by_cases h64 : l.length > 256
  · rw [if_pos (by simp; omega), if_pos h64]; rfl
  · rw [if_neg (by simp; omega), if_neg h64, ← scanE_eq]
    refine loop_scan' (fun k => (l.map Exc.pv, n, (k : Int), ())) l.length _ (fun k hk rec => ?_) (fun rec => ?_) ?_ rfl
    · have h1 : (k : Int) < (l.length : Int) := by omega
      have hin := exc_inner l n hl.1 k hk rec
      simp only [ref14_CheckExceptions_L2, decide_eq_true_eq, List.length_map, h1, if_true, idxP_nat, List.getElem?_map, List.getElem?_eq_getElem hk, Option.map_some, bind_some', exc0, exc1, asInt, asBool, hin, ref02_ok, bif_or', wrap_nat (show k < 9223372036854775807 by omega)]
      unfold excErr
      rw [List.getElem?_eq_getElem hk]
      simp only
      generalize (decide (l[k].cal < 0) || decide (l[k].cal ≥ n)) = c
      by_cases hmem : excKey l[k] ∈ (l.map excKey).take k
      · simp only [hmem, if_true]
        cases c <;> cases dv l[k].day <;> rfl
      · simp only [hmem, if_false]
        cases c <;> cases dv l[k].day <;> rfl
    · simp only [ref14_CheckExceptions_L2, decide_eq_true_eq, List.length_map, Int.lt_irrefl, if_false]; rfl
    · have := rounds_gt; omega
end Go.Ab.Tt
