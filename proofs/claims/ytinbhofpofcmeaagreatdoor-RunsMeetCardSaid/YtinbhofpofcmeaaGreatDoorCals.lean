/- Calendars: why a day is active; the program and the document give the same. -/
import Derived.Test.YtinbhofpofcmeaaGreatDoorTtChk7
import Derived.Test.YtinbhofpofcmeaaGreatDoorRnR
namespace Go.Ab.Tt
set_option maxRecDepth 100000
set_option linter.unusedVariables false

theorem exc2 (x : Exc) : cell x.pv 2 = .bool x.added := rfl
def wk (c : Cal) (w : Int) : Bool := if w = 0 then c.w0 else if w = 1 then c.w1 else if w = 2 then c.w2 else if w = 3 then c.w3 else if w = 4 then c.w4 else if w = 5 then c.w5 else c.w6
def excHit (i d : Int) (e : Exc) : Bool := decide (e.cal = i) && decide (e.day = d)
def reasonOf (c : Cal) (xs : List Exc) (i d : Int) : Int := match xs.find? (excHit i d) with
  | some e => if e.added = true then 2 else 3
  | none => if (decide (d < c.day0) || decide (d > c.day1)) = true then 5 else if wk c ((d + 5).tmod 7) = true then 1 else 4
def reasonI (cs : List Cal) (xs : List Exc) (i d : Int) : Int := if dayB d = false then 0 else if i < 0 then 0 else match cs[i.toNat]? with
  | some c => reasonOf c xs i d
  | none => 0

theorem dvalid_ref (d : Int) : ref02_Valid_M [.int .i64 d] = some (.bool (dayB d)) := by
  simp only [ref02_Valid_M, ref02_Valid, asInt, if_true, bind_some', bif_and, dayB, ge_iff_le]
theorem week_in (d : Int) (h : dayB d = true) : IntKind.i64.wrap (d + 5) = d + 5 ∧ 0 ≤ (d + 5).tmod 7 ∧ (d + 5).tmod 7 < 7 := by
  unfold dayB at h
  simp only [Bool.and_eq_true, decide_eq_true_eq] at h
  refine ⟨wrap_in (by omega) (by omega), ?_⟩
  rw [Int.tmod_eq_emod_of_nonneg (by omega)]
  omega
theorem weekday_prog (d : Int) (h : dayB d = true) : date_Weekday_M [.int .i64 d] = some (.tup [.int .i64 ((d + 5).tmod 7), .bool true]) := by
  obtain ⟨h1, _⟩ := week_in d h
  simp only [date_Weekday_M, date_Weekday, asInt, if_true, bind_some', dvalid_prog, asBool, h, Bool.not_true, Bool.false_eq_true, if_false, h1]
theorem weekday_ref (d : Int) (h : dayB d = true) : ref02_Weekday_M [.int .i64 d] = some (.tup [.int .i64 ((d + 5).tmod 7), .bool true]) := by
  obtain ⟨h1, _⟩ := week_in d h
  simp only [ref02_Weekday_M, ref02_Weekday, asInt, if_true, bind_some', dvalid_ref, asBool, h, Bool.not_true, Bool.false_eq_true, if_false, h1]
theorem wk_prog (c : Cal) (w : Int) (h0 : 0 ≤ w) (h7 : w < 7) (k : Bool → Option PV) : (if inRange w 7 ∧ 0 < 1 then [cell c.pv 0, cell c.pv 1, cell c.pv 2, cell c.pv 3, cell c.pv 4, cell c.pv 5, cell c.pv 6, cell c.pv 7, cell c.pv 8, cell c.pv 9][1 + w.toNat * 1]?.bind fun p => (asBool p).bind k else none) = k (wk c w) := by
  rw [if_pos ⟨⟨h0, h7⟩, by decide⟩]
  have : w = 0 ∨ w = 1 ∨ w = 2 ∨ w = 3 ∨ w = 4 ∨ w = 5 ∨ w = 6 := by omega
  rcases this with rfl | rfl | rfl | rfl | rfl | rfl | rfl <;> rfl
theorem wk_ref (c : Cal) (w : Int) (h0 : 0 ≤ w) (h7 : w < 7) (k : Bool → Option PV) : (if inRange w 7 ∧ 0 < 1 then (List.drop (w.toNat * 1) [cell c.pv 1, cell c.pv 2, cell c.pv 3, cell c.pv 4, cell c.pv 5, cell c.pv 6, cell c.pv 7, cell c.pv 8, cell c.pv 9]).head?.bind fun p => (asBool p).bind k else none) = k (wk c w) := by
  rw [if_pos ⟨⟨h0, h7⟩, by decide⟩]
  have : w = 0 ∨ w = 1 ∨ w = 2 ∨ w = 3 ∨ w = 4 ∨ w = 5 ∨ w = 6 := by omega
  rcases this with rfl | rfl | rfl | rfl | rfl | rfl | rfl <;> rfl
theorem find_orFin {A : Type} (p : A → Bool) (g : A → Option PV) (l : List A) (fin : Option PV) : orFin ((List.range l.length).findSome? fun k => (l[k]?).bind fun x => if p x = true then some (g x) else none) fin = match l.find? p with | some x => g x | none => fin := by
  rw [find_scan]
  cases l.find? p <;> rfl

theorem reason_prog (cs : List Cal) (hc : cs.length ≤ maxLen) (xs : List Exc) (hx : xs.length ≤ maxLen) (i d : Int) : calendar_Reason_M [.rs 10 (cs.map Cal.pv), .rs 3 (xs.map Exc.pv), .int .i64 i, .int .i64 d] = some (.int .i64 (reasonI cs xs i d)) := by
  have hm := maxLen_lt
  simp only [calendar_Reason_M, calendar_Reason, asSl, asInt, if_true, bind_some', bif_or', dvalid_prog, asBool, List.length_map]
  unfold reasonI
  by_cases hi : i < 0
  · simp only [hi, decide_true, Bool.true_or, cond_true, bind_some', if_true]
    cases dayB d <;> rfl
  by_cases hn : i ≥ (cs.length : Int)
  · have : cs[i.toNat]? = none := by rw [List.getElem?_eq_none_iff]; omega
    simp only [hi, hn, decide_true, decide_false, Bool.or_true, cond_true, bind_some', if_true, this]
    cases dayB d <;> rfl
  simp only [hi, hn, decide_false, Bool.or_false, cond_false, bind_some']
  cases hd : dayB d with
  | false => simp only [Bool.not_false, Bool.or_true, if_true]
  | true =>
    obtain ⟨n, rfl⟩ : ∃ n : Nat, i = n := ⟨i.toNat, by omega⟩
    have hlt : n < cs.length := by omega
    obtain ⟨w1, w2, w3⟩ := week_in d hd
    simp only [Bool.not_true, Bool.false_eq_true, if_false, idxP_nat, List.getElem?_map, List.getElem?_eq_getElem hlt, Option.map_some, bind_some', Bool.true_eq_false, Int.toNat_natCast]
    generalize cs[n] = c
    refine (loop_scan' (fun k => ((n : Int), d, 5, xs.map Exc.pv, (xs.length : Int), (k : Int), cell c.pv 0, cell c.pv 1, cell c.pv 2, cell c.pv 3, cell c.pv 4, cell c.pv 5, cell c.pv 6, cell c.pv 7, cell c.pv 8, cell c.pv 9, ())) xs.length (fun k => (xs[k]?).bind fun x => if excHit n d x = true then some (some (.int .i64 (if x.added = true then 2 else 3))) else none) (fin := some (.int .i64 (if (decide (d < c.day0) || decide (d > c.day1)) = true then 5 else if wk c ((d + 5).tmod 7) = true then 1 else 4))) (fun k hk rec => ?_) (fun rec => ?_) ?_ rfl).trans ?_
    · have h1 : (k : Int) < (xs.length : Int) := by omega
      simp only [calendar_Reason_L1, decide_eq_true_eq, h1, if_true, idxP_nat, List.getElem?_map, List.getElem?_eq_getElem hk, Option.map_some, bind_some', exc0, exc1, exc2, asInt, asBool, bif_or', wrap_nat (show k < 9223372036854775807 by omega), bne_d]
      unfold excHit
      generalize xs[k] = x
      by_cases e1 : x.cal = n <;> by_cases e2 : x.day = d <;> simp [e1, e2, orFin]
      cases x.added <;> rfl
    · have hw := wk_prog c ((d + 5).tmod 7) w2 w3 (fun b => if b = true then some (PV.int .i64 1) else some (PV.int .i64 4))
      simp only [calendar_Reason_L1, decide_eq_true_eq, Int.lt_irrefl, if_false, cal8, cal9, asInt, if_true, bind_some', weekday_prog d hd, asTup, List.length_cons, List.length_nil, Nat.reduceAdd, List.getD_cons_zero, List.getD_cons_succ, asBool, show ((5 : Int) == 3) = false from rfl, cond_false, bif_or']
      simp only [cal8, cal9, asBool] at hw
      rw [hw]
      cases (decide (d < c.day0) || decide (d > c.day1)) <;> cases wk c ((d + 5).tmod 7) <;> rfl
    · have := rounds_gt; omega
    · rw [find_orFin (excHit n d) (fun x => some (.int .i64 (if x.added = true then 2 else 3)))]
      unfold reasonOf
      cases xs.find? (excHit n d) <;> rfl

theorem reason_ref (cs : List Cal) (hc : cs.length ≤ maxLen) (xs : List Exc) (hx : xs.length ≤ maxLen) (i d : Int) : ref14_Reason_M [.rs 10 (cs.map Cal.pv), .rs 3 (xs.map Exc.pv), .int .i64 i, .int .i64 d] = some (.int .i64 (reasonI cs xs i d)) := by
  have hm := maxLen_lt
  simp only [ref14_Reason_M, ref14_Reason, asSl, asInt, if_true, bind_some', bif_or', dvalid_ref, asBool, List.length_map]
  unfold reasonI
  by_cases hi : i < 0
  · simp only [hi, decide_true, Bool.true_or, cond_true, bind_some', if_true]
    cases dayB d <;> rfl
  by_cases hn : i ≥ (cs.length : Int)
  · have : cs[i.toNat]? = none := by rw [List.getElem?_eq_none_iff]; omega
    simp only [hi, hn, decide_true, decide_false, Bool.or_true, cond_true, bind_some', if_true, this]
    cases dayB d <;> rfl
  simp only [hi, hn, decide_false, Bool.or_false, cond_false, bind_some']
  cases hd : dayB d with
  | false => simp only [Bool.not_false, Bool.or_true, if_true]
  | true =>
    obtain ⟨n, rfl⟩ : ∃ n : Nat, i = n := ⟨i.toNat, by omega⟩
    have hlt : n < cs.length := by omega
    obtain ⟨w1, w2, w3⟩ := week_in d hd
    simp only [Bool.not_true, Bool.false_eq_true, if_false, List.getElem?_eq_getElem hlt, Bool.true_eq_false, Int.toNat_natCast]
    refine (loop_scan' (fun k => (cs.map Cal.pv, xs.map Exc.pv, (n : Int), d, (k : Int), ())) xs.length (fun k => (xs[k]?).bind fun x => if excHit n d x = true then some (some (.int .i64 (if x.added = true then 2 else 3))) else none) (fin := some (.int .i64 (if (decide (d < cs[n].day0) || decide (d > cs[n].day1)) = true then 5 else if wk cs[n] ((d + 5).tmod 7) = true then 1 else 4))) (fun k hk rec => ?_) (fun rec => ?_) ?_ rfl).trans ?_
    · have h1 : (k : Int) < (xs.length : Int) := by omega
      simp only [ref14_Reason_L1, decide_eq_true_eq, List.length_map, h1, if_true, idxP_nat, List.getElem?_map, List.getElem?_eq_getElem hk, Option.map_some, bind_some', exc0, exc1, exc2, asInt, asBool, bif_and, wrap_nat (show k < 9223372036854775807 by omega), beq_d]
      unfold excHit
      generalize xs[k] = x
      by_cases e1 : x.cal = n <;> by_cases e2 : x.day = d <;> simp [e1, e2, orFin]
      cases x.added <;> rfl
    · have hw := wk_ref cs[n] ((d + 5).tmod 7) w2 w3 (fun b => if b = true then some (PV.int .i64 1) else some (PV.int .i64 4))
      simp only [ref14_Reason_L1, decide_eq_true_eq, List.length_map, Int.lt_irrefl, if_false, idxP_nat, List.getElem?_map, List.getElem?_eq_getElem hlt, Option.map_some, cal8, cal9, asInt, if_true, bind_some', weekday_ref d hd, asTup, List.length_cons, List.length_nil, Nat.reduceAdd, List.getD_cons_zero, List.getD_cons_succ, asBool, bif_or']
      simp only [cal8, cal9, asBool] at hw
      rw [hw]
      cases (decide (d < cs[n].day0) || decide (d > cs[n].day1)) <;> cases wk cs[n] ((d + 5).tmod 7) <;> rfl
    · have := rounds_gt; omega
    · rw [find_orFin (excHit n d) (fun x => some (.int .i64 (if x.added = true then 2 else 3)))]
      unfold reasonOf
      cases xs.find? (excHit n d) <;> rfl

def activeB (cs : List Cal) (xs : List Exc) (i d : Int) : Bool := decide (reasonI cs xs i d = 1) || decide (reasonI cs xs i d = 2)
theorem active_prog (cs : List Cal) (hc : cs.length ≤ maxLen) (xs : List Exc) (hx : xs.length ≤ maxLen) (i d : Int) : calendar_Active_M [.rs 10 (cs.map Cal.pv), .rs 3 (xs.map Exc.pv), .int .i64 i, .int .i64 d] = some (.bool (activeB cs xs i d)) := by
  simp only [calendar_Active_M, calendar_Active, asSl, asInt, if_true, bind_some', reason_prog cs hc xs hx, bif_or', beq_d, activeB]
theorem active_ref (cs : List Cal) (hc : cs.length ≤ maxLen) (xs : List Exc) (hx : xs.length ≤ maxLen) (i d : Int) : ref14_Active_M [.rs 10 (cs.map Cal.pv), .rs 3 (xs.map Exc.pv), .int .i64 i, .int .i64 d] = some (.bool (activeB cs xs i d)) := by
  simp only [ref14_Active_M, ref14_Active, asSl, asInt, if_true, bind_some', reason_ref cs hc xs hx, bif_or', beq_d, activeB]
end Go.Ab.Tt
