/- The laws about the table that is made of a list that is changed afterwards: Find, Name, Len; Sorted and Prefix. -/
import Derived.Test.YtklnckbjikhkgaaIdTab
namespace Go.Ab.Tt
set_option maxRecDepth 100000
set_option linter.unusedVariables false
set_option linter.unusedSimpArgs false

/-- the list after k changes -/
def chg (l : List PV) : Nat → List PV
  | 0 => l
  | k + 1 => (chg l k).set k (.str [99, 104, 97, 110, 103, 101, 100])
theorem chg_len (l : List PV) : ∀ k, (chg l k).length = l.length
  | 0 => rfl
  | k + 1 => by rw [chg, List.length_set, chg_len l k]
theorem inR {k n : Nat} (h : k < n) : inRange (k : Int) n := ⟨by omega, by omega⟩
theorem wrapK {k : Nat} (h : k < 60) : IntKind.i64.wrap ((k : Int) + 1) = ((k + 1 : Nat) : Int) := wrap_nat (by omega)
theorem uq_inv {l : List Bytes} {k : Nat} (h : uqE l = some (k, true)) : uq l = some (res k 12) := by rw [uq_eq, h]
theorem uq_dup {l : List Bytes} {k : Nat} (h : uqE l = some (k, false)) : uq l = some (res k 6) := by rw [uq_eq, h]
theorem uq_ok {l : List Bytes} (h : uqE l = none) : uq l = some (res 0 0) := by rw [uq_eq, h]

/-! ### Find -/
theorem finds_bad1 (l : List Bytes) (s : Bytes) (i : Int) (k : Int) (e : Int) (he : e ≠ 0) (es : List PV) (hn : l.length ≤ 60) : lpS.run law05_IdentFinds_L1 (k, e, k, e, 0, es, s, i, pvs l, ()) = some (.bool true) := by
  have hr : (60 : Nat) < rounds := by decide
  refine loop_until (fun j => (k, e, k, e, (j : Int), es, s, i, chg (pvs l) j, ())) l.length (fun j hj rec => ?_) (fun rec => ?_) (by omega) rfl
  · have h1 : (j : Int) < (l.length : Int) := by omega
    have h2 : (chg (pvs l) j).length = l.length := by rw [chg_len, pvs_len]
    have h3 : j < (chg (pvs l) j).length := by omega
    simp only [law05_IdentFinds_L1, h2, h1, decide_true, if_true, inR hj, Int.toNat_natCast, List.getElem?_eq_getElem h3, bind_some', wrapK (show j < 60 by omega)]
    rfl
  · have h2 : (chg (pvs l) l.length).length = l.length := by rw [chg_len, pvs_len]
    simp only [law05_IdentFinds_L1, h2, Int.lt_irrefl, decide_false, Bool.false_eq_true, if_false, beq_self_eq_true, cond_true, bind_some', beq_d, decide_eq_false he, decide_true, Bool.not_true, ex_holds, Ab.asBool]
theorem finds_bad2 (l : List Bytes) (s : Bytes) (i : Int) (k : Int) (e : Int) (he : e ≠ 0) (es : List PV) (hn : l.length ≤ 60) : lpS.run law05_IdentFinds_L2 (k, e, k, e, 0, es, s, i, pvs l, ()) = some (.bool true) := finds_bad1 l s i k e he es hn
theorem finds_end (l : List Bytes) (s : Bytes) (i : Int) (hd : l.Nodup) (hn : l.length ≤ 60) :
    lpS.run law05_IdentFinds_L3 (0, 0, 0, 0, 0, pvs l, s, i, pvs l, pvs l, mapK l l.length, ints (ordN l), ()) = some (.bool true) := by
  have hr : (60 : Nat) < rounds := by decide
  have hl : (60 : Nat) < maxLen := by decide
  refine loop_until (fun j => (0, 0, 0, 0, (j : Int), pvs l, s, i, chg (pvs l) j, pvs l, mapK l l.length, ints (ordN l), ())) l.length (fun j hj rec => ?_) (fun rec => ?_) (by omega) rfl
  · have h1 : (j : Int) < (l.length : Int) := by omega
    have h2 : (chg (pvs l) j).length = l.length := by rw [chg_len, pvs_len]
    have h3 : j < (chg (pvs l) j).length := by omega
    simp only [law05_IdentFinds_L3, h2, h1, decide_true, if_true, inR hj, Int.toNat_natCast, List.getElem?_eq_getElem h3, bind_some', wrapK (show j < 60 by omega)]
    rfl
  · have h2 : (chg (pvs l) l.length).length = l.length := by rw [chg_len, pvs_len]
    have hF := find_tab l hd (ints (ordN l)) s
    have hR := find_ref l s (by omega)
    have hL := len_tab l (ints (ordN l))
    have hx : (bif !(decide (s ∈ l) == decide (plc l s ≥ 0)) then some true else (bif decide (s ∈ l) then some ((if s ∈ l then plc l s else 0) != plc l s) else some false).bind fun r57 => some r57) = some false := by
      by_cases h : s ∈ l
      · have := (plc_mem l s).2 h
        simp [h, this]
      · have : ¬ plc l s ≥ 0 := fun h' => h ((plc_mem l s).1 h')
        simp [h, this]
    have hy : (bif !decide (s ∈ l) then some ((if s ∈ l then plc l s else 0) != 0) else some false) = some false := by
      by_cases h : s ∈ l <;> simp [h]
    have key : ∀ (t : Bytes) (c : Bool), ident_Table_Name_M [tabC l (ints (ordN l)), .int .i64 i] = some (.tup [.str t, .bool c]) → c = (decide (i ≥ 0) && decide (i < (l.length : Int))) → (c = true → (idxP (pvs l) i).bind (fun p66 => (asStr (cell p66 0)).bind fun s67 => some !t == s67) = some false) → (c = false → t = []) → law05_IdentFinds_L3 (0, 0, 0, 0, (l.length : Int), pvs l, s, i, chg (pvs l) l.length, pvs l, mapK l l.length, ints (ordN l), ()) rec = some (.bool true) := by
      intro t c hN hc hc1 hc2
      simp only [tabC] at hF hN hL
      have hcc : (bif decide (i ≥ 0) then some (decide (i < (l.length : Int))) else some false) = some c := by rw [bif_and, hc]
      have hasS : ∀ s : Bytes, asStr (.str s) = some s := fun _ => rfl
      have hz : (bif c then (idxP (pvs l) i).bind fun p66 => (asStr (cell p66 0)).bind fun s67 => some !t == s67 else some false) = some false := by
        cases c with
        | true => exact hc1 rfl
        | false => rfl
      have hw : (bif !c then some !t == [] else some false) = some false := by
        cases c with
        | true => rfl
        | false => rw [hc2 rfl]; rfl
      have hy' : (bif !decide (s ∈ l) then some ((if s ∈ l then plc l s else 0) != 0) else some false) = some false := hy
      simp only [law05_IdentFinds_L3, h2, Int.lt_irrefl, decide_false, Bool.false_eq_true, if_false, beq_self_eq_true, cond_true, bind_some', Bool.not_true, hF, asTup, List.length_cons, List.length_nil, List.getD_cons_zero, List.getD_cons_succ, if_true, Ab.asInt, Ab.asBool, hR, hx, hy', cond_false, hN, hasS, hcc, pvs_len, hz, hw, hL, ex_holds]
    by_cases hi : 0 ≤ i ∧ i < (l.length : Int)
    · obtain ⟨k, rfl⟩ := Int.eq_ofNat_of_zero_le hi.1
      have hk : k < l.length := by omega
      refine key l[k] true (name_in l _ k hk) ?_ (fun _ => ?_) (fun h => by cases h)
      · simp [hi.2]
      · rw [idxP_nat, pvs_at hk]; simp [bind_some', cell_str, asStr]
    · refine key [] false (name_out l _ i hi) ?_ (fun h => by cases h) (fun _ => rfl)
      symm
      rw [Bool.and_eq_false_iff]
      simp only [decide_eq_false_iff_not]; omega
theorem finds_tail (l : List Bytes) (s : Bytes) (i : Int) (hs : ∀ s ∈ l, s.length ≤ maxLen) (h : uqE l = none) (hn : l.length ≤ 60) :
    lpS.run (law05_IdentFinds_L4 lpS) ((l.length : Int), 0, pvs l, pvs l, s, i, pvs l, pvs l, mapK l l.length, [], ()) = some (.bool true) := by
  have hr : (60 : Nat) < rounds := by decide
  have hl : (60 : Nat) < maxLen := by decide
  have hd := (uqE_none h).1
  refine loop_until (fun k => ((l.length : Int), (k : Int), pvs l, pvs l, s, i, pvs l, pvs l, mapK l l.length, ints (iota k), ())) l.length (fun k hk rec => ?_) (fun rec => ?_) (by omega) rfl
  · have h1 : (k : Int) < (l.length : Int) := by omega
    simp only [law05_IdentFinds_L4, decide_eq_true_eq, h1, if_true, wrapK (show k < 60 by omega)]
    rw [if_pos (room_iota (by omega)), iota_succ, ints_snoc]
  · have g : True ∧ (ints (iota l.length)).length ≤ roomBound := ⟨trivial, by rw [iota_len]; exact Nat.le_trans hn (by decide)⟩
    have hso := sort_new l hd
    simp only [tabC] at hso
    unfold law05_IdentFinds_L4
    simp only [Int.lt_irrefl, decide_false, Bool.false_eq_true, if_false]
    rw [if_pos g]
    simp only [hso, bind_some', unique_ref l (by omega) hs, uq_ok h, res, asTup, List.length_cons, List.length_nil, List.getD_cons_zero, List.getD_cons_succ, if_true, Ab.asInt]
    exact finds_end l s i hd hn
theorem finds_law (l : List Bytes) (s : Bytes) (i : Int) (hl : l.length ≤ maxLen ∧ ∀ s ∈ l, s.length ≤ maxLen) (hs : s.length ≤ maxLen) : law05_IdentFinds_M [.rs 1 (l.map .str), .str s, .int .i64 i] = some (.bool true) := by
  have hm := maxLen_lt
  have hz := small_ok l hl.1
  simp only [pvs] at hz
  simp only [law05_IdentFinds_M, law05_IdentFinds, asSl, if_true, bind_some', asStr, hz, Ab.asBool, Ab.asInt, bif_or', ex_holds, List.nil_append]
  by_cases hc : (!smallB l || decide ((s.length : Int) > 1024)) = true
  · rw [if_pos hc]
  rw [if_neg hc]
  simp only [Bool.or_eq_true, Bool.not_eq_true', decide_eq_true_eq, not_or, Bool.not_eq_false] at hc
  have hn := small_len hc.1
  have hu := unique_ref l hl.1 hl.2
  have hroom : (l.map PV.str).length * 16 ≤ roomBound ∧ 0 < 16 := ⟨room_small (by simpa using hn) (by decide), by decide⟩
  rw [if_pos hroom]
  refine (scan_new l hl.1 (fun k => ((l.length : Int), (k : Int), pvs l, pvs l, s, i, mapK l k, pvs l, ()))
    (fun k => (uq l).bind fun r14 => (asTup 2 r14).bind fun vs15 => (Ab.asInt IntKind.i64 (vs15.getD 0 PV.bad)).bind fun n16 => (Ab.asInt IntKind.i64 (vs15.getD 1 PV.bad)).bind fun n17 => lpS.run law05_IdentFinds_L1 ((k : Int), 12, n16, n17, 0, pvs l, s, i, pvs l, ()))
    (fun k => (uq l).bind fun r14 => (asTup 2 r14).bind fun vs15 => (Ab.asInt IntKind.i64 (vs15.getD 0 PV.bad)).bind fun n16 => (Ab.asInt IntKind.i64 (vs15.getD 1 PV.bad)).bind fun n17 => lpS.run law05_IdentFinds_L2 ((k : Int), 6, n16, n17, 0, pvs l, s, i, pvs l, ()))
    (fin := lpS.run (law05_IdentFinds_L4 lpS) ((l.length : Int), 0, pvs l, pvs l, s, i, pvs l, pvs l, mapK l l.length, [], ())) (fun k hk rec => ?_) (fun rec => ?_) (by simp [pvs, mapK, tmapK, pvMap])).trans ?_
  · have h1 : (k : Int) < (l.length : Int) := by omega
    obtain ⟨n, hn'⟩ := mapK_look l l[k] k
    simp only [law05_IdentFinds_L5, h1, decide_true, if_true, pvs_len, inR hk, Int.toNat_natCast, pvs_at hk, bind_some', cell_str, asStr, ident_ok _ (hl.2 _ (List.getElem_mem hk)), Ab.asBool, hn', Ab.asInt, mapK_has l l[k] k (by omega), mapK_succ hk, wrap_nat (show k < 9223372036854775807 by omega), hu]
    cases validB l[k] with
    | false => rfl
    | true => by_cases h2 : l[k] ∈ l.take k <;> simp [h2]
  · simp only [law05_IdentFinds_L5, decide_eq_true_eq, Int.lt_irrefl, if_false, clone_pvs l (room_small hn (by decide)), bind_some', asSl, if_true, scal_pvs, pvs_len]
  · cases h : uqE l with
    | none => exact finds_tail l s i hl.2 h hn
    | some x =>
      obtain ⟨k, b⟩ := x
      cases b with
      | true =>
        simp only [uq_inv h, res, bind_some', asTup, List.length_cons, List.length_nil, List.getD_cons_zero, List.getD_cons_succ, if_true, Ab.asInt]
        exact finds_bad1 l s i k 12 (by decide) (pvs l) hn
      | false =>
        simp only [uq_dup h, res, bind_some', asTup, List.length_cons, List.length_nil, List.getD_cons_zero, List.getD_cons_succ, if_true, Ab.asInt]
        exact finds_bad2 l s i k 6 (by decide) (pvs l) hn

/-! ### Sorted and Prefix -/
theorem secs_bad1 (l : List Bytes) (s : Bytes) (k : Int) (e : Int) (he : e ≠ 0) (es : List PV) (hn : l.length ≤ 60) : lpS.run law05_IdentSections_L1 (k, e, k, e, 0, es, s, pvs l, ()) = some (.bool true) := by
  have hr : (60 : Nat) < rounds := by decide
  refine loop_until (fun j => (k, e, k, e, (j : Int), es, s, chg (pvs l) j, ())) l.length (fun j hj rec => ?_) (fun rec => ?_) (by omega) rfl
  · have h1 : (j : Int) < (l.length : Int) := by omega
    have h2 : (chg (pvs l) j).length = l.length := by rw [chg_len, pvs_len]
    have h3 : j < (chg (pvs l) j).length := by omega
    simp only [law05_IdentSections_L1, h2, h1, decide_true, if_true, inR hj, Int.toNat_natCast, List.getElem?_eq_getElem h3, bind_some', wrapK (show j < 60 by omega)]
    rfl
  · have h2 : (chg (pvs l) l.length).length = l.length := by rw [chg_len, pvs_len]
    simp only [law05_IdentSections_L1, h2, Int.lt_irrefl, decide_false, Bool.false_eq_true, if_false, beq_self_eq_true, cond_true, bind_some', beq_d, decide_eq_false he, decide_true, Bool.not_true, ex_holds, Ab.asBool]
theorem secs_bad2 (l : List Bytes) (s : Bytes) (k : Int) (e : Int) (he : e ≠ 0) (es : List PV) (hn : l.length ≤ 60) : lpS.run law05_IdentSections_L2 (k, e, k, e, 0, es, s, pvs l, ()) = some (.bool true) := secs_bad1 l s k e he es hn
theorem pre_nil (l : List Bytes) (ns : List Int) : ns.filter (preI l []) = ns := by
  rw [List.filter_eq_self]
  intro a _
  simp [preI, hasPre]
theorem secs_end (l : List Bytes) (p : Bytes) (hd : l.Nodup) (hs : ∀ s ∈ l, s.length ≤ maxLen) (hn : l.length ≤ 60) :
    lpS.run law05_IdentSections_L3 (0, 0, 0, 0, 0, pvs l, p, pvs l, pvs l, mapK l l.length, ints (ordN l), ()) = some (.bool true) := by
  have hr : (60 : Nat) < rounds := by decide
  have ho : (ordN l).length ≤ 60 := by rw [ord_len]; exact hn
  refine loop_until (fun j => (0, 0, 0, 0, (j : Int), pvs l, p, chg (pvs l) j, pvs l, mapK l l.length, ints (ordN l), ())) l.length (fun j hj rec => ?_) (fun rec => ?_) (by omega) rfl
  · have h1 : (j : Int) < (l.length : Int) := by omega
    have h2 : (chg (pvs l) j).length = l.length := by rw [chg_len, pvs_len]
    have h3 : j < (chg (pvs l) j).length := by omega
    simp only [law05_IdentSections_L3, h2, h1, decide_true, if_true, inR hj, Int.toNat_natCast, List.getElem?_eq_getElem h3, bind_some', wrapK (show j < 60 by omega)]
    rfl
  · have h2 : (chg (pvs l) l.length).length = l.length := by rw [chg_len, pvs_len]
    have hs1 := sorted_tab l (ordN l) ho
    have hp1 := prefix_tab l (ordN l) p ho (ord_idx l)
    have hr1 := ref_prefix l [] hn hs
    have hr2 := ref_prefix l p hn hs
    rw [insR_ord l hd, pre_nil] at hr1
    rw [insR_ord l hd] at hr2
    have hq1 := same_ok (ordN l) (ordN l) ho
    have hq2 := same_ok ((ordN l).filter (preI l p)) ((ordN l).filter (preI l p)) (Nat.le_trans (List.length_filter_le _ _) ho)
    simp only [tabC] at hs1 hp1
    simp only [law05_IdentSections_L3, h2, Int.lt_irrefl, decide_false, Bool.false_eq_true, if_false, beq_self_eq_true, cond_true, bind_some', Bool.not_true, hs1, asSl, if_true, hr1, scal_ints, hq1, decide_true, Ab.asBool, sameB, hp1, hr2, hq2, ex_holds]
theorem secs_tail (l : List Bytes) (p : Bytes) (hs : ∀ s ∈ l, s.length ≤ maxLen) (h : uqE l = none) (hn : l.length ≤ 60) :
    lpS.run (law05_IdentSections_L4 lpS) ((l.length : Int), 0, pvs l, pvs l, p, pvs l, pvs l, mapK l l.length, [], ()) = some (.bool true) := by
  have hr : (60 : Nat) < rounds := by decide
  have hl : (60 : Nat) < maxLen := by decide
  have hd := (uqE_none h).1
  refine loop_until (fun k => ((l.length : Int), (k : Int), pvs l, pvs l, p, pvs l, pvs l, mapK l l.length, ints (iota k), ())) l.length (fun k hk rec => ?_) (fun rec => ?_) (by omega) rfl
  · have h1 : (k : Int) < (l.length : Int) := by omega
    simp only [law05_IdentSections_L4, decide_eq_true_eq, h1, if_true, wrapK (show k < 60 by omega)]
    rw [if_pos (room_iota (by omega)), iota_succ, ints_snoc]
  · have g : True ∧ (ints (iota l.length)).length ≤ roomBound := ⟨trivial, by rw [iota_len]; exact Nat.le_trans hn (by decide)⟩
    have hso := sort_new l hd
    simp only [tabC] at hso
    unfold law05_IdentSections_L4
    simp only [Int.lt_irrefl, decide_false, Bool.false_eq_true, if_false]
    rw [if_pos g]
    simp only [hso, bind_some', unique_ref l (by omega) hs, uq_ok h, res, asTup, List.length_cons, List.length_nil, List.getD_cons_zero, List.getD_cons_succ, if_true, Ab.asInt]
    exact secs_end l p hd hs hn
theorem sections_law (l : List Bytes) (p : Bytes) (hl : l.length ≤ maxLen ∧ ∀ s ∈ l, s.length ≤ maxLen) (hp : p.length ≤ maxLen) : law05_IdentSections_M [.rs 1 (l.map .str), .str p] = some (.bool true) := by
  have hm := maxLen_lt
  have hz := small_ok l hl.1
  simp only [pvs] at hz
  simp only [law05_IdentSections_M, law05_IdentSections, asSl, if_true, bind_some', asStr, hz, Ab.asBool, Ab.asInt, bif_or', ex_holds, List.nil_append]
  by_cases hc : (!smallB l || decide ((p.length : Int) > 1024)) = true
  · rw [if_pos hc]
  rw [if_neg hc]
  simp only [Bool.or_eq_true, Bool.not_eq_true', decide_eq_true_eq, not_or, Bool.not_eq_false] at hc
  have hn := small_len hc.1
  have hu := unique_ref l hl.1 hl.2
  have hroom : (l.map PV.str).length * 16 ≤ roomBound ∧ 0 < 16 := ⟨room_small (by simpa using hn) (by decide), by decide⟩
  rw [if_pos hroom]
  refine (scan_new l hl.1 (fun k => ((l.length : Int), (k : Int), pvs l, pvs l, p, mapK l k, pvs l, ()))
    (fun k => (uq l).bind fun r14 => (asTup 2 r14).bind fun vs15 => (Ab.asInt IntKind.i64 (vs15.getD 0 PV.bad)).bind fun n16 => (Ab.asInt IntKind.i64 (vs15.getD 1 PV.bad)).bind fun n17 => lpS.run law05_IdentSections_L1 ((k : Int), 12, n16, n17, 0, pvs l, p, pvs l, ()))
    (fun k => (uq l).bind fun r14 => (asTup 2 r14).bind fun vs15 => (Ab.asInt IntKind.i64 (vs15.getD 0 PV.bad)).bind fun n16 => (Ab.asInt IntKind.i64 (vs15.getD 1 PV.bad)).bind fun n17 => lpS.run law05_IdentSections_L2 ((k : Int), 6, n16, n17, 0, pvs l, p, pvs l, ()))
    (fin := lpS.run (law05_IdentSections_L4 lpS) ((l.length : Int), 0, pvs l, pvs l, p, pvs l, pvs l, mapK l l.length, [], ())) (fun k hk rec => ?_) (fun rec => ?_) (by simp [pvs, mapK, tmapK, pvMap])).trans ?_
  · have h1 : (k : Int) < (l.length : Int) := by omega
    obtain ⟨n, hn'⟩ := mapK_look l l[k] k
    simp only [law05_IdentSections_L5, h1, decide_true, if_true, pvs_len, inR hk, Int.toNat_natCast, pvs_at hk, bind_some', cell_str, asStr, ident_ok _ (hl.2 _ (List.getElem_mem hk)), Ab.asBool, hn', Ab.asInt, mapK_has l l[k] k (by omega), mapK_succ hk, wrap_nat (show k < 9223372036854775807 by omega), hu]
    cases validB l[k] with
    | false => rfl
    | true => by_cases h2 : l[k] ∈ l.take k <;> simp [h2]
  · simp only [law05_IdentSections_L5, decide_eq_true_eq, Int.lt_irrefl, if_false, clone_pvs l (room_small hn (by decide)), bind_some', asSl, if_true, scal_pvs, pvs_len]
  · cases h : uqE l with
    | none => exact secs_tail l p hl.2 h hn
    | some x =>
      obtain ⟨k, b⟩ := x
      cases b with
      | true =>
        simp only [uq_inv h, res, bind_some', asTup, List.length_cons, List.length_nil, List.getD_cons_zero, List.getD_cons_succ, if_true, Ab.asInt]
        exact secs_bad1 l p k 12 (by decide) (pvs l) hn
      | false =>
        simp only [uq_dup h, res, bind_some', asTup, List.length_cons, List.length_nil, List.getD_cons_zero, List.getD_cons_succ, if_true, Ab.asInt]
        exact secs_bad2 l p k 6 (by decide) (pvs l) hn
end Go.Ab.Tt
