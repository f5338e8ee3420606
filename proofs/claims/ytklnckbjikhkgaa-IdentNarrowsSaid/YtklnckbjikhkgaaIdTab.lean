/- The law about the table: Find inverts Name, the order rises. -/
import Derived.Test.YtklnckbjikhkgaaIdLaw
namespace Go.Ab.Tt
set_option maxRecDepth 100000
set_option linter.unusedVariables false
set_option linter.unusedSimpArgs false

def rises (l : List Bytes) (ns : List Int) : Prop := ∀ k, (h : k + 1 < ns.length) → cmpB (nmAt l ns[k]) (nmAt l ns[k + 1]) = -1
theorem ord_rises (l : List Bytes) (hd : l.Nodup) : rises l (ordN l) := fun k hk => by
  have h1 := List.pairwise_iff_getElem.1 (ord_sorted l) k (k + 1) (by omega) hk (by omega)
  obtain ⟨i, hi, e1⟩ := ord_idx l (ordN l)[k] (List.getElem_mem (by omega))
  obtain ⟨j, hj, e2⟩ := ord_idx l (ordN l)[k + 1] (List.getElem_mem hk)
  have hnd : (ordN l).Nodup := by
    rw [(ord_perm l).nodup_iff]
    unfold iota
    rw [List.nodup_iff_pairwise_ne, List.pairwise_map]
    exact (List.nodup_iff_pairwise_ne.1 List.nodup_range).imp fun h e => h (by omega)
  rcases cmpB_cases (nmAt l (ordN l)[k]) (nmAt l (ordN l)[k + 1]) with ⟨h, _⟩ | ⟨h, e⟩ | ⟨h, e⟩
  · exact h
  · exfalso
    rw [e1, e2, nmAt_nat hi, nmAt_nat hj] at e
    have hij : i = j := nodup_inj hd e
    have : (ordN l)[k] = (ordN l)[k + 1] := by rw [e1, e2, hij]
    have := nodup_inj hnd this
    omega
  · exfalso
    unfold RN at h1
    rw [h1] at e; cases e
theorem rises_ok (l : List Bytes) (os : List PV) (ns : List Int) (hn : ns.length ≤ 60) (hi : idxOk l ns) (hr0 : rises l ns) : law05_rises_M [tabC l os, .rs 1 (ints ns)] = some (.bool true) := by
  have hl : (60 : Nat) < maxLen := by decide
  have hm := maxLen_lt
  have hr := rounds_gt
  have hint : ∀ n : Int, cell (.int .i64 n) 0 = .int .i64 n := fun _ => rfl
  have h0 : law05_rises_M [tabC l os, .rs 1 (ints ns)] = lpS.run law05_rises_L2 (.agg [.rs 1 (pvs l), .rm 9 ((mapK l l.length).map fun x => x.1) ((mapK l l.length).map fun x => x.2), .rs 1 os], ints ns, 0, ()) := rfl
  have hT : ∀ (n : PV), ident_Table_Name_M [.rp [cell (.agg [.rs 1 (pvs l), .rm 9 ((mapK l l.length).map fun x => x.1) ((mapK l l.length).map fun x => x.2), .rs 1 os]) 0, cell (.agg [.rs 1 (pvs l), .rm 9 ((mapK l l.length).map fun x => x.1) ((mapK l l.length).map fun x => x.2), .rs 1 os]) 1, cell (.agg [.rs 1 (pvs l), .rm 9 ((mapK l l.length).map fun x => x.1) ((mapK l l.length).map fun x => x.2), .rs 1 os]) 2], n] = ident_Table_Name_M [tabC l os, n] := fun n => rfl
  rw [h0]
  refine loop_until (fun k => (.agg [.rs 1 (pvs l), .rm 9 ((mapK l l.length).map fun x => x.1) ((mapK l l.length).map fun x => x.2), .rs 1 os], ints ns, (k : Int), ())) ns.length (fun k hk rec => ?_) (fun rec => ?_) (by omega) rfl
  · have h1 : (k : Int) < (ns.length : Int) := by omega
    obtain ⟨j, hj, e⟩ := hi ns[k] (List.getElem_mem hk)
    simp only [law05_rises_L2, ints_len, decide_eq_true_eq, h1, if_true, idxP_nat, ints_at hk, bind_some', hint, Ab.asInt, e, hT, name_in l os j hj, asTup, List.length_cons, List.length_nil, List.getD_cons_zero, List.getD_cons_succ, asStr, Ab.asBool, Bool.not_true, Bool.false_eq_true, if_false, wrap_nat (show k < 9223372036854775807 by omega)]
    cases k with
    | zero => rfl
    | succ k =>
      have hw : IntKind.i64.wrap (((k + 1 : Nat) : Int) - 1) = (k : Int) := by rw [wrap_in (by omega) (by omega)]; omega
      obtain ⟨i, hi', e'⟩ := hi ns[k] (List.getElem_mem (by omega))
      have hc := hr0 k hk
      rw [e, e', nmAt_nat hi', nmAt_nat hj] at hc
      have hne : ((((k + 1 : Nat) : Int)) == 0) = false := by simp; omega
      simp only [hne, Bool.false_eq_true, if_false, hw, idxP_nat, ints_at (show k < ns.length by omega), bind_some', hint, Ab.asInt, if_true, e', name_in l os i hi', asTup, List.length_cons, List.length_nil, List.getD_cons_zero, List.getD_cons_succ, asStr, Ab.asBool, cmp_prog, hc, bne_self_eq_false]
      rfl
  · simp only [law05_rises_L2, ints_len, decide_eq_true_eq, Int.lt_irrefl, if_false]

theorem find_in (l : List Bytes) (hd : l.Nodup) (os : List PV) (k : Nat) (hk : k < l.length) : ident_Table_Find_M [tabC l os, .str l[k]] = some (.tup [.int .i64 (k : Int), .bool true]) := by
  rw [find_tab l hd os, if_pos (List.getElem_mem hk), plc_at l hd k hk, decide_eq_true (List.getElem_mem hk)]
theorem table_end (l : List Bytes) (s : Bytes) (hd : l.Nodup) (hn : l.length ≤ 60) :
    lpS.run (law05_IdentTable_L1) (pvs l, s, 0, pvs l, mapK l l.length, ints (ordN l), ()) = some (.bool true) := by
  have hl : (60 : Nat) < maxLen := by decide
  have hm := maxLen_lt
  have hr := rounds_gt
  have ho : (ordN l).length ≤ 60 := by rw [ord_len]; exact hn
  refine loop_until (fun k => (pvs l, s, (k : Int), pvs l, mapK l l.length, ints (ordN l), ())) l.length (fun k hk rec => ?_) (fun rec => ?_) (by omega) rfl
  · have h1 : (k : Int) < (l.length : Int) := by omega
    have hN := name_in l (ints (ordN l)) k hk
    have hF := find_in l hd (ints (ordN l)) k hk
    simp only [tabC] at hN hF
    simp only [law05_IdentTable_L1, pvs_len, decide_eq_true_eq, h1, if_true, hN, bind_some', asTup, List.length_cons, List.length_nil, List.getD_cons_zero, List.getD_cons_succ, asStr, Ab.asBool, hF, Ab.asInt, Bool.not_true, cond_false, idxP_nat, pvs_at hk, cell_str, beq_self_eq_true, bne_self_eq_false, Bool.false_eq_true, if_false, wrap_nat (show k < 9223372036854775807 by omega)]
  · have hs1 := sorted_tab l (ordN l) ho
    have hri := rises_ok l (ints (ordN l)) (ordN l) ho (ord_idx l) (ord_rises l hd)
    have hlen : (((ints (ordN l)).length : Int) == ((pvs l).length : Int)) = true := by rw [ints_len, pvs_len, ord_len]; simp
    have key : ∀ (b : Bool) (m : Int) (t : Bytes) (c : Bool), ident_Table_Find_M [tabC l (ints (ordN l)), .str s] = some (.tup [.int .i64 m, .bool b]) → ident_Table_Name_M [tabC l (ints (ordN l)), .int .i64 m] = some (.tup [.str t, .bool c]) → (b = true → c = true ∧ t = s) → law05_IdentTable_L1 (pvs l, s, (l.length : Int), pvs l, mapK l l.length, ints (ordN l), ()) rec = some (.bool true) := by
      intro b m t c hF hN hb
      simp only [tabC] at hF hN hs1 hri
      simp only [law05_IdentTable_L1, pvs_len, decide_eq_true_eq, Int.lt_irrefl, if_false, hF, bind_some', asTup, List.length_cons, List.length_nil, List.getD_cons_zero, List.getD_cons_succ, if_true, Ab.asInt, Ab.asBool, hN, asStr]
      have hx : (bif b then (bif !c then some true else some !t == s).bind fun r48 => some r48 else some false) = some false := by
        cases b with
        | false => rfl
        | true => obtain ⟨rfl, rfl⟩ := hb rfl; simp
      rw [hx]
      simp only [pvs_len] at hlen
      simp only [bind_some', Bool.false_eq_true, if_false, hs1, asSl, if_true, scal_ints, hri, Ab.asBool, sameB, cond_true, hlen, ex_holds]
    by_cases hm' : s ∈ l
    · obtain ⟨k, hk, e⟩ := List.getElem_of_mem hm'
      have hF := find_in l hd (ints (ordN l)) k hk
      rw [e] at hF
      exact key true k s true hF (by rw [name_in l _ k hk, e]) (fun _ => ⟨rfl, rfl⟩)
    · have hF := find_tab l hd (ints (ordN l)) s
      rw [if_neg hm', decide_eq_false hm'] at hF
      by_cases h0 : 0 < l.length
      · exact key false 0 l[0] true hF (name_in l _ 0 h0) (fun h => by cases h)
      · exact key false 0 [] false hF (name_out l _ 0 (by omega)) (fun h => by cases h)
theorem table_tail (l : List Bytes) (s : Bytes) (hd : l.Nodup) (hn : l.length ≤ 60) :
    lpS.run (law05_IdentTable_L2 lpS) ((l.length : Int), 0, pvs l, s, pvs l, mapK l l.length, [], ()) = some (.bool true) := by
  have hl : (60 : Nat) < maxLen := by decide
  have hm := maxLen_lt
  have hr := rounds_gt
  refine loop_until (fun k => ((l.length : Int), (k : Int), pvs l, s, pvs l, mapK l l.length, ints (iota k), ())) l.length (fun k hk rec => ?_) (fun rec => ?_) (by omega) rfl
  · have h1 : (k : Int) < (l.length : Int) := by omega
    simp only [law05_IdentTable_L2, decide_eq_true_eq, h1, if_true, wrap_nat (show k < 9223372036854775807 by omega)]
    rw [if_pos (room_iota (by omega)), iota_succ, ints_snoc]
  · have g : True ∧ (ints (iota l.length)).length ≤ roomBound := ⟨trivial, by rw [iota_len]; exact Nat.le_trans hn (by decide)⟩
    have hso := sort_new l hd
    simp only [tabC] at hso
    unfold law05_IdentTable_L2
    simp only [Int.lt_irrefl, decide_false, Bool.false_eq_true, if_false]
    rw [if_pos g]
    simp only [hso, bind_some']
    exact table_end l s hd hn
theorem table_law (l : List Bytes) (s : Bytes) (hl : l.length ≤ maxLen ∧ ∀ s ∈ l, s.length ≤ maxLen) (hs : s.length ≤ maxLen) : law05_IdentTable_M [.rs 1 (l.map .str), .str s] = some (.bool true) := by
  have hm := maxLen_lt
  have hz := small_ok l hl.1
  simp only [pvs] at hz
  simp only [law05_IdentTable_M, law05_IdentTable, asSl, if_true, bind_some', asStr, hz, Ab.asBool, bif_or', ex_holds]
  by_cases hc : (!smallB l || decide ((s.length : Int) > 1024)) = true
  · rw [if_pos hc]
  rw [if_neg hc]
  simp only [Bool.or_eq_true, Bool.not_eq_true', decide_eq_true_eq, not_or, Bool.not_eq_false] at hc
  have hn := small_len hc.1
  refine (scan_new l hl.1 (fun k => (pvs l, (l.length : Int), (k : Int), pvs l, pvs l, s, mapK l k, ())) (fun _ => some (.bool true)) (fun _ => some (.bool true)) (fin := lpS.run (law05_IdentTable_L2 lpS) ((l.length : Int), 0, pvs l, s, pvs l, mapK l l.length, [], ())) (fun k hk rec => ?_) (fun rec => ?_) (by simp [pvs, mapK, tmapK, pvMap])).trans ?_
  · have h1 : (k : Int) < (l.length : Int) := by omega
    obtain ⟨n, hn⟩ := mapK_look l l[k] k
    simp only [law05_IdentTable_L3, decide_eq_true_eq, h1, if_true, idxP_nat, pvs_at hk, bind_some', cell_str, asStr, ident_ok _ (hl.2 _ (List.getElem_mem hk)), Ab.asBool, hn, Ab.asInt, mapK_has l l[k] k (by omega), mapK_succ hk, wrap_nat (show k < 9223372036854775807 by omega), ex_holds]
    cases validB l[k] with
    | false => rfl
    | true => rfl
  · simp only [law05_IdentTable_L3, decide_eq_true_eq, Int.lt_irrefl, if_false, clone_pvs l (room_small hn (by decide)), bind_some', asSl, if_true, scal_pvs, pvs_len]
  · cases h : uqE l with
    | none => exact table_tail l s (uqE_none h).1 hn
    | some x => obtain ⟨k, b⟩ := x; cases b <;> rfl
end Go.Ab.Tt
