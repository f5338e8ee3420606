/- The laws about the table: Prefix narrows; Find inverts Name. -/
import Derived.Test.YtklnckbjikhkgaaIdRef
namespace Go.Ab.Tt
set_option maxRecDepth 100000
set_option linter.unusedVariables false
set_option linter.unusedSimpArgs false

theorem small_len {l : List Bytes} (h : smallB l = true) : l.length ≤ 60 := by
  unfold smallB at h
  simp only [Bool.and_eq_true, decide_eq_true_eq] at h
  exact h.1
theorem map_scal (l : List Bytes) : List.map scalP (pvs l) = pvs l := scal_pvs l
theorem room_iota {k : Nat} (h : k < 60) : (ints (iota k) ++ [PV.int .i64 (k : Int)]).length * 8 ≤ roomBound ∧ 0 < 8 := ⟨by rw [List.length_append, iota_len]; exact room_small (by simp; omega) (by decide), by decide⟩

theorem pre_section (l : List Bytes) (p : Bytes) (ns : List Int) (h : ns.Pairwise (RN l)) : ∃ x y, ns = x ++ ns.filter (preI l p) ++ y :=
  filter_section (RN l) (preI l p) (fun a b c h1 h2 ha hc => by
    unfold preI hasPre at *
    simp only [decide_eq_true_eq] at *
    exact pre_conv p _ _ _ h1 h2 ha hc) ns h
theorem section_pre (l : List Bytes) (p : Bytes) (ns : List Int) (h : ns.Pairwise (RN l)) (hn : ns.length ≤ 60) : law05_section_M [.rs 1 (ints ns), .rs 1 (ints (ns.filter (preI l p)))] = some (.bool true) := by
  obtain ⟨x, y, e⟩ := pre_section l p ns h
  have := section_ok x (ns.filter (preI l p)) y (by rw [← e]; exact hn)
  rwa [← e] at this
theorem pre_app (l : List Bytes) (p q : Bytes) (ns : List Int) : ns.filter (preI l (p ++ q)) = (ns.filter (preI l p)).filter (preI l (p ++ q)) := by
  rw [List.filter_filter]
  congr 1
  funext i
  unfold preI hasPre
  rw [Bool.eq_iff_iff]
  simp only [decide_eq_true_eq, Bool.and_eq_true]
  exact ⟨fun h => ⟨h, (List.prefix_append p q).trans h⟩, fun h => h.1⟩

theorem narrows_tail (l : List Bytes) (p q : Bytes) (hd : l.Nodup) (hn : l.length ≤ 60) (hpq : ¬ ((p.length + q.length : Nat) : Int) > IntKind.i64.max) :
    lpS.run (law05_IdentNarrows_L1 lpS) ((l.length : Int), 0, p, q, pvs l, mapK l l.length, [], ()) = some (.bool true) := by
  have hl : (60 : Nat) < maxLen := by decide
  have hm := maxLen_lt
  have hr := rounds_gt
  refine loop_until (fun k => ((l.length : Int), (k : Int), p, q, pvs l, mapK l l.length, ints (iota k), ())) l.length (fun k hk rec => ?_) (fun rec => ?_) (by omega) rfl
  · have h1 : (k : Int) < (l.length : Int) := by omega
    simp only [law05_IdentNarrows_L1, decide_eq_true_eq, h1, if_true, wrap_nat (show k < 9223372036854775807 by omega)]
    rw [if_pos (room_iota (by omega)), iota_succ, ints_snoc]
  · have g : True ∧ (ints (iota l.length)).length ≤ roomBound := ⟨trivial, by rw [iota_len]; exact Nat.le_trans hn (by decide)⟩
    have ho : (ordN l).length ≤ 60 := by rw [ord_len]; exact hn
    have hs1 := sorted_tab l (ordN l) ho
    have hp1 := prefix_tab l (ordN l) p ho (ord_idx l)
    have hp2 := prefix_tab l (ordN l) (p ++ q) ho (ord_idx l)
    have hsec1 := section_pre l p (ordN l) (ord_sorted l) ho
    have hsec2 := section_pre l (p ++ q) ((ordN l).filter (preI l p)) ((ord_sorted l).filter _) (Nat.le_trans (List.length_filter_le _ _) ho)
    rw [← pre_app] at hsec2
    have hso := sort_new l hd
    simp only [tabC] at hs1 hp1 hp2 hso
    unfold law05_IdentNarrows_L1
    simp only [Int.lt_irrefl, decide_false, Bool.false_eq_true, if_false]
    rw [if_pos g]
    simp only [hso, bind_some', hs1, asSl, if_true, hp1, hp2, scal_ints, hsec1, hsec2, Ab.asBool, sameB, cond_true, if_neg hpq, ex_holds]
theorem narrows_law (l : List Bytes) (p q : Bytes) (hl : l.length ≤ maxLen ∧ ∀ s ∈ l, s.length ≤ maxLen) (hp : p.length ≤ maxLen) (hq : q.length ≤ maxLen) : law05_IdentNarrows_M [.rs 1 (l.map .str), .str p, .str q] = some (.bool true) := by
  have hm := maxLen_lt
  have hz := small_ok l hl.1
  simp only [pvs] at hz
  simp only [law05_IdentNarrows_M, law05_IdentNarrows, asSl, if_true, bind_some', asStr, hz, Ab.asBool, bif_or', ex_holds]
  by_cases hc : (!smallB l || decide ((p.length : Int) > 512) || decide ((q.length : Int) > 512)) = true
  · rw [if_pos hc]
  rw [if_neg hc]
  simp only [Bool.or_eq_true, Bool.not_eq_true', decide_eq_true_eq, not_or, Bool.not_eq_false] at hc
  have hn := small_len hc.1.1
  refine (scan_new l hl.1 (fun k => (pvs l, (l.length : Int), (k : Int), pvs l, p, q, mapK l k, ())) (fun _ => some (.bool true)) (fun _ => some (.bool true)) (fin := lpS.run (law05_IdentNarrows_L1 lpS) ((l.length : Int), 0, p, q, pvs l, mapK l l.length, [], ())) (fun k hk rec => ?_) (fun rec => ?_) (by simp [pvs, mapK, tmapK, pvMap])).trans ?_
  · have h1 : (k : Int) < (l.length : Int) := by omega
    obtain ⟨n, hn⟩ := mapK_look l l[k] k
    simp only [law05_IdentNarrows_L2, decide_eq_true_eq, h1, if_true, idxP_nat, pvs_at hk, bind_some', cell_str, asStr, ident_ok _ (hl.2 _ (List.getElem_mem hk)), Ab.asBool, hn, Ab.asInt, mapK_has l l[k] k (by omega), mapK_succ hk, wrap_nat (show k < 9223372036854775807 by omega), ex_holds]
    cases validB l[k] with
    | false => rfl
    | true => rfl
  · simp only [law05_IdentNarrows_L2, decide_eq_true_eq, Int.lt_irrefl, if_false, clone_pvs l (room_small hn (by decide)), bind_some', asSl, if_true, scal_pvs, pvs_len]
  · cases h : uqE l with
    | none => exact narrows_tail l p q (uqE_none h).1 hn (by rw [show IntKind.i64.max = 9223372036854775807 from rfl]; omega)
    | some x => obtain ⟨k, b⟩ := x; cases b <;> rfl
end Go.Ab.Tt
