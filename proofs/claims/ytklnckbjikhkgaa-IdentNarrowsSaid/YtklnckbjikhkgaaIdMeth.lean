/- The methods of a table; lists of indices that are compared; sections of a list. -/
import Derived.Test.YtklnckbjikhkgaaIdOrd
import Derived.Test.YtklnckbjikhkgaaIdNew
namespace Go.Ab.Tt
set_option maxRecDepth 100000
set_option linter.unusedVariables false
set_option linter.unusedSimpArgs false

theorem ints_at {l : List Int} {k : Nat} (hk : k < l.length) : (ints l)[k]? = some (.int .i64 l[k]) := by simp [ints, hk]
theorem ints_len (l : List Int) : (ints l).length = l.length := by simp [ints]
theorem scal_ints (l : List Int) : (ints l).map scalP = ints l := by simp [ints, scalP, Function.comp]
theorem room_small {n c : Nat} (h : n ≤ 60) (hc : c ≤ 16) : n * c ≤ roomBound := by
  have : n * c ≤ 60 * 16 := Nat.mul_le_mul h hc
  exact Nat.le_trans this (by decide)

/-! ### Name, Len, Sorted -/
theorem name_unf (l : List Bytes) (os : List PV) (i : Int) : ident_Table_Name_M [tabC l os, .int .i64 i] =
    (bif decide (i < 0) then some true else some (decide (i ≥ ((pvs l).length : Int)))).bind fun r5 => if r5 = true then some (PV.tup [.str [], .bool false]) else (idxP (pvs l) i).bind fun p6 => (asStr (cell p6 0)).bind fun s7 => some (PV.tup [.str s7, .bool true]) := rfl
theorem name_in (l : List Bytes) (os : List PV) (k : Nat) (hk : k < l.length) : ident_Table_Name_M [tabC l os, .int .i64 (k : Int)] = some (.tup [.str l[k], .bool true]) := by
  rw [name_unf]
  have h1 : decide ((k : Int) < 0) = false := by simp
  have h2 : decide ((k : Int) ≥ ((pvs l).length : Int)) = false := by simp [pvs_len]; omega
  simp only [h1, h2, cond_false, bind_some', Bool.false_eq_true, if_false, idxP_nat, pvs_at hk, cell_str, asStr]
theorem name_out (l : List Bytes) (os : List PV) (i : Int) (hi : ¬ (0 ≤ i ∧ i < (l.length : Int))) : ident_Table_Name_M [tabC l os, .int .i64 i] = some (.tup [.str [], .bool false]) := by
  rw [name_unf, bif_or']
  have h : (decide (i < 0) || decide (i ≥ ((pvs l).length : Int))) = true := by
    simp only [pvs_len, Bool.or_eq_true, decide_eq_true_eq]; omega
  rw [h]; rfl
theorem len_tab (l : List Bytes) (os : List PV) : ident_Table_Len_M [tabC l os] = some (.int .i64 (l.length : Int)) := by
  have : ident_Table_Len_M [tabC l os] = some (.int .i64 ((pvs l).length : Int)) := rfl
  rw [this, pvs_len]
theorem clone_int (os : List PV) (h : os.length * 8 ≤ roomBound) : slices_Clone_int_int_M [.rs 1 os] = some (.rs 1 os) := by
  simp only [slices_Clone_int_int_M, slices_Clone_int_int, asSl, if_true, bind_some', List.nil_append]
  have hc : os.length * 8 ≤ roomBound ∧ 0 < 8 := ⟨h, by decide⟩
  rw [if_pos hc]
  cases os with
  | nil => rw [if_pos (show ([] : List PV).isEmpty = true from rfl)]; exact if_pos rfl
  | cons a l => rfl
theorem sorted_tab (l : List Bytes) (ns : List Int) (h : ns.length ≤ 60) : ident_Table_Sorted_M [tabC l (ints ns)] = some (.rs 1 (ints ns)) := by
  have : ident_Table_Sorted_M [tabC l (ints ns)] = (slices_Clone_int_int_M [.rs 1 (ints ns)]).bind fun r3 => (asSl 1 r3).bind fun es4 => some (PV.rs 1 (es4.map scalP)) := rfl
  rw [this, clone_int _ (by rw [ints_len]; exact room_small h (by decide))]
  simp only [bind_some', asSl, if_true, scal_ints]

/-! ### prefixes -/
def hasPre (p s : Bytes) : Bool := decide (p <+: s)
theorem pre_prog (s p : Bytes) : strings_HasPrefix_M [.str s, .str p] = some (.bool (hasPre p s)) := by
  simp only [strings_HasPrefix_M, strings_HasPrefix, asStr, bind_some', hasPre]
  by_cases h : p.length ≤ s.length
  · have h1 : decide ((s.length : Int) ≥ (p.length : Int)) = true := by simp; omega
    have h2 : (0 : Int) ≤ 0 ∧ 0 ≤ (p.length : Int) ∧ (p.length : Int) ≤ (s.length : Int) := ⟨by omega, by omega, by omega⟩
    simp only [h1, cond_true, if_pos h2, bind_some', Int.toNat_natCast, Int.toNat_zero, List.drop_zero, Option.some.injEq, PV.bool.injEq]
    rw [beq_d, Bool.eq_iff_iff]
    simp only [decide_eq_true_eq, List.prefix_iff_eq_take]
    exact eq_comm
  · have h1 : decide ((s.length : Int) ≥ (p.length : Int)) = false := by simp; omega
    simp only [h1, cond_false, bind_some', Option.some.injEq, PV.bool.injEq]
    symm; rw [decide_eq_false_iff_not]
    exact fun hp => h hp.length_le
theorem pre_ref (s p : Bytes) : ref05_Begins_M [.str s, .str p] = some (.bool (hasPre p s)) := pre_prog s p
def preI (l : List Bytes) (p : Bytes) (i : Int) : Bool := hasPre p (nmAt l i)
/-- indices of names -/
def idxOk (l : List Bytes) (ns : List Int) : Prop := ∀ x ∈ ns, ∃ k : Nat, k < l.length ∧ x = k
theorem prefix_tab (l : List Bytes) (ns : List Int) (p : Bytes) (hn : ns.length ≤ 60) (hi : idxOk l ns) : ident_Table_Prefix_M [tabC l (ints ns), .str p] = some (.rs 1 (ints (ns.filter (preI l p)))) := by
  have h0 : ident_Table_Prefix_M [tabC l (ints ns), .str p] = lpS.run (ident_Table_Prefix_L1 lpS) (.agg [.rs 1 (pvs l), .rm 9 ((mapK l l.length).map fun x => x.1) ((mapK l l.length).map fun x => x.2), .rs 1 (ints ns)], p, ints ns, ((ints ns).length : Int), 0, [], ()) := rfl
  rw [h0]
  refine loop_until (fun k => (.agg [.rs 1 (pvs l), .rm 9 ((mapK l l.length).map fun x => x.1) ((mapK l l.length).map fun x => x.2), .rs 1 (ints ns)], p, ints ns, ((ints ns).length : Int), (k : Int), ints ((ns.take k).filter (preI l p)), ())) ns.length (fun k hk rec => ?_) (fun rec => ?_) ?_ rfl
  · have h1 : (k : Int) < ((ints ns).length : Int) := by rw [ints_len]; omega
    obtain ⟨j, hj, e⟩ := hi ns[k] (List.getElem_mem hk)
    have hf : (ns.take (k + 1)).filter (preI l p) = (ns.take k).filter (preI l p) ++ if preI l p ns[k] = true then [ns[k]] else [] := by
      rw [List.take_succ_eq_append_getElem hk, List.filter_append]
      congr 1
      by_cases h : preI l p ns[k] = true <;> simp [h]
    have hp : preI l p ns[k] = hasPre p l[j] := by rw [e]; unfold preI; rw [nmAt_nat hj]
    have hle : ((ns.take k).filter (preI l p)).length + 1 ≤ 60 := by
      have := List.length_filter_le (preI l p) (ns.take k)
      rw [List.length_take] at this; omega
    have hc : ∀ x, (ints ((ns.take k).filter (preI l p)) ++ [x]).length * 8 ≤ roomBound ∧ 0 < 8 := fun x => ⟨by rw [List.length_append, ints_len]; exact room_small hle (by decide), by decide⟩
    have hcell : cell (PV.agg [.rs 1 (pvs l), .rm 9 ((mapK l l.length).map fun x => x.1) ((mapK l l.length).map fun x => x.2), .rs 1 (ints ns)]) 0 = .rs 1 (pvs l) := rfl
    have hint : ∀ n : Int, cell (.int .i64 n) 0 = .int .i64 n := fun _ => rfl
    simp only [ident_Table_Prefix_L1, decide_eq_true_eq, h1, if_true, idxP_nat, ints_at hk, bind_some', hint, Ab.asInt, hcell, asSl, e, pvs_at hj, cell_str, asStr, pre_prog, Ab.asBool, wrap_nat (show k < 9223372036854775807 by omega)]
    rw [hf, hp]
    by_cases hb : hasPre p l[j] = true
    · rw [if_pos hb, if_pos hb, if_pos (hc _), ints_snoc, e]; rfl
    · rw [if_neg hb, if_neg hb, List.append_nil]; rfl
  · simp only [ident_Table_Prefix_L1, ints_len, decide_eq_true_eq, Int.lt_irrefl, if_false, List.take_length]
  · have := rounds_gt; have := maxLen_lt; have : (60 : Nat) < maxLen := by decide
    omega

/-! ### lists of indices compared -/
theorem same_ok (a b : List Int) (hn : a.length ≤ 60) : law05_same_M [.rs 1 (ints a), .rs 1 (ints b)] = some (.bool (decide (a = b))) := by
  have hl : (60 : Nat) < maxLen := by decide
  have hr := rounds_gt
  have hint : ∀ n : Int, cell (.int .i64 n) 0 = .int .i64 n := fun _ => rfl
  simp only [law05_same_M, law05_same, asSl, if_true, bind_some', ints_len]
  by_cases hab : a.length = b.length
  · rw [if_neg (by simp [hab])]
    refine (loop_scan' (fun k => (ints a, ints b, (k : Int), ())) a.length (fun k => if a[k]? = b[k]? then none else some (some (.bool false))) (fin := some (.bool true)) (fun k hk rec => ?_) (fun rec => ?_) (by omega) rfl).trans ?_
    · have h1 : (k : Int) < (a.length : Int) := by omega
      have hkb : k < b.length := by omega
      simp only [law05_same_L1, ints_len, decide_eq_true_eq, h1, if_true, idxP_nat, ints_at hk, ints_at hkb, bind_some', hint, Ab.asInt, wrap_nat (show k < 9223372036854775807 by omega), List.getElem?_eq_getElem hk, List.getElem?_eq_getElem hkb, Option.some.injEq, bne_d, Bool.not_eq_true', decide_eq_false_iff_not]
      by_cases h : a[k] = b[k]
      · rw [if_neg (by simpa using h), if_pos h]; rfl
      · rw [if_pos h, if_neg h]; rfl
    · simp only [law05_same_L1, ints_len, decide_eq_true_eq, Int.lt_irrefl, if_false]
    · cases h : (List.range a.length).findSome? (fun k => if a[k]? = b[k]? then none else some (some (PV.bool false))) with
      | none =>
        rw [List.findSome?_eq_none_iff] at h
        have : a = b := List.ext_getElem? fun k => by
          by_cases hk : k < a.length
          · have := h k (List.mem_range.2 hk)
            by_cases e : a[k]? = b[k]?
            · exact e
            · rw [if_neg e] at this; cases this
          · rw [List.getElem?_eq_none (by omega), List.getElem?_eq_none (by omega)]
        rw [decide_eq_true this]; rfl
      | some r =>
        obtain ⟨k, _, hk⟩ := List.exists_of_findSome?_eq_some h
        by_cases e : a[k]? = b[k]?
        · rw [if_pos e] at hk; cases hk
        · rw [if_neg e] at hk
          cases hk
          rw [decide_eq_false (fun h => e (by rw [h]))]; rfl
  · rw [if_pos (by simp; omega), decide_eq_false (fun h => hab (by rw [h]))]

/-! ### sections -/
theorem section_ok (x b y : List Int) (hn : (x ++ b ++ y).length ≤ 60) : law05_section_M [.rs 1 (ints (x ++ b ++ y)), .rs 1 (ints b)] = some (.bool true) := by
  have hl : (60 : Nat) < maxLen := by decide
  have hm := maxLen_lt
  have hr := rounds_gt
  have hlen : (x ++ b ++ y).length = x.length + b.length + y.length := by simp; omega
  simp only [law05_section_M, law05_section, asSl, if_true, bind_some']
  refine (loop_scan' (fun k => (ints (x ++ b ++ y), ints b, (k : Int), ())) (x.length + y.length + 1) (fun k => if ((x ++ b ++ y).drop k).take b.length = b then some (some (.bool true)) else none) (fin := some (.bool false)) (fun k hk rec => ?_) (fun rec => ?_) (by omega) rfl).trans ?_
  · have hw : IntKind.i64.wrap ((k : Int) + (b.length : Int)) = ((k + b.length : Nat) : Int) := by rw [wrap_in (by omega) (by omega)]; omega
    have h1 : ((k + b.length : Nat) : Int) ≤ ((x ++ b ++ y).length : Int) := by rw [hlen]; omega
    have hc : 0 ≤ (k : Int) ∧ (k : Int) ≤ ((k + b.length : Nat) : Int) ∧ True ∧ True ∧ 1 ≠ 0 := ⟨by omega, by omega, trivial, trivial, by omega⟩
    have hs : List.drop (Int.toNat (k : Int)) (List.take (Int.toNat ((k + b.length : Nat) : Int)) (ints (x ++ b ++ y))) = ints (((x ++ b ++ y).drop k).take b.length) := by
      rw [Int.toNat_natCast, Int.toNat_natCast, List.drop_take, Nat.add_sub_cancel_left]
      simp only [ints, List.map_take, List.map_drop]
    simp only [law05_section_L1, ints_len, hw, decide_eq_true_eq, h1, if_true, hs]
    rw [if_pos hc, same_ok _ _ (by rw [List.length_take, List.length_drop]; omega)]
    simp only [bind_some', Ab.asBool, decide_eq_true_eq, wrap_nat (show k < 9223372036854775807 by omega)]
    by_cases h : ((x ++ b ++ y).drop k).take b.length = b
    · rw [if_pos h, if_pos h]; rfl
    · rw [if_neg h, if_neg h]; rfl
  · have hw : IntKind.i64.wrap (((x.length + y.length + 1 : Nat) : Int) + (b.length : Int)) = ((x.length + y.length + 1 + b.length : Nat) : Int) := by rw [wrap_in (by omega) (by omega)]; omega
    have h1 : ¬ ((x.length + y.length + 1 + b.length : Nat) : Int) ≤ ((x ++ b ++ y).length : Int) := by rw [hlen]; omega
    simp only [law05_section_L1, ints_len, hw, decide_eq_true_eq, h1, if_false]
  · have hx : ((x ++ b ++ y).drop x.length).take b.length = b := by
      rw [List.append_assoc, List.drop_left, List.take_left]
    cases h : (List.range (x.length + y.length + 1)).findSome? (fun k => if ((x ++ b ++ y).drop k).take b.length = b then some (some (PV.bool true)) else none) with
    | none =>
      rw [List.findSome?_eq_none_iff] at h
      have := h x.length (List.mem_range.2 (by omega))
      rw [if_pos hx] at this; cases this
    | some r =>
      obtain ⟨k, _, hk⟩ := List.exists_of_findSome?_eq_some h
      by_cases e : ((x ++ b ++ y).drop k).take b.length = b
      · rw [if_pos e] at hk; cases hk; rfl
      · rw [if_neg e] at hk; cases hk
/-- what a sorted list has of a set without gaps -/
theorem filter_head {A : Type} (R : A → A → Prop) (P : A → Bool) (hc : ∀ x y z, R x y → R y z → P x = true → P z = true → P y = true) : ∀ (x : A) (t : List A), (x :: t).Pairwise R → P x = true → ∃ y, t = t.filter P ++ y
  | _, [], _, _ => ⟨[], rfl⟩
  | x, y :: t, h, hx => by
    obtain ⟨h1, h2⟩ := List.pairwise_cons.1 h
    by_cases hy : P y = true
    · obtain ⟨z, hz⟩ := filter_head R P hc y t h2 hy
      exact ⟨z, by rw [List.filter_cons_of_pos hy, List.cons_append, ← hz]⟩
    · have : t.filter P = [] := by
        rw [List.filter_eq_nil_iff]
        intro z hz hp
        exact hy (hc x y z (h1 y (by simp)) ((List.pairwise_cons.1 h2).1 z hz) hx hp)
      exact ⟨y :: t, by rw [List.filter_cons_of_neg hy, this]; rfl⟩
theorem filter_section {A : Type} (R : A → A → Prop) (P : A → Bool) (hc : ∀ x y z, R x y → R y z → P x = true → P z = true → P y = true) : ∀ (l : List A), l.Pairwise R → ∃ x y, l = x ++ l.filter P ++ y
  | [], _ => ⟨[], [], rfl⟩
  | a :: t, h => by
    by_cases ha : P a = true
    · obtain ⟨y, hy⟩ := filter_head R P hc a t h ha
      exact ⟨[], y, by rw [List.filter_cons_of_pos ha, List.nil_append, List.cons_append, ← hy]⟩
    · obtain ⟨x, y, hy⟩ := filter_section R P hc t (List.pairwise_cons.1 h).2
      exact ⟨a :: x, y, by rw [List.filter_cons_of_neg ha, List.cons_append, List.cons_append, ← hy]⟩
/-- what lies between two strings with a prefix has it -/
theorem pre_conv : ∀ (p x y z : Bytes), Op.bytesLess y x = false → Op.bytesLess z y = false → p <+: x → p <+: z → p <+: y
  | [], x, y, z, _, _, _, _ => List.nil_prefix
  | c :: p, x, y, z, h1, h2, hx, hz => by
    obtain ⟨x', rfl⟩ := hx
    obtain ⟨z', rfl⟩ := hz
    cases y with
    | nil => simp [Op.bytesLess] at h1
    | cons d y =>
      simp only [List.cons_append, Op.bytesLess, Bool.or_eq_false_iff, Bool.and_eq_false_iff, decide_eq_false_iff_not, beq_eq_false_iff_ne, ne_eq] at h1 h2
      have hcd : c = d := UInt8.le_antisymm (UInt8.not_lt.1 h1.1) (UInt8.not_lt.1 h2.1)
      subst hcd
      have e1 : Op.bytesLess y (p ++ x') = false := by rcases h1.2 with h | h; exact absurd rfl h; exact h
      have e2 : Op.bytesLess (p ++ z') y = false := by rcases h2.2 with h | h; exact absurd rfl h; exact h
      have := pre_conv p (p ++ x') y (p ++ z') e1 e2 (List.prefix_append ..) (List.prefix_append ..)
      exact List.cons_prefix_cons.2 ⟨rfl, this⟩
end Go.Ab.Tt
