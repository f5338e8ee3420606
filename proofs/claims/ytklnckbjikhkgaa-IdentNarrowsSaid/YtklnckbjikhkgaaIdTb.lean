/- The table that New makes: its order, and what its methods answer. -/
import Derived.Test.YtklnckbjikhkgaaIdUq
namespace Go.Ab.Tt
set_option maxRecDepth 100000
set_option linter.unusedVariables false
set_option linter.unusedSimpArgs false

theorem cmpB_neg (a b : Bytes) : cmpB a b < 0 ↔ Op.bytesLess a b = true := by
  unfold cmpB
  by_cases h : Op.bytesLess a b = true
  · simp [h]
  · rw [if_neg h]
    by_cases e : a = b
    · simp [e, less_irrefl]
    · rw [if_neg e]; simp [h]
theorem nodup_inj {A : Type} {l : List A} (hd : l.Nodup) {i j : Nat} {hi : i < l.length} {hj : j < l.length} (e : l[i] = l[j]) : i = j := by
  have h := List.pairwise_iff_getElem.1 (List.nodup_iff_pairwise_ne.1 hd)
  rcases Nat.lt_trichotomy i j with h1 | h1 | h1
  · exact absurd e (h i j hi hj h1)
  · exact h1
  · exact absurd e.symm (h j i hj hi h1)
def iota (n : Nat) : List Int := (List.range n).map fun (k : Nat) => (k : Int)
theorem iota_mem {n : Nat} {a : Int} (h : a ∈ iota n) : ∃ k : Nat, k < n ∧ a = k := by
  obtain ⟨k, hk, rfl⟩ := List.mem_map.1 h
  exact ⟨k, List.mem_range.1 hk, rfl⟩
def leN (l : List Bytes) (a b : Int) : Bool := !Op.bytesLess (nmAt l b) (nmAt l a)
def ordN (l : List Bytes) : List Int := (iota l.length).mergeSort (leN l)
/-- a table's cells: the names, the map, the order -/
def tabC (l : List Bytes) (os : List PV) : PV := .rp [.rs 1 (pvs l), .rm 9 ((mapK l l.length).map fun x => x.1) ((mapK l l.length).map fun x => x.2), .rs 1 os]
theorem nmAt_nat {l : List Bytes} {k : Nat} (hk : k < l.length) : nmAt l (k : Int) = l[k] := by simp [nmAt, hk]
theorem less_asymm {a b : Bytes} (h : Op.bytesLess a b = true) : Op.bytesLess b a = false := by
  cases h2 : Op.bytesLess b a with
  | false => rfl
  | true => have := less_trans h h2; rw [less_irrefl] at this; cases this
theorem leN_trans (l : List Bytes) (a b c : Int) (h1 : leN l a b = true) (h2 : leN l b c = true) : leN l a c = true := by
  unfold leN at *
  simp only [Bool.not_eq_true'] at *
  cases h : Op.bytesLess (nmAt l c) (nmAt l a) with
  | false => rfl
  | true =>
    cases h3 : Op.bytesLess (nmAt l a) (nmAt l b) with
    | true => have := less_trans h h3; rw [h2] at this; cases this
    | false =>
      have e := less_total _ _ h3 h1
      rw [← e, h] at h2; cases h2
theorem leN_total (l : List Bytes) (a b : Int) : (leN l a b || leN l b a) = true := by
  unfold leN
  cases h : Op.bytesLess (nmAt l b) (nmAt l a) with
  | false => rfl
  | true => rw [less_asymm h]; rfl
theorem ord_fits (l : List Bytes) (hd : l.Nodup) : SortFits (fun c a b => ident_New_1_M [a, b, .rp [tabC l c]]) (iota l.length) (ordN l) (fun a b => cmpB (nmAt l a) (nmAt l b)) where
  perm := List.mergeSort_perm _ _
  reads := fun c hc hm a ha b hb => by
    obtain ⟨i, hi, rfl⟩ := iota_mem ha
    obtain ⟨j, hj, rfl⟩ := iota_mem hb
    simp only [ident_New_1_M, tabC, ident_New_1, Ab.asInt, if_true, bind_some', asSl, idxP_nat, pvs_at hi, pvs_at hj, cell_str, asStr, cmp_prog, nmAt_nat hi, nmAt_nat hj]
  irrefl := fun a _ => by rw [cmpB_neg, less_irrefl]; simp
  trans := fun a _ b _ c _ h1 h2 => by rw [cmpB_neg] at *; exact less_trans h1 h2
  total := fun a ha b hb h1 h2 => by
    rw [cmpB_neg, Bool.not_eq_true] at h1 h2
    have e := less_total _ _ h1 h2
    obtain ⟨i, hi, rfl⟩ := iota_mem ha
    obtain ⟨j, hj, rfl⟩ := iota_mem hb
    rw [nmAt_nat hi, nmAt_nat hj] at e
    rw [nodup_inj hd e]
  sorted := by
    refine (List.pairwise_mergeSort (leN_trans l) (leN_total l) _).imp fun {a b} h => ?_
    rw [cmpB_neg]
    unfold leN at h
    simpa using h
theorem sort_new (l : List Bytes) (hd : l.Nodup) : sortS (fun c a b => ident_New_1_M [a, b, .rp [tabC l c]]) (ints (iota l.length)) = some (ints (ordN l)) := sortS_eq (ord_fits l hd)

/-! ### the methods -/
theorem zip_fs {A B : Type} : ∀ m : List (A × B), (m.map fun x => x.1).zip (m.map fun x => x.2) = m
  | [] => rfl
  | x :: m => by simp [zip_fs m]
theorem mapK_at (l : List Bytes) (hd : l.Nodup) (s : Bytes) : ∀ k, k ≤ l.length → ∀ j, j < k → (hj : j < l.length) → l[j] = s → mlook (.str s) (.int .i64 0) (mapK l k) = .int .i64 j
  | 0, _, j, h, _, _ => absurd h (by omega)
  | k + 1, hk, j, h, hj, e => by
    have ih := mapK_at l hd s k (by omega)
    unfold mapK at ih ⊢
    rw [mlook_pv str_key, tmapK, tlook_put]
    have hg : l.getD k [] = l[k] := by simp [List.getD, show k < l.length by omega]
    rw [hg]
    by_cases hx : s = l[k]
    · rw [if_pos hx]
      have : j = k := nodup_inj hd (e.trans hx)
      rw [this]
    · rw [if_neg hx]
      have hjk : j < k := by
        rcases Nat.lt_or_ge j k with h1 | h1
        · exact h1
        · have : j = k := by omega
          subst this; exact absurd e.symm hx
      have := ih j hjk hj e
      rw [mlook_pv str_key] at this
      exact this
theorem plc_at (l : List Bytes) (hd : l.Nodup) (j : Nat) (hj : j < l.length) : plc l l[j] = j := by
  have h0 := (plc_mem l l[j]).2 (List.getElem_mem hj)
  unfold plc at h0 ⊢
  cases h : (List.range l.length).findSome? (fun (k : Nat) => (l[k]?).bind fun x => if x = l[j] then some (k : Int) else none) with
  | none => rw [h] at h0; simp at h0
  | some i =>
    obtain ⟨k, hkr, hk⟩ := List.exists_of_findSome?_eq_some h
    rw [List.getElem?_eq_getElem (List.mem_range.1 hkr), Option.bind_some] at hk
    by_cases hx : l[k]'(List.mem_range.1 hkr) = l[j]
    · rw [if_pos hx] at hk
      cases hk
      have : k = j := nodup_inj hd hx
      rw [this]
    · rw [if_neg hx] at hk; cases hk
theorem find_unf (l : List Bytes) (os : List PV) (s : Bytes) : ident_Table_Find_M [tabC l os, .str s] = (Ab.asInt IntKind.i64 (mlook (.str s) (.int .i64 0) (((mapK l l.length).map fun x => x.1).zip ((mapK l l.length).map fun x => x.2)))).bind fun n7 =>
    if (!mhas (.str s) (((mapK l l.length).map fun x => x.1).zip ((mapK l l.length).map fun x => x.2))) = true then some (.tup [.int .i64 0, .bool false]) else some (.tup [.int .i64 n7, .bool true]) := rfl
theorem find_tab (l : List Bytes) (hd : l.Nodup) (os : List PV) (s : Bytes) : ident_Table_Find_M [tabC l os, .str s] = some (.tup [.int .i64 (if s ∈ l then plc l s else 0), .bool (decide (s ∈ l))]) := by
  have hh := mapK_has l s l.length (Nat.le_refl _)
  rw [List.take_length] at hh
  rw [find_unf, zip_fs]
  by_cases hm : s ∈ l
  · obtain ⟨j, hj, e⟩ := List.getElem_of_mem hm
    have h1 := mapK_at l hd s l.length (Nat.le_refl _) j hj hj e
    have h2 := plc_at l hd j hj
    rw [e] at h2
    rw [h1, hh, decide_eq_true hm, if_pos hm, h2]; rfl
  · obtain ⟨n, hn⟩ := mapK_look l s l.length
    rw [hn, hh, decide_eq_false hm, if_neg hm]; rfl
end Go.Ab.Tt
