/- The document's Prefix: each name is laid into its place; it is the section of the sorted names. -/
import Derived.Test.YtklnckbjikhkgaaIdMeth
namespace Go.Ab.Tt
set_option maxRecDepth 100000
set_option linter.unusedVariables false
set_option linter.unusedSimpArgs false

def cutN {A : Type} (P : A → Bool) : List A → Nat
  | [] => 0
  | a :: t => if P a = true then cutN P t + 1 else 0
theorem cutN_le {A : Type} (P : A → Bool) : ∀ l : List A, cutN P l ≤ l.length
  | [] => Nat.le_refl _
  | a :: t => by
    unfold cutN
    have := cutN_le P t
    split <;> simp <;> omega
theorem cutN_lt {A : Type} (P : A → Bool) : ∀ (l : List A) (m : Nat) (h : m < cutN P l) (hl : m < l.length), P l[m] = true
  | [], m, h, hl => by simp at hl
  | a :: t, m, h, hl => by
    unfold cutN at h
    split at h
    · rename_i ha
      cases m with
      | zero => exact ha
      | succ m => exact cutN_lt P t m (by omega) (by simpa using hl)
    · omega
theorem cutN_at {A : Type} (P : A → Bool) : ∀ (l : List A) (hl : cutN P l < l.length), ¬ P l[cutN P l] = true
  | [], hl => by simp at hl
  | a :: t, hl => by
    by_cases ha : P a = true
    · have e : cutN P (a :: t) = cutN P t + 1 := by simp [cutN, ha]
      have := cutN_at P t (by rw [e] at hl; simpa using hl)
      simpa [e] using this
    · have e : cutN P (a :: t) = 0 := by simp [cutN, ha]
      simpa [e] using ha

def beforeI (l : List Bytes) (i : Int) (o : Int) : Bool := decide (cmpB (nmAt l o) (nmAt l i) ≤ 0)
def insI (l : List Bytes) (i : Int) (out : List Int) : List Int := out.take (cutN (beforeI l i) out) ++ [i] ++ out.drop (cutN (beforeI l i) out)
def insR (l : List Bytes) (p : Bytes) : Nat → List Int
  | 0 => []
  | k + 1 => if preI l p (k : Int) = true then insI l k (insR l p k) else insR l p k
theorem insI_perm (l : List Bytes) (i : Int) (out : List Int) : (insI l i out).Perm (i :: out) := by
  unfold insI
  rw [List.append_assoc, List.singleton_append]
  have h := List.perm_middle (a := i) (l₁ := out.take (cutN (beforeI l i) out)) (l₂ := out.drop (cutN (beforeI l i) out))
  rwa [List.take_append_drop] at h
theorem insR_perm (l : List Bytes) (p : Bytes) : ∀ k, (insR l p k).Perm ((iota k).filter (preI l p))
  | 0 => by simp [insR, iota]
  | k + 1 => by
    have ih := insR_perm l p k
    rw [iota_succ, List.filter_append]
    unfold insR
    by_cases h : preI l p (k : Int) = true
    · rw [if_pos h]
      have e : [(k : Int)].filter (preI l p) = [(k : Int)] := by simp [h]
      rw [e]
      exact (insI_perm l k _).trans ((ih.cons _).trans (List.perm_append_singleton _ _).symm)
    · rw [if_neg h]
      have e : [(k : Int)].filter (preI l p) = [] := by simp [h]
      rw [e, List.append_nil]; exact ih
/-- in the order of the names -/
def RN (l : List Bytes) (a b : Int) : Prop := Op.bytesLess (nmAt l b) (nmAt l a) = false
theorem RN_le {l : List Bytes} {a b : Int} : cmpB (nmAt l a) (nmAt l b) ≤ 0 ↔ RN l a b := by
  unfold RN
  rcases cmpB_cases (nmAt l a) (nmAt l b) with ⟨h, k⟩ | ⟨h, k⟩ | ⟨h, k⟩
  · rw [h]; exact ⟨fun _ => less_asymm k, fun _ => by omega⟩
  · rw [h, k]; exact ⟨fun _ => less_irrefl _, fun _ => by omega⟩
  · rw [h, k]; exact ⟨fun e => by omega, fun e => by cases e⟩
theorem insI_sorted (l : List Bytes) (i : Int) (out : List Int) (h : out.Pairwise (RN l)) : (insI l i out).Pairwise (RN l) := by
  unfold insI
  generalize hj : cutN (beforeI l i) out = j
  have hle : j ≤ out.length := hj ▸ cutN_le _ _
  have h' := h
  rw [← List.take_append_drop j out] at h'
  obtain ⟨h1, h2, h3⟩ := List.pairwise_append.1 h'
  rw [List.append_assoc, List.singleton_append]
  refine List.pairwise_append.2 ⟨h1, List.pairwise_cons.2 ⟨fun b hb => ?_, h2⟩, fun a ha b hb => ?_⟩
  · obtain ⟨m, hm, rfl⟩ := List.getElem_of_mem hb
    rw [List.length_drop] at hm
    have hat := cutN_at (beforeI l i) out (by omega)
    subst hj
    have hi : cmpB (nmAt l i) (nmAt l out[cutN (beforeI l i) out]) ≤ 0 := by
      have hat : ¬ decide (cmpB (nmAt l out[cutN (beforeI l i) out]) (nmAt l i) ≤ 0) = true := hat
      simp only [decide_eq_true_eq] at hat
      rw [cmpB_swap]; omega
    rw [List.getElem_drop]
    refine RN_le.1 (cmpB_trans _ _ _ hi ?_)
    by_cases hm0 : m = 0
    · subst hm0
      have : cmpB (nmAt l out[cutN (beforeI l i) out]) (nmAt l out[cutN (beforeI l i) out]) = 0 := (cmpB_zero _ _).2 rfl
      simp only [Nat.add_zero]; omega
    · exact RN_le.2 (List.pairwise_iff_getElem.1 h _ _ (by omega) (by omega) (by omega))
  · rcases List.mem_cons.1 hb with rfl | hb
    · obtain ⟨m, hm, rfl⟩ := List.getElem_of_mem ha
      rw [List.length_take] at hm
      have := cutN_lt (beforeI l b) out m (by omega) (by omega)
      unfold beforeI at this
      rw [List.getElem_take]
      exact RN_le.1 (by simpa using this)
    · exact h3 a ha b hb
theorem insR_sorted (l : List Bytes) (p : Bytes) : ∀ k, (insR l p k).Pairwise (RN l)
  | 0 => by simp [insR]
  | k + 1 => by
    unfold insR
    split
    · exact insI_sorted l k _ (insR_sorted l p k)
    · exact insR_sorted l p k
theorem ord_perm (l : List Bytes) : (ordN l).Perm (iota l.length) := List.mergeSort_perm _ _
theorem ord_sorted (l : List Bytes) : (ordN l).Pairwise (RN l) := by
  refine (List.pairwise_mergeSort (leN_trans l) (leN_total l) _).imp fun {a b} h => ?_
  unfold leN at h
  simpa [RN] using h
theorem ord_len (l : List Bytes) : (ordN l).length = l.length := by
  rw [(ord_perm l).length_eq]; simp [iota]
theorem ord_idx (l : List Bytes) : idxOk l (ordN l) := fun x hx => by
  obtain ⟨k, hk, e⟩ := iota_mem ((ord_perm l).mem_iff.1 hx)
  exact ⟨k, hk, e⟩
theorem RN_anti {l : List Bytes} (hd : l.Nodup) {a b : Int} (ha : ∃ k : Nat, k < l.length ∧ a = k) (hb : ∃ k : Nat, k < l.length ∧ b = k) (h1 : RN l a b) (h2 : RN l b a) : a = b := by
  obtain ⟨i, hi, rfl⟩ := ha
  obtain ⟨j, hj, rfl⟩ := hb
  have e := less_total _ _ h2 h1
  rw [nmAt_nat hi, nmAt_nat hj] at e
  rw [nodup_inj hd e]
theorem insR_ord (l : List Bytes) (hd : l.Nodup) (p : Bytes) : insR l p l.length = (ordN l).filter (preI l p) := by
  have hp := insR_perm l p l.length
  have ho := (ord_perm l).filter (preI l p)
  refine List.Perm.eq_of_pairwise (le := RN l) (fun a b ha hb h h' => ?_) (insR_sorted l p _) ((ord_sorted l).filter _) (hp.trans ho.symm)
  refine RN_anti hd ?_ ?_ h h'
  · have := (List.mem_filter.1 (hp.mem_iff.1 ha)).1
    obtain ⟨k, hk, e⟩ := iota_mem this
    exact ⟨k, hk, e⟩
  · exact ord_idx l b (List.mem_filter.1 hb).1
theorem insR_idx (l : List Bytes) (p : Bytes) (k : Nat) (hk : k ≤ l.length) : idxOk l (insR l p k) := fun x hx => by
  obtain ⟨j, hj, e⟩ := iota_mem (List.mem_filter.1 ((insR_perm l p k).mem_iff.1 hx)).1
  exact ⟨j, by omega, e⟩
theorem insR_len (l : List Bytes) (p : Bytes) (k : Nat) : (insR l p k).length ≤ k := by
  rw [(insR_perm l p k).length_eq]
  refine Nat.le_trans (List.length_filter_le _ _) ?_
  simp [iota]

theorem ref_prefix (l : List Bytes) (p : Bytes) (hn : l.length ≤ 60) (hs : ∀ s ∈ l, s.length ≤ maxLen) : ref05_Prefix_M [.rs 1 (pvs l), .str p] = some (.rs 1 (ints (insR l p l.length))) := by
  have hl : (60 : Nat) < maxLen := by decide
  have hm := maxLen_lt
  have hr := rounds_gt
  have hint : ∀ n : Int, cell (.int .i64 n) 0 = .int .i64 n := fun _ => rfl
  simp only [ref05_Prefix_M, ref05_Prefix, asSl, if_true, bind_some', asStr]
  refine loop_until (fun k => (pvs l, p, ints (insR l p k), (k : Int), ())) l.length (fun k hk rec => ?_) (fun rec => ?_) (by omega) rfl
  · have h1 : (k : Int) < (l.length : Int) := by omega
    simp only [ref05_Prefix_L2, pvs_len, decide_eq_true_eq, h1, if_true, idxP_nat, pvs_at hk, bind_some', cell_str, asStr, pre_ref, Ab.asBool, wrap_nat (show k < 9223372036854775807 by omega)]
    have hp : preI l p (k : Int) = hasPre p l[k] := by unfold preI; rw [nmAt_nat hk]
    conv => rhs; rw [insR, hp]
    by_cases hb : hasPre p l[k] = true
    · rw [if_neg (by simp [hb]), if_pos hb]
      generalize hout : insR l p k = out
      have hol : out.length ≤ k := hout ▸ insR_len l p k
      have hoi : idxOk l out := hout ▸ insR_idx l p k (by omega)
      generalize hj : cutN (beforeI l k) out = j
      have hjl : j ≤ out.length := hj ▸ cutN_le _ _
      have hcell : ∀ (m : Nat) (hm : m < out.length), ∃ (t : Nat) (ht : t < l.length), out[m] = (t : Int) ∧ beforeI l k out[m] = decide (cmpB l[t] l[k] ≤ 0) := fun m hm => by
        obtain ⟨t, ht, e⟩ := hoi out[m] (List.getElem_mem hm)
        exact ⟨t, ht, e, by unfold beforeI; rw [e, nmAt_nat ht, nmAt_nat hk]⟩
      refine loop_until (fun m => (pvs l, p, ints out, (k : Int), (m : Int), ())) j (fun m hmj rec2 => ?_) (fun rec2 => ?_) (by omega) rfl
      · have hmo : m < out.length := by omega
        obtain ⟨t, ht, e, hbf⟩ := hcell m hmo
        have h2 : decide ((m : Int) < (out.length : Int)) = true := by simp; omega
        have h3 := cutN_lt (beforeI l k) out m (by omega) hmo
        rw [hbf] at h3
        simp only [ref05_Prefix_L1, ints_len, h2, cond_true, idxP_nat, ints_at hmo, bind_some', hint, Ab.asInt, if_true, e, pvs_at ht, pvs_at hk, cell_str, asStr, cmp_ref _ _ (hs _ (List.getElem_mem ht)) (hs _ (List.getElem_mem hk)), h3, wrap_nat (show m < 9223372036854775807 by omega)]
      · have hcond : (bif decide ((j : Int) < ((ints out).length : Int)) then (idxP (ints out) (j : Int)).bind fun p10 => (Ab.asInt IntKind.i64 (cell p10 0)).bind fun n11 => (idxP (pvs l) n11).bind fun p12 => (asStr (cell p12 0)).bind fun s13 => (idxP (pvs l) (k : Int)).bind fun p14 => (asStr (cell p14 0)).bind fun s15 => (ref05_Compare_M [PV.str s13, PV.str s15]).bind fun r16 => (Ab.asInt IntKind.i64 r16).bind fun n17 => some (decide (n17 ≤ 0)) else some false) = some false := by
          by_cases hjo : j < out.length
          · obtain ⟨t, ht, e, hbf⟩ := hcell j hjo
            have h2 : decide ((j : Int) < (out.length : Int)) = true := by simp; omega
            have h3 := cutN_at (beforeI l k) out (by omega)
            simp only [hj] at h3
            rw [hbf] at h3
            simp only [ints_len, h2, cond_true, idxP_nat, ints_at hjo, bind_some', hint, Ab.asInt, if_true, e, pvs_at ht, pvs_at hk, cell_str, asStr, cmp_ref _ _ (hs _ (List.getElem_mem ht)) (hs _ (List.getElem_mem hk))]
            simpa using h3
          · have h2 : decide ((j : Int) < ((ints out).length : Int)) = false := by simp [ints_len]; omega
            rw [h2]; rfl
        unfold ref05_Prefix_L1
        simp only [hcond, bind_some', Bool.false_eq_true, if_false]
        have hroom : ∀ n : Nat, n ≤ 60 → n * 8 ≤ roomBound ∧ 0 < 8 := fun n h => ⟨room_small h (by decide), by decide⟩
        have g1 : (0 : Int) ≤ 0 ∧ 0 ≤ (j : Int) ∧ (j : Int) ≤ ((ints out).length : Int) ∧ True ∧ 1 ≠ 0 := ⟨by omega, by omega, by rw [ints_len]; omega, trivial, by omega⟩
        have g2 : 0 ≤ (j : Int) ∧ (j : Int) ≤ ((ints out).length : Int) ∧ ((ints out).length : Int) ≤ ((ints out).length : Int) ∧ True ∧ 1 ≠ 0 := ⟨by omega, by rw [ints_len]; omega, by omega, trivial, by omega⟩
        have e1 : ([] ++ List.drop (Int.toNat 0) (List.take (Int.toNat (j : Int)) (ints out)) : List PV) = ints (out.take j) := by simp [ints, List.map_take]
        have e2 : List.drop (Int.toNat (j : Int)) (List.take (Int.toNat ((ints out).length : Int)) (ints out)) = ints (out.drop j) := by
          rw [Int.toNat_natCast, Int.toNat_natCast, List.take_length]; simp [ints, List.map_drop]
        have e3 : ints (out.take j) ++ [.int .i64 (k : Int)] ++ ints (out.drop j) = ints (insI l k out) := by
          unfold insI; rw [hj]; simp [ints]
        have l1 : (ints (out.take j)).length ≤ 60 := by rw [ints_len, List.length_take]; omega
        have l2 : (ints (out.take j) ++ [PV.int .i64 (k : Int)]).length ≤ 60 := by rw [List.length_append, ints_len, List.length_take]; simp; omega
        have l3 : (ints (insI l k out)).length ≤ 60 := by rw [ints_len, (insI_perm l k out).length_eq]; simp; omega
        rw [if_pos g1, e1, if_pos (hroom _ l1), if_pos (hroom _ l2), if_pos g2, e2, e3, if_pos (hroom _ l3), wrap_nat (show k < 9223372036854775807 by omega)]
    · rw [if_pos (by simp [hb]), if_neg hb]
  · simp only [ref05_Prefix_L2, pvs_len, decide_eq_true_eq, Int.lt_irrefl, if_false]
end Go.Ab.Tt
