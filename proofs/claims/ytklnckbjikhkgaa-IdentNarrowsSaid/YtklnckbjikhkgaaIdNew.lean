/- The loops of New, wherever they stand: the names are looked at one by one, then their order is made. -/
import Derived.Test.YtklnckbjikhkgaaIdTb
namespace Go.Ab.Tt
set_option maxRecDepth 100000
set_option linter.unusedVariables false
set_option linter.unusedSimpArgs false

/-- the first bad name, and whether it is invalid (else it came before) -/
def uqE (l : List Bytes) : Option (Nat × Bool) := (List.range l.length).findSome? fun k => (l[k]?).bind fun s => if validB s = true then (if s ∈ l.take k then some (k, false) else none) else some (k, true)
theorem uq_eq (l : List Bytes) : uq l = match uqE l with | none => some (res 0 0) | some (k, true) => some (res k 12) | some (k, false) => some (res k 6) := by
  unfold uq uqE
  rw [show (List.range l.length).findSome? (badU l) = ((List.range l.length).findSome? fun k => (l[k]?).bind fun s => if validB s = true then (if s ∈ l.take k then some (k, false) else none) else some (k, true)).map fun x => (match x with | (k, true) => some (res k 12) | (k, false) => some (res k 6)) from ?_]
  · cases ((List.range l.length).findSome? fun k => (l[k]?).bind fun s => if validB s = true then (if s ∈ l.take k then some (k, false) else none) else some (k, true)) with
    | none => rfl
    | some x => obtain ⟨k, b⟩ := x; cases b <;> rfl
  · rw [List.map_findSome?]
    congr 1
    funext k
    unfold badU
    simp only [Function.comp]
    cases l[k]? with
    | none => rfl
    | some s =>
      simp only [Option.bind_some]
      by_cases h1 : validB s = true
      · by_cases h2 : s ∈ l.take k <;> simp [h1, h2]
      · simp [h1]
theorem scan_new {S : Type} {body : S → (S → Option PV) → Option PV} (l : List Bytes) (hn : l.length ≤ maxLen) (st : Nat → S) (inv dup : Nat → Option PV) {fin : Option PV} {s0 : S}
    (h : ∀ k, (hk : k < l.length) → ∀ rec, body (st k) rec = if validB l[k] = true then (if l[k] ∈ l.take k then dup k else rec (st (k + 1))) else inv k)
    (hend : ∀ rec, body (st l.length) rec = fin) (h0 : st 0 = s0) : lpS.run body s0 = match uqE l with | none => fin | some (k, true) => inv k | some (k, false) => dup k := by
  have hr := rounds_gt
  rw [loop_scan' st l.length (fun k => (l[k]?).bind fun s => if validB s = true then (if s ∈ l.take k then some (dup k) else none) else some (inv k)) (fun k hk rec => by
    rw [h k hk rec, List.getElem?_eq_getElem hk, Option.bind_some]
    by_cases h1 : validB l[k] = true
    · by_cases h2 : l[k] ∈ l.take k
      · simp [h1, h2, orFin]
      · simp [h1, h2, orFin]
    · simp [h1, orFin]) hend (by omega) h0]
  unfold uqE
  rw [show (List.range l.length).findSome? (fun k => (l[k]?).bind fun s => if validB s = true then (if s ∈ l.take k then some (dup k) else none) else some (inv k)) = ((List.range l.length).findSome? fun k => (l[k]?).bind fun s => if validB s = true then (if s ∈ l.take k then some (k, false) else none) else some (k, true)).map fun x => (match x with | (k, true) => inv k | (k, false) => dup k) from ?_]
  · cases ((List.range l.length).findSome? fun k => (l[k]?).bind fun s => if validB s = true then (if s ∈ l.take k then some (k, false) else none) else some (k, true)) with
    | none => rfl
    | some x => obtain ⟨k, b⟩ := x; cases b <;> rfl
  · rw [List.map_findSome?]
    congr 1
    funext k
    simp only [Function.comp]
    cases l[k]? with
    | none => rfl
    | some s =>
      simp only [Option.bind_some]
      by_cases h1 : validB s = true
      · by_cases h2 : s ∈ l.take k <;> simp [h1, h2]
      · simp [h1]
theorem uqE_none {l : List Bytes} (h : uqE l = none) : l.Nodup ∧ ∀ s ∈ l, validB s = true := by
  unfold uqE at h
  rw [List.findSome?_eq_none_iff] at h
  have key : ∀ k, (hk : k < l.length) → validB l[k] = true ∧ l[k] ∉ l.take k := fun k hk => by
    have := h k (List.mem_range.2 hk)
    rw [List.getElem?_eq_getElem hk, Option.bind_some] at this
    by_cases h1 : validB l[k] = true
    · by_cases h2 : l[k] ∈ l.take k
      · rw [if_pos h1, if_pos h2] at this; cases this
      · exact ⟨h1, h2⟩
    · rw [if_neg h1] at this; cases this
  refine ⟨?_, fun s hs => ?_⟩
  · rw [List.nodup_iff_pairwise_ne, List.pairwise_iff_getElem]
    intro i j hi hj hij e
    exact (key j hj).2 (by rw [← e]; exact List.mem_take_iff_getElem.2 ⟨i, by omega, rfl⟩)
  · obtain ⟨k, hk, rfl⟩ := List.getElem_of_mem hs
    exact (key k hk).1

/-- the loop that writes 0, 1, 2, .. -/
theorem iota_succ (k : Nat) : iota (k + 1) = iota k ++ [(k : Int)] := by simp [iota, List.range_succ]
theorem ints_snoc (a : List Int) (x : Int) : ints (a ++ [x]) = ints a ++ [.int .i64 x] := by simp [ints]
theorem iota_len (n : Nat) : (ints (iota n)).length = n := by simp [ints, iota]
/-- copies -/
theorem scal_pvs (l : List Bytes) : (pvs l).map scalP = pvs l := by simp [pvs, scalP, Function.comp]
theorem clone_pvs (l : List Bytes) (h : l.length * 16 ≤ roomBound) : slices_Clone_string_string_M [.rs 1 (pvs l)] = some (.rs 1 (pvs l)) := by
  simp only [slices_Clone_string_string_M, slices_Clone_string_string, asSl, if_true, bind_some', List.nil_append, pvs_len]
  have hc : l.length * 16 ≤ roomBound ∧ 0 < 16 := ⟨h, by decide⟩
  rw [if_pos hc]
  cases l with
  | nil => rw [if_pos (show (pvs []).isEmpty = true from rfl)]; exact if_pos rfl
  | cons a l => rfl
end Go.Ab.Tt
