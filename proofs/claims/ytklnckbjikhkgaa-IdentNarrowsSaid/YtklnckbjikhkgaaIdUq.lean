/- Lists of names: the small ones, the first bad name, the place of a name. -/
import Derived.Test.YtklnckbjikhkgaaIdEx
namespace Go.Ab.Tt
set_option maxRecDepth 100000
set_option linter.unusedVariables false
set_option linter.unusedSimpArgs false

def pvs (l : List Bytes) : List PV := l.map .str
theorem pvs_at {l : List Bytes} {k : Nat} (hk : k < l.length) : (pvs l)[k]? = some (.str l[k]) := by simp [pvs, hk]
theorem pvs_len (l : List Bytes) : (pvs l).length = l.length := by simp [pvs]
theorem cell_str (s : Bytes) : cell (.str s) 0 = .str s := rfl

/-! ### maps of names -/
theorem mhas_pv {K : Type} [DecidableEq K] {key : K → PV} (hk : ∀ a b, peqL (key a).cells (key b).cells = decide (a = b)) (a : K) : ∀ m : List (K × PV), mhas (key a) (pvMap key m) = m.any fun x => decide (a = x.1)
  | [] => rfl
  | (b, u) :: r => by
    have ih := mhas_pv hk a r
    simp only [pvMap] at ih
    simp only [pvMap, List.map_cons, mhas, hk, List.any_cons, ih]
theorem any_put {K : Type} [DecidableEq K] (a b : K) (v : PV) : ∀ m : List (K × PV), (tput b v m).any (fun x => decide (a = x.1)) = (decide (a = b) || m.any fun x => decide (a = x.1))
  | [] => by simp [tput]
  | (c, u) :: r => by
    unfold tput
    by_cases h : b = c
    · subst h
      simp only [if_true, List.any_cons]
      cases decide (a = b) <;> rfl
    · simp only [if_neg h, List.any_cons, any_put a b v r]
      cases decide (a = b) <;> cases decide (a = c) <;> rfl
/-- the map behind k rounds: each name's last place -/
def tmapK (l : List Bytes) : Nat → List (Bytes × PV)
  | 0 => []
  | k + 1 => tput (l.getD k []) (.int .i64 k) (tmapK l k)
def mapK (l : List Bytes) (k : Nat) : List (PV × PV) := pvMap PV.str (tmapK l k)
theorem mapK_succ {l : List Bytes} {k : Nat} (hk : k < l.length) : mput (.str l[k]) (.int .i64 k) (mapK l k) = mapK l (k + 1) := by
  have : l.getD k [] = l[k] := by simp [List.getD, hk]
  unfold mapK
  rw [mput_pv str_key, tmapK, this]
theorem mapK_has (l : List Bytes) (s : Bytes) : ∀ k, k ≤ l.length → mhas (.str s) (mapK l k) = decide (s ∈ l.take k)
  | 0, _ => by simp [mapK, tmapK, pvMap, mhas]
  | k + 1, hk => by
    have ih := mapK_has l s k (by omega)
    unfold mapK at ih ⊢
    rw [mhas_pv str_key] at ih ⊢
    rw [tmapK, any_put, ih, List.take_add_one, List.getElem?_eq_getElem (by omega)]
    have : l.getD k [] = l[k] := by simp [List.getD, show k < l.length by omega]
    rw [this]
    simp only [Option.toList_some, List.mem_append, List.mem_singleton]
    by_cases h1 : s = l[k] <;> by_cases h2 : s ∈ l.take k <;> simp [h1, h2]
theorem mapK_look (l : List Bytes) (s : Bytes) : ∀ k, ∃ n, mlook (.str s) (.int .i64 0) (mapK l k) = .int .i64 n
  | 0 => ⟨0, rfl⟩
  | k + 1 => by
    obtain ⟨n, hn⟩ := mapK_look l s k
    unfold mapK at hn ⊢
    rw [mlook_pv str_key] at hn ⊢
    rw [tmapK, tlook_put]
    by_cases h : s = l.getD k []
    · exact ⟨k, by rw [if_pos h]⟩
    · exact ⟨n, by rw [if_neg h, hn]⟩

/-! ### the first bad name -/
def badU (l : List Bytes) (k : Nat) : Option (Option PV) := (l[k]?).bind fun s => if validB s = true then (if s ∈ l.take k then some (some (res k 6)) else none) else some (some (res k 12))
def uq (l : List Bytes) : Option PV := orFin ((List.range l.length).findSome? (badU l)) (some (res 0 0))

theorem unique_prog (l : List Bytes) (hn : l.length ≤ maxLen) (hs : ∀ s ∈ l, s.length ≤ maxLen) : ident_Unique_M [.rs 1 (pvs l)] = uq l := by
  have hm := maxLen_lt
  simp only [ident_Unique_M, ident_Unique, asSl, if_true, bind_some', pvs_len]
  refine loop_scan' (fun k => (pvs l, (l.length : Int), (k : Int), mapK l k, ())) l.length (badU l) (fun k hk rec => ?_) (fun rec => ?_) ?_ rfl
  · have h1 : (k : Int) < (l.length : Int) := by omega
    obtain ⟨n, hn⟩ := mapK_look l l[k] k
    simp only [ident_Unique_L1, decide_eq_true_eq, h1, if_true, idxP_nat, pvs_at hk, bind_some', cell_str, asStr, ident_ok _ (hs _ (List.getElem_mem hk)), Ab.asBool, hn, Ab.asInt, mapK_has l l[k] k (by omega), mapK_succ hk, wrap_nat (show k < 9223372036854775807 by omega), badU, List.getElem?_eq_getElem hk, Option.bind_some]
    cases validB l[k] with
    | false => rfl
    | true =>
      by_cases h2 : l[k] ∈ l.take k
      · simp [h2, orFin, res]
      · simp [h2, orFin]
  · simp only [ident_Unique_L1, decide_eq_true_eq, Int.lt_irrefl, if_false]; rfl
  · have := rounds_gt; omega

/-! ### the place of a name -/
def plc (l : List Bytes) (s : Bytes) : Int := match (List.range l.length).findSome? (fun (k : Nat) => (l[k]?).bind fun x => if x = s then some (k : Int) else none) with | some k => k | none => -1
theorem find_ref (l : List Bytes) (s : Bytes) (hn : l.length ≤ maxLen) : ref05_Find_M [.rs 1 (pvs l), .str s] = some (.int .i64 (plc l s)) := by
  have hm := maxLen_lt
  simp only [ref05_Find_M, ref05_Find, asSl, if_true, bind_some', asStr]
  refine (loop_scan' (fun k => (pvs l, s, (k : Int), ())) l.length (fun (k : Nat) => ((l[k]?).bind fun x => if x = s then some (k : Int) else none).map fun i => some (.int .i64 i)) (fin := some (.int .i64 (-1))) (fun k hk rec => ?_) (fun rec => ?_) ?_ rfl).trans ?_
  · have h1 : (k : Int) < (l.length : Int) := by omega
    simp only [ref05_Find_L1, pvs_len, decide_eq_true_eq, h1, if_true, idxP_nat, pvs_at hk, bind_some', cell_str, asStr, beq_iff_eq, wrap_nat (show k < 9223372036854775807 by omega), List.getElem?_eq_getElem hk, Option.bind_some]
    by_cases h : l[k] = s
    · simp [h, orFin]
    · simp [h, orFin]
  · simp only [ref05_Find_L1, pvs_len, decide_eq_true_eq, Int.lt_irrefl, if_false]
  · have := rounds_gt; omega
  · unfold plc
    rw [show (List.range l.length).findSome? (fun (k : Nat) => ((l[k]?).bind fun x => if x = s then some (k : Int) else none).map fun i => some (PV.int .i64 i)) = ((List.range l.length).findSome? (fun (k : Nat) => (l[k]?).bind fun x => if x = s then some (k : Int) else none)).map fun i => some (PV.int .i64 i) from (List.map_findSome? ..).symm]
    cases (List.range l.length).findSome? (fun (k : Nat) => (l[k]?).bind fun x => if x = s then some (k : Int) else none) <;> rfl
theorem plc_mem (l : List Bytes) (s : Bytes) : (plc l s ≥ 0) ↔ s ∈ l := by
  unfold plc
  cases h : (List.range l.length).findSome? (fun (k : Nat) => (l[k]?).bind fun x => if x = s then some (k : Int) else none) with
  | none =>
    rw [List.findSome?_eq_none_iff] at h
    refine ⟨fun h0 => by simp at h0, fun hm => ?_⟩
    obtain ⟨k, hk, he⟩ := List.getElem_of_mem hm
    have := h k (List.mem_range.2 hk)
    rw [List.getElem?_eq_getElem hk, Option.bind_some, if_pos he] at this
    cases this
  | some i =>
    obtain ⟨k, _, hk⟩ := List.exists_of_findSome?_eq_some h
    cases e : l[k]? with
    | none => rw [e] at hk; cases hk
    | some x =>
      rw [e, Option.bind_some] at hk
      by_cases hx : x = s
      · rw [if_pos hx] at hk
        cases hk
        subst hx
        exact ⟨fun _ => List.mem_of_getElem? e, fun _ => by simp⟩
      · rw [if_neg hx] at hk; cases hk
theorem unique_ref (l : List Bytes) (hn : l.length ≤ maxLen) (hs : ∀ s ∈ l, s.length ≤ maxLen) : ref05_Unique_M [.rs 1 (pvs l)] = uq l := by
  have hm := maxLen_lt
  simp only [ref05_Unique_M, ref05_Unique, asSl, if_true, bind_some']
  refine loop_scan' (fun k => (pvs l, (k : Int), ())) l.length (badU l) (fun k hk rec => ?_) (fun rec => ?_) ?_ rfl
  · have h1 : (k : Int) < (l.length : Int) := by omega
    have hb : (0 : Int) ≤ 0 ∧ 0 ≤ (k : Int) ∧ (k : Int) ≤ (l.length : Int) ∧ 1 = 1 ∧ 1 ≠ 0 := by refine ⟨by omega, by omega, by omega, rfl, by omega⟩
    have h3 : List.drop (Int.toNat 0) (List.take (Int.toNat (k : Int)) (pvs l)) = pvs (l.take k) := by simp [pvs, List.map_take]
    simp only [ref05_Unique_L1, pvs_len, decide_eq_true_eq, h1, if_true, idxP_nat, pvs_at hk, bind_some', cell_str, asStr, ref05_ok _ (hs _ (List.getElem_mem hk)), Ab.asBool, Ab.asInt, if_pos hb, h3, find_ref (l.take k) l[k] (by rw [List.length_take]; omega), plc_mem, wrap_nat (show k < 9223372036854775807 by omega), badU, List.getElem?_eq_getElem hk, Option.bind_some]
    cases validB l[k] with
    | false => rfl
    | true =>
      by_cases h2 : l[k] ∈ l.take k
      · simp [h2, orFin, res]; omega
      · simp [h2, orFin]; omega
  · simp only [ref05_Unique_L1, pvs_len, decide_eq_true_eq, Int.lt_irrefl, if_false]; rfl
  · have := rounds_gt; omega
theorem uq_res (l : List Bytes) : ∃ i e, uq l = some (res i e) := by
  unfold uq
  cases h : (List.range l.length).findSome? (badU l) with
  | none => exact ⟨0, 0, rfl⟩
  | some r =>
    obtain ⟨k, _, hk⟩ := List.exists_of_findSome?_eq_some h
    unfold badU at hk
    cases e : l[k]? with
    | none => rw [e] at hk; cases hk
    | some s =>
      rw [e, Option.bind_some] at hk
      by_cases h1 : validB s = true
      · rw [if_pos h1] at hk
        by_cases h2 : s ∈ l.take k
        · rw [if_pos h2] at hk; cases hk; exact ⟨_, _, rfl⟩
        · rw [if_neg h2] at hk; cases hk
      · rw [if_neg h1] at hk; cases hk; exact ⟨_, _, rfl⟩

/-! ### the small lists -/
def smallB (l : List Bytes) : Bool := decide (l.length ≤ 60) && l.all fun s => decide (s.length ≤ 1024)
theorem small_ok (l : List Bytes) (hn : l.length ≤ maxLen) : law05_small_M [.rs 1 (pvs l)] = some (.bool (smallB l)) := by
  have hm := maxLen_lt
  simp only [law05_small_M, law05_small, asSl, if_true, bind_some', pvs_len, decide_eq_true_eq]
  by_cases h60 : (l.length : Int) > 60
  · rw [if_pos h60]
    have : ¬ l.length ≤ 60 := by omega
    simp [smallB, this]
  rw [if_neg h60]
  refine (loop_scan' (fun k => (pvs l, (k : Int), ())) l.length (fun k => (l[k]?).bind fun s => if s.length ≤ 1024 then none else some (some (.bool false))) (fin := some (.bool true)) (fun k hk rec => ?_) (fun rec => ?_) ?_ rfl).trans ?_
  · have h1 : (k : Int) < (l.length : Int) := by omega
    simp only [law05_small_L1, pvs_len, decide_eq_true_eq, h1, if_true, idxP_nat, pvs_at hk, bind_some', cell_str, asStr, wrap_nat (show k < 9223372036854775807 by omega), List.getElem?_eq_getElem hk, Option.bind_some]
    by_cases h : l[k].length ≤ 1024
    · rw [if_neg (by omega), if_pos h]; rfl
    · rw [if_pos (by omega), if_neg h]; rfl
  · simp only [law05_small_L1, pvs_len, decide_eq_true_eq, Int.lt_irrefl, if_false]
  · have := rounds_gt; omega
  · have h6 : l.length ≤ 60 := by omega
    unfold smallB
    rw [decide_eq_true h6, Bool.true_and]
    cases h : (List.range l.length).findSome? (fun k => (l[k]?).bind fun s => if s.length ≤ 1024 then none else some (some (PV.bool false))) with
    | none =>
      rw [List.findSome?_eq_none_iff] at h
      have : l.all (fun s => decide (s.length ≤ 1024)) = true := List.all_eq_true.2 fun s hs => by
        obtain ⟨k, hk, he⟩ := List.getElem_of_mem hs
        have := h k (List.mem_range.2 hk)
        rw [List.getElem?_eq_getElem hk, Option.bind_some, he] at this
        by_cases hx : s.length ≤ 1024
        · exact decide_eq_true hx
        · rw [if_neg hx] at this; cases this
      rw [this]; rfl
    | some r =>
      obtain ⟨k, _, hk⟩ := List.exists_of_findSome?_eq_some h
      cases e : l[k]? with
      | none => rw [e] at hk; cases hk
      | some s =>
        rw [e, Option.bind_some] at hk
        by_cases hx : s.length ≤ 1024
        · rw [if_pos hx] at hk; cases hk
        · rw [if_neg hx] at hk
          cases hk
          have : l.all (fun s => decide (s.length ≤ 1024)) = false := by
            rw [List.all_eq_false]
            exact ⟨s, List.mem_of_getElem? e, by simpa using hx⟩
          rw [this]; rfl

theorem uniques_law (l : List Bytes) (hl : l.length ≤ maxLen ∧ ∀ s ∈ l, s.length ≤ maxLen) : law05_IdentUniques_M [.rs 1 (l.map .str)] = some (.bool true) := by
  obtain ⟨i, e, hr⟩ := uq_res l
  have hp := unique_prog l hl.1 hl.2
  have hq := unique_ref l hl.1 hl.2
  have hz := small_ok l hl.1
  rw [hr] at hp hq
  simp only [pvs] at hp hq hz
  simp only [law05_IdentUniques_M, law05_IdentUniques, asSl, if_true, bind_some', hz, Ab.asBool, hp, hq, ex_holds, res, asTup, List.length_cons, List.length_nil, List.getD_cons_zero, List.getD_cons_succ, Ab.asInt, beq_self_eq_true, cond_true]
  cases smallB l <;> rfl
end Go.Ab.Tt
