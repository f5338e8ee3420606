/- Laws for the checks: maps that only say what has been seen, bytes, results. -/
import Derived.Test.YtnbhhepiekhbjaaGreatTtData
import Derived.Test.YtnbhhepiekhbjaaGreatAbLib
import Derived.Test.YtnbhhepiekhbjaaGreatSh3
namespace Go.Ab.Tt
set_option linter.unusedVariables false

theorem bif_and (a b : Bool) : (bif a then some b else some false) = some (a && b) := by cases a <;> rfl
theorem bif_or' (a b : Bool) : (bif a then some true else some b) = some (a || b) := by cases a <;> rfl
theorem beq_d {A : Type} [DecidableEq A] [BEq A] [LawfulBEq A] (a b : A) : (a == b) = decide (a = b) := by rw [Bool.eq_iff_iff]; simp
theorem bne_d {A : Type} [DecidableEq A] [BEq A] [LawfulBEq A] (a b : A) : (a != b) = !decide (a = b) := by rw [Bool.eq_iff_iff]; simp

/-! ### maps by typed keys -/
section
variable {K : Type} [DecidableEq K]
def tput (a : K) (v : PV) : List (K × PV) → List (K × PV)
  | [] => [(a, v)]
  | (b, u) :: r => if a = b then (a, v) :: r else (b, u) :: tput a v r
def tlook (a : K) (z : PV) : List (K × PV) → PV
  | [] => z
  | (b, u) :: r => if a = b then u else tlook a z r
def pvMap (key : K → PV) (m : List (K × PV)) : List (PV × PV) := m.map fun x => (key x.1, x.2)
theorem tlook_put (a b : K) (v z : PV) : ∀ m, tlook a z (tput b v m) = if a = b then v else tlook a z m
  | [] => rfl
  | (c, u) :: r => by
    simp only [tput]
    by_cases h : b = c
    · subst h
      simp only [if_true, tlook]
      by_cases h2 : a = b <;> simp [h2]
    · simp only [if_neg h, tlook, tlook_put a b v z r]
      by_cases h2 : a = c
      · subst h2
        simp [Ne.symm h]
      · simp [h2]
variable {key : K → PV} (hk : ∀ a b, peqL (key a).cells (key b).cells = decide (a = b))
include hk
theorem mput_pv (a : K) (v : PV) : ∀ m, mput (key a) v (pvMap key m) = pvMap key (tput a v m)
  | [] => rfl
  | (b, u) :: r => by
    simp only [pvMap, List.map_cons, mput, hk, tput]
    by_cases h : a = b
    · simp [h]
    · have := mput_pv a v r
      simp only [pvMap] at this
      simp [h, this]
theorem mlook_pv (a : K) (z : PV) : ∀ m, mlook (key a) z (pvMap key m) = tlook a z m
  | [] => rfl
  | (b, u) :: r => by
    simp only [pvMap, List.map_cons, mlook, hk, tlook]
    by_cases h : a = b
    · simp [h]
    · have := mlook_pv a z r
      simp only [pvMap] at this
      simp [h, this]
omit hk
/-- the map of those that have been seen -/
def tseen (l : List K) : List (K × PV) := l.foldl (fun m a => tput a (.bool true) m) []
def seen (key : K → PV) (l : List K) : List (PV × PV) := pvMap key (tseen l)
theorem tseen_snoc (l : List K) (a : K) : tseen (l ++ [a]) = tput a (.bool true) (tseen l) := by simp [tseen]
theorem tseen_look (a : K) (l : List K) : tlook a (.bool false) (tseen l) = .bool (decide (a ∈ l)) := by
  have key : ∀ (l : List K) (m : List (K × PV)) (s : K → Bool), (∀ a, tlook a (.bool false) m = .bool (s a)) → ∀ a, tlook a (.bool false) (l.foldl (fun m a => tput a (.bool true) m) m) = .bool (decide (a ∈ l) || s a) := by
    intro l
    induction l with
    | nil => intro m s h a; simp [h a]
    | cons b l ih =>
      intro m s h a
      simp only [List.foldl_cons]
      rw [ih (tput b (.bool true) m) (fun a => decide (a = b) || s a) (fun a => by
        rw [tlook_put]
        by_cases hab : a = b
        · simp [hab]
        · simp [hab, h a]) a]
      simp only [PV.bool.injEq, List.mem_cons, Bool.decide_or]
      cases decide (a ∈ l) <;> cases decide (a = b) <;> rfl
  have := key l [] (fun _ => false) (fun _ => rfl) a
  simpa [tseen] using this
include hk
theorem seen_look (a : K) (l : List K) : mlook (key a) (.bool false) (seen key l) = .bool (decide (a ∈ l)) := by
  rw [seen, mlook_pv hk, tseen_look]
theorem seen_put (a : K) (l : List K) : mput (key a) (.bool true) (seen key l) = seen key (l ++ [a]) := by
  rw [seen, mput_pv hk, seen, tseen_snoc]
end
theorem str_key (a b : Bytes) : peqL (PV.str a).cells (PV.str b).cells = decide (a = b) := by
  simp only [PV.cells, peqL, peq, Bool.and_true, beq_d]
theorem int_key (a b : Int) : peqL (PV.int .i64 a).cells (PV.int .i64 b).cells = decide (a = b) := by
  simp only [PV.cells, peqL, peq, Bool.and_true, beq_d]

/-- a loop that looks for the first round at which it ends -/
def orFin {R : Type} (o : Option (Option R)) (fin : Option R) : Option R := match o with | some r => r | none => fin
theorem loop_scan' {S R : Type} {body : S → (S → Option R) → Option R} (st : Nat → S) (n : Nat) (bad : Nat → Option (Option R)) {fin : Option R}
    (h : ∀ k, k < n → ∀ rec, body (st k) rec = orFin (bad k) (rec (st (k + 1)))) (hend : ∀ rec, body (st n) rec = fin) (hn : n < rounds) {s0 : S} (h0 : st 0 = s0) :
    lpS.run body s0 = orFin ((List.range n).findSome? bad) fin := loop_scan st n bad h hend hn h0
/-! ### results -/
def res (i e : Int) : PV := .tup [.int .i64 i, .int .i64 e]
/-- the first index with an error, and the error -/
def scanE (f : Nat → Int) (n : Nat) : Int × Int := match (List.range n).findSome? (fun k => if f k = 0 then none else some ((k : Int), f k)) with | some x => x | none => (0, 0)
/-- what a round does: an error ends it -/
def errAt (k : Nat) (e : Int) : Option (Option PV) := if e = 0 then none else some (some (res k e))
theorem scanE_eq (f : Nat → Int) (n : Nat) : orFin ((List.range n).findSome? fun k => errAt k (f k)) (some (res 0 0)) = some (res (scanE f n).1 (scanE f n).2) := by
  unfold scanE
  have : (List.range n).findSome? (fun k => errAt k (f k)) = ((List.range n).findSome? (fun k => if f k = 0 then none else some ((k : Int), f k))).map fun x => some (res x.1 x.2) := by
    rw [List.map_findSome?]
    congr 1
    funext k
    unfold errAt
    by_cases h : f k = 0 <;> simp [h]
  rw [this]
  cases (List.range n).findSome? (fun k => if f k = 0 then none else some ((k : Int), f k)) <;> rfl
theorem scanE_congr {f g : Nat → Int} {n : Nat} (h : ∀ k, k < n → f k = g k) : scanE f n = scanE g n := by
  unfold scanE
  have : (List.range n).findSome? (fun k => if f k = 0 then none else some ((k : Int), f k)) = (List.range n).findSome? (fun k => if g k = 0 then none else some ((k : Int), g k)) := by
    have key : ∀ l : List Nat, (∀ k ∈ l, k < n) → l.findSome? (fun k => if f k = 0 then none else some ((k : Int), f k)) = l.findSome? (fun k => if g k = 0 then none else some ((k : Int), g k)) := by
      intro l
      induction l with
      | nil => intro _; rfl
      | cons a l ih => intro hl; simp only [List.findSome?_cons, h a (hl a (by simp)), ih fun k hk => hl k (by simp [hk])]
    exact key _ fun k hk => by simpa using hk
  rw [this]

/-! ### identifiers -/
def identByte (b : UInt8) : Bool :=
  (decide (97 ≤ (b.toNat : Int)) && decide ((b.toNat : Int) ≤ 122)) || (decide (65 ≤ (b.toNat : Int)) && decide ((b.toNat : Int) ≤ 90)) || (decide (48 ≤ (b.toNat : Int)) && decide ((b.toNat : Int) ≤ 57)) || decide ((b.toNat : Int) = 45) || decide ((b.toNat : Int) = 95) || decide ((b.toNat : Int) = 46)
def validB (s : Bytes) : Bool := decide (1 ≤ s.length) && decide (s.length ≤ 32) && s.all identByte
theorem idxB_nat (s : Bytes) (k : Nat) : idxB s (k : Int) = s[k]? := by simp [idxB]
/-- a loop over the bytes of a string that ends at the first bad byte -/
theorem loop_bytes {R : Type} {body : Bytes × Int × Unit → (Bytes × Int × Unit → Option R) → Option R} (s : Bytes) (hs : s.length ≤ maxLen) (ok : UInt8 → Bool) (no fin : Option R)
    (h : ∀ k, (hk : k < s.length) → ∀ rec, body (s, (k : Int), ()) rec = if ok s[k] then rec (s, ((k + 1 : Nat) : Int), ()) else no) (hend : ∀ rec, body (s, (s.length : Int), ()) rec = fin) : lpS.run body (s, 0, ()) = if s.all ok then fin else no := by
  have hm := maxLen_lt
  refine (loop_scan (fun k => (s, (k : Int), ())) s.length (fun k => (s[k]?).bind fun b => if ok b then none else some no) (fun k hk rec => ?_) (fin := fin) hend ?_ rfl).trans ?_
  · rw [h k hk, List.getElem?_eq_getElem hk, Option.bind_some]
    by_cases hb : ok s[k] = true <;> simp [hb]
  · have := rounds_gt; omega
  · rw [range_find]
    clear h hend hs
    induction s with
    | nil => rfl
    | cons b s ih =>
      simp only [List.findSome?_cons, List.all_cons]
      by_cases hb : ok b = true
      · simp only [hb, if_true, Bool.true_and]; exact ih
      · simp [hb]
end Go.Ab.Tt
namespace Go.Ab.Tt
theorem findSome_if {B : Type} (p : Nat → Bool) (g : Nat → B) : ∀ l : List Nat, l.findSome? (fun k => if p k = true then some (g k) else none) = (l.find? p).map g
  | [] => rfl
  | k :: l => by
    simp only [List.findSome?_cons, List.find?_cons]
    cases h : p k with
    | true => simp
    | false => simpa using findSome_if p g l
/-- the first index of an identifier, or -1 -/
def findI (ids : List Bytes) (s : Bytes) : Int := match (List.range ids.length).find? (fun k => decide (ids[k]? = some s)) with | some k => (k : Int) | none => -1
theorem find_lt (ids : List Bytes) (k : Nat) (h : k < ids.length) : findI ids ids[k] < (k : Int) ↔ ids[k] ∈ ids.take k := by
  unfold findI
  have hex : ∃ j, (List.range ids.length).find? (fun j => decide (ids[j]? = some ids[k])) = some j := by
    cases hf : (List.range ids.length).find? (fun j => decide (ids[j]? = some ids[k])) with
    | some j => exact ⟨j, rfl⟩
    | none =>
      rw [List.find?_eq_none] at hf
      have := hf k (by simpa using h)
      simp [List.getElem?_eq_getElem h] at this
  obtain ⟨j, hj⟩ := hex
  rw [hj]
  simp only
  rw [List.find?_range_eq_some] at hj
  obtain ⟨h1, h2, h3⟩ := hj
  simp only [decide_eq_true_eq] at h1
  constructor
  · intro hlt
    refine List.mem_iff_getElem?.2 ⟨j, ?_⟩
    rw [List.getElem?_take_of_lt (by omega)]; exact h1
  · intro hmem
    obtain ⟨i, hi⟩ := List.mem_iff_getElem?.1 hmem
    have hik : i < k := by
      have := (List.getElem?_eq_some_iff.1 hi).1
      simp at this; omega
    rw [List.getElem?_take_of_lt hik] at hi
    by_cases hc : i < j
    · have := h3 i hc
      simp [hi] at this
    · omega
end Go.Ab.Tt
namespace Go.Ab.Tt
/-- a loop over the earlier ones that ends at a hit -/
theorem dup_scan {S R : Type} {body : S → (S → Option R) → Option R} (st : Nat → S) (i : Nat) (hit : Nat → Bool) {no fin : Option R}
    (h : ∀ k, k < i → ∀ rec, body (st k) rec = if hit k = true then no else rec (st (k + 1))) (hend : ∀ rec, body (st i) rec = fin) (hi : i < rounds) {s0 : S} (h0 : st 0 = s0) :
    lpS.run body s0 = if (List.range i).any hit = true then no else fin := by
  refine (loop_scan' st i (fun k => if hit k = true then some no else none) (fun k hk rec => ?_) hend hi h0).trans ?_
  · rw [h k hk]
    by_cases hh : hit k = true <;> simp [hh, orFin]
  · have : ∀ l : List Nat, orFin (l.findSome? fun k => if hit k = true then some no else none) fin = if l.any hit = true then no else fin := by
      intro l
      induction l with
      | nil => rfl
      | cons k l ih =>
        simp only [List.findSome?_cons, List.any_cons]
        by_cases hh : hit k = true
        · simp [hh, orFin]
        · simp only [hh, Bool.false_or, if_false]; exact ih
    exact this _
theorem any_mem {A : Type} [DecidableEq A] (ids : List A) (i : Nat) (h : i ≤ ids.length) (x : A) : (List.range i).any (fun k => decide (ids[k]? = some x)) = decide (x ∈ ids.take i) := by
  rw [Bool.eq_iff_iff]
  simp only [List.any_eq_true, List.mem_range, decide_eq_true_eq]
  constructor
  · rintro ⟨k, hk, hx⟩
    exact List.mem_iff_getElem?.2 ⟨k, by rw [List.getElem?_take_of_lt hk]; exact hx⟩
  · intro hmem
    obtain ⟨k, hk⟩ := List.mem_iff_getElem?.1 hmem
    have hki : k < i := by have := (List.getElem?_eq_some_iff.1 hk).1; simp at this; omega
    exact ⟨k, hki, by rw [List.getElem?_take_of_lt hki] at hk; exact hk⟩
theorem ids_snoc {A B : Type} (f : A → B) (l : List A) (k : Nat) (h : k < l.length) : (l.map f).take (k + 1) = (l.map f).take k ++ [f l[k]] := by
  rw [List.take_succ_eq_append_getElem (by simpa using h)]; simp
end Go.Ab.Tt
namespace Go.Ab.Tt
theorem find_ge (ids : List Bytes) (s : Bytes) : findI ids s ≥ 0 ↔ s ∈ ids := by
  unfold findI
  cases hf : (List.range ids.length).find? (fun j => decide (ids[j]? = some s)) with
  | some j =>
    rw [List.find?_range_eq_some] at hf
    simp only [decide_eq_true_eq] at hf
    exact ⟨fun _ => List.mem_iff_getElem?.2 ⟨j, hf.1⟩, fun _ => by simp⟩
  | none =>
    rw [List.find?_eq_none] at hf
    refine ⟨fun h => absurd h (by decide), fun hmem => ?_⟩
    obtain ⟨j, hj⟩ := List.mem_iff_getElem?.1 hmem
    exact absurd (by simpa using hj) (hf j (by have := (List.getElem?_eq_some_iff.1 hj).1; simpa using this))
/-- a round that ends with an error alone -/
def errOnly (e : Int) : Option (Option PV) := if e = 0 then none else some (some (.int .i64 e))
theorem errOnly_eq (f : Nat → Int) (n : Nat) : orFin ((List.range n).findSome? fun k => errOnly (f k)) (some (.int .i64 0)) = some (.int .i64 (scanE f n).2) := by
  unfold scanE
  have : (List.range n).findSome? (fun k => errOnly (f k)) = ((List.range n).findSome? (fun k => if f k = 0 then none else some ((k : Int), f k))).map fun x => some (.int .i64 x.2) := by
    rw [List.map_findSome?]
    congr 1
    funext k
    unfold errOnly
    by_cases h : f k = 0 <;> simp [h]
  rw [this]
  cases (List.range n).findSome? (fun k => if f k = 0 then none else some ((k : Int), f k)) <;> rfl
theorem scanE_fst (f : Nat → Int) (n : Nat) (h : (scanE f n).2 = 0) : (scanE f n).1 = 0 := by
  unfold scanE at *
  cases hf : (List.range n).findSome? (fun k => if f k = 0 then none else some ((k : Int), f k)) with
  | none => rfl
  | some x =>
    rw [hf] at h
    obtain ⟨k, _, hk⟩ := List.exists_of_findSome?_eq_some hf
    by_cases h0 : f k = 0
    · rw [if_pos h0] at hk; cases hk
    · rw [if_neg h0] at hk
      simp only [Option.some.injEq] at hk; subst hk
      exact absurd h h0
end Go.Ab.Tt

namespace Go.Ab.Tt
set_option maxRecDepth 100000
set_option linter.unusedVariables false

theorem ident_ok (s : Bytes) (hs : s.length ≤ maxLen) : ident_Valid_M [.str s] = some (.bool (validB s)) := by
  have hm := maxLen_lt
  simp only [ident_Valid_M, ident_Valid, asStr, bind_some']
  refine (loop_bytes s hs identByte (some (.bool false)) (some (.bool (decide ((s.length : Int) > 0) && decide ((s.length : Int) ≤ 32)))) (fun k hk rec => ?_) (fun rec => ?_)).trans ?_
  · have h1 : (k : Int) < (s.length : Int) := by omega
    simp only [ident_Valid_L1, decide_eq_true_eq, h1, if_true, idxB_nat, List.getElem?_eq_getElem hk, bind_some', bif_and, wrap_nat (show k < 9223372036854775807 by omega), beq_d]
    generalize s[k] = b
    unfold identByte
    generalize (decide (97 ≤ (b.toNat : Int)) && decide ((b.toNat : Int) ≤ 122)) = x1
    generalize (decide (65 ≤ (b.toNat : Int)) && decide ((b.toNat : Int) ≤ 90)) = x2
    generalize (decide (48 ≤ (b.toNat : Int)) && decide ((b.toNat : Int) ≤ 57)) = x3
    by_cases e4 : (b.toNat : Int) = 45 <;> by_cases e5 : (b.toNat : Int) = 95 <;> by_cases e6 : (b.toNat : Int) = 46 <;> cases x1 <;> cases x2 <;> cases x3 <;> simp [e4, e5, e6]
  · simp only [ident_Valid_L1, decide_eq_true_eq, Int.lt_irrefl, if_false, bif_and, bind_some']
  · unfold validB
    cases s.all identByte with
    | true =>
      simp only [if_true, Bool.and_true, Option.some.injEq, PV.bool.injEq]
      rw [Bool.eq_iff_iff]
      simp only [Bool.and_eq_true, decide_eq_true_eq]
      omega
    | false => simp

theorem bytes_ref {body : Bytes × Int × Unit → (Bytes × Int × Unit → Option PV) → Option PV} (s : Bytes) (hs : s.length ≤ maxLen) (h : ∀ k, (hk : k < s.length) → ∀ rec, body (s, (k : Int), ()) rec = if identByte s[k] then rec (s, ((k + 1 : Nat) : Int), ()) else some (.bool false))
    (hend : ∀ rec, body (s, (s.length : Int), ()) rec = some (.bool true)) {c : Bool} (hc : c = !(decide (1 ≤ s.length) && decide (s.length ≤ 32))) : (if c = true then some (.bool false) else lpS.run body (s, 0, ())) = some (.bool (validB s)) := by
  rw [loop_bytes s hs identByte _ _ h hend, hc]
  unfold validB
  cases s.all identByte <;> cases (decide (1 ≤ s.length) && decide (s.length ≤ 32)) <;> rfl

theorem ref05_ok (s : Bytes) (hs : s.length ≤ maxLen) : ref05_Valid_M [.str s] = some (.bool (validB s)) := by
  have hm := maxLen_lt
  simp only [ref05_Valid_M, ref05_Valid, asStr, bind_some', bif_or']
  refine bytes_ref s hs (fun k hk rec => ?_) (fun rec => ?_) ?_
  · have h1 : (k : Int) < (s.length : Int) := by omega
    simp only [ref05_Valid_L1, decide_eq_true_eq, h1, if_true, idxB_nat, List.getElem?_eq_getElem hk, bind_some', bif_and, bif_or', wrap_nat (show k < 9223372036854775807 by omega), bne_d]
    generalize s[k] = b
    unfold identByte
    simp only [ge_iff_le]
    generalize (decide (97 ≤ (b.toNat : Int)) && decide ((b.toNat : Int) ≤ 122)) = x1
    generalize (decide (65 ≤ (b.toNat : Int)) && decide ((b.toNat : Int) ≤ 90)) = x2
    generalize (decide (48 ≤ (b.toNat : Int)) && decide ((b.toNat : Int) ≤ 57)) = x3
    by_cases e4 : (b.toNat : Int) = 45 <;> by_cases e5 : (b.toNat : Int) = 95 <;> by_cases e6 : (b.toNat : Int) = 46 <;> cases x1 <;> cases x2 <;> cases x3 <;> simp [e4, e5, e6]
  · simp only [ref05_Valid_L1, decide_eq_true_eq, Int.lt_irrefl, if_false]
  · rw [Bool.eq_iff_iff]
    simp only [beq_d, Bool.or_eq_true, Bool.not_eq_true', Bool.and_eq_false_iff, decide_eq_true_eq, decide_eq_false_iff_not]
    omega

theorem ref13id_ok (s : Bytes) (hs : s.length ≤ maxLen) : ref13_Identifier_M [.str s] = some (.bool (validB s)) := by
  have hm := maxLen_lt
  simp only [ref13_Identifier_M, ref13_Identifier, asStr, bind_some', bif_or']
  refine bytes_ref s hs (fun k hk rec => ?_) (fun rec => ?_) ?_
  · have h1 : (k : Int) < (s.length : Int) := by omega
    simp only [ref13_Identifier_L1, decide_eq_true_eq, h1, if_true, idxB_nat, List.getElem?_eq_getElem hk, bind_some', bif_and, bif_or', wrap_nat (show k < 9223372036854775807 by omega), beq_d]
    generalize s[k] = b
    unfold identByte
    simp only [ge_iff_le]
    generalize (decide (97 ≤ (b.toNat : Int)) && decide ((b.toNat : Int) ≤ 122)) = x1
    generalize (decide (65 ≤ (b.toNat : Int)) && decide ((b.toNat : Int) ≤ 90)) = x2
    generalize (decide (48 ≤ (b.toNat : Int)) && decide ((b.toNat : Int) ≤ 57)) = x3
    by_cases e4 : (b.toNat : Int) = 45 <;> by_cases e5 : (b.toNat : Int) = 95 <;> by_cases e6 : (b.toNat : Int) = 46 <;> cases x1 <;> cases x2 <;> cases x3 <;> simp [e4, e5, e6]
  · simp only [ref13_Identifier_L1, decide_eq_true_eq, Int.lt_irrefl, if_false]
  · rw [Bool.eq_iff_iff]
    simp only [beq_d, Bool.or_eq_true, Bool.not_eq_true', Bool.and_eq_false_iff, decide_eq_true_eq, decide_eq_false_iff_not]
    omega

theorem ref15name_ok (s : Bytes) (hs : s.length ≤ maxLen) : ref15_Name_M [.str s] = some (.bool (validB s)) := by
  have hm := maxLen_lt
  simp only [ref15_Name_M, ref15_Name, asStr, bind_some', bif_or']
  refine bytes_ref s hs (fun k hk rec => ?_) (fun rec => ?_) ?_
  · have h1 : (k : Int) < (s.length : Int) := by omega
    simp only [ref15_Name_L1, decide_eq_true_eq, h1, if_true, idxB_nat, List.getElem?_eq_getElem hk, bind_some', bif_and, bif_or', wrap_nat (show k < 9223372036854775807 by omega), beq_d]
    generalize s[k] = b
    unfold identByte
    simp only [ge_iff_le]
    generalize (decide (97 ≤ (b.toNat : Int)) && decide ((b.toNat : Int) ≤ 122)) = x1
    generalize (decide (65 ≤ (b.toNat : Int)) && decide ((b.toNat : Int) ≤ 90)) = x2
    generalize (decide (48 ≤ (b.toNat : Int)) && decide ((b.toNat : Int) ≤ 57)) = x3
    by_cases e4 : (b.toNat : Int) = 45 <;> by_cases e5 : (b.toNat : Int) = 95 <;> by_cases e6 : (b.toNat : Int) = 46 <;> cases x1 <;> cases x2 <;> cases x3 <;> simp [e4, e5, e6]
  · simp only [ref15_Name_L1, decide_eq_true_eq, Int.lt_irrefl, if_false]
  · rw [Bool.eq_iff_iff]
    simp only [beq_d, Bool.or_eq_true, Bool.not_eq_true', Bool.and_eq_false_iff, decide_eq_true_eq, decide_eq_false_iff_not]
    omega

/-! ### stops -/
def stopErr (l : List Stop) (k : Nat) : Int := match l[k]? with
  | none => 0
  | some x => if validB x.id = false then 12 else if x.id ∈ (l.map Stop.id).take k then 6 else if (decide (x.zone < 0) || decide (x.zone ≥ 16) || decide (x.change < 0) || decide (x.change > 3600)) = true then 2 else 0
def stopRes (l : List Stop) : Int × Int := if l.length > 64 then (0, 5) else scanE (stopErr l) l.length

theorem stop_prog (l : List Stop) (hl : l.length ≤ maxLen ∧ ∀ y ∈ l, y.Ok) : stop_Check_M [.rs 4 (l.map Stop.pv)] = some (res (stopRes l).1 (stopRes l).2) := by
  have hm := maxLen_lt
  simp only [stop_Check_M, stop_Check, asSl, if_true, bind_some', List.length_map]
  unfold stopRes
  by_cases h64 : l.length > 64
  · rw [if_pos (by simp; omega), if_pos h64]; rfl
  · rw [if_neg (by simp; omega), if_neg h64, ← scanE_eq]
    refine loop_scan' (fun k => (l.map Stop.pv, (l.length : Int), (k : Int), seen PV.str ((l.map Stop.id).take k), ())) l.length _ (fun k hk rec => ?_) (fun rec => ?_) ?_ rfl
    · have h1 : (k : Int) < (l.length : Int) := by omega
      have hid := ident_ok l[k].id (hl.2 _ (List.getElem_mem hk)).id
      have hput := seen_put str_key l[k].id ((l.map Stop.id).take k)
      have hlook := seen_look str_key l[k].id ((l.map Stop.id).take k)
      simp only [stop_Check_L1, decide_eq_true_eq, h1, if_true, idxP_nat, List.getElem?_map, List.getElem?_eq_getElem hk, Option.map_some, bind_some', Stop.pv, cell, PV.cells, List.getD_cons_zero, List.getD_cons_succ, asStr, asInt, asBool, hid, hput, hlook, bif_or', wrap_nat (show k < 9223372036854775807 by omega), ids_snoc Stop.id l k hk]
      unfold stopErr
      rw [List.getElem?_eq_getElem hk]
      simp only
      generalize (decide (l[k].zone < 0) || decide (l[k].zone ≥ 16) || decide (l[k].change < 0) || decide (l[k].change > 3600)) = c
      cases validB l[k].id with
      | false => rfl
      | true =>
        by_cases hmem : l[k].id ∈ (l.map Stop.id).take k
        · simp only [hmem, if_true, Bool.not_true, Bool.false_eq_true, Bool.true_eq_false, if_false]; rfl
        · simp only [hmem, if_true, Bool.not_true, Bool.false_eq_true, Bool.true_eq_false, if_false]
          cases c <;> rfl
    · simp only [stop_Check_L1, decide_eq_true_eq, Int.lt_irrefl, if_false]; rfl
    · have := rounds_gt; omega
end Go.Ab.Tt

namespace Go.Ab.Tt
set_option maxRecDepth 100000
set_option linter.unusedVariables false

theorem stop_find (l : List Stop) (hl : l.length ≤ maxLen) (s : Bytes) : ref13_Find_M [.rs 4 (l.map Stop.pv), .str s] = some (.int .i64 (findI (l.map Stop.id) s)) := by
  have hm := maxLen_lt
  simp only [ref13_Find_M, ref13_Find, asSl, asStr, if_true, bind_some']
  refine (loop_scan' (fun k => (l.map Stop.pv, s, (k : Int), ())) l.length (fun k => if decide ((l.map Stop.id)[k]? = some s) = true then some (some (.int .i64 k)) else none) (fin := some (.int .i64 (-1))) (fun k hk rec => ?_) (fun rec => ?_) ?_ rfl).trans ?_
  · have h1 : (k : Int) < (l.length : Int) := by omega
    simp only [ref13_Find_L1, decide_eq_true_eq, List.length_map, h1, if_true, idxP_nat, List.getElem?_map, List.getElem?_eq_getElem hk, Option.map_some, bind_some', Stop.pv, cell, PV.cells, List.getD_cons_zero, asStr, wrap_nat (show k < 9223372036854775807 by omega), beq_d, Option.some.injEq]
    by_cases he : l[k].id = s
    · simp [he, orFin]
    · simp [he, orFin]
  · simp only [ref13_Find_L1, decide_eq_true_eq, List.length_map, Int.lt_irrefl, if_false]
  · have := rounds_gt; omega
  · rw [findSome_if]
    unfold findI
    simp only [List.length_map]
    cases (List.range l.length).find? fun k => decide ((l.map Stop.id)[k]? = some s) <;> rfl

theorem stop_ref (l : List Stop) (hl : l.length ≤ maxLen ∧ ∀ y ∈ l, y.Ok) : ref13_Check_M [.rs 4 (l.map Stop.pv)] = some (res (stopRes l).1 (stopRes l).2) := by
  have hm := maxLen_lt
  simp only [ref13_Check_M, ref13_Check, asSl, if_true, bind_some', List.length_map]
  unfold stopRes
  by_cases h64 : l.length > 64
  · rw [if_pos (by simp; omega), if_pos h64]; rfl
  · rw [if_neg (by simp; omega), if_neg h64, ← scanE_eq]
    refine loop_scan' (fun k => (l.map Stop.pv, (k : Int), ())) l.length _ (fun k hk rec => ?_) (fun rec => ?_) ?_ rfl
    · have h1 : (k : Int) < (l.length : Int) := by omega
      have hid := ref13id_ok l[k].id (hl.2 _ (List.getElem_mem hk)).id
      have hfind := stop_find l hl.1 l[k].id
      have hlt := find_lt (l.map Stop.id) k (by simpa using hk)
      simp only [List.getElem_map] at hlt
      simp only [ref13_Check_L1, decide_eq_true_eq, List.length_map, h1, if_true, idxP_nat, List.getElem?_map, List.getElem?_eq_getElem hk, Option.map_some, bind_some', Stop.pv, cell, PV.cells, List.getD_cons_zero, List.getD_cons_succ, asStr, asInt, asBool, hid, hfind, bif_or', wrap_nat (show k < 9223372036854775807 by omega)]
      unfold stopErr
      rw [List.getElem?_eq_getElem hk]
      simp only
      generalize (decide (l[k].zone < 0) || decide (l[k].zone ≥ 16) || decide (l[k].change < 0) || decide (l[k].change > 3600)) = c
      cases validB l[k].id with
      | false => rfl
      | true =>
        by_cases hmem : l[k].id ∈ (l.map Stop.id).take k
        · simp only [hlt.2 hmem, hmem, if_true, Bool.not_true, Bool.false_eq_true, Bool.true_eq_false, if_false]; rfl
        · have hn : ¬ findI (l.map Stop.id) l[k].id < (k : Int) := fun h => hmem (hlt.1 h)
          simp only [hn, hmem, if_true, Bool.not_true, Bool.false_eq_true, Bool.true_eq_false, if_false]
          cases c <;> rfl
    · simp only [ref13_Check_L1, decide_eq_true_eq, List.length_map, Int.lt_irrefl, if_false]; rfl
    · have := rounds_gt; omega

/-! ### routes -/
def routeErr (l : List Route) (k : Nat) : Int := match l[k]? with
  | none => 0
  | some x => if validB x.id = false then 12 else if x.id ∈ (l.map Route.id).take k then 6 else if (decide (x.mode ≥ 0) && decide (x.mode < 8)) = false then 2 else 0
def routeRes (l : List Route) : Int × Int := if l.length > 64 then (0, 5) else scanE (routeErr l) l.length

theorem route_prog (l : List Route) (hl : l.length ≤ maxLen ∧ ∀ y ∈ l, y.Ok) : route_Check_M [.rs 3 (l.map Route.pv)] = some (res (routeRes l).1 (routeRes l).2) := by
  have hm := maxLen_lt
  simp only [route_Check_M, route_Check, asSl, if_true, bind_some', List.length_map]
  unfold routeRes
  by_cases h64 : l.length > 64
  · rw [if_pos (by simp; omega), if_pos h64]; rfl
  · rw [if_neg (by simp; omega), if_neg h64, ← scanE_eq]
    refine loop_scan' (fun k => (l.map Route.pv, (l.length : Int), (k : Int), seen PV.str ((l.map Route.id).take k), ())) l.length _ (fun k hk rec => ?_) (fun rec => ?_) ?_ rfl
    · have h1 : (k : Int) < (l.length : Int) := by omega
      have hid := ident_ok l[k].id (hl.2 _ (List.getElem_mem hk)).id
      have hput := seen_put str_key l[k].id ((l.map Route.id).take k)
      have hlook := seen_look str_key l[k].id ((l.map Route.id).take k)
      simp only [route_Check_L1, decide_eq_true_eq, h1, if_true, idxP_nat, List.getElem?_map, List.getElem?_eq_getElem hk, Option.map_some, bind_some', Route.pv, cell, PV.cells, List.getD_cons_zero, List.getD_cons_succ, asStr, asInt, asBool, hid, hput, hlook, bif_or', wrap_nat (show k < 9223372036854775807 by omega), ids_snoc Route.id l k hk, route_known_M, route_known, bif_and]
      unfold routeErr
      rw [List.getElem?_eq_getElem hk]
      simp only
      generalize (decide (l[k].mode ≥ 0) && decide (l[k].mode < 8)) = c
      cases validB l[k].id with
      | false => rfl
      | true =>
        by_cases hmem : l[k].id ∈ (l.map Route.id).take k
        · simp only [hmem, if_true, Bool.not_true, Bool.false_eq_true, Bool.true_eq_false, if_false]; rfl
        · simp only [hmem, if_true, Bool.not_true, Bool.false_eq_true, Bool.true_eq_false, if_false]
          cases c <;> rfl
    · simp only [route_Check_L1, decide_eq_true_eq, Int.lt_irrefl, if_false]; rfl
    · have := rounds_gt; omega

theorem route_inner (l : List Route) (hl : l.length ≤ maxLen) (i : Nat) (hi : i < l.length) (rec2 : List PV × Int × Unit → Option PV) :
    lpS.run (ref15_Check_L1 rec2) (l.map Route.pv, (i : Int), 0, ()) = if l[i].id ∈ (l.map Route.id).take i then some (res i 6) else if (decide (l[i].mode ≥ 0) && decide (l[i].mode < 8)) = false then some (res i 2) else rec2 (l.map Route.pv, IntKind.i64.wrap ((i : Int) + 1), ()) := by
  have hm := maxLen_lt
  refine (loop_scan' (fun k => (l.map Route.pv, (i : Int), (k : Int), ())) i (fun k => if decide ((l.map Route.id)[k]? = some l[i].id) = true then some (some (res i 6)) else none) (fin := if (decide (l[i].mode ≥ 0) && decide (l[i].mode < 8)) = false then some (res i 2) else rec2 (l.map Route.pv, IntKind.i64.wrap ((i : Int) + 1), ())) (fun k hk rec => ?_) (fun rec => ?_) ?_ rfl).trans ?_
  · have h1 : (k : Int) < (i : Int) := by omega
    have hk' : k < l.length := by omega
    simp only [ref15_Check_L1, decide_eq_true_eq, h1, if_true, idxP_nat, List.getElem?_map, List.getElem?_eq_getElem hk', List.getElem?_eq_getElem hi, Option.map_some, bind_some', Route.pv, cell, PV.cells, List.getD_cons_zero, asStr, wrap_nat (show k < 9223372036854775807 by omega), beq_d, Option.some.injEq]
    by_cases he : l[k].id = l[i].id
    · simp [he, orFin, res]
    · simp [he, orFin]
  · simp only [ref15_Check_L1, decide_eq_true_eq, Int.lt_irrefl, if_false, idxP_nat, List.getElem?_map, List.getElem?_eq_getElem hi, Option.map_some, bind_some', Route.pv, cell, PV.cells, List.getD_cons_zero, List.getD_cons_succ, asInt, asBool, if_true, ref15_mode_M, ref15_mode, bif_and]
    generalize (decide (l[i].mode ≥ 0) && decide (l[i].mode < 8)) = c
    cases c <;> rfl
  · have := rounds_gt; omega
  · rw [findSome_if]
    cases hf : (List.range i).find? fun k => decide ((l.map Route.id)[k]? = some l[i].id) with
    | none =>
      have hn : l[i].id ∉ (l.map Route.id).take i := fun hmem => by
        obtain ⟨j, hj⟩ := List.mem_iff_getElem?.1 hmem
        have hji : j < i := by have := (List.getElem?_eq_some_iff.1 hj).1; simp at this; omega
        rw [List.getElem?_take_of_lt hji] at hj
        rw [List.find?_eq_none] at hf
        exact hf j (by simpa using hji) (by simpa using hj)
      rw [if_neg hn]; rfl
    | some j =>
      rw [List.find?_range_eq_some] at hf
      obtain ⟨h1, h2, _⟩ := hf
      have hmem : l[i].id ∈ (l.map Route.id).take i := List.mem_iff_getElem?.2 ⟨j, by rw [List.getElem?_take_of_lt (by simpa using h2)]; simpa using h1⟩
      rw [if_pos hmem]; rfl

theorem route_ref (l : List Route) (hl : l.length ≤ maxLen ∧ ∀ y ∈ l, y.Ok) : ref15_Check_M [.rs 3 (l.map Route.pv)] = some (res (routeRes l).1 (routeRes l).2) := by
  have hm := maxLen_lt
  simp only [ref15_Check_M, ref15_Check, asSl, if_true, bind_some', List.length_map]
  unfold routeRes
  by_cases h64 : l.length > 64
  · rw [if_pos (by simp; omega), if_pos h64]; rfl
  · rw [if_neg (by simp; omega), if_neg h64, ← scanE_eq]
    refine loop_scan' (fun k => (l.map Route.pv, (k : Int), ())) l.length _ (fun k hk rec => ?_) (fun rec => ?_) ?_ rfl
    · have h1 : (k : Int) < (l.length : Int) := by omega
      have hid := ref15name_ok l[k].id (hl.2 _ (List.getElem_mem hk)).id
      have hin := route_inner l hl.1 k hk rec
      have hpv : cell (l[k].pv) 0 = .str l[k].id := rfl
      simp only [ref15_Check_L2, decide_eq_true_eq, List.length_map, h1, if_true, idxP_nat, List.getElem?_map, List.getElem?_eq_getElem hk, Option.map_some, bind_some', hpv, asStr, asBool, hid, hin, wrap_nat (show k < 9223372036854775807 by omega)]
      unfold routeErr
      rw [List.getElem?_eq_getElem hk]
      simp only
      generalize (decide (l[k].mode ≥ 0) && decide (l[k].mode < 8)) = c
      cases validB l[k].id with
      | false => rfl
      | true =>
        by_cases hmem : l[k].id ∈ (l.map Route.id).take k
        · simp only [hmem, if_true, Bool.not_true, Bool.false_eq_true, Bool.true_eq_false, if_false]; rfl
        · simp only [hmem, if_true, Bool.not_true, Bool.false_eq_true, Bool.true_eq_false, if_false]
          cases c <;> rfl
    · simp only [ref15_Check_L2, decide_eq_true_eq, List.length_map, Int.lt_irrefl, if_false]; rfl
    · have := rounds_gt; omega
end Go.Ab.Tt

namespace Go.Ab.Tt
set_option maxRecDepth 100000
set_option linter.unusedVariables false

def dv (n : Int) : Bool := decide (0 ≤ n) && decide (n ≤ 36524)
theorem date_ok (n : Int) : date_Valid_M [.int .i64 n] = some (.bool (dv n)) := by simp only [date_Valid_M, date_Valid, asInt, if_true, bind_some', bif_and]; rfl
theorem ref02_ok (n : Int) : ref02_Valid_M [.int .i64 n] = some (.bool (dv n)) := by simp only [ref02_Valid_M, ref02_Valid, asInt, if_true, bind_some', bif_and]; rfl

def calErr (l : List Cal) (k : Nat) : Int := match l[k]? with
  | none => 0
  | some x => if validB x.id = false then 12 else if x.id ∈ (l.map Cal.id).take k then 6 else if (!dv x.day0 || !dv x.day1 || decide (x.day0 > x.day1)) = true then 11 else 0
def calRes (l : List Cal) : Int × Int := if l.length > 64 then (0, 5) else scanE (calErr l) l.length
theorem cal0 (x : Cal) : cell x.pv 0 = .str x.id := rfl
theorem cal8 (x : Cal) : cell x.pv 8 = .int .i64 x.day0 := rfl
theorem cal9 (x : Cal) : cell x.pv 9 = .int .i64 x.day1 := rfl

theorem cal_prog (l : List Cal) (hl : l.length ≤ maxLen ∧ ∀ y ∈ l, y.Ok) : calendar_Check_M [.rs 10 (l.map Cal.pv)] = some (res (calRes l).1 (calRes l).2) := by
  have hm := maxLen_lt
  simp only [calendar_Check_M, calendar_Check, asSl, if_true, bind_some', List.length_map]
  unfold calRes
  by_cases h64 : l.length > 64
  · rw [if_pos (by simp; omega), if_pos h64]; rfl
  · rw [if_neg (by simp; omega), if_neg h64, ← scanE_eq]
    refine loop_scan' (fun k => (l.map Cal.pv, (l.length : Int), (k : Int), seen PV.str ((l.map Cal.id).take k), ())) l.length _ (fun k hk rec => ?_) (fun rec => ?_) ?_ rfl
    · have h1 : (k : Int) < (l.length : Int) := by omega
      have hid := ident_ok l[k].id (hl.2 _ (List.getElem_mem hk)).id
      have hput := seen_put str_key l[k].id ((l.map Cal.id).take k)
      have hlook := seen_look str_key l[k].id ((l.map Cal.id).take k)
      simp only [calendar_Check_L1, decide_eq_true_eq, h1, if_true, idxP_nat, List.getElem?_map, List.getElem?_eq_getElem hk, Option.map_some, bind_some', cal0, cal8, cal9, asStr, asInt, asBool, hid, hput, hlook, date_ok, wrap_nat (show k < 9223372036854775807 by omega), ids_snoc Cal.id l k hk]
      unfold calErr
      rw [List.getElem?_eq_getElem hk]
      simp only
      cases validB l[k].id with
      | false => rfl
      | true =>
        by_cases hmem : l[k].id ∈ (l.map Cal.id).take k
        · simp only [hmem, if_true, Bool.not_true, Bool.false_eq_true, Bool.true_eq_false, if_false]; rfl
        · simp only [hmem, if_true, Bool.not_true, Bool.false_eq_true, Bool.true_eq_false, if_false]
          by_cases hgt : l[k].day0 > l[k].day1
          · simp only [hgt, decide_true, Bool.or_true, if_true]
            cases dv l[k].day0 <;> cases dv l[k].day1 <;> rfl
          · simp only [hgt, decide_false, Bool.or_false, if_false]
            cases dv l[k].day0 <;> cases dv l[k].day1 <;> rfl
    · simp only [calendar_Check_L1, decide_eq_true_eq, Int.lt_irrefl, if_false]; rfl
    · have := rounds_gt; omega

theorem cal_inner (l : List Cal) (hl : l.length ≤ maxLen) (i : Nat) (hi : i < l.length) (rec2 : List PV × Int × Unit → Option PV) :
    lpS.run (ref14_Check_L1 rec2) (l.map Cal.pv, (i : Int), 0, ()) = if l[i].id ∈ (l.map Cal.id).take i then some (res i 6) else if (!dv l[i].day0 || !dv l[i].day1 || decide (l[i].day0 > l[i].day1)) = true then some (res i 11) else rec2 (l.map Cal.pv, IntKind.i64.wrap ((i : Int) + 1), ()) := by
  have hm := maxLen_lt
  refine (dup_scan (fun k => (l.map Cal.pv, (i : Int), (k : Int), ())) i (fun k => decide ((l.map Cal.id)[k]? = some l[i].id)) (no := some (res i 6)) (fin := if (!dv l[i].day0 || !dv l[i].day1 || decide (l[i].day0 > l[i].day1)) = true then some (res i 11) else rec2 (l.map Cal.pv, IntKind.i64.wrap ((i : Int) + 1), ())) (fun k hk rec => ?_) (fun rec => ?_) ?_ rfl).trans ?_
  · have h1 : (k : Int) < (i : Int) := by omega
    have hk' : k < l.length := by omega
    simp only [ref14_Check_L1, decide_eq_true_eq, h1, if_true, idxP_nat, List.getElem?_map, List.getElem?_eq_getElem hk', List.getElem?_eq_getElem hi, Option.map_some, bind_some', cal0, asStr, wrap_nat (show k < 9223372036854775807 by omega), beq_d, Option.some.injEq]
    rfl
  · simp only [ref14_Check_L1, decide_eq_true_eq, Int.lt_irrefl, if_false, idxP_nat, List.getElem?_map, List.getElem?_eq_getElem hi, Option.map_some, bind_some', cal8, cal9, asInt, asBool, if_true, ref02_ok, bif_or']
    rfl
  · have := rounds_gt; omega
  · rw [any_mem _ _ (by simp; omega)]; simp only [decide_eq_true_eq]

theorem cal_ref (l : List Cal) (hl : l.length ≤ maxLen ∧ ∀ y ∈ l, y.Ok) : ref14_Check_M [.rs 10 (l.map Cal.pv)] = some (res (calRes l).1 (calRes l).2) := by
  have hm := maxLen_lt
  simp only [ref14_Check_M, ref14_Check, asSl, if_true, bind_some', List.length_map]
  unfold calRes
  by_cases h64 : l.length > 64
  · rw [if_pos (by simp; omega), if_pos h64]; rfl
  · rw [if_neg (by simp; omega), if_neg h64, ← scanE_eq]
    refine loop_scan' (fun k => (l.map Cal.pv, (k : Int), ())) l.length _ (fun k hk rec => ?_) (fun rec => ?_) ?_ rfl
    · have h1 : (k : Int) < (l.length : Int) := by omega
      have hid := ref05_ok l[k].id (hl.2 _ (List.getElem_mem hk)).id
      have hin := cal_inner l hl.1 k hk rec
      simp only [ref14_Check_L2, decide_eq_true_eq, List.length_map, h1, if_true, idxP_nat, List.getElem?_map, List.getElem?_eq_getElem hk, Option.map_some, bind_some', cal0, asStr, asBool, hid, hin, wrap_nat (show k < 9223372036854775807 by omega)]
      unfold calErr
      rw [List.getElem?_eq_getElem hk]
      simp only
      generalize (!dv l[k].day0 || !dv l[k].day1 || decide (l[k].day0 > l[k].day1)) = c
      cases validB l[k].id with
      | false => rfl
      | true =>
        by_cases hmem : l[k].id ∈ (l.map Cal.id).take k
        · simp only [hmem, if_true, Bool.not_true, Bool.false_eq_true, Bool.true_eq_false, if_false]; rfl
        · simp only [hmem, if_true, Bool.not_true, Bool.false_eq_true, Bool.true_eq_false, if_false]
          cases c <;> rfl
    · simp only [ref14_Check_L2, decide_eq_true_eq, List.length_map, Int.lt_irrefl, if_false]; rfl
    · have := rounds_gt; omega

/-! ### exceptions -/
def excKey (x : Exc) : Int × Int := (x.cal, x.day)
def excErr (l : List Exc) (n : Int) (k : Nat) : Int := match l[k]? with
  | none => 0
  | some x => if (decide (x.cal < 0) || decide (x.cal ≥ n)) = true then 9 else if dv x.day = false then 11 else if excKey x ∈ (l.map excKey).take k then 6 else 0
def excRes (l : List Exc) (n : Int) : Int × Int := if l.length > 256 then (0, 5) else scanE (excErr l n) l.length
def pairPV (x : Int × Int) : PV := .agg [.int .i64 x.1, .int .i64 x.2]
theorem pair_key (a b : Int × Int) : peqL (pairPV a).cells (pairPV b).cells = decide (a = b) := by
  obtain ⟨a1, a2⟩ := a
  obtain ⟨b1, b2⟩ := b
  rw [Bool.eq_iff_iff]; simp [pairPV, PV.cells, peqL, peq]
theorem exc0 (x : Exc) : cell x.pv 0 = .int .i64 x.cal := rfl
theorem exc1 (x : Exc) : cell x.pv 1 = .int .i64 x.day := rfl

theorem exc_prog (l : List Exc) (n : Int) (hl : l.length ≤ maxLen ∧ ∀ y ∈ l, y.Ok) : calendar_CheckExceptions_M [.rs 3 (l.map Exc.pv), .int .i64 n] = some (res (excRes l n).1 (excRes l n).2) := by
  have hm := maxLen_lt
  simp only [calendar_CheckExceptions_M, calendar_CheckExceptions, asSl, asInt, if_true, bind_some', List.length_map]
  unfold excRes
  by_cases h64 : l.length > 256
  · rw [if_pos (by simp; omega), if_pos h64]; rfl
  · rw [if_neg (by simp; omega), if_neg h64, ← scanE_eq]
    refine loop_scan' (fun k => (n, l.map Exc.pv, (l.length : Int), (k : Int), seen pairPV ((l.map excKey).take k), ())) l.length _ (fun k hk rec => ?_) (fun rec => ?_) ?_ rfl
    · have h1 : (k : Int) < (l.length : Int) := by omega
      have hput : mput (.agg [.int .i64 l[k].cal, .int .i64 l[k].day]) (.bool true) (seen pairPV ((l.map excKey).take k)) = _ := seen_put pair_key (excKey l[k]) ((l.map excKey).take k)
      have hlook : mlook (.agg [.int .i64 l[k].cal, .int .i64 l[k].day]) (.bool false) (seen pairPV ((l.map excKey).take k)) = _ := seen_look pair_key (excKey l[k]) ((l.map excKey).take k)
      simp only [calendar_CheckExceptions_L1, decide_eq_true_eq, h1, if_true, idxP_nat, List.getElem?_map, List.getElem?_eq_getElem hk, Option.map_some, bind_some', exc0, exc1, asInt, asBool, hput, hlook, date_ok, bif_or', wrap_nat (show k < 9223372036854775807 by omega), ids_snoc excKey l k hk]
      unfold excErr
      rw [List.getElem?_eq_getElem hk]
      simp only
      generalize (decide (l[k].cal < 0) || decide (l[k].cal ≥ n)) = c
      by_cases hmem : excKey l[k] ∈ (l.map excKey).take k
      · simp only [hmem, if_true]
        cases c <;> cases dv l[k].day <;> rfl
      · simp only [hmem, if_false]
        cases c <;> cases dv l[k].day <;> rfl
    · simp only [calendar_CheckExceptions_L1, decide_eq_true_eq, Int.lt_irrefl, if_false]; rfl
    · have := rounds_gt; omega

theorem exc_inner (l : List Exc) (n : Int) (hl : l.length ≤ maxLen) (i : Nat) (hi : i < l.length) (rec3 : List PV × Int × Int × Unit → Option PV) :
    lpS.run (ref14_CheckExceptions_L1 rec3) (l.map Exc.pv, n, (i : Int), 0, ()) = if excKey l[i] ∈ (l.map excKey).take i then some (res i 6) else rec3 (l.map Exc.pv, n, IntKind.i64.wrap ((i : Int) + 1), ()) := by
  have hm := maxLen_lt
  refine (dup_scan (fun k => (l.map Exc.pv, n, (i : Int), (k : Int), ())) i (fun k => decide ((l.map excKey)[k]? = some (excKey l[i]))) (no := some (res i 6)) (fin := rec3 (l.map Exc.pv, n, IntKind.i64.wrap ((i : Int) + 1), ())) (fun k hk rec => ?_) (fun rec => ?_) ?_ rfl).trans ?_
  · have h1 : (k : Int) < (i : Int) := by omega
    have hk' : k < l.length := by omega
    simp only [ref14_CheckExceptions_L1, decide_eq_true_eq, h1, if_true, idxP_nat, List.getElem?_map, List.getElem?_eq_getElem hk', List.getElem?_eq_getElem hi, Option.map_some, bind_some', exc0, exc1, asInt, wrap_nat (show k < 9223372036854775807 by omega), beq_d, bif_and, Option.some.injEq, excKey, Prod.mk.injEq, Bool.and_eq_true]
    rfl
  · simp only [ref14_CheckExceptions_L1, decide_eq_true_eq, Int.lt_irrefl, if_false]
  · have := rounds_gt; omega
  · rw [any_mem _ _ (by simp; omega)]; simp only [decide_eq_true_eq]

theorem exc_ref (l : List Exc) (n : Int) (hl : l.length ≤ maxLen ∧ ∀ y ∈ l, y.Ok) : ref14_CheckExceptions_M [.rs 3 (l.map Exc.pv), .int .i64 n] = some (res (excRes l n).1 (excRes l n).2) := by
  have hm := maxLen_lt
  simp only [ref14_CheckExceptions_M, ref14_CheckExceptions, asSl, asInt, if_true, bind_some', List.length_map]
  unfold excRes
  by_cases h64 : l.length > 256
  · rw [if_pos (by simp; omega), if_pos h64]; rfl
  · rw [if_neg (by simp; omega), if_neg h64, ← scanE_eq]
    refine loop_scan' (fun k => (l.map Exc.pv, n, (k : Int), ())) l.length _ (fun k hk rec => ?_) (fun rec => ?_) ?_ rfl
    · have h1 : (k : Int) < (l.length : Int) := by omega
      have hin := exc_inner l n hl.1 k hk rec
      simp only [ref14_CheckExceptions_L2, decide_eq_true_eq, List.length_map, h1, if_true, idxP_nat, List.getElem?_map, List.getElem?_eq_getElem hk, Option.map_some, bind_some', exc0, exc1, asInt, asBool, hin, ref02_ok, bif_or', wrap_nat (show k < 9223372036854775807 by omega)]
      unfold excErr
      rw [List.getElem?_eq_getElem hk]
      simp only
      generalize (decide (l[k].cal < 0) || decide (l[k].cal ≥ n)) = c
      by_cases hmem : excKey l[k] ∈ (l.map excKey).take k
      · simp only [hmem, if_true]
        cases c <;> cases dv l[k].day <;> rfl
      · simp only [hmem, if_false]
        cases c <;> cases dv l[k].day <;> rfl
    · simp only [ref14_CheckExceptions_L2, decide_eq_true_eq, List.length_map, Int.lt_irrefl, if_false]; rfl
    · have := rounds_gt; omega
end Go.Ab.Tt

namespace Go.Ab.Tt
set_option maxRecDepth 100000
set_option linter.unusedVariables false

theorem kall0 (x : Kall) : cell x.pv 0 = .int .i64 x.stop := rfl
theorem kall1 (x : Kall) : cell x.pv 1 = .int .i64 x.arr := rfl
theorem kall2 (x : Kall) : cell x.pv 2 = .int .i64 x.dep := rfl
def prevK (l : List Kall) : Nat → Option Kall
  | 0 => none
  | k + 1 => l[k]?
def callE (c : Kall) (p : Option Kall) (stops low high : Int) : Int :=
  if (decide (c.stop < 0) || decide (c.stop ≥ stops)) = true then 9
  else if (match p with | some p => decide (p.stop = c.stop) | none => false) = true then 13
  else if (decide (c.arr < low) || decide (c.arr > c.dep) || decide (c.dep > high) || (match p with | some p => decide (c.arr < p.dep) | none => false)) = true then 10 else 0
def callErr (l : List Kall) (stops low high : Int) (k : Nat) : Int := match l[k]? with
  | none => 0
  | some c => callE c (prevK l k) stops low high
def callRes (l : List Kall) (stops low high : Int) : Int × Int := if (decide ((l.length : Int) < 2) || decide ((l.length : Int) > 32)) = true then (0, 5) else scanE (callErr l stops low high) l.length

theorem wrap_pred (j : Nat) (h : j < 9223372036854775807) : IntKind.i64.wrap (((j + 1 : Nat) : Int) - 1) = (j : Int) := by
  rw [wrap_in (by omega) (by omega)]; omega
theorem call_one_ok (l : List Kall) (stops low high : Int) (k : Nat) (hk : k < l.length) (hl : l.length ≤ maxLen) : call_one_M [.rs 5 (l.map Kall.pv), .int .i64 k, .int .i64 stops, .int .i64 low, .int .i64 high] = some (.int .i64 (callErr l stops low high k)) := by
  have hm := maxLen_lt
  simp only [call_one_M, call_one, asSl, asInt, if_true, bind_some', idxP_nat, List.getElem?_map, List.getElem?_eq_getElem hk, Option.map_some, kall0, kall1, kall2, bif_or']
  unfold callErr callE
  rw [List.getElem?_eq_getElem hk]
  simp only
  cases k with
  | zero =>
    have h0 : decide (((0 : Nat) : Int) > 0) = false := by decide
    simp only [h0, cond_false, bind_some', bif_or', Bool.or_false, prevK]
    generalize (decide (l[0].stop < 0) || decide (l[0].stop ≥ stops)) = A
    generalize (decide (l[0].arr < low) || decide (l[0].arr > l[0].dep) || decide (l[0].dep > high)) = B
    cases A <;> cases B <;> rfl
  | succ j =>
    have h0 : decide (((j + 1 : Nat) : Int) > 0) = true := by rw [decide_eq_true_eq]; omega
    have hj : j < l.length := by omega
    simp only [h0, cond_true, bind_some', wrap_pred j (by omega), idxP_nat, List.getElem?_map, List.getElem?_eq_getElem hj, Option.map_some, kall0, kall2, asInt, if_true, prevK, beq_d, bif_or']
    generalize (decide (l[j + 1].stop < 0) || decide (l[j + 1].stop ≥ stops)) = A
    generalize (decide (l[j + 1].arr < low) || decide (l[j + 1].arr > l[j + 1].dep) || decide (l[j + 1].dep > high)) = B
    generalize decide (l[j].stop = l[j + 1].stop) = C
    generalize decide (l[j + 1].arr < l[j].dep) = D
    cases A <;> cases B <;> cases C <;> cases D <;> rfl

theorem call_prog (l : List Kall) (stops low high : Int) (hl : l.length ≤ maxLen) : call_Check_M [.rs 5 (l.map Kall.pv), .int .i64 stops, .int .i64 low, .int .i64 high] = some (res (callRes l stops low high).1 (callRes l stops low high).2) := by
  have hm := maxLen_lt
  simp only [call_Check_M, call_Check, asSl, asInt, if_true, bind_some', List.length_map, bif_or']
  unfold callRes
  split
  · rfl
  · rw [← scanE_eq]
    refine loop_scan' (fun k => (l.map Kall.pv, stops, low, high, (l.length : Int), (k : Int), ())) l.length _ (fun k hk rec => ?_) (fun rec => ?_) ?_ rfl
    · have h1 : (k : Int) < (l.length : Int) := by omega
      simp only [call_Check_L1, decide_eq_true_eq, h1, if_true, call_one_ok l stops low high k hk hl, bind_some', asInt, wrap_nat (show k < 9223372036854775807 by omega), bne_d]
      by_cases he : callErr l stops low high k = 0
      · simp [he, errAt, orFin]
      · simp [he, errAt, orFin, res]
    · simp only [call_Check_L1, decide_eq_true_eq, Int.lt_irrefl, if_false]; rfl
    · have := rounds_gt; omega

theorem calls_ref (l : List Kall) (stops : Int) (hl : l.length ≤ maxLen) : ref17_calls_M [.rs 5 (l.map Kall.pv), .int .i64 stops] = some (.int .i64 (callRes l stops 0 172800).2) := by
  have hm := maxLen_lt
  simp only [ref17_calls_M, ref17_calls, asSl, asInt, if_true, bind_some', List.length_map, bif_or']
  unfold callRes
  split
  · rfl
  · rw [← errOnly_eq]
    refine loop_scan' (fun k => (l.map Kall.pv, stops, (k : Int), ())) l.length _ (fun k hk rec => ?_) (fun rec => ?_) ?_ rfl
    · have h1 : (k : Int) < (l.length : Int) := by omega
      simp only [ref17_calls_L1, decide_eq_true_eq, List.length_map, h1, if_true, idxP_nat, List.getElem?_map, List.getElem?_eq_getElem hk, Option.map_some, bind_some', kall0, kall1, kall2, asInt, bif_or', wrap_nat (show k < 9223372036854775807 by omega)]
      unfold callErr callE
      rw [List.getElem?_eq_getElem hk]
      simp only
      cases k with
      | zero =>
        have h0 : decide (((0 : Nat) : Int) > 0) = false := by decide
        simp only [h0, cond_false, bind_some', bif_or', Bool.or_false, prevK]
        generalize (decide (l[0].stop < 0) || decide (l[0].stop ≥ stops)) = A
        generalize (decide (l[0].arr < 0) || decide (l[0].arr > l[0].dep) || decide (l[0].dep > 172800)) = B
        cases A <;> cases B <;> rfl
      | succ j =>
        have h0 : decide (((j + 1 : Nat) : Int) > 0) = true := by rw [decide_eq_true_eq]; omega
        have hj : j < l.length := by omega
        have hc : decide (l[j + 1].stop = l[j].stop) = decide (l[j].stop = l[j + 1].stop) := by rw [Bool.eq_iff_iff]; simp; exact eq_comm
        simp only [h0, cond_true, bind_some', wrap_pred j (by omega), idxP_nat, List.getElem?_map, List.getElem?_eq_getElem hj, Option.map_some, kall0, kall2, asInt, if_true, prevK, beq_d, bif_or', hc]
        generalize (decide (l[j + 1].stop < 0) || decide (l[j + 1].stop ≥ stops)) = A
        generalize (decide (l[j + 1].arr < 0) || decide (l[j + 1].arr > l[j + 1].dep) || decide (l[j + 1].dep > 172800)) = B
        generalize decide (l[j].stop = l[j + 1].stop) = C
        generalize decide (l[j + 1].arr < l[j].dep) = D
        cases A <;> cases B <;> cases C <;> cases D <;> rfl
    · simp only [ref17_calls_L1, decide_eq_true_eq, List.length_map, Int.lt_irrefl, if_false]
    · have := rounds_gt; omega

/-! ### trips -/
theorem trip0 (x : Trip) : cell x.pv 0 = .str x.id := rfl
theorem trip1 (x : Trip) : cell x.pv 1 = .int .i64 x.route := rfl
theorem trip2 (x : Trip) : cell x.pv 2 = .int .i64 x.cal := rfl
theorem trip4 (x : Trip) : cell x.pv 4 = .rs 5 (x.calls.map Kall.pv) := rfl
def tripErr (l : List Trip) (stops routes cals : Int) (k : Nat) : Int := match l[k]? with
  | none => 0
  | some x => if validB x.id = false then 12 else if x.id ∈ (l.map Trip.id).take k then 6 else if (decide (x.route < 0) || decide (x.route ≥ routes) || decide (x.cal < 0) || decide (x.cal ≥ cals)) = true then 9 else (callRes x.calls stops 0 172800).2
def tripRes (l : List Trip) (stops routes cals : Int) : Int × Int := if l.length > 256 then (0, 5) else scanE (tripErr l stops routes cals) l.length

theorem trip_prog (l : List Trip) (stops routes cals : Int) (hl : l.length ≤ maxLen ∧ ∀ y ∈ l, y.Ok) : trip_Check_M [.rs 5 (l.map Trip.pv), .int .i64 stops, .int .i64 routes, .int .i64 cals] = some (res (tripRes l stops routes cals).1 (tripRes l stops routes cals).2) := by
  have hm := maxLen_lt
  simp only [trip_Check_M, trip_Check, asSl, asInt, if_true, bind_some', List.length_map]
  unfold tripRes
  by_cases h64 : l.length > 256
  · rw [if_pos (by simp; omega), if_pos h64]; rfl
  · rw [if_neg (by simp; omega), if_neg h64, ← scanE_eq]
    refine loop_scan' (fun k => (stops, routes, cals, l.map Trip.pv, (l.length : Int), (k : Int), seen PV.str ((l.map Trip.id).take k), ())) l.length _ (fun k hk rec => ?_) (fun rec => ?_) ?_ rfl
    · have h1 : (k : Int) < (l.length : Int) := by omega
      have hid := ident_ok l[k].id (hl.2 _ (List.getElem_mem hk)).id
      have hput := seen_put str_key l[k].id ((l.map Trip.id).take k)
      have hlook := seen_look str_key l[k].id ((l.map Trip.id).take k)
      have hcall := call_prog l[k].calls stops 0 172800 (hl.2 _ (List.getElem_mem hk)).calls.1
      simp only [res] at hcall
      simp only [trip_Check_L1, decide_eq_true_eq, h1, if_true, idxP_nat, List.getElem?_map, List.getElem?_eq_getElem hk, Option.map_some, bind_some', trip0, trip1, trip2, trip4, asStr, asInt, asBool, asSl, hid, hput, hlook, hcall, asTup, List.length_cons, List.length_nil, Nat.reduceAdd, List.getD_cons_zero, List.getD_cons_succ, bif_or', wrap_nat (show k < 9223372036854775807 by omega), ids_snoc Trip.id l k hk, bne_d]
      unfold tripErr
      rw [List.getElem?_eq_getElem hk]
      simp only
      generalize (callRes l[k].calls stops 0 172800).2 = e
      cases validB l[k].id with
      | false => rfl
      | true =>
        by_cases hmem : l[k].id ∈ (l.map Trip.id).take k
        · simp only [hmem, if_true, Bool.not_true, Bool.false_eq_true, Bool.true_eq_false, if_false]; rfl
        · simp only [hmem, if_true, Bool.not_true, Bool.false_eq_true, Bool.true_eq_false, if_false]
          cases decide (l[k].route < 0) <;> cases decide (l[k].route ≥ routes) <;> cases decide (l[k].cal < 0) <;> cases decide (l[k].cal ≥ cals) <;> (try rfl)
          by_cases he : e = 0
          · simp [he, errAt, orFin]
          · simp [he, errAt, orFin, res]
    · simp only [trip_Check_L1, decide_eq_true_eq, Int.lt_irrefl, if_false]; rfl
    · have := rounds_gt; omega

theorem trip_find (l : List Trip) (hl : l.length ≤ maxLen) (s : Bytes) : ref17_Find_M [.rs 5 (l.map Trip.pv), .str s] = some (.int .i64 (findI (l.map Trip.id) s)) := by
  have hm := maxLen_lt
  simp only [ref17_Find_M, ref17_Find, asSl, asStr, if_true, bind_some']
  refine (loop_scan' (fun k => (l.map Trip.pv, s, (k : Int), ())) l.length (fun k => if decide ((l.map Trip.id)[k]? = some s) = true then some (some (.int .i64 k)) else none) (fin := some (.int .i64 (-1))) (fun k hk rec => ?_) (fun rec => ?_) ?_ rfl).trans ?_
  · have h1 : (k : Int) < (l.length : Int) := by omega
    simp only [ref17_Find_L1, decide_eq_true_eq, List.length_map, h1, if_true, idxP_nat, List.getElem?_map, List.getElem?_eq_getElem hk, Option.map_some, bind_some', trip0, asStr, wrap_nat (show k < 9223372036854775807 by omega), beq_d, Option.some.injEq]
    by_cases he : l[k].id = s
    · simp [he, orFin]
    · simp [he, orFin]
  · simp only [ref17_Find_L1, decide_eq_true_eq, List.length_map, Int.lt_irrefl, if_false]
  · have := rounds_gt; omega
  · rw [findSome_if]
    unfold findI
    simp only [List.length_map]
    cases (List.range l.length).find? fun k => decide ((l.map Trip.id)[k]? = some s) <;> rfl

theorem trip_one (l : List Trip) (stops routes cals : Int) (hl : l.length ≤ maxLen ∧ ∀ y ∈ l, y.Ok) (k : Nat) (hk : k < l.length) : ref17_one_M [.rs 5 (l.map Trip.pv), .int .i64 k, .int .i64 stops, .int .i64 routes, .int .i64 cals] = some (.int .i64 (tripErr l stops routes cals k)) := by
  have hm := maxLen_lt
  have hid := ref05_ok l[k].id (hl.2 _ (List.getElem_mem hk)).id
  have hcall := calls_ref l[k].calls stops (hl.2 _ (List.getElem_mem hk)).calls.1
  have hfind := trip_find (l.take k) (by simp; omega) l[k].id
  have hge := find_ge ((l.take k).map Trip.id) l[k].id
  have htk : (l.take k).map Trip.id = (l.map Trip.id).take k := by rw [List.map_take]
  have htp : (l.take k).map Trip.pv = (l.map Trip.pv).take k := by rw [List.map_take]
  rw [htk] at hge hfind
  rw [htp] at hfind
  have hc : (0 : Int) ≤ 0 ∧ (0 : Int) ≤ (k : Int) ∧ (k : Int) ≤ ((l.map Trip.pv).length : Int) ∧ True ∧ 5 ≠ 0 := ⟨by omega, by omega, by simp; omega, trivial, by decide⟩
  simp only [ref17_one_M, ref17_one, asSl, asInt, if_true, bind_some', idxP_nat, List.getElem?_map, List.getElem?_eq_getElem hk, Option.map_some, trip0, trip1, trip2, trip4, asStr, asBool, hid, hcall, Int.toNat_natCast, Int.toNat_zero, List.drop_zero, hfind, bif_or', decide_eq_true_eq]
  unfold tripErr
  rw [List.getElem?_eq_getElem hk]
  simp only
  generalize (callRes l[k].calls stops 0 172800).2 = e
  generalize (decide (l[k].route < 0) || decide (l[k].route ≥ routes) || decide (l[k].cal < 0) || decide (l[k].cal ≥ cals)) = c
  cases validB l[k].id with
  | false => rfl
  | true =>
    rw [if_pos hc]
    by_cases hmem : l[k].id ∈ (l.map Trip.id).take k
    · simp only [hge.2 hmem, hmem, if_true, Bool.not_true, Bool.false_eq_true, Bool.true_eq_false, if_false]
    · have hn : ¬ findI ((l.map Trip.id).take k) l[k].id ≥ 0 := fun h => hmem (hge.1 h)
      simp only [hn, hmem, if_true, Bool.not_true, Bool.false_eq_true, Bool.true_eq_false, if_false]
      cases c <;> rfl

theorem trip_ref (l : List Trip) (stops routes cals : Int) (hl : l.length ≤ maxLen ∧ ∀ y ∈ l, y.Ok) : ref17_Check_M [.rs 5 (l.map Trip.pv), .int .i64 stops, .int .i64 routes, .int .i64 cals] = some (res (tripRes l stops routes cals).1 (tripRes l stops routes cals).2) := by
  have hm := maxLen_lt
  simp only [ref17_Check_M, ref17_Check, asSl, asInt, if_true, bind_some', List.length_map]
  unfold tripRes
  by_cases h64 : l.length > 256
  · rw [if_pos (by simp; omega), if_pos h64]; rfl
  · rw [if_neg (by simp; omega), if_neg h64, ← scanE_eq]
    refine loop_scan' (fun k => (l.map Trip.pv, stops, routes, cals, (k : Int), ())) l.length _ (fun k hk rec => ?_) (fun rec => ?_) ?_ rfl
    · have h1 : (k : Int) < (l.length : Int) := by omega
      simp only [ref17_Check_L1, decide_eq_true_eq, List.length_map, h1, if_true, trip_one l stops routes cals hl k hk, bind_some', asInt, wrap_nat (show k < 9223372036854775807 by omega), bne_d]
      by_cases he : tripErr l stops routes cals k = 0
      · simp [he, errAt, orFin]
      · simp [he, errAt, orFin, res]
    · simp only [ref17_Check_L1, decide_eq_true_eq, List.length_map, Int.lt_irrefl, if_false]; rfl
    · have := rounds_gt; omega
end Go.Ab.Tt

namespace Go.Ab.Tt
set_option maxRecDepth 100000
set_option linter.unusedVariables false

def wi (n a b : Int) : Bool := decide (n ≥ a) && decide (n ≤ b)
theorem within_prog (n a b : Int) : product_within_M [.int .i64 n, .int .i64 a, .int .i64 b] = some (.bool (wi n a b)) := by simp only [product_within_M, product_within, asInt, if_true, bind_some', bif_and]; rfl
theorem within_ref (n a b : Int) : ref21_within_M [.int .i64 n, .int .i64 a, .int .i64 b] = some (.bool (wi n a b)) := by simp only [ref21_within_M, ref21_within, asInt, if_true, bind_some', bif_and]; rfl
theorem prd0 (x : Prdt) : cell x.pv 0 = .str x.id := rfl
theorem prd1 (x : Prdt) : cell x.pv 1 = .int .i64 x.price := rfl
theorem prd2 (x : Prdt) : cell x.pv 2 = .int .i64 x.rides := rfl
theorem prd3 (x : Prdt) : cell x.pv 3 = .int .i64 x.zones := rfl
theorem prd4 (x : Prdt) : cell x.pv 4 = .int .i64 x.secs := rfl
theorem prd5 (x : Prdt) : cell x.pv 5 = .int .i64 x.modes := rfl
def prodBad (x : Prdt) : Bool := !wi x.price 0 1000000 || !wi x.rides 1 8 || !wi x.zones 1 16 || !wi x.secs 0 86400 || !wi x.modes 1 255
def prodErr (l : List Prdt) (k : Nat) : Int := match l[k]? with
  | none => 0
  | some x => if validB x.id = false then 12 else if x.id ∈ (l.map Prdt.id).take k then 6 else if prodBad x = true then 2 else 0
def faresPV (l : List Prdt) (disc within cap : Int) : PV := .agg [.rs 6 (l.map Prdt.pv), .int .i64 disc, .int .i64 within, .int .i64 cap]
def fareRes (l : List Prdt) (disc within cap : Int) : Int × Int :=
  if (!wi disc 0 1000000 || !wi within 0 86400 || !wi cap 0 1000000) = true then (-1, 2) else if l.length > 16 then (0, 5) else scanE (prodErr l) l.length

theorem fares_prog (l : List Prdt) (disc within cap : Int) (hl : l.length ≤ maxLen ∧ ∀ y ∈ l, y.Ok) : product_Check_M [faresPV l disc within cap] = some (res (fareRes l disc within cap).1 (fareRes l disc within cap).2) := by
  have hm := maxLen_lt
  simp only [product_Check_M, product_Check, faresPV, asAgg, cell, PV.cells, List.getD_cons_zero, List.getD_cons_succ, List.length_cons, List.length_nil, Nat.reduceAdd, asSl, asInt, asBool, if_true, bind_some', List.length_map, within_prog, bif_or']
  unfold fareRes
  generalize (!wi disc 0 1000000 || !wi within 0 86400 || !wi cap 0 1000000) = c
  cases c with
  | true => rfl
  | false =>
    simp only [Bool.false_eq_true, if_false]
    by_cases h64 : l.length > 16
    · rw [if_pos (by simp; omega), if_pos h64]; rfl
    · rw [if_neg (by simp; omega), if_neg h64, ← scanE_eq]
      refine loop_scan' (fun k => (l.map Prdt.pv, (l.length : Int), (k : Int), seen PV.str ((l.map Prdt.id).take k), ())) l.length _ (fun k hk rec => ?_) (fun rec => ?_) ?_ rfl
      · have h1 : (k : Int) < (l.length : Int) := by omega
        have hid := ident_ok l[k].id (hl.2 _ (List.getElem_mem hk)).id
        have hput := seen_put str_key l[k].id ((l.map Prdt.id).take k)
        have hlook := seen_look str_key l[k].id ((l.map Prdt.id).take k)
        simp only [product_Check_L1, decide_eq_true_eq, h1, if_true, idxP_nat, List.getElem?_map, List.getElem?_eq_getElem hk, Option.map_some, bind_some', prd0, prd1, prd2, prd3, prd4, prd5, asStr, asInt, asBool, hid, hput, hlook, within_prog, bif_or', wrap_nat (show k < 9223372036854775807 by omega), ids_snoc Prdt.id l k hk]
        unfold prodErr
        rw [List.getElem?_eq_getElem hk]
        have hb : (!wi l[k].price 0 1000000 || !wi l[k].rides 1 8 || !wi l[k].zones 1 16 || !wi l[k].secs 0 86400 || !wi l[k].modes 1 255) = prodBad l[k] := rfl
        simp only [hb]
        generalize prodBad l[k] = c
        cases validB l[k].id with
        | false => rfl
        | true =>
          by_cases hmem : l[k].id ∈ (l.map Prdt.id).take k
          · simp only [hmem, if_true, Bool.not_true, Bool.false_eq_true, Bool.true_eq_false, if_false]; rfl
          · simp only [hmem, if_true, Bool.not_true, Bool.false_eq_true, Bool.true_eq_false, if_false]
            cases c <;> rfl
      · simp only [product_Check_L1, decide_eq_true_eq, Int.lt_irrefl, if_false]; rfl
      · have := rounds_gt; omega

theorem right_ok (x : Prdt) : ref21_Right_M [.agg [cell x.pv 0, cell x.pv 1, cell x.pv 2, cell x.pv 3, cell x.pv 4, cell x.pv 5]] = some (.bool (!prodBad x)) := by
  simp only [prd0, prd1, prd2, prd3, prd4, prd5]
  simp only [ref21_Right_M, ref21_Right, asAgg, cell, PV.cells, List.getD_cons_zero, List.getD_cons_succ, List.length_cons, List.length_nil, Nat.reduceAdd, asStr, asInt, asBool, if_true, bind_some', within_ref, bif_and]
  unfold prodBad
  cases wi x.price 0 1000000 <;> cases wi x.rides 1 8 <;> cases wi x.zones 1 16 <;> cases wi x.secs 0 86400 <;> cases wi x.modes 1 255 <;> rfl

theorem prod_inner (l : List Prdt) (hl : l.length ≤ maxLen) (i : Nat) (hi : i < l.length) (rec2 : List PV × Int × Unit → Option PV) :
    lpS.run (ref21_Check_L1 rec2) (l.map Prdt.pv, (i : Int), 0, ()) = if l[i].id ∈ (l.map Prdt.id).take i then some (res i 6) else if prodBad l[i] = true then some (res i 2) else rec2 (l.map Prdt.pv, IntKind.i64.wrap ((i : Int) + 1), ()) := by
  have hm := maxLen_lt
  refine (dup_scan (fun k => (l.map Prdt.pv, (i : Int), (k : Int), ())) i (fun k => decide ((l.map Prdt.id)[k]? = some l[i].id)) (no := some (res i 6)) (fin := if prodBad l[i] = true then some (res i 2) else rec2 (l.map Prdt.pv, IntKind.i64.wrap ((i : Int) + 1), ())) (fun k hk rec => ?_) (fun rec => ?_) ?_ rfl).trans ?_
  · have h1 : (k : Int) < (i : Int) := by omega
    have hk' : k < l.length := by omega
    simp only [ref21_Check_L1, decide_eq_true_eq, h1, if_true, idxP_nat, List.getElem?_map, List.getElem?_eq_getElem hk', List.getElem?_eq_getElem hi, Option.map_some, bind_some', prd0, asStr, wrap_nat (show k < 9223372036854775807 by omega), beq_d, Option.some.injEq]
    rfl
  · simp only [ref21_Check_L1, decide_eq_true_eq, Int.lt_irrefl, if_false, idxP_nat, List.getElem?_map, List.getElem?_eq_getElem hi, Option.map_some, bind_some', right_ok, asBool, Bool.not_not]
    rfl
  · have := rounds_gt; omega
  · rw [any_mem _ _ (by simp; omega)]; simp only [decide_eq_true_eq]

theorem fares_ref (l : List Prdt) (disc within cap : Int) (hl : l.length ≤ maxLen ∧ ∀ y ∈ l, y.Ok) : ref21_Check_M [faresPV l disc within cap] = some (res (fareRes l disc within cap).1 (fareRes l disc within cap).2) := by
  have hm := maxLen_lt
  simp only [ref21_Check_M, ref21_Check, faresPV, asAgg, cell, PV.cells, List.getD_cons_zero, List.getD_cons_succ, List.length_cons, List.length_nil, Nat.reduceAdd, asSl, asInt, asBool, if_true, bind_some', List.length_map, within_ref, bif_or']
  unfold fareRes
  generalize (!wi disc 0 1000000 || !wi within 0 86400 || !wi cap 0 1000000) = c
  cases c with
  | true => rfl
  | false =>
    simp only [Bool.false_eq_true, if_false]
    by_cases h64 : l.length > 16
    · rw [if_pos (by simp; omega), if_pos h64]; rfl
    · rw [if_neg (by simp; omega), if_neg h64, ← scanE_eq]
      refine loop_scan' (fun k => (l.map Prdt.pv, (k : Int), ())) l.length _ (fun k hk rec => ?_) (fun rec => ?_) ?_ rfl
      · have h1 : (k : Int) < (l.length : Int) := by omega
        have hid := ref15name_ok l[k].id (hl.2 _ (List.getElem_mem hk)).id
        have hin := prod_inner l hl.1 k hk rec
        simp only [ref21_Check_L2, decide_eq_true_eq, List.length_map, h1, if_true, idxP_nat, List.getElem?_map, List.getElem?_eq_getElem hk, Option.map_some, bind_some', prd0, asStr, asBool, hid, hin, wrap_nat (show k < 9223372036854775807 by omega)]
        unfold prodErr
        rw [List.getElem?_eq_getElem hk]
        simp only
        generalize prodBad l[k] = c
        cases validB l[k].id with
        | false => rfl
        | true =>
          by_cases hmem : l[k].id ∈ (l.map Prdt.id).take k
          · simp only [hmem, if_true, Bool.not_true, Bool.false_eq_true, Bool.true_eq_false, if_false]; rfl
          · simp only [hmem, if_true, Bool.not_true, Bool.false_eq_true, Bool.true_eq_false, if_false]
            cases c <;> rfl
      · simp only [ref21_Check_L2, decide_eq_true_eq, List.length_map, Int.lt_irrefl, if_false]; rfl
      · have := rounds_gt; omega

/-! ### footpaths -/
theorem path0 (x : Path) : cell x.pv 0 = .int .i64 x.a := rfl
theorem path1 (x : Path) : cell x.pv 1 = .int .i64 x.b := rfl
theorem path2 (x : Path) : cell x.pv 2 = .int .i64 x.secs := rfl
theorem path3 (x : Path) : cell x.pv 3 = .bool x.free := rfl
def pathKey (x : Path) : Int × Int × Bool := (x.a, x.b, x.free)
def pathPV (x : Int × Int × Bool) : PV := .agg [.int .i64 x.1, .int .i64 x.2.1, .bool x.2.2]
theorem path_key (a b : Int × Int × Bool) : peqL (pathPV a).cells (pathPV b).cells = decide (a = b) := by
  obtain ⟨a1, a2, a3⟩ := a
  obtain ⟨b1, b2, b3⟩ := b
  rw [Bool.eq_iff_iff]; simp [pathPV, PV.cells, peqL, peq]
def pathErr (l : List Path) (n : Int) (k : Nat) : Int := match l[k]? with
  | none => 0
  | some x => if (decide (x.a < 0) || decide (x.a ≥ n) || decide (x.b < 0) || decide (x.b ≥ n) || decide (x.a = x.b)) = true then 9 else if (decide (x.secs < 1) || decide (x.secs > 14400)) = true then 2 else if pathKey x ∈ (l.map pathKey).take k then 6 else 0
def pathRes (l : List Path) (n : Int) : Int × Int := if l.length > 512 then (0, 5) else scanE (pathErr l n) l.length

theorem sound_prog (l : List Path) (n : Int) (hl : l.length ≤ maxLen) : footpath_sound_M [.rs 4 (l.map Path.pv), .int .i64 n] = some (res (scanE (pathErr l n) l.length).1 (scanE (pathErr l n) l.length).2) := by
  have hm := maxLen_lt
  simp only [footpath_sound_M, footpath_sound, asSl, asInt, if_true, bind_some', List.length_map]
  rw [← scanE_eq]
  refine loop_scan' (fun k => (n, l.map Path.pv, (l.length : Int), (k : Int), seen pathPV ((l.map pathKey).take k), ())) l.length _ (fun k hk rec => ?_) (fun rec => ?_) ?_ rfl
  · have h1 : (k : Int) < (l.length : Int) := by omega
    have hput : mput (.agg [.int .i64 l[k].a, .int .i64 l[k].b, .bool l[k].free]) (.bool true) (seen pathPV ((l.map pathKey).take k)) = _ := seen_put path_key (pathKey l[k]) ((l.map pathKey).take k)
    have hlook : mlook (.agg [.int .i64 l[k].a, .int .i64 l[k].b, .bool l[k].free]) (.bool false) (seen pathPV ((l.map pathKey).take k)) = _ := seen_look path_key (pathKey l[k]) ((l.map pathKey).take k)
    simp only [footpath_sound_L1, decide_eq_true_eq, h1, if_true, idxP_nat, List.getElem?_map, List.getElem?_eq_getElem hk, Option.map_some, bind_some', path0, path1, path2, path3, asInt, asBool, hput, hlook, beq_d, wrap_nat (show k < 9223372036854775807 by omega), ids_snoc pathKey l k hk]
    unfold pathErr
    rw [List.getElem?_eq_getElem hk]
    simp only
    by_cases hmem : pathKey l[k] ∈ (l.map pathKey).take k
    · simp only [hmem, if_true]
      by_cases e1 : l[k].a < 0 <;> by_cases e2 : l[k].a ≥ n <;> by_cases e3 : l[k].b < 0 <;> by_cases e4 : l[k].b ≥ n <;> by_cases e5 : l[k].a = l[k].b <;> by_cases e6 : l[k].secs < 1 <;> by_cases e7 : l[k].secs > 14400 <;>
        simp only [e1, e2, e3, e4, e5, e6, e7, decide_true, decide_false, Bool.or_true, Bool.true_or, Bool.or_false, if_true, if_false, Bool.false_eq_true] <;> rfl
    · simp only [hmem, if_false, Bool.false_eq_true]
      by_cases e1 : l[k].a < 0 <;> by_cases e2 : l[k].a ≥ n <;> by_cases e3 : l[k].b < 0 <;> by_cases e4 : l[k].b ≥ n <;> by_cases e5 : l[k].a = l[k].b <;> by_cases e6 : l[k].secs < 1 <;> by_cases e7 : l[k].secs > 14400 <;>
        simp only [e1, e2, e3, e4, e5, e6, e7, decide_true, decide_false, Bool.or_true, Bool.true_or, Bool.or_false, if_true, if_false, Bool.false_eq_true] <;> rfl
  · simp only [footpath_sound_L1, decide_eq_true_eq, Int.lt_irrefl, if_false]; rfl
  · have := rounds_gt; omega

theorem path_prog (l : List Path) (n : Int) (hl : l.length ≤ maxLen) : footpath_Check_M [.rs 4 (l.map Path.pv), .int .i64 n] = some (res (pathRes l n).1 (pathRes l n).2) := by
  have h := sound_prog l n hl
  simp only [res] at h
  simp only [footpath_Check_M, footpath_Check, asSl, asInt, if_true, bind_some', List.length_map, h, asTup, List.length_cons, List.length_nil, Nat.reduceAdd, List.getD_cons_zero, List.getD_cons_succ, decide_eq_true_eq]
  unfold pathRes
  by_cases h64 : l.length > 512
  · rw [if_pos (by omega), if_pos h64]; rfl
  · rw [if_neg (by omega), if_neg h64]; rfl

theorem path_inner (l : List Path) (n : Int) (hl : l.length ≤ maxLen) (i : Nat) (hi : i < l.length) (rec3 : List PV × Int × Int × Unit → Option PV) :
    lpS.run (ref20_valid_L1 rec3) (l.map Path.pv, n, (i : Int), 0, .int .i64 l[i].a, .int .i64 l[i].b, .int .i64 l[i].secs, .bool l[i].free, ()) = if pathKey l[i] ∈ (l.map pathKey).take i then some (res i 6) else rec3 (l.map Path.pv, n, IntKind.i64.wrap ((i : Int) + 1), ()) := by
  have hm := maxLen_lt
  refine (dup_scan (fun k => (l.map Path.pv, n, (i : Int), (k : Int), PV.int .i64 l[i].a, PV.int .i64 l[i].b, PV.int .i64 l[i].secs, PV.bool l[i].free, ())) i (fun k => decide ((l.map pathKey)[k]? = some (pathKey l[i]))) (no := some (res i 6)) (fin := rec3 (l.map Path.pv, n, IntKind.i64.wrap ((i : Int) + 1), ())) (fun k hk rec => ?_) (fun rec => ?_) ?_ rfl).trans ?_
  · have h1 : (k : Int) < (i : Int) := by omega
    have hk' : k < l.length := by omega
    have hd : decide ((l.map pathKey)[k]? = some (pathKey l[i])) = (decide (l[k].a = l[i].a) && decide (l[k].b = l[i].b) && decide (l[k].free = l[i].free)) := by
      rw [Bool.eq_iff_iff]
      simp [List.getElem?_eq_getElem hk', pathKey, and_assoc]
    simp only [ref20_valid_L1, decide_eq_true_eq, h1, if_true, idxP_nat, List.getElem?_map, List.getElem?_eq_getElem hk', Option.map_some, bind_some', path0, path1, path3, asInt, asBool, wrap_nat (show k < 9223372036854775807 by omega), beq_d, bif_and]
    simp only [List.getElem?_map] at hd
    by_cases e1 : l[k].a = l[i].a <;> by_cases e2 : l[k].b = l[i].b <;> by_cases e3 : l[k].free = l[i].free <;> simp [e1, e2, e3, pathKey, res]
  · simp only [ref20_valid_L1, decide_eq_true_eq, Int.lt_irrefl, if_false]
  · have := rounds_gt; omega
  · rw [any_mem _ _ (by simp; omega)]; simp only [decide_eq_true_eq]

theorem valid_ref (l : List Path) (n : Int) (hl : l.length ≤ maxLen) : ref20_valid_M [.rs 4 (l.map Path.pv), .int .i64 n] = some (res (scanE (pathErr l n) l.length).1 (scanE (pathErr l n) l.length).2) := by
  have hm := maxLen_lt
  simp only [ref20_valid_M, ref20_valid, asSl, asInt, if_true, bind_some']
  rw [← scanE_eq]
  refine loop_scan' (fun k => (l.map Path.pv, n, (k : Int), ())) l.length _ (fun k hk rec => ?_) (fun rec => ?_) ?_ rfl
  · have h1 : (k : Int) < (l.length : Int) := by omega
    have hin := path_inner l n hl k hk rec
    simp only [ref20_valid_L2, decide_eq_true_eq, List.length_map, h1, if_true, idxP_nat, List.getElem?_map, List.getElem?_eq_getElem hk, Option.map_some, bind_some', path0, path1, path2, path3, asInt, hin, beq_d, bif_or', wrap_nat (show k < 9223372036854775807 by omega)]
    unfold pathErr
    rw [List.getElem?_eq_getElem hk]
    simp only
    generalize (decide (l[k].a < 0) || decide (l[k].a ≥ n) || decide (l[k].b < 0) || decide (l[k].b ≥ n) || decide (l[k].a = l[k].b)) = A
    generalize (decide (l[k].secs < 1) || decide (l[k].secs > 14400)) = B
    by_cases hmem : pathKey l[k] ∈ (l.map pathKey).take k
    · simp only [hmem, if_true]
      cases A <;> cases B <;> rfl
    · simp only [hmem, if_false]
      cases A <;> cases B <;> rfl
  · simp only [ref20_valid_L2, decide_eq_true_eq, List.length_map, Int.lt_irrefl, if_false]; rfl
  · have := rounds_gt; omega
theorem path_ref (l : List Path) (n : Int) (hl : l.length ≤ maxLen) : ref20_Check_M [.rs 4 (l.map Path.pv), .int .i64 n] = some (res (pathRes l n).1 (pathRes l n).2) := by
  have h := valid_ref l n hl
  simp only [res] at h
  simp only [ref20_Check_M, ref20_Check, asSl, asInt, if_true, bind_some', List.length_map, h, asTup, List.length_cons, List.length_nil, Nat.reduceAdd, List.getD_cons_zero, List.getD_cons_succ, decide_eq_true_eq]
  unfold pathRes
  by_cases h64 : l.length > 512
  · rw [if_pos (by omega), if_pos h64]; rfl
  · rw [if_neg (by omega), if_neg h64]; rfl
end Go.Ab.Tt
