/- Laws for the checks: maps that only say what has been seen, bytes, results. -/
import Derived.Test.YtacjfkmonjbcmaaTtData
import Derived.Test.YtacjfkmonjbcmaaAbLib
namespace Go.Ab.Tt
set_option linter.unusedVariables false

theorem bif_and (a b : Bool) : (bif a then some b else some false) = some (a && b) := by cases a <;> rfl
theorem bif_or' (a b : Bool) : (bif a then some true else some b) = some (a || b) := by cases a <;> rfl
theorem beq_d {A : Type} [DecidableEq A] [BEq A] [LawfulBEq A] (a b : A) : (a == b) = decide (a = b) := by rw [Bool.eq_iff_iff]; simp
theorem bne_d {A : Type} [DecidableEq A] [BEq A] [LawfulBEq A] (a b : A) : (a != b) = !decide (a = b) := by rw [Bool.eq_iff_iff]; simp

/-! ### maps by typed keys -/
section
variable {K : Type} [DecidableEq K]
def tput (a : K) (v : PV) : List (K × PV) → List (K × PV)
  | [] => [(a, v)]
  | (b, u) :: r => if a = b then (a, v) :: r else (b, u) :: tput a v r
def tlook (a : K) (z : PV) : List (K × PV) → PV
  | [] => z
  | (b, u) :: r => if a = b then u else tlook a z r
def pvMap (key : K → PV) (m : List (K × PV)) : List (PV × PV) := m.map fun x => (key x.1, x.2)
theorem tlook_put (a b : K) (v z : PV) : ∀ m, tlook a z (tput b v m) = if a = b then v else tlook a z m
  | [] => rfl
  | (c, u) :: r => by
    simp only [tput]
    by_cases h : b = c
    · subst h
      simp only [if_true, tlook]
      by_cases h2 : a = b <;> simp [h2]
    · simp only [if_neg h, tlook, tlook_put a b v z r]
      by_cases h2 : a = c
      · subst h2
        simp [Ne.symm h]
      · simp [h2]
variable {key : K → PV} (hk : ∀ a b, peqL (key a).cells (key b).cells = decide (a = b))
include hk
theorem mput_pv (a : K) (v : PV) : ∀ m, mput (key a) v (pvMap key m) = pvMap key (tput a v m)
  | [] => rfl
  | (b, u) :: r => by
    simp only [pvMap, List.map_cons, mput, hk, tput]
    by_cases h : a = b
    · simp [h]
    · have := mput_pv a v r
      simp only [pvMap] at this
      simp [h, this]
theorem mlook_pv (a : K) (z : PV) : ∀ m, mlook (key a) z (pvMap key m) = tlook a z m
  | [] => rfl
  | (b, u) :: r => by
    simp only [pvMap, List.map_cons, mlook, hk, tlook]
    by_cases h : a = b
    · simp [h]
    · have := mlook_pv a z r
      simp only [pvMap] at this
      simp [h, this]
omit hk
/-- the map of those that have been seen -/
def tseen (l : List K) : List (K × PV) := l.foldl (fun m a => tput a (.bool true) m) []
def seen (key : K → PV) (l : List K) : List (PV × PV) := pvMap key (tseen l)
theorem tseen_snoc (l : List K) (a : K) : tseen (l ++ [a]) = tput a (.bool true) (tseen l) := by simp [tseen]
theorem tseen_look (a : K) (l : List K) : tlook a (.bool false) (tseen l) = .bool (decide (a ∈ l)) := by
  have key : ∀ (l : List K) (m : List (K × PV)) (s : K → Bool), (∀ a, tlook a (.bool false) m = .bool (s a)) → ∀ a, tlook a (.bool false) (l.foldl (fun m a => tput a (.bool true) m) m) = .bool (decide (a ∈ l) || s a) := by
    intro l
    induction l with
    | nil => intro m s h a; simp [h a]
    | cons b l ih =>
      intro m s h a
      simp only [List.foldl_cons]
      rw [ih (tput b (.bool true) m) (fun a => decide (a = b) || s a) (fun a => by
        rw [tlook_put]
        by_cases hab : a = b
        · simp [hab]
        · simp [hab, h a]) a]
      simp only [PV.bool.injEq, List.mem_cons, Bool.decide_or]
      cases decide (a ∈ l) <;> cases decide (a = b) <;> rfl
  have := key l [] (fun _ => false) (fun _ => rfl) a
  simpa [tseen] using this
include hk
theorem seen_look (a : K) (l : List K) : mlook (key a) (.bool false) (seen key l) = .bool (decide (a ∈ l)) := by
  rw [seen, mlook_pv hk, tseen_look]
theorem seen_put (a : K) (l : List K) : mput (key a) (.bool true) (seen key l) = seen key (l ++ [a]) := by
  rw [seen, mput_pv hk, seen, tseen_snoc]
end
theorem str_key (a b : Bytes) : peqL (PV.str a).cells (PV.str b).cells = decide (a = b) := by
  simp only [PV.cells, peqL, peq, Bool.and_true, beq_d]
theorem int_key (a b : Int) : peqL (PV.int .i64 a).cells (PV.int .i64 b).cells = decide (a = b) := by
  simp only [PV.cells, peqL, peq, Bool.and_true, beq_d]

/-- a loop that looks for the first round at which it ends -/
def orFin {R : Type} (o : Option (Option R)) (fin : Option R) : Option R := match o with | some r => r | none => fin
theorem loop_scan' {S R : Type} {body : S → (S → Option R) → Option R} (st : Nat → S) (n : Nat) (bad : Nat → Option (Option R)) {fin : Option R}
    (h : ∀ k, k < n → ∀ rec, body (st k) rec = orFin (bad k) (rec (st (k + 1)))) (hend : ∀ rec, body (st n) rec = fin) (hn : n < rounds) {s0 : S} (h0 : st 0 = s0) :
    lpS.run body s0 = orFin ((List.range n).findSome? bad) fin := loop_scan st n bad h hend hn h0
/-! ### results -/
def res (i e : Int) : PV := .tup [.int .i64 i, .int .i64 e]
/-- the first index with an error, and the error -/
def scanE (f : Nat → Int) (n : Nat) : Int × Int := match (List.range n).findSome? (fun k => if f k = 0 then none else some ((k : Int), f k)) with | some x => x | none => (0, 0)
/-- what a round does: an error ends it -/
def errAt (k : Nat) (e : Int) : Option (Option PV) := if e = 0 then none else some (some (res k e))
theorem scanE_eq (f : Nat → Int) (n : Nat) : orFin ((List.range n).findSome? fun k => errAt k (f k)) (some (res 0 0)) = some (res (scanE f n).1 (scanE f n).2) := by
  unfold scanE
  have : (List.range n).findSome? (fun k => errAt k (f k)) = ((List.range n).findSome? (fun k => if f k = 0 then none else some ((k : Int), f k))).map fun x => some (res x.1 x.2) := by
    rw [List.map_findSome?]
    congr 1
    funext k
    unfold errAt
    by_cases h : f k = 0 <;> simp [h]
  rw [this]
  cases (List.range n).findSome? (fun k => if f k = 0 then none else some ((k : Int), f k)) <;> rfl
/-! ### identifiers -/
def identByte (b : UInt8) : Bool :=
  (decide (97 ≤ (b.toNat : Int)) && decide ((b.toNat : Int) ≤ 122)) || (decide (65 ≤ (b.toNat : Int)) && decide ((b.toNat : Int) ≤ 90)) || (decide (48 ≤ (b.toNat : Int)) && decide ((b.toNat : Int) ≤ 57)) || decide ((b.toNat : Int) = 45) || decide ((b.toNat : Int) = 95) || decide ((b.toNat : Int) = 46)
def validB (s : Bytes) : Bool := decide (1 ≤ s.length) && decide (s.length ≤ 32) && s.all identByte
theorem idxB_nat (s : Bytes) (k : Nat) : idxB s (k : Int) = s[k]? := by simp [idxB]
/-- a loop over the bytes of a string that ends at the first bad byte -/
theorem loop_bytes {R : Type} {body : Bytes × Int × Unit → (Bytes × Int × Unit → Option R) → Option R} (s : Bytes) (hs : s.length ≤ maxLen) (ok : UInt8 → Bool) (no fin : Option R)
    (h : ∀ k, (hk : k < s.length) → ∀ rec, body (s, (k : Int), ()) rec = if ok s[k] then rec (s, ((k + 1 : Nat) : Int), ()) else no) (hend : ∀ rec, body (s, (s.length : Int), ()) rec = fin) : lpS.run body (s, 0, ()) = if s.all ok then fin else no := by
  have hm := maxLen_lt
  refine (loop_scan (fun k => (s, (k : Int), ())) s.length (fun k => (s[k]?).bind fun b => if ok b then none else some no) (fun k hk rec => ?_) (fin := fin) hend ?_ rfl).trans ?_
  · rw [h k hk, List.getElem?_eq_getElem hk, Option.bind_some]
    by_cases hb : ok s[k] = true <;> simp [hb]
  · have := rounds_gt; omega
  · rw [range_find]
    clear h hend hs
    induction s with
    | nil => rfl
    | cons b s ih =>
      simp only [List.findSome?_cons, List.all_cons]
      by_cases hb : ok b = true
      · simp only [hb, if_true, Bool.true_and]; exact ih
      · simp [hb]
end Go.Ab.Tt
namespace Go.Ab.Tt
end Go.Ab.Tt
namespace Go.Ab.Tt
/-- a loop over the earlier ones that ends at a hit -/
theorem dup_scan {S R : Type} {body : S → (S → Option R) → Option R} (st : Nat → S) (i : Nat) (hit : Nat → Bool) {no fin : Option R}
    (h : ∀ k, k < i → ∀ rec, body (st k) rec = if hit k = true then no else rec (st (k + 1))) (hend : ∀ rec, body (st i) rec = fin) (hi : i < rounds) {s0 : S} (h0 : st 0 = s0) :
    lpS.run body s0 = if (List.range i).any hit = true then no else fin := by
  refine (loop_scan' st i (fun k => if hit k = true then some no else none) (fun k hk rec => ?_) hend hi h0).trans ?_
  · rw [h k hk]
    by_cases hh : hit k = true <;> simp [hh, orFin]
  · have : ∀ l : List Nat, orFin (l.findSome? fun k => if hit k = true then some no else none) fin = if l.any hit = true then no else fin := by
      intro l
      induction l with
      | nil => rfl
      | cons k l ih =>
        simp only [List.findSome?_cons, List.any_cons]
        by_cases hh : hit k = true
        · simp [hh, orFin]
        · simp only [hh, Bool.false_or, if_false]; exact ih
    exact this _
theorem ids_snoc {A B : Type} (f : A → B) (l : List A) (k : Nat) (h : k < l.length) : (l.map f).take (k + 1) = (l.map f).take k ++ [f l[k]] := by
  rw [List.take_succ_eq_append_getElem (by simpa using h)]; simp
end Go.Ab.Tt
namespace Go.Ab.Tt
theorem scanE_fst (f : Nat → Int) (n : Nat) (h : (scanE f n).2 = 0) : (scanE f n).1 = 0 := by
  unfold scanE at *
  cases hf : (List.range n).findSome? (fun k => if f k = 0 then none else some ((k : Int), f k)) with
  | none => rfl
  | some x =>
    rw [hf] at h
    obtain ⟨k, _, hk⟩ := List.exists_of_findSome?_eq_some hf
    by_cases h0 : f k = 0
    · rw [if_pos h0] at hk; cases hk
    · rw [if_neg h0] at hk
      simp only [Option.some.injEq] at hk; subst hk
      exact absurd h h0
end Go.Ab.Tt
