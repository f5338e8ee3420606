/- Walks in a graph, and walks by way of nodes below a bound. -/
import Derived.Test.YtacjfkmonjbcmaaAbLib
import Derived.Test.YtacjfkmonjbcmaaSh2
namespace Go.Ab.Nw

section
variable (w : Nat → Nat → Nat → Prop)
/-- a walk of that length by way of nodes below k -/
def Via : Nat → Nat → Nat → Nat → Prop
  | 0, i, j, L => w i j L
  | k + 1, i, j, L => Via k i j L ∨ ∃ A B, Via k i k A ∧ Via k k j B ∧ L = A + B
/-- a walk: at least one edge -/
inductive Walk : Nat → Nat → Nat → Prop
  | edge {i j c : Nat} : w i j c → Walk i j c
  | snoc {i m j A c : Nat} : Walk i m A → w m j c → Walk i j (A + c)
end

section
variable {w : Nat → Nat → Nat → Prop}
theorem Via.up {k i j L : Nat} (h : Via w k i j L) : Via w (k + 1) i j L := .inl h
theorem Via.le {k k' i j L : Nat} (hk : k ≤ k') (h : Via w k i j L) : Via w k' i j L := by
  induction hk with
  | refl => exact h
  | step _ ih => exact ih.up
theorem via_join : ∀ (k : Nat) {m i j A B : Nat}, m < k → Via w k i m A → Via w k m j B → ∃ C, C ≤ A + B ∧ Via w k i j C
  | 0, _, _, _, _, _, h, _, _ => by omega
  | k + 1, m, i, j, A, B, h, ha, hb => by
    by_cases hm : m = k
    · subst hm
      have h1 : ∃ A', A' ≤ A ∧ Via w m i m A' := by
        rcases ha with ha | ⟨X, Y, x, y, e⟩
        · exact ⟨A, Nat.le_refl _, ha⟩
        · exact ⟨X, by omega, x⟩
      have h2 : ∃ B', B' ≤ B ∧ Via w m m j B' := by
        rcases hb with hb | ⟨X, Y, x, y, e⟩
        · exact ⟨B, Nat.le_refl _, hb⟩
        · exact ⟨Y, by omega, y⟩
      obtain ⟨A', a1, a2⟩ := h1
      obtain ⟨B', b1, b2⟩ := h2
      exact ⟨A' + B', by omega, .inr ⟨A', B', a2, b2, rfl⟩⟩
    · have hlt : m < k := by omega
      rcases ha with ha | ⟨X, Y, x, y, e⟩
      · rcases hb with hb | ⟨X', Y', x', y', e'⟩
        · obtain ⟨C, c1, c2⟩ := via_join k hlt ha hb
          exact ⟨C, c1, .inl c2⟩
        · obtain ⟨C, c1, c2⟩ := via_join k hlt ha x'
          exact ⟨C + Y', by omega, .inr ⟨C, Y', c2, y', rfl⟩⟩
      · rcases hb with hb | ⟨X', Y', x', y', e'⟩
        · obtain ⟨C, c1, c2⟩ := via_join k hlt y hb
          exact ⟨X + C, by omega, .inr ⟨X, C, x, c2, rfl⟩⟩
        · exact ⟨X + Y', by omega, .inr ⟨X, Y', x, y', rfl⟩⟩
theorem Walk.join {i m j A B : Nat} (h1 : Walk w i m A) (h2 : Walk w m j B) : Walk w i j (A + B) := by
  induction h2 with
  | edge h => exact .snoc h1 h
  | snoc _ h ih => rw [← Nat.add_assoc]; exact .snoc ih h
theorem Via.walk : ∀ {k i j L : Nat}, Via w k i j L → Walk w i j L
  | 0, _, _, _, h => .edge h
  | k + 1, i, j, L, .inl h => Via.walk (k := k) h
  | k + 1, i, j, L, .inr ⟨A, B, h1, h2, e⟩ => by rw [e]; exact (Via.walk (k := k) h1).join (Via.walk (k := k) h2)
theorem Walk.via {n : Nat} (hn : ∀ i j c, w i j c → i < n) {i j L : Nat} (h : Walk w i j L) : ∃ C, C ≤ L ∧ Via w n i j C := by
  induction h with
  | edge h => exact ⟨_, Nat.le_refl _, Via.le (Nat.zero_le _) (show Via w 0 _ _ _ from h)⟩
  | snoc _ h ih =>
    obtain ⟨C, c1, c2⟩ := ih
    obtain ⟨D, d1, d2⟩ := via_join n (hn _ _ _ h) c2 (Via.le (Nat.zero_le _) (show Via w 0 _ _ _ from h))
    exact ⟨D, by omega, d2⟩
theorem Walk.mono {w' : Nat → Nat → Nat → Prop} (hw : ∀ i j c, w i j c → w' i j c) {i j L : Nat} (h : Walk w i j L) : Walk w' i j L := by
  induction h with
  | edge h => exact .edge (hw _ _ _ h)
  | snoc _ h ih => exact .snoc ih (hw _ _ _ h)
/-- edges that are replaced by ones that are not longer -/
theorem Walk.leq {w' : Nat → Nat → Nat → Prop} (hw : ∀ i j c, w i j c → ∃ c', c' ≤ c ∧ w' i j c') {i j L : Nat} (h : Walk w i j L) : ∃ L', L' ≤ L ∧ Walk w' i j L' := by
  induction h with
  | edge h => obtain ⟨c', h1, h2⟩ := hw _ _ _ h; exact ⟨c', h1, .edge h2⟩
  | snoc _ h ih =>
    obtain ⟨c', h1, h2⟩ := hw _ _ _ h
    obtain ⟨L', l1, l2⟩ := ih
    exact ⟨L' + c', by omega, .snoc l2 h2⟩

/-- the shortest length: of walks, or none -/
def Short (w : Nat → Nat → Nat → Prop) (i j : Nat) (o : Option Nat) : Prop := match o with
  | some L => Walk w i j L ∧ ∀ L', Walk w i j L' → L ≤ L'
  | none => ∀ L', ¬ Walk w i j L'
theorem Short.unique {i j : Nat} {o o' : Option Nat} (h : Short w i j o) (h' : Short w i j o') : o = o' := by
  cases o with
  | none => cases o' with
    | none => rfl
    | some L => exact absurd h'.1 (h L)
  | some L => cases o' with
    | none => exact absurd h.1 (h' L)
    | some L' => rw [Nat.le_antisymm (h.2 _ h'.1) (h'.2 _ h.1)]

/-! ### the rounds of the matrix's loops -/
/-- entries, cut at a number that stands for no walk -/
structure Fw (w : Nat → Nat → Nat → Prop) (inf : Nat) (n : Nat) (d : Nat → Nat → Nat) : Prop where
  top : ∀ i j, i < n → j < n → d i j ≤ inf
  real : ∀ i j, i < n → j < n → d i j < inf → Walk w i j (d i j)
/-- not above any walk by way of nodes below k -/
def Below' (w : Nat → Nat → Nat → Prop) (k i j : Nat) (x : Nat) : Prop := ∀ L, Via w k i j L → x ≤ L
theorem fw_step {inf n k i j : Nat} {d : Nat → Nat → Nat} (h : Fw w inf n d) (hi : i < n) (hj : j < n) (hk : k < n) {x : Nat} (hx : x = min (d i j) (d i k + d k j)) {d' : Nat → Nat → Nat} (hd : ∀ a b, d' a b = if a = i ∧ b = j then x else d a b) :
    Fw w inf n d' ∧ (∀ a b, d' a b ≤ d a b) ∧ (Below' w k i k (d i k) → Below' w k k j (d k j) → Below' w k i j (d i j) → Below' w (k + 1) i j (d' i j)) := by
  refine ⟨⟨fun a b ha hb => ?_, fun a b ha hb hlt => ?_⟩, fun a b => ?_, fun h1 h2 h3 L hL => ?_⟩
  · rw [hd]
    split
    · have := h.top i j hi hj; omega
    · exact h.top a b ha hb
  · rw [hd] at hlt ⊢
    split
    · rename_i e
      rw [if_pos e] at hlt
      obtain ⟨rfl, rfl⟩ := e
      by_cases hm : d a b ≤ d a k + d k b
      · rw [show x = d a b by omega] at hlt ⊢; exact h.real a b ha hb hlt
      · have e2 : x = d a k + d k b := by omega
        rw [e2] at hlt ⊢
        exact (h.real a k ha hk (by omega)).join (h.real k b hk hb (by omega))
    · rename_i e
      rw [if_neg e] at hlt
      exact h.real a b ha hb hlt
  · rw [hd]
    split
    · rename_i e; obtain ⟨rfl, rfl⟩ := e; omega
    · exact Nat.le_refl _
  · rw [hd, if_pos ⟨rfl, rfl⟩]
    rcases hL with hL | ⟨A, B, a1, a2, e⟩
    · have := h3 _ hL; omega
    · have := h1 _ a1
      have := h2 _ a2
      omega
/-- at the end -/
theorem fw_done {inf n : Nat} {d : Nat → Nat → Nat} (hn : ∀ i j c, w i j c → i < n) (h : Fw w inf n d) {i j : Nat} (hi : i < n) (hj : j < n) (hb : Below' w n i j (d i j)) (hcap : ∀ L, (∀ L', Walk w i j L' → L ≤ L') → Walk w i j L → L < inf) :
    Short w i j (if d i j < inf then some (d i j) else none) := by
  have low : ∀ L, Walk w i j L → d i j ≤ L := fun L hL => by
    obtain ⟨C, c1, c2⟩ := hL.via hn
    exact Nat.le_trans (hb C c2) c1
  split
  · rename_i hlt
    exact ⟨h.real i j hi hj hlt, low⟩
  · rename_i hge
    intro L hL
    -- a least one
    have key : ∀ m, (∃ L, L ≤ m ∧ Walk w i j L) → ∃ L, Walk w i j L ∧ ∀ L', Walk w i j L' → L ≤ L' := by
      intro m
      induction m with
      | zero => rintro ⟨L, hl, hw⟩; exact ⟨L, hw, fun L' _ => by omega⟩
      | succ m ih =>
        rintro ⟨L, hl, hw⟩
        by_cases he : ∃ L, L ≤ m ∧ Walk w i j L
        · exact ih he
        · refine ⟨L, hw, fun L' hw' => ?_⟩
          have : ¬ L' ≤ m := fun hle => he ⟨L', hle, hw'⟩
          omega
    obtain ⟨L0, h1, h2⟩ := key L ⟨L, Nat.le_refl _, hL⟩
    have := hcap L0 h2 h1
    have := low L0 h1
    omega
end
end Go.Ab.Nw

namespace Go.Ab.Nw

structure Nd where
  n : Nat
  len : Nat
  e : Nat
  num : Nat
  deriving DecidableEq, Inhabited
/-- 'a' comes before 'b' -/
def bef (a b : Nd) : Bool := decide (a.len < b.len ∨ (a.len = b.len ∧ (a.e < b.e ∨ (a.e = b.e ∧ a.num < b.num))))
def ndLe (a b : Nd) : Prop := bef b a = false
theorem bef_iff (a b : Nd) : bef a b = true ↔ (a.len < b.len ∨ (a.len = b.len ∧ (a.e < b.e ∨ (a.e = b.e ∧ a.num < b.num)))) := by simp [bef]
theorem ndLe_iff (a b : Nd) : ndLe a b ↔ ¬ (b.len < a.len ∨ (b.len = a.len ∧ (b.e < a.e ∨ (b.e = a.e ∧ b.num < a.num)))) := by unfold ndLe; rw [← bef_iff]; simp
theorem ndLe_refl (a : Nd) : ndLe a a := by rw [ndLe_iff]; omega
theorem ndLe_trans {a b c : Nd} (h : ndLe a b) (k : ndLe b c) : ndLe a c := by rw [ndLe_iff] at *; omega
theorem ndLe_of_bef {a b : Nd} (h : bef a b = true) : ndLe a b := by rw [ndLe_iff]; rw [bef_iff] at h; omega
theorem ndLe_len {a b : Nd} (h : ndLe a b) : a.len ≤ b.len := by rw [ndLe_iff] at h; omega

def at' (a : List Nd) (i : Nat) : Nd := a.getD i default
theorem at_get {a : List Nd} {i : Nat} (h : i < a.length) : a[i]? = some (at' a i) := by simp [at', List.getD, h]
def swp (a : List Nd) (i k : Nat) : List Nd := (a.set i (at' a k)).set k (at' a i)
@[simp] theorem swp_len (a : List Nd) (i k : Nat) : (swp a i k).length = a.length := by simp [swp]
theorem at_set (a : List Nd) (i j : Nat) (x : Nd) (h : i < a.length) : at' (a.set i x) j = if j = i then x else at' a j := by
  unfold at' List.getD
  rw [List.getElem?_set]
  by_cases e : i = j
  · subst e; simp [h]
  · rw [if_neg e, if_neg fun h => e h.symm]
theorem at_swp (a : List Nd) (i k j : Nat) (hi : i < a.length) (hk : k < a.length) : at' (swp a i k) j = if j = k then at' a i else if j = i then at' a k else at' a j := by
  unfold swp
  rw [at_set _ _ _ _ (by simpa using hk), at_set _ _ _ _ hi]
theorem mem_at {a : List Nd} {x : Nd} : x ∈ a ↔ ∃ i, i < a.length ∧ at' a i = x := by
  rw [List.mem_iff_getElem?]
  constructor
  · rintro ⟨i, h⟩
    have hi := (List.getElem?_eq_some_iff.1 h).1
    rw [at_get hi] at h
    exact ⟨i, hi, by simpa using h⟩
  · rintro ⟨i, hi, h⟩
    exact ⟨i, by rw [at_get hi, h]⟩
theorem mem_swp {a : List Nd} {i k : Nat} (hi : i < a.length) (hk : k < a.length) (x : Nd) : x ∈ swp a i k ↔ x ∈ a := by
  rw [mem_at, mem_at]
  constructor
  · rintro ⟨j, hj, h⟩
    rw [at_swp _ _ _ _ hi hk] at h
    split at h
    · exact ⟨i, hi, h⟩
    · split at h
      · exact ⟨k, hk, h⟩
      · exact ⟨j, by simpa using hj, h⟩
  · rintro ⟨j, hj, h⟩
    by_cases e1 : j = i
    · subst e1
      refine ⟨k, by simpa using hk, ?_⟩
      rw [at_swp _ _ _ _ hi hk, if_pos rfl, h]
    · by_cases e2 : j = k
      · subst e2
        refine ⟨i, by simpa using hi, ?_⟩
        rw [at_swp _ _ _ _ hi hk]
        split
        · rename_i e; exact absurd e.symm e1
        · rw [if_pos rfl, h]
      · exact ⟨j, by simpa using hj, by rw [at_swp _ _ _ _ hi hk, if_neg e2, if_neg e1, h]⟩

def Hp (a : List Nd) : Prop := ∀ j, 0 < j → j < a.length → ndLe (at' a ((j - 1) / 2)) (at' a j)
theorem Hp.min {a : List Nd} (h : Hp a) : ∀ j, j < a.length → ndLe (at' a 0) (at' a j) := by
  intro j
  induction j using Nat.strongRecOn with
  | ind j ih =>
    intro hj
    by_cases h0 : j = 0
    · subst h0; exact ndLe_refl _
    · exact ndLe_trans (ih ((j - 1) / 2) (by omega) (by omega)) (h j (by omega) hj)

/-! ### an element rises -/
def UpI (a : List Nd) (i : Nat) : Prop := (∀ j, 0 < j → j < a.length → j ≠ i → ndLe (at' a ((j - 1) / 2)) (at' a j)) ∧ ∀ c, 0 < c → c < a.length → (c - 1) / 2 = i → 0 < i → ndLe (at' a ((i - 1) / 2)) (at' a c)
theorem UpI.done {a : List Nd} {i : Nat} (h : UpI a i) (hi : i < a.length) (hs : i = 0 ∨ bef (at' a i) (at' a ((i - 1) / 2)) = false) : Hp a := by
  intro j h0 hj
  by_cases e : j = i
  · subst e
    rcases hs with hs | hs
    · omega
    · exact hs
  · exact h.1 j h0 hj e
theorem UpI.step {a : List Nd} {i : Nat} (h : UpI a i) (h0 : 0 < i) (hi : i < a.length) (hb : bef (at' a i) (at' a ((i - 1) / 2)) = true) : UpI (swp a i ((i - 1) / 2)) ((i - 1) / 2) := by
  have hp : (i - 1) / 2 < a.length := by omega
  have hpi : (i - 1) / 2 < i := by omega
  obtain ⟨p, hpe⟩ : ∃ p, p = (i - 1) / 2 := ⟨_, rfl⟩
  rw [← hpe] at hp hpi hb ⊢
  have hle := ndLe_of_bef hb
  refine ⟨fun j j0 hj hne => ?_, fun c c0 hc hcp hp0 => ?_⟩
  · rw [swp_len] at hj
    rw [at_swp _ _ _ _ hi hp, at_swp _ _ _ _ hi hp, if_neg hne]
    by_cases e1 : j = i
    · subst e1
      rw [← hpe, if_pos rfl, if_pos rfl]; exact hle
    · rw [if_neg e1]
      by_cases e2 : (j - 1) / 2 = p
      · rw [if_pos e2]
        have := h.1 j j0 hj e1
        rw [e2] at this
        exact ndLe_trans hle this
      · rw [if_neg e2]
        by_cases e3 : (j - 1) / 2 = i
        · rw [if_pos e3]
          have := h.2 j j0 hj e3 h0
          rw [← hpe] at this; exact this
        · rw [if_neg e3]; exact h.1 j j0 hj e1
  · rw [swp_len] at hc
    have hpp : (p - 1) / 2 ≠ p ∧ (p - 1) / 2 ≠ i := by omega
    rw [at_swp _ _ _ _ hi hp, at_swp _ _ _ _ hi hp, if_neg hpp.1, if_neg hpp.2]
    have h1 := h.1 p hp0 hp (by omega)
    by_cases e1 : c = p
    · omega
    · rw [if_neg e1]
      by_cases e2 : c = i
      · rw [if_pos e2]; exact h1
      · rw [if_neg e2]
        have := h.1 c c0 hc e2
        rw [hcp] at this
        exact ndLe_trans h1 this
theorem UpI.start {a : List Nd} (h : Hp a) (x : Nd) : UpI (a ++ [x]) a.length := by
  have hat : ∀ j, j < a.length → at' (a ++ [x]) j = at' a j := fun j hj => by simp [at', List.getD, List.getElem?_append_left hj]
  refine ⟨fun j j0 hj hne => ?_, fun c c0 hc hcp h0 => ?_⟩
  · have : j < a.length := by simp at hj; omega
    rw [hat _ (by omega), hat _ this]; exact h j j0 this
  · simp at hc; omega
/-! ### an element sinks -/
def DnI (a : List Nd) (i : Nat) : Prop := (∀ j, 0 < j → j < a.length → (j - 1) / 2 ≠ i → ndLe (at' a ((j - 1) / 2)) (at' a j)) ∧ ∀ c, 0 < c → c < a.length → (c - 1) / 2 = i → 0 < i → ndLe (at' a ((i - 1) / 2)) (at' a c)
theorem DnI.done {a : List Nd} {i : Nat} (h : DnI a i) (hs : ∀ c, 0 < c → c < a.length → (c - 1) / 2 = i → ndLe (at' a i) (at' a c)) : Hp a := by
  intro j h0 hj
  by_cases e : (j - 1) / 2 = i
  · rw [e]; exact hs j h0 hj e
  · exact h.1 j h0 hj e
theorem DnI.step {a : List Nd} {i k : Nat} (h : DnI a i) (hk : k < a.length) (hki : k = 2 * i + 1 ∨ k = 2 * i + 2) (hmin : ∀ c, 0 < c → c < a.length → (c - 1) / 2 = i → ndLe (at' a k) (at' a c)) (hb : bef (at' a k) (at' a i) = true) : DnI (swp a i k) k := by
  have hi : i < a.length := by omega
  have hle := ndLe_of_bef hb
  have hpk : (k - 1) / 2 = i := by omega
  refine ⟨fun j j0 hj hne => ?_, fun c c0 hc hcp hk0 => ?_⟩
  · rw [swp_len] at hj
    rw [at_swp _ _ _ _ hi hk, at_swp _ _ _ _ hi hk, if_neg hne]
    by_cases e1 : j = k
    · subst e1
      rw [hpk, if_pos rfl, if_pos rfl]; exact hle
    · rw [if_neg e1]
      by_cases e2 : (j - 1) / 2 = i
      · rw [if_pos e2, if_neg (by omega)]
        exact hmin j j0 hj e2
      · rw [if_neg e2]
        by_cases e3 : j = i
        · rw [if_pos e3]
          have := h.2 k (by omega) hk hpk (by omega)
          rw [e3]; exact this
        · rw [if_neg e3]; exact h.1 j j0 hj e2
  · rw [swp_len] at hc
    rw [at_swp _ _ _ _ hi hk, at_swp _ _ _ _ hi hk, hpk, if_neg (by omega), if_pos rfl, if_neg (by omega), if_neg (by omega)]
    have := h.1 c c0 hc (by omega)
    rw [hcp] at this; exact this
/-- the last element in the first one's place -/
theorem DnI.start {a : List Nd} (h : Hp a) (hne : 0 < a.length) : DnI ((swp a 0 (a.length - 1)).take (a.length - 1)) 0 := by
  have hl : ((swp a 0 (a.length - 1)).take (a.length - 1)).length = a.length - 1 := by simp
  have hat : ∀ j, 0 < j → j < a.length - 1 → at' ((swp a 0 (a.length - 1)).take (a.length - 1)) j = at' a j := fun j j0 hj => by
    have : at' ((swp a 0 (a.length - 1)).take (a.length - 1)) j = at' (swp a 0 (a.length - 1)) j := by simp [at', List.getD, List.getElem?_take_of_lt hj]
    rw [this, at_swp _ _ _ _ (by omega) (by omega), if_neg (by omega), if_neg (by omega)]
  refine ⟨fun j j0 hj hne => ?_, fun c _ _ _ h0 => by omega⟩
  rw [hl] at hj
  rw [hat j j0 hj, hat _ (by omega) (by omega)]
  exact h j j0 (by omega)
theorem pop_mem {a : List Nd} (hne : 0 < a.length) (y : Nd) : (y ∈ (swp a 0 (a.length - 1)).take (a.length - 1) → y ∈ a) ∧ (y ∈ a → y = at' a 0 ∨ y ∈ (swp a 0 (a.length - 1)).take (a.length - 1)) := by
  refine ⟨fun h => (mem_swp hne (by omega) y).1 (List.mem_of_mem_take h), fun h => ?_⟩
  have h := (mem_swp (i := 0) (k := a.length - 1) hne (by omega) y).2 h
  rw [mem_at] at h
  obtain ⟨j, hj, e⟩ := h
  rw [swp_len] at hj
  by_cases hl : j = a.length - 1
  · left
    rw [at_swp _ _ _ _ hne (by omega), if_pos hl] at e
    exact e.symm
  · right
    rw [List.mem_iff_getElem?]
    refine ⟨j, ?_⟩
    rw [List.getElem?_take_of_lt (by omega), at_get (by simpa using hj), e]
end Go.Ab.Nw

namespace Go.Ab.Nw

/-- a loop whose rounds make a number less -/
theorem loop_meas {S R A : Type} {body : S → (S → Option R) → Option R} (st : A → S) (I : A → Prop) (m : A → Nat) (fin : A → Option R → Prop)
    (h : ∀ a, I a → ∀ rec, (∃ a', I a' ∧ m a' < m a ∧ body (st a) rec = rec (st a')) ∨ (∃ r, fin a r ∧ body (st a) rec = r)) :
    ∀ N a, I a → m a < N → ∃ a' r, I a' ∧ fin a' r ∧ loopS body N (st a) = r := by
  intro N
  induction N with
  | zero => intro a _ h; omega
  | succ N ih =>
    intro a hI hm
    simp only [loopS]
    rcases h a hI (loopS body N) with ⟨a', h1, h2, h3⟩ | ⟨r, h1, h2⟩
    · obtain ⟨a2, r, i1, i2, i3⟩ := ih a' h1 (by omega)
      exact ⟨a2, r, i1, i2, by rw [h3]; exact i3⟩
    · exact ⟨a, r, hI, h1, h2⟩

def up : Nat → List Nd → Nat → List Nd
  | 0, a, _ => a
  | f + 1, a, i => if 0 < i ∧ bef (at' a i) (at' a ((i - 1) / 2)) = true then up f (swp a i ((i - 1) / 2)) ((i - 1) / 2) else a
def push (a : List Nd) (x : Nd) : List Nd := up (a.length + 1) (a ++ [x]) a.length
def kid (a : List Nd) (i : Nat) : Nat := if 2 * i + 1 + 1 < a.length ∧ bef (at' a (2 * i + 1 + 1)) (at' a (2 * i + 1)) = true then 2 * i + 1 + 1 else 2 * i + 1
def down : Nat → List Nd → Nat → List Nd
  | 0, a, _ => a
  | f + 1, a, i => if a.length ≤ 2 * i + 1 then a else if bef (at' a (kid a i)) (at' a i) = true then down f (swp a i (kid a i)) (kid a i) else a
def popd (a : List Nd) : List Nd := (swp a 0 (a.length - 1)).take (a.length - 1)
def rest (a : List Nd) : List Nd := down (a.length + 1) (popd a) 0

theorem up_ok : ∀ (f : Nat) {a : List Nd} {i : Nat}, i < f → i < a.length → UpI a i → Hp (up f a i) ∧ (up f a i).length = a.length ∧ ∀ x, x ∈ up f a i ↔ x ∈ a
  | 0, _, _, h, _, _ => by omega
  | f + 1, a, i, hf, hi, h => by
    unfold up
    split
    · rename_i hc
      have hp : (i - 1) / 2 < a.length := by omega
      obtain ⟨h1, h2, h3⟩ := up_ok f (a := swp a i ((i - 1) / 2)) (i := (i - 1) / 2) (by omega) (by rw [swp_len]; exact hp) (h.step hc.1 hi hc.2)
      exact ⟨h1, by rw [h2, swp_len], fun x => by rw [h3, mem_swp hi hp]⟩
    · rename_i hc
      refine ⟨h.done hi ?_, rfl, fun x => Iff.rfl⟩
      by_cases h0 : i = 0
      · exact .inl h0
      · right
        cases hb : bef (at' a i) (at' a ((i - 1) / 2)) with
        | false => rfl
        | true => exact absurd ⟨by omega, hb⟩ hc
theorem push_ok {a : List Nd} (h : Hp a) (x : Nd) : Hp (push a x) ∧ (push a x).length = a.length + 1 ∧ ∀ y, y ∈ push a x ↔ y ∈ a ∨ y = x := by
  obtain ⟨h1, h2, h3⟩ := up_ok (a.length + 1) (a := a ++ [x]) (i := a.length) (by omega) (by simp) (UpI.start h x)
  exact ⟨h1, by unfold push; rw [h2]; simp, fun y => by unfold push; rw [h3]; simp⟩
theorem kid_ok {a : List Nd} {i : Nat} (h : ¬ a.length ≤ 2 * i + 1) : kid a i < a.length ∧ (kid a i = 2 * i + 1 ∨ kid a i = 2 * i + 2) ∧ ∀ c, 0 < c → c < a.length → (c - 1) / 2 = i → ndLe (at' a (kid a i)) (at' a c) := by
  unfold kid
  split
  · rename_i hc
    refine ⟨by omega, .inr rfl, fun c c0 hl hp => ?_⟩
    have : c = 2 * i + 1 ∨ c = 2 * i + 1 + 1 := by omega
    rcases this with rfl | rfl
    · exact ndLe_of_bef hc.2
    · exact ndLe_refl _
  · rename_i hc
    refine ⟨by omega, .inl rfl, fun c c0 hl hp => ?_⟩
    have : c = 2 * i + 1 ∨ c = 2 * i + 1 + 1 := by omega
    rcases this with rfl | rfl
    · exact ndLe_refl _
    · unfold ndLe
      cases hb : bef (at' a (2 * i + 1 + 1)) (at' a (2 * i + 1)) with
      | false => rfl
      | true => exact absurd ⟨hl, hb⟩ hc
theorem down_ok : ∀ (f : Nat) {a : List Nd} {i : Nat}, a.length ≤ f + i → DnI a i → Hp (down f a i) ∧ (down f a i).length = a.length ∧ ∀ x, x ∈ down f a i ↔ x ∈ a
  | 0, a, i, hf, h => ⟨h.done fun c c0 hc hp => by omega, rfl, fun x => Iff.rfl⟩
  | f + 1, a, i, hf, h => by
    unfold down
    split
    · exact ⟨h.done fun c c0 hc hp => by omega, rfl, fun x => Iff.rfl⟩
    · rename_i hl
      obtain ⟨k1, k2, k3⟩ := kid_ok hl
      split
      · rename_i hb
        obtain ⟨h1, h2, h3⟩ := down_ok f (a := swp a i (kid a i)) (i := kid a i) (by rw [swp_len]; omega) (h.step k1 k2 k3 hb)
        exact ⟨h1, by rw [h2, swp_len], fun x => by rw [h3, mem_swp (by omega) k1]⟩
      · rename_i hb
        refine ⟨h.done fun c c0 hc hp => ndLe_trans ?_ (k3 c c0 hc hp), rfl, fun x => Iff.rfl⟩
        unfold ndLe
        exact Bool.not_eq_true _ ▸ hb
theorem rest_ok {a : List Nd} (h : Hp a) (hne : 0 < a.length) : Hp (rest a) ∧ (rest a).length = a.length - 1 ∧ (∀ y ∈ rest a, y ∈ a) ∧ (∀ y ∈ a, y = at' a 0 ∨ y ∈ rest a) ∧ ∀ y ∈ a, (at' a 0).len ≤ y.len := by
  have hl : (popd a).length = a.length - 1 := by simp [popd]
  obtain ⟨h1, h2, h3⟩ := down_ok (a.length + 1) (a := popd a) (i := 0) (by rw [hl]; omega) (DnI.start h hne)
  refine ⟨h1, by unfold rest; rw [h2, hl], fun y hy => ?_, fun y hy => ?_, fun y hy => ?_⟩
  · exact (pop_mem hne y).1 ((h3 y).1 hy)
  · rcases (pop_mem hne y).2 hy with h | h
    · exact .inl h
    · exact .inr ((h3 y).2 h)
  · obtain ⟨j, hj, rfl⟩ := mem_at.1 hy
    exact ndLe_len (h.min j hj)

/-! ### the graph and the labels -/
structure Ed where
  f : Nat
  t : Nat
  c : Nat
  deriving DecidableEq, Inhabited
def ew (E : List Ed) (i j c : Nat) : Prop := (⟨i, j, c⟩ : Ed) ∈ E
abbrev Lab := Option (Nat × Nat)
abbrev Labs := Nat → Lab
def setL (o : Labs) (v : Nat) (l : Lab) : Labs := fun u => if u = v then l else o u
/-- the edges that lead from nodes that have no label -/
def open' (E : List Ed) (o : Labs) : Nat := E.countP fun y => (o y.f).isNone
def nset (n : Nat) (o : Labs) : Nat := (List.range n).countP fun v => (o v).isSome
/-- a length from the first node -/
def Rch (E : List Ed) (s v L : Nat) : Prop := (v = s ∧ L = 0) ∨ Walk (ew E) s v L
structure DI (E : List Ed) (n s B : Nat) (o : Labs) (pu : Nat) (H : List Nd) : Prop where
  hp : Hp H
  node : ∀ x ∈ H, x.n < n
  real : ∀ x ∈ H, Rch E s x.n x.len
  best : ∀ v L e, v < n → o v = some (L, e) → Rch E s v L ∧ ∀ L', Rch E s v L' → L ≤ L'
  front : ∀ u L e v c, u < n → o u = some (L, e) → (⟨u, v, c⟩ : Ed) ∈ E → o v = none → ∃ x ∈ H, x.n = v ∧ x.len ≤ L + c
  src : o s = none → ∃ x ∈ H, x.n = s ∧ x.len = 0
  bndH : ∀ x ∈ H, x.len ≤ B * nset n o ∧ x.e ≤ nset n o
  bndO : ∀ v L e, v < n → o v = some (L, e) → L ≤ B * n ∧ e ≤ n
  cnt : pu + open' E o ≤ 1 + E.length
  cntH : H.length ≤ pu
theorem nset_le (n : Nat) (o : Labs) : nset n o ≤ n := by
  unfold nset
  have := List.countP_le_length (p := fun v => (o v).isSome) (l := List.range n)
  simpa using this
theorem countP_succ {A : Type} [DecidableEq A] {p q : A → Bool} {v : A} : ∀ {l : List A}, l.Nodup → v ∈ l → (∀ u, u ≠ v → p u = q u) → p v = false → q v = true → l.countP q = l.countP p + 1
  | a :: l, hn, hv, hpq, h0, h1 => by
    rw [List.nodup_cons] at hn
    rw [List.countP_cons, List.countP_cons]
    by_cases e : a = v
    · subst e
      have : l.countP q = l.countP p := by
        apply List.countP_congr
        intro u hu
        rw [hpq u fun e => by subst e; exact hn.1 hu]
      rw [this, h0, h1]; simp
    · have hv' : v ∈ l := by rcases List.mem_cons.1 hv with h | h; exact absurd h.symm e; exact h
      rw [countP_succ hn.2 hv' hpq h0 h1, hpq a e]; omega
theorem nset_set {n : Nat} {o : Labs} {v : Nat} {l : Nat × Nat} (hv : v < n) (h : o v = none) : nset n (setL o v (some l)) = nset n o + 1 :=
  countP_succ (p := fun v => (o v).isSome) (q := fun u => (setL o v (some l) u).isSome) (v := v) List.nodup_range (List.mem_range.2 hv) (fun u hu => by simp [setL, hu]) (by simp [h]) (by simp [setL])
/-- the least element, if it has no label, is as near as can be -/
theorem DI.least {E : List Ed} {n s B : Nat} {o : Labs} {pu : Nat} {H : List Nd} (h : DI E n s B o pu H) (hE : ∀ y ∈ E, y.f < n ∧ y.t < n) {v L : Nat} (hv : o v = none) (hw : Rch E s v L) : ∃ x ∈ H, x.len ≤ L := by
  cases hs : o s with
  | none => obtain ⟨x, h1, _, h2⟩ := h.src hs; exact ⟨x, h1, by omega⟩
  | some l =>
    obtain ⟨Ls, es⟩ := l
    rcases hw with ⟨rfl, _⟩ | hw
    · rw [hs] at hv; cases hv
    have key : ∀ {v L : Nat}, Walk (ew E) s v L → o v = none → ∃ x ∈ H, x.len ≤ L := by
      intro v L hw
      induction hw with
      | @edge j c hc =>
        intro hv
        have hin : s < n := (hE _ hc).1
        obtain ⟨x, h1, _, h2⟩ := h.front s Ls es j c hin hs hc hv
        have := (h.best s Ls es hin hs).2 0 (.inl ⟨rfl, rfl⟩)
        exact ⟨x, h1, by omega⟩
      | @snoc m j A c hA hc ih =>
        intro hv
        cases hm : o m with
        | none =>
          obtain ⟨x, h1, h2⟩ := ih hm
          exact ⟨x, h1, by omega⟩
        | some l =>
          obtain ⟨Lm, em⟩ := l
          have hin : m < n := (hE _ hc).1
          obtain ⟨x, h1, _, h2⟩ := h.front m Lm em j c hin hm hc hv
          have := (h.best m Lm em hin hm).2 A (.inr hA)
          exact ⟨x, h1, by omega⟩
    exact key hw hv
/-- a round that only takes the first element away -/
theorem DI.skip {E : List Ed} {n s B : Nat} {o : Labs} {pu : Nat} {H : List Nd} (h : DI E n s B o pu H) (hne : 0 < H.length) (hset : (o (at' H 0).n).isSome = true) : DI E n s B o pu (rest H) := by
  obtain ⟨r1, r2, r3, r4, r5⟩ := rest_ok h.hp hne
  have other : ∀ x ∈ H, o x.n = none → x ∈ rest H := fun x hx hn => by
    rcases r4 x hx with e | e
    · rw [e] at hn; rw [hn] at hset; cases hset
    · exact e
  refine ⟨r1, fun x hx => h.node x (r3 x hx), fun x hx => h.real x (r3 x hx), h.best, fun u L e v c hu ho he hv => ?_, fun hs => ?_, fun x hx => h.bndH x (r3 x hx), h.bndO, h.cnt, by rw [r2]; have := h.cntH; omega⟩
  · obtain ⟨x, x1, x2, x3⟩ := h.front u L e v c hu ho he hv
    exact ⟨x, other x x1 (by rw [x2]; exact hv), x2, x3⟩
  · obtain ⟨x, x1, x2, x3⟩ := h.src hs
    exact ⟨x, other x x1 (by rw [x2]; exact hs), x2, x3⟩
end Go.Ab.Nw

namespace Go.Ab.Nw

def relax (o : Labs) (x : Nd) : List Ed → Nat → List Nd → Nat × List Nd
  | [], pu, H => (pu, H)
  | z :: es, pu, H => if (o z.t).isNone = true then relax o x es (pu + 1) (push H ⟨z.t, x.len + z.c, x.e + 1, pu⟩) else relax o x es pu H
theorem relax_ok {o : Labs} {x : Nd} : ∀ {es : List Ed} {pu : Nat} {H : List Nd}, Hp H → ∃ k, k ≤ es.length ∧ (relax o x es pu H).1 = pu + k ∧ (relax o x es pu H).2.length = H.length + k ∧ Hp (relax o x es pu H).2 ∧
    (∀ y ∈ (relax o x es pu H).2, y ∈ H ∨ ∃ z ∈ es, o z.t = none ∧ y.n = z.t ∧ y.len = x.len + z.c ∧ y.e = x.e + 1) ∧ (∀ y ∈ H, y ∈ (relax o x es pu H).2) ∧ ∀ z ∈ es, o z.t = none → ∃ y ∈ (relax o x es pu H).2, y.n = z.t ∧ y.len = x.len + z.c
  | [], pu, H, h => ⟨0, Nat.le_refl _, rfl, rfl, h, fun y hy => .inl hy, fun y hy => hy, fun z hz => by cases hz⟩
  | z :: es, pu, H, h => by
    unfold relax
    split
    · rename_i hz
      have hz : o z.t = none := by simpa using hz
      obtain ⟨p1, p2, p3⟩ := push_ok h ⟨z.t, x.len + z.c, x.e + 1, pu⟩
      obtain ⟨k, k1, k2, k3, k4, k5, k6, k7⟩ := relax_ok (o := o) (x := x) (es := es) (pu := pu + 1) p1
      refine ⟨k + 1, by simp; omega, by rw [k2]; omega, by rw [k3, p2]; omega, k4, fun y hy => ?_, fun y hy => k6 y ((p3 y).2 (.inl hy)), fun z' hz' hn => ?_⟩
      · rcases k5 y hy with h1 | ⟨z', h1, h2⟩
        · rcases (p3 y).1 h1 with h1 | rfl
          · exact .inl h1
          · exact .inr ⟨z, by simp, hz, rfl, rfl, rfl⟩
        · exact .inr ⟨z', by simp [h1], h2⟩
      · rcases List.mem_cons.1 hz' with rfl | hz'
        · exact ⟨_, k6 _ ((p3 _).2 (.inr rfl)), rfl, rfl⟩
        · exact k7 z' hz' hn
    · rename_i hz
      obtain ⟨k, k1, k2, k3, k4, k5, k6, k7⟩ := relax_ok (o := o) (x := x) (es := es) (pu := pu) h
      refine ⟨k, by simp; omega, k2, k3, k4, fun y hy => ?_, k6, fun z' hz' hn => ?_⟩
      · rcases k5 y hy with h1 | ⟨z', h1, h2⟩
        · exact .inl h1
        · exact .inr ⟨z', by simp [h1], h2⟩
      · rcases List.mem_cons.1 hz' with rfl | hz'
        · rw [hn] at hz; exact absurd rfl hz
        · exact k7 z' hz' hn
theorem open_set (E : List Ed) (o : Labs) (v : Nat) (l : Nat × Nat) (h : o v = none) : open' E o = open' E (setL o v (some l)) + (E.filter fun y => y.f == v).length := by
  unfold open'
  induction E with
  | nil => rfl
  | cons y E ih =>
    rw [List.countP_cons, List.countP_cons, List.filter_cons, ih]
    by_cases e : y.f = v
    · subst e; simp [setL, h]; omega
    · simp [setL, e]; omega
theorem DI.settle {E : List Ed} {n s B : Nat} {o : Labs} {pu : Nat} {H : List Nd} (h : DI E n s B o pu H) (hE : ∀ y ∈ E, y.f < n ∧ y.t < n ∧ y.c ≤ B) (hne : 0 < H.length) (hno : o (at' H 0).n = none) :
    DI E n s B (setL o (at' H 0).n (some ((at' H 0).len, (at' H 0).e))) (relax (setL o (at' H 0).n (some ((at' H 0).len, (at' H 0).e))) (at' H 0) (E.filter fun y => y.f == (at' H 0).n) pu (rest H)).1 (relax (setL o (at' H 0).n (some ((at' H 0).len, (at' H 0).e))) (at' H 0) (E.filter fun y => y.f == (at' H 0).n) pu (rest H)).2 ∧
    (relax (setL o (at' H 0).n (some ((at' H 0).len, (at' H 0).e))) (at' H 0) (E.filter fun y => y.f == (at' H 0).n) pu (rest H)).2.length + open' E (setL o (at' H 0).n (some ((at' H 0).len, (at' H 0).e))) < H.length + open' E o := by
  obtain ⟨r1, r2, r3, r4, r5⟩ := rest_ok h.hp hne
  obtain ⟨x, hx⟩ : ∃ x, x = at' H 0 := ⟨_, rfl⟩
  rw [← hx] at hno r4 r5 ⊢
  have hxm : x ∈ H := mem_at.2 ⟨0, hne, hx.symm⟩
  have hxn := h.node x hxm
  obtain ⟨o1, ho1⟩ : ∃ o1, o1 = setL o x.n (some (x.len, x.e)) := ⟨_, rfl⟩
  rw [← ho1]
  have oo : ∀ v, o1 v = if v = x.n then some (x.len, x.e) else o v := fun v => by rw [ho1]; rfl
  have on : ∀ v, o1 v = none → v ≠ x.n ∧ o v = none := fun v hv => by
    rw [oo] at hv
    split at hv
    · cases hv
    · exact ⟨‹_›, hv⟩
  obtain ⟨k, k1, k2, k3, k4, k5, k6, k7⟩ := relax_ok (o := o1) (x := x) (es := E.filter fun y => y.f == x.n) (pu := pu) r1
  have hs : nset n o1 = nset n o + 1 := by rw [ho1]; exact nset_set hxn hno
  have hop : open' E o = open' E o1 + (E.filter fun y => y.f == x.n).length := by rw [ho1]; exact open_set E o x.n _ hno
  have mem : ∀ z, z ∈ (E.filter fun y => y.f == x.n) ↔ z ∈ E ∧ z.f = x.n := fun z => by simp [List.mem_filter]
  have go : ∀ z, z ∈ E → z.f = x.n → Walk (ew E) s z.t (x.len + z.c) := fun z hz hf => by
    have he : ew E x.n z.t z.c := by
      unfold ew
      have : (⟨x.n, z.t, z.c⟩ : Ed) = z := by rw [← hf]
      rw [this]; exact hz
    rcases h.real x hxm with ⟨e1, e2⟩ | hw
    · rw [e2, Nat.zero_add]
      rw [e1] at he
      exact .edge he
    · exact .snoc hw he
  have other : ∀ y ∈ H, y.n ≠ x.n → y ∈ (relax o1 x (E.filter fun y => y.f == x.n) pu (rest H)).2 := fun y hy hn => by
    rcases r4 y hy with e | e
    · exact absurd (by rw [e]) hn
    · exact k6 y e
  refine ⟨⟨k4, fun y hy => ?_, fun y hy => ?_, fun v L e hv ho => ?_, fun u L e v c hu ho he hv => ?_, fun hs' => ?_, fun y hy => ?_, fun v L e hv ho => ?_, ?_, ?_⟩, ?_⟩
  · rcases k5 y hy with h1 | ⟨z, z1, z2, z3, _⟩
    · exact h.node y (r3 y h1)
    · rw [z3]; exact (hE z ((mem z).1 z1).1).2.1
  · rcases k5 y hy with h1 | ⟨z, z1, z2, z3, z4, _⟩
    · exact h.real y (r3 y h1)
    · rw [z3, z4]; exact .inr (go z ((mem z).1 z1).1 ((mem z).1 z1).2)
  · rw [oo] at ho
    split at ho
    · rename_i e'
      simp only [Option.some.injEq, Prod.mk.injEq] at ho
      obtain ⟨rfl, rfl⟩ := ho
      subst e'
      refine ⟨h.real x hxm, fun L' hL => ?_⟩
      obtain ⟨y, y1, y2⟩ := h.least (fun y hy => ⟨(hE y hy).1, (hE y hy).2.1⟩) hno hL
      exact Nat.le_trans (r5 y y1) y2
    · exact h.best v L e hv ho
  · obtain ⟨v1, v2⟩ := on v hv
    rw [oo] at ho
    split at ho
    · rename_i e'
      simp only [Option.some.injEq, Prod.mk.injEq] at ho
      obtain ⟨rfl, rfl⟩ := ho
      obtain ⟨y, y1, y2, y3⟩ := k7 ⟨u, v, c⟩ ((mem _).2 ⟨he, e'⟩) hv
      exact ⟨y, y1, y2, by rw [y3]; exact Nat.le_refl _⟩
    · obtain ⟨y, y1, y2, y3⟩ := h.front u L e v c hu ho he v2
      exact ⟨y, other y y1 (by rw [y2]; exact v1), y2, y3⟩
  · obtain ⟨v1, v2⟩ := on s hs'
    obtain ⟨y, y1, y2, y3⟩ := h.src v2
    exact ⟨y, other y y1 (by rw [y2]; exact v1), y2, y3⟩
  · rw [hs, Nat.mul_succ]
    rcases k5 y hy with h1 | ⟨z, z1, z2, z3, z4, z5⟩
    · have := h.bndH y (r3 y h1); omega
    · have := h.bndH x hxm
      have := (hE z ((mem z).1 z1).1).2.2
      omega
  · rw [oo] at ho
    split at ho
    · simp only [Option.some.injEq, Prod.mk.injEq] at ho
      obtain ⟨rfl, rfl⟩ := ho
      have h1 := h.bndH x hxm
      have h2 := nset_le n o
      have h3 : B * nset n o ≤ B * n := Nat.mul_le_mul_left _ h2
      omega
    · exact h.bndO v L e hv ho
  · have := h.cnt; omega
  · have := h.cntH; omega
  · rw [k3, r2]; omega
theorem DI.start {E : List Ed} {n s B : Nat} (hs : s < n) : DI E n s B (fun _ => none) 1 [⟨s, 0, 0, 0⟩] := by
  refine ⟨fun j j0 hj => by simp at hj; omega, fun x hx => ?_, fun x hx => ?_, fun v L e _ h => (by cases h), fun u L e v c _ h => (by cases h), fun _ => ⟨⟨s, 0, 0, 0⟩, by simp, rfl, rfl⟩, fun x hx => ?_, fun v L e _ h => (by cases h), ?_, by simp⟩
  · simp at hx; subst hx; exact hs
  · simp at hx; subst hx; exact .inl ⟨rfl, rfl⟩
  · simp at hx; subst hx; simp
  · have : open' E (fun _ => none) = E.length := by simp [open']
    omega
theorem DI.done {E : List Ed} {n s B : Nat} {o : Labs} {pu : Nat} (h : DI E n s B o pu []) (hE : ∀ y ∈ E, y.f < n ∧ y.t < n ∧ y.c ≤ B) {v : Nat} (hv : v < n) : match o v with
    | some (L, _) => L ≤ B * n ∧ Rch E s v L ∧ ∀ L', Rch E s v L' → L ≤ L'
    | none => ∀ L', ¬ Rch E s v L' := by
  cases ho : o v with
  | some l => obtain ⟨L, e⟩ := l; exact ⟨(h.bndO v L e hv ho).1, h.best v L e hv ho⟩
  | none =>
    intro L' hL
    obtain ⟨x, hx, _⟩ := h.least (fun y hy => ⟨(hE y hy).1, (hE y hy).2.1⟩) ho hL
    cases hx
end Go.Ab.Nw

namespace Go.Ab.Nw
set_option maxRecDepth 100000
set_option linter.unusedVariables false
set_option linter.unusedSimpArgs false

def Nd.pv (x : Nd) : PV := .agg [.int .i64 x.n, .int .i64 x.len, .int .i64 x.e, .int .i64 x.num]
abbrev hpv (a : List Nd) : List PV := a.map Nd.pv
theorem nd0 (x : Nd) : cell x.pv 0 = .int .i64 x.n := rfl
theorem nd1 (x : Nd) : cell x.pv 1 = .int .i64 x.len := rfl
theorem nd2 (x : Nd) : cell x.pv 2 = .int .i64 x.e := rfl
theorem nd3 (x : Nd) : cell x.pv 3 = .int .i64 x.num := rfl
theorem ndE (x : Nd) : PV.agg [cell x.pv 0, cell x.pv 1, cell x.pv 2, cell x.pv 3] = x.pv := rfl
theorem hget {a : List Nd} {i : Nat} (h : i < a.length) : (hpv a)[i]? = some (at' a i).pv := by
  rw [List.getElem?_map, at_get h]; rfl
theorem ag30 (a b c : PV) : cell (.agg [a, b, c]) 0 = a := rfl
theorem ag31 (a b c : PV) : cell (.agg [a, b, c]) 1 = b := rfl
theorem ag32 (a b c : PV) : cell (.agg [a, b, c]) 2 = c := rfl
theorem ag3 (a b c : PV) : asAgg 3 (.agg [a, b, c]) = some () := rfl
theorem less_ok (a b : Nd) : shortest_less_M [.agg [cell a.pv 0, cell a.pv 1, cell a.pv 2], .agg [cell b.pv 0, cell b.pv 1, cell b.pv 2]] = some (.bool (decide (a.len < b.len ∨ (a.len = b.len ∧ a.e < b.e)))) := by
  simp only [shortest_less_M, shortest_less, ag3, ag30, ag31, ag32, nd0, nd1, nd2, if_true, bind_some', asInt]
  by_cases h1 : a.len < b.len
  · simp [h1]
  · by_cases h2 : a.len = b.len
    · simp [h2]
    · have : ((a.len : Int) == (b.len : Int)) = false := by rw [beq_eq_false_iff_ne]; omega
      simp [h1, h2, this]
theorem before_ok (a : List Nd) (pu : Nat) (i k : Nat) (hi : i < a.length) (hk : k < a.length) :
    heap_Heap_shortest_label_before_M [.rp [.fn 93 [], .rs 4 (hpv a), .int .i64 pu], .int .i64 i, .int .i64 k] = some (.bool (bef (at' a i) (at' a k))) := by
  have e0 : asSl 4 (PV.rs 4 (hpv a)) = some (hpv a) := by simp [asSl]
  simp only [heap_Heap_shortest_label_before_M, heap_Heap_shortest_label_before, ag31, ag32, e0, bind_some', asInt, if_true, idxP_nat, hget hi, hget hk, less_ok, asBool, nd3]
  generalize at' a i = x
  generalize at' a k = y
  unfold bef
  by_cases h1 : x.len < y.len ∨ (x.len = y.len ∧ x.e < y.e)
  · have : (x.len < y.len ∨ (x.len = y.len ∧ (x.e < y.e ∨ (x.e = y.e ∧ x.num < y.num)))) := by omega
    simp [h1, this]
  · by_cases h2 : y.len < x.len ∨ (y.len = x.len ∧ y.e < x.e)
    · have : ¬ (x.len < y.len ∨ (x.len = y.len ∧ (x.e < y.e ∨ (x.e = y.e ∧ x.num < y.num)))) := by omega
      simp [h1, h2, this]
    · have : (x.len < y.len ∨ (x.len = y.len ∧ (x.e < y.e ∨ (x.e = y.e ∧ x.num < y.num)))) ↔ x.num < y.num := by omega
      simp [h1, h2, this]
theorem half (i : Nat) (h : 0 < i) (hi : i < 4611686018427387904) : IntKind.i64.wrap ((IntKind.i64.wrap ((i : Int) - 1)).tdiv 2) = (((i - 1) / 2 : Nat) : Int) := by
  have e1 : IntKind.i64.wrap ((i : Int) - 1) = ((i - 1 : Nat) : Int) := by rw [wrap_in (by omega) (by omega)]; omega
  have e2 : ((i - 1 : Nat) : Int).tdiv 2 = (((i - 1) / 2 : Nat) : Int) := rfl
  rw [e1, e2, wrap_in (by omega) (by omega)]
theorem inR {i : Nat} {es : List PV} (h : i < es.length) : inRange (i : Int) es.length := ⟨by omega, by omega⟩
theorem swp_pv (a : List Nd) (i k : Nat) : ((hpv a).set i (at' a k).pv).set k (at' a i).pv = hpv (swp a i k) := by simp [swp, List.map_set]

/-- the loop that lets an element rise, within the main loop -/
theorem up_loop (rec35 : TY2 → Option PV) (t1 : PV) (es : List PV) (ln ix : Int) (pu : Nat) (out : List PV) (x0 x1 x2 : PV) : ∀ (f N : Nat) (a : List Nd) (i : Nat), i < f → f ≤ N → i < a.length → a.length < 4611686018427387904 →
    loopS (shortest_labels_L2 rec35) N ((i : Int), t1, es, ln, ix, (pu : Int), out, x0, x1, x2, hpv a, ()) = rec35 (t1, es, ln, IntKind.i64.wrap (ix + 1), out, (pu : Int), x0, x1, x2, hpv (up f a i), ())
  | 0, _, _, _, h, _, _, _ => by omega
  | f + 1, 0, _, _, _, h, _, _ => by omega
  | f + 1, N + 1, a, i, hf, hN, hi, ha => by
    simp only [loopS]
    unfold shortest_labels_L2 up
    by_cases h0 : 0 < i
    · have hp : (i - 1) / 2 < a.length := by omega
      have hg : decide ((i : Int) > 0) = true := by simp; omega
      simp only [hg, cond_true, half i h0 (by omega), before_ok a pu i ((i - 1) / 2) hi hp, bind_some', asBool]
      by_cases hb : bef (at' a i) (at' a ((i - 1) / 2)) = true
      · have hl1 : i < (hpv a).length := by simpa using hi
        have hl2 : (i - 1) / 2 < (hpv a).length := by simpa using hp
        have hl3 : (i - 1) / 2 < ((hpv a).set i (at' a ((i - 1) / 2)).pv).length := by simpa using hp
        have hget3 : ((hpv a).set i (at' a ((i - 1) / 2)).pv)[(i - 1) / 2]? = some (at' a ((i - 1) / 2)).pv := by
          rw [List.getElem?_set]
          rw [if_neg (by omega), hget hp]
        simp only [hb, if_true, if_pos (inR hl1), if_pos (inR hl2), if_pos (inR hl3), Int.toNat_natCast, hget hi, hget hp, bind_some', ndE, hget3, swp_pv, h0, and_self]
        exact up_loop rec35 t1 es ln ix pu out x0 x1 x2 f N (swp a i ((i - 1) / 2)) ((i - 1) / 2) (by omega) (by omega) (by rw [swp_len]; exact hp) (by rw [swp_len]; exact ha)
      · simp only [hb, Bool.false_eq_true, if_false, and_false]
    · have hg : decide ((i : Int) > 0) = false := by simp; omega
      simp only [hg, cond_false, bind_some', Bool.false_eq_true, if_false, h0, false_and]
end Go.Ab.Nw

namespace Go.Ab.Nw
set_option maxRecDepth 100000
set_option linter.unusedVariables false
set_option linter.unusedSimpArgs false

def labPV (v : Nat) : Lab → PV
  | none => .agg [.int .i64 v, .int .i64 (-1), .int .i64 (-1)]
  | some (L, e) => .agg [.int .i64 v, .int .i64 (L : Int), .int .i64 (e : Int)]
def outPV (n : Nat) (o : Labs) : List PV := (List.range n).map fun v => labPV v (o v)
def Ed.pv (y : Ed) : PV := .agg [.int .i64 y.f, .int .i64 y.t, .int .i64 y.c]
theorem outPV_len (n : Nat) (o : Labs) : (outPV n o).length = n := by simp [outPV]
theorem outPV_get {n v : Nat} (o : Labs) (h : v < n) : (outPV n o)[v]? = some (labPV v (o v)) := by simp [outPV, h]
theorem outPV_set {n v : Nat} (o : Labs) (l : Nat × Nat) (h : v < n) : (outPV n o).set v (labPV v (some l)) = outPV n (setL o v (some l)) := by
  apply List.ext_getElem?
  intro i
  rw [List.getElem?_set]
  by_cases e : v = i
  · subst e
    rw [if_pos rfl, if_pos (by rw [outPV_len]; exact h), outPV_get _ h]; simp [setL]
  · rw [if_neg e]
    by_cases hi : i < n
    · rw [outPV_get _ hi, outPV_get _ hi]; simp [setL, Ne.symm e]
    · rw [List.getElem?_eq_none (by rw [outPV_len]; omega), List.getElem?_eq_none (by rw [outPV_len]; omega)]
theorem lab2 (v : Nat) (l : Lab) : ∃ z : Int, asInt .i64 (cell (labPV v l) 2) = some z ∧ (decide (z < 0) = l.isNone) ∧ decide (z ≥ 0) = l.isSome := by
  cases l with
  | none => exact ⟨-1, rfl, rfl, rfl⟩
  | some p => obtain ⟨L, e⟩ := p; exact ⟨e, rfl, by simp, by simp⟩
theorem ed1 (y : Ed) : cell y.pv 1 = .int .i64 y.t := rfl
theorem ed2 (y : Ed) : cell y.pv 2 = .int .i64 y.c := rfl
theorem asI (n : Int) : asInt .i64 (.int .i64 n) = some n := by simp [asInt]

/-- the loop over the edges from a node -/
theorem edge_loop (rec15 : PV × List PV × Int × List PV × Unit → Option PV) (t1 : PV) (n : Nat) (o : Labs) (x : Nd) (es : List Ed) (ht : ∀ z ∈ es, z.t < n) (hn : n < 4294967296) (hx : x.len < 4611686018427387904) (hxe : x.e < 4611686018427387904) (hc : ∀ z ∈ es, z.c < 4611686018427387904) (hes : es.length < 4611686018427387904) :
    ∀ (m N k pu : Nat) (H : List Nd), m + k = es.length → m < N → pu + m < 4294967296 → H.length + m < 4294967296 →
    loopS (shortest_labels_L3 lpS rec15) N (t1, es.map Ed.pv, ((es.length : Nat) : Int), (k : Int), outPV n o, (pu : Int), .int .i64 x.n, .int .i64 x.len, .int .i64 x.e, hpv H, ()) =
      rec15 (t1, outPV n o, ((relax o x (es.drop k) pu H).1 : Int), hpv (relax o x (es.drop k) pu H).2, ())
  | _, 0, _, _, _, _, h, _, _ => by omega
  | 0, N + 1, k, pu, H, hk, hN, hpu, hH => by
    simp only [loopS]
    unfold shortest_labels_L3
    dsimp only
    have hg : decide ((k : Int) < ((es.length : Nat) : Int)) = false := by simp; omega
    rw [hg, List.drop_eq_nil_of_le (by omega)]
    rfl
  | m + 1, N + 1, k, pu, H, hk, hN, hpu, hH => by
    have ih := edge_loop rec15 t1 n o x es ht hn hx hxe hc hes m N (k + 1)
    simp only [loopS]
    generalize loopS (shortest_labels_L3 lpS rec15) N = rec at ih ⊢
    unfold shortest_labels_L3
    dsimp only
    have hkl : k < es.length := by omega
    have hg : decide ((k : Int) < ((es.length : Nat) : Int)) = true := by simp; omega
    obtain ⟨z, hz⟩ : ∃ z, es[k]? = some z := ⟨_, List.getElem?_eq_getElem hkl⟩
    have hzm : z ∈ es := List.mem_of_getElem? hz
    have hzt := ht z hzm
    have hge : (es.map Ed.pv)[k]? = some z.pv := by rw [List.getElem?_map, hz]; rfl
    have hdrop : es.drop k = z :: es.drop (k + 1) := by
      rw [List.drop_eq_getElem_cons hkl]
      have := List.getElem?_eq_getElem hkl
      rw [hz] at this
      rw [Option.some.inj this]
    obtain ⟨w, w1, w2, w3⟩ := lab2 z.t (o z.t)
    have hin : inRange (z.t : Int) (outPV n o).length := inR (by rw [outPV_len]; exact hzt)
    rw [hdrop, relax]
    simp only [hg, if_true, idxP_nat, hge, bind_some', ed1, ed2, asI, if_pos hin, Int.toNat_natCast, outPV_get o hzt, w1, w2]
    by_cases hno : (o z.t).isNone = true
    · have e1 : IntKind.i64.wrap ((x.len : Int) + (z.c : Int)) = ((x.len + z.c : Nat) : Int) := by
        have := hc z hzm
        rw [wrap_in (by omega) (by omega)]; omega
      have e2 : hpv H ++ [PV.agg [.int .i64 z.t, .int .i64 ((x.len + z.c : Nat) : Int), .int .i64 ((x.e + 1 : Nat) : Int), .int .i64 pu]] = hpv (H ++ [⟨z.t, x.len + z.c, x.e + 1, pu⟩]) := by simp [hpv, Nd.pv]
      have e3 : (hpv (H ++ [⟨z.t, x.len + z.c, x.e + 1, pu⟩])).length = H.length + 1 := by simp
      have e4 : IntKind.i64.wrap (((H.length + 1 : Nat) : Int) - 1) = (H.length : Int) := by rw [wrap_in (by omega) (by omega)]; omega
      have hroom : (H.length + 1) * 32 ≤ roomBound ∧ 0 < 32 := by unfold roomBound; omega
      simp only [hno, if_true, e1, wrap_nat (show x.e < 9223372036854775807 by omega), e2, e3, e4, if_pos hroom, wrap_nat (show pu < 9223372036854775807 by omega), lpS_run]
      refine (up_loop rec t1 (es.map Ed.pv) ((es.length : Nat) : Int) (k : Int) (pu + 1) (outPV n o) _ _ _ (H.length + 1) rounds (H ++ [⟨z.t, x.len + z.c, x.e + 1, pu⟩]) H.length (by omega) (by unfold rounds; omega) (by simp) (by simp; omega)).trans ?_
      rw [wrap_nat (by omega)]
      rw [show up (H.length + 1) (H ++ [⟨z.t, x.len + z.c, x.e + 1, pu⟩]) H.length = push H ⟨z.t, x.len + z.c, x.e + 1, pu⟩ from rfl]
      refine ih (pu + 1) _ (by omega) (by omega) (by omega) ?_
      have : (push H ⟨z.t, x.len + z.c, x.e + 1, pu⟩).length = H.length + 1 := by
        unfold push
        have key : ∀ (f : Nat) (a : List Nd) (i : Nat), (up f a i).length = a.length := by
          intro f
          induction f with
          | zero => intro a i; rfl
          | succ f ih => intro a i; unfold up; split
                         · rw [ih, swp_len]
                         · rfl
        rw [key]; simp
      omega
    · simp only [hno, Bool.false_eq_true, if_false, wrap_nat (show k < 9223372036854775807 by omega)]
      exact ih pu H (by omega) (by omega) (by omega) (by omega)
end Go.Ab.Nw

namespace Go.Ab.Nw
set_option maxRecDepth 100000
set_option linter.unusedVariables false
set_option linter.unusedSimpArgs false

/-- what is known of the graph and of the map of its edges -/
structure Gr (E : List Ed) (n : Nat) (ks vs : List PV) : Prop where
  small : n < 4294967296
  len : E.length < 1073741824
  node : ∀ y ∈ E, y.f < n ∧ y.t < n ∧ y.c ≤ 1073741824
  look : ∀ v : Nat, v < n → asSl 3 (mlook (.int .i64 v) (.rs 0 []) (ks.zip vs)) = some ((E.filter fun y => y.f == v).map Ed.pv)
section
variable {E : List Ed} {n : Nat} {ks vs : List PV}
def labelled (o : Labs) (x : Nd) : Labs := setL o x.n (some (x.len, x.e))
def KR (rec15 : PV × List PV × Int × List PV × Unit → Option PV) (E : List Ed) (n : Nat) (ks vs : List PV) (o : Labs) (x : Nd) (pu : Nat) (H : List Nd) : Option PV :=
  if (o x.n).isSome = true then rec15 (.rm 3 ks vs, outPV n o, (pu : Int), hpv H, ())
  else rec15 (.rm 3 ks vs, outPV n (labelled o x), ((relax (labelled o x) x (E.filter fun y => y.f == x.n) pu H).1 : Int), hpv (relax (labelled o x) x (E.filter fun y => y.f == x.n) pu H).2, ())
structure Sm (n : Nat) (E : List Ed) (x : Nd) (pu : Nat) (H : List Nd) : Prop where
  node : x.n < n
  len : x.len < 4611686018427387904
  e : x.e < 4611686018427387904
  pu : pu ≤ 1073741824
  H : H.length ≤ 1073741824
theorem rest_expr (hG : Gr E n ks vs) (rec15 : PV × List PV × Int × List PV × Unit → Option PV) (o : Labs) (x : Nd) (pu : Nat) (H : List Nd) (hS : Sm n E x pu H) (A : Int → PV → Int → Option PV) :
    ((asInt .i64 (.int .i64 x.n)).bind fun n23 => if inRange n23 (outPV n o).length then (outPV n o)[n23.toNat]?.bind fun e24 => (asInt .i64 (cell e24 2)).bind fun n25 => if decide (n25 ≥ 0) = true then rec15 (.rm 3 ks vs, outPV n o, (pu : Int), hpv H, ()) else
      (asInt .i64 (.int .i64 x.n)).bind fun n26 => if inRange n26 (outPV n o).length then (outPV n o)[n26.toNat]?.bind fun e27 => (asInt .i64 (.int .i64 x.n)).bind fun n28 => mapCase 3 (.rm 3 ks vs) (A n26 e27 n28) fun ks31 vs32 => (asSl 3 (mlook (.int .i64 n28) (.rs 0 []) (ks31.zip vs32))).bind fun es33 =>
        lpS.run (shortest_labels_L3 lpS rec15) (.rm 3 ks vs, es33, (es33.length : Int), 0, (outPV n o).set n26.toNat (.agg [.int .i64 x.n, .int .i64 x.len, .int .i64 x.e]), (pu : Int), .int .i64 x.n, .int .i64 x.len, .int .i64 x.e, hpv H, ()) else none else none) = KR rec15 E n ks vs o x pu H := by
  have hin : inRange (x.n : Int) (outPV n o).length := inR (by rw [outPV_len]; exact hS.node)
  obtain ⟨w, w1, w2, w3⟩ := lab2 x.n (o x.n)
  simp only [asI, bind_some', if_pos hin, Int.toNat_natCast, outPV_get o hS.node, w1, w3, mapCase, if_true, hG.look x.n hS.node, lpS_run]
  unfold KR
  by_cases hs : (o x.n).isSome = true
  · simp only [hs, if_true]
  · simp only [hs, Bool.false_eq_true, if_false]
    have e1 : (outPV n o).set x.n (.agg [.int .i64 x.n, .int .i64 x.len, .int .i64 x.e]) = outPV n (labelled o x) := outPV_set o (x.len, x.e) hS.node
    rw [e1]
    have hl : (E.filter fun y => y.f == x.n).length ≤ E.length := List.length_filter_le ..
    have hmem : ∀ z ∈ E.filter (fun y => y.f == x.n), z ∈ E := fun z hz => (List.mem_filter.1 hz).1
    have h1 := hG.len
    have h2 := hS.pu
    have h3 := hS.H
    have := edge_loop rec15 (.rm 3 ks vs) n (labelled o x) x (E.filter fun y => y.f == x.n) (fun z hz => (hG.node z (hmem z hz)).2.1) hG.small hS.len hS.e (fun z hz => by have := (hG.node z (hmem z hz)).2.2; omega) (by omega) (E.filter fun y => y.f == x.n).length rounds 0 pu H (by omega) (by unfold rounds; omega) (by omega) (by omega)
    rw [List.drop_zero] at this
    simpa using this
theorem kid_true {a : List Nd} {i : Nat} (h : 2 * i + 1 + 1 < a.length ∧ bef (at' a (2 * i + 1 + 1)) (at' a (2 * i + 1)) = true) : kid a i = 2 * i + 1 + 1 := if_pos h
theorem kid_false {a : List Nd} {i : Nat} (h : ¬ (2 * i + 1 + 1 < a.length ∧ bef (at' a (2 * i + 1 + 1)) (at' a (2 * i + 1)) = true)) : kid a i = 2 * i + 1 := if_neg h
/-- the loop that lets the first element sink, and what follows it -/
theorem down_loop (hG : Gr E n ks vs) (rec15 : PV × List PV × Int × List PV × Unit → Option PV) (o : Labs) (x : Nd) (pu : Nat) (z1 z2 z3 : Int) : ∀ (f N : Nat) (a : List Nd) (i : Nat), a.length ≤ f + i → f < N → i < 4294967296 → Sm n E x pu a →
    loopS (shortest_labels_L10 lpS rec15) N ((i : Int), .rm 3 ks vs, (pu : Int), z1, z2, z3, .int .i64 x.n, .int .i64 x.len, .int .i64 x.e, outPV n o, hpv a, ()) = KR rec15 E n ks vs o x pu (down f a i)
  | _, 0, _, _, _, h, _, _ => by omega
  | 0, N + 1, a, i, hf, hN, hi, hS => by
    simp only [loopS]
    generalize loopS (shortest_labels_L10 lpS rec15) N = rec
    unfold shortest_labels_L10 down
    dsimp only
    have e1 : IntKind.i64.wrap (IntKind.i64.wrap (2 * (i : Int)) + 1) = ((2 * i + 1 : Nat) : Int) := by
      rw [wrap_in (x := 2 * (i : Int)) (by omega) (by omega), wrap_in (by omega) (by omega)]; omega
    have hg : decide (((2 * i + 1 : Nat) : Int) ≥ ((hpv a).length : Int)) = true := by simp; omega
    rw [e1, if_pos hg]
    exact rest_expr hG rec15 o x pu a hS _
  | f + 1, N + 1, a, i, hf, hN, hi, hS => by
    have ih := down_loop hG rec15 o x pu z1 z2 z3 f N
    simp only [loopS]
    generalize loopS (shortest_labels_L10 lpS rec15) N = rec at ih ⊢
    have e1 : IntKind.i64.wrap (IntKind.i64.wrap (2 * (i : Int)) + 1) = ((2 * i + 1 : Nat) : Int) := by
      rw [wrap_in (x := 2 * (i : Int)) (by omega) (by omega), wrap_in (by omega) (by omega)]; omega
    have e2 : IntKind.i64.wrap (((2 * i + 1 : Nat) : Int) + 1) = ((2 * i + 1 + 1 : Nat) : Int) := wrap_nat (by omega)
    unfold shortest_labels_L10 down
    dsimp only
    rw [e1, e2]
    by_cases hl : a.length ≤ 2 * i + 1
    · have hg : decide (((2 * i + 1 : Nat) : Int) ≥ ((hpv a).length : Int)) = true := by simp; omega
      rw [if_pos hg, if_pos hl]
      exact rest_expr hG rec15 o x pu a hS _
    · have hg : ¬ decide (((2 * i + 1 : Nat) : Int) ≥ ((hpv a).length : Int)) = true := by simp; omega
      rw [if_neg hg, if_neg hl]
      have hlen := hS.H
      have hi' : i < a.length := by omega
      have hi1 : i < (hpv a).length := by simpa using hi'
      obtain ⟨k1, k2, _⟩ := kid_ok hl
      have hk1 : kid a i < (hpv a).length := by simpa using k1
      have hk3 : kid a i < ((hpv a).set i (at' a (kid a i)).pv).length := by simpa using k1
      have hget3 : ((hpv a).set i (at' a (kid a i)).pv)[kid a i]? = some (at' a (kid a i)).pv := by
        rw [List.getElem?_set, if_neg (by omega), hget k1]
      have fin := ih (swp a i (kid a i)) (kid a i) (by rw [swp_len]; omega) (by omega) (by omega) ⟨hS.node, hS.len, hS.e, hS.pu, by rw [swp_len]; exact hS.H⟩
      by_cases hc : 2 * i + 1 + 1 < a.length ∧ bef (at' a (2 * i + 1 + 1)) (at' a (2 * i + 1)) = true
      · have hk := kid_true hc
        have hd : decide (((2 * i + 1 + 1 : Nat) : Int) < ((hpv a).length : Int)) = true := by simp; omega
        rw [hd]
        rw [hk] at hk1 hk3 hget3 fin k1 ⊢
        simp only [cond_true, before_ok a pu (2 * i + 1 + 1) (2 * i + 1) (by omega) (by omega), hc.2, bind_some', asBool, if_true, before_ok a pu (2 * i + 1 + 1) i k1 hi']
        by_cases hb : bef (at' a (2 * i + 1 + 1)) (at' a i) = true
        · rw [if_pos hb] at *
          simp only [hb, Bool.not_true, Bool.false_eq_true, if_false, if_pos (inR hi1), if_pos (inR hk1), if_pos (inR hk3), Int.toNat_natCast, hget hi', hget k1, bind_some', ndE, hget3, swp_pv]
          exact fin
        · rw [if_neg hb]
          have hb' : (!bef (at' a (2 * i + 1 + 1)) (at' a i)) = true := by simpa using hb
          rw [if_pos hb']
          exact rest_expr hG rec15 o x pu a hS _
      · have hk := kid_false hc
        have hd : (bif decide (((2 * i + 1 + 1 : Nat) : Int) < ((hpv a).length : Int)) then (heap_Heap_shortest_label_before_M [.rp [.fn 93 [], .rs 4 (hpv a), .int .i64 (pu : Int)], .int .i64 ((2 * i + 1 + 1 : Nat) : Int), .int .i64 ((2 * i + 1 : Nat) : Int)]).bind fun r53 => (asBool r53).bind fun b54 => some b54 else some false) = some false := by
          by_cases h2 : 2 * i + 1 + 1 < a.length
          · have hd : decide (((2 * i + 1 + 1 : Nat) : Int) < ((hpv a).length : Int)) = true := by simp; omega
            have hb : bef (at' a (2 * i + 1 + 1)) (at' a (2 * i + 1)) = false := by
              cases hb : bef (at' a (2 * i + 1 + 1)) (at' a (2 * i + 1)) with
              | false => rfl
              | true => exact absurd ⟨h2, hb⟩ hc
            rw [hd, cond_true, before_ok a pu (2 * i + 1 + 1) (2 * i + 1) h2 (by omega), bind_some', hb]
            rfl
          · have hd : decide (((2 * i + 1 + 1 : Nat) : Int) < ((hpv a).length : Int)) = false := by simp; omega
            rw [hd]; rfl
        rw [hd]
        rw [hk] at hk1 hk3 hget3 fin k1 ⊢
        simp only [bind_some', asBool, Bool.false_eq_true, if_false, before_ok a pu (2 * i + 1) i k1 hi']
        by_cases hb : bef (at' a (2 * i + 1)) (at' a i) = true
        · rw [if_pos hb] at *
          simp only [hb, Bool.not_true, Bool.false_eq_true, if_false, if_pos (inR hi1), if_pos (inR hk1), if_pos (inR hk3), Int.toNat_natCast, hget hi', hget k1, bind_some', ndE, hget3, swp_pv]
          exact fin
        · rw [if_neg hb]
          have hb' : (!bef (at' a (2 * i + 1)) (at' a i)) = true := by simpa using hb
          rw [if_pos hb']
          exact rest_expr hG rec15 o x pu a hS _
end
end Go.Ab.Nw

namespace Go.Ab.Nw
set_option maxRecDepth 100000
set_option linter.unusedVariables false
set_option linter.unusedSimpArgs false

section
variable {E : List Ed} {n : Nat} {ks vs : List PV}
theorem main_body (hG : Gr E n ks vs) (rec15 : PV × List PV × Int × List PV × Unit → Option PV) (o : Labs) (pu : Nat) (H : List Nd) (hS : ∀ x ∈ H, Sm n E x pu H) :
    shortest_labels_L11 lpS (.rm 3 ks vs, outPV n o, (pu : Int), hpv H, ()) rec15 = if H.length = 0 then some (.rs 3 (outPV n o)) else KR rec15 E n ks vs o (at' H 0) pu (rest H) := by
  unfold shortest_labels_L11
  dsimp only
  by_cases h0 : H.length = 0
  · have hg : (((hpv H).length : Int) == 0) = true := by rw [List.length_map, h0]; rfl
    rw [if_pos hg, if_pos h0]
  · have hg : ¬ (((hpv H).length : Int) == 0) = true := by simp; intro h; exact h0 (by rw [h]; rfl)
    rw [if_neg hg, if_neg h0]
    have hx : at' H 0 ∈ H := mem_at.2 ⟨0, by omega, rfl⟩
    have hsm := hS _ hx
    have hH := hsm.H
    have hl : ((hpv H).length : Int) = (H.length : Int) := by simp
    have e1 : IntKind.i64.wrap ((H.length : Int) - 1) = ((H.length - 1 : Nat) : Int) := by rw [wrap_in (by omega) (by omega)]; omega
    have i0 : inRange (0 : Int) (hpv H).length := inR (i := 0) (by simp; omega)
    have hl1 : H.length - 1 < (hpv H).length := by simp; omega
    have hl3 : H.length - 1 < ((hpv H).set 0 (at' H (H.length - 1)).pv).length := by simp; omega
    have g0 : (hpv H)[0]? = some (at' H 0).pv := hget (by omega)
    have gl : (hpv H)[H.length - 1]? = some (at' H (H.length - 1)).pv := hget (by omega)
    have g3 : ∃ q, ((hpv H).set 0 (at' H (H.length - 1)).pv)[H.length - 1]? = some q := ⟨_, List.getElem?_eq_getElem hl3⟩
    obtain ⟨q, g3⟩ := g3
    have z0 : Int.toNat 0 = 0 := rfl
    have hcond : (0 : Int) ≤ 0 ∧ 0 ≤ ((H.length - 1 : Nat) : Int) ∧ ((H.length - 1 : Nat) : Int) ≤ (((((hpv H).set 0 (at' H (H.length - 1)).pv).set (H.length - 1) (at' H 0).pv).length : Nat) : Int) := by
      refine ⟨by omega, by omega, ?_⟩
      simp only [List.length_set, List.length_map]; omega
    simp only [hl, e1, if_pos i0, z0, g0, bind_some', if_pos (inR hl1), Int.toNat_natCast, gl, ndE, if_pos (inR hl3), g3, and_true, if_pos hcond, Nat.sub_zero]
    simp only [nd0, nd1, nd2, swp_pv, ← List.map_take, lpS_run]
    rw [if_pos (by refine ⟨by omega, by omega, ?_⟩; simp only [List.length_map, swp_len]; omega)]
    have := down_loop hG rec15 o (at' H 0) pu 0 0 0 (H.length + 1) rounds (popd H) 0 (by simp [popd]; omega) (by unfold rounds; omega) (by omega) ⟨hsm.node, hsm.len, hsm.e, hsm.pu, by simp [popd]; omega⟩
    exact this
theorem DI.small {s B : Nat} {o : Labs} {pu : Nat} {H : List Nd} (h : DI E n s B o pu H) (hG : Gr E n ks vs) (hB : B ≤ 1073741824) (hn : n ≤ 64) : ∀ x ∈ H, Sm n E x pu H := fun x hx => by
  have h1 := h.bndH x hx
  have h2 := nset_le n o
  have h3 : B * nset n o ≤ 1073741824 * 64 := Nat.mul_le_mul hB (by omega)
  have h4 := h.cnt
  have h5 := h.cntH
  have h6 := hG.len
  exact ⟨h.node x hx, by omega, by omega, by omega, by omega⟩
theorem main_loop (hG : Gr E n ks vs) {s B : Nat} (hs : s < n) (hB : B ≤ 1073741824) (hEB : ∀ y ∈ E, y.c ≤ B) (hn : n ≤ 64) :
    ∃ o pu, DI E n s B o pu [] ∧ lpS.run (shortest_labels_L11 lpS) (.rm 3 ks vs, outPV n (fun _ => none), 1, [PV.agg [.int .i64 s, .int .i64 0, .int .i64 0, .int .i64 0]], ()) = some (.rs 3 (outPV n o)) := by
  have hE : ∀ y ∈ E, y.f < n ∧ y.t < n ∧ y.c ≤ B := fun y hy => ⟨(hG.node y hy).1, (hG.node y hy).2.1, hEB y hy⟩
  have hlen := hG.len
  obtain ⟨a, r, hI, ⟨h0, hr⟩, hrun⟩ := loop_meas (body := shortest_labels_L11 lpS) (A := Labs × Nat × List Nd) (fun a => (PV.rm 3 ks vs, outPV n a.1, (a.2.1 : Int), hpv a.2.2, ())) (fun a => DI E n s B a.1 a.2.1 a.2.2) (fun a => a.2.2.length + open' E a.1)
    (fun a r => a.2.2 = [] ∧ r = some (.rs 3 (outPV n a.1))) (fun a hI rec15 => by
      obtain ⟨o, pu, H⟩ := a
      have hI : DI E n s B o pu H := hI
      dsimp only
      rw [main_body hG rec15 o pu H (hI.small hG hB hn)]
      by_cases hH : H.length = 0
      · right
        rw [if_pos hH]
        exact ⟨_, ⟨List.eq_nil_of_length_eq_zero hH, rfl⟩, rfl⟩
      · left
        rw [if_neg hH]
        have hne : 0 < H.length := by omega
        unfold KR
        by_cases hset : (o (at' H 0).n).isSome = true
        · rw [if_pos hset]
          refine ⟨(o, pu, rest H), hI.skip hne hset, ?_, rfl⟩
          have := (rest_ok hI.hp hne).2.1
          dsimp only
          omega
        · rw [if_neg hset]
          have hno : o (at' H 0).n = none := by simpa using hset
          obtain ⟨s1, s2⟩ := hI.settle hE hne hno
          exact ⟨(_, _, _), s1, s2, rfl⟩) rounds ((fun _ => none), 1, [⟨s, 0, 0, 0⟩]) (DI.start hs) (by
      have : open' E (fun _ => none) ≤ E.length := List.countP_le_length
      simp only [List.length_cons, List.length_nil]
      unfold rounds; omega)
  obtain ⟨o, pu, H⟩ := a
  dsimp only at h0 hr hI
  subst h0
  refine ⟨o, pu, hI, ?_⟩
  rw [lpS_run, ← hr, ← hrun]
  rfl
theorem labels_ok (hG : Gr E n ks vs) {s B : Nat} (hs : s < n) (hB : B ≤ 1073741824) (hEB : ∀ y ∈ E, y.c ≤ B) (hn : n ≤ 64) :
    ∃ o pu, DI E n s B o pu [] ∧ shortest_labels_M [.int .i64 n, .rm 3 ks vs, .int .i64 s] = some (.rs 3 (outPV n o)) := by
  obtain ⟨o, pu, hI, h⟩ := main_loop hG hs hB hEB hn
  refine ⟨o, pu, hI, ?_⟩
  have hroom : (0 : Int) ≤ (n : Int) ∧ (n : Int) ≤ (n : Int) ∧ n * 24 ≤ roomBound ∧ 0 < 24 ∧ 0 < 3 := by
    refine ⟨by omega, by omega, ?_, by omega, by omega⟩
    unfold roomBound; omega
  simp only [shortest_labels_M, shortest_labels, asI, bind_some', mapCase, if_true, if_pos hroom, Int.toNat_natCast, List.length_replicate]
  have fill : ∀ k, k ≤ n → ((List.range n).map fun v => if v < k then labPV v none else PV.agg [.int .i64 0, .int .i64 0, .int .i64 0]).length = n := fun k _ => by simp
  refine loop_until (fun k => (PV.rm 3 ks vs, (s : Int), (n : Int), (k : Int), (List.range n).map (fun v => if v < k then labPV v none else PV.agg [.int .i64 0, .int .i64 0, .int .i64 0]), ())) n (fun k hk rec => ?_) (fun rec => ?_) (by unfold rounds; omega) ?_
  · unfold shortest_labels_L13
    dsimp only
    have hg : decide ((k : Int) < (n : Int)) = true := by simp; omega
    have hin : inRange (k : Int) ((List.range n).map fun v => if v < k then labPV v none else PV.agg [.int .i64 0, .int .i64 0, .int .i64 0]).length := inR (by rw [fill k (by omega)]; exact hk)
    have hget : ((List.range n).map fun v => if v < k then labPV v none else PV.agg [.int .i64 0, .int .i64 0, .int .i64 0])[k]? = some (PV.agg [.int .i64 0, .int .i64 0, .int .i64 0]) := by simp [hk]
    have hset : ((List.range n).map fun v => if v < k then labPV v none else PV.agg [.int .i64 0, .int .i64 0, .int .i64 0]).set k (.agg [.int .i64 k, .int .i64 (-1), .int .i64 (-1)]) = (List.range n).map fun v => if v < k + 1 then labPV v none else PV.agg [.int .i64 0, .int .i64 0, .int .i64 0] := by
      apply List.ext_getElem?
      intro i
      rw [List.getElem?_set]
      by_cases e : k = i
      · subst e
        simp [hk, labPV]
      · rw [if_neg e]
        by_cases hi : i < n
        · simp only [List.getElem?_map, List.getElem?_range hi, Option.map_some]
          by_cases h1 : i < k
          · rw [if_pos h1, if_pos (by omega)]
          · rw [if_neg h1, if_neg (by omega)]
        · rw [List.getElem?_eq_none (by simp; omega), List.getElem?_eq_none (by simp; omega)]
    rw [if_pos hg, if_pos hin, Int.toNat_natCast, hget, bind_some', hset, wrap_nat (by omega)]
  · unfold shortest_labels_L13
    dsimp only
    have hg : ¬ decide ((n : Int) < (n : Int)) = true := by simp
    have e0 : IntKind.i64.wrap ((1 : Nat) - 1 : Int) = 0 := by decide
    have e1 : IntKind.i64.wrap (0 + 1) = 1 := by decide
    have hout : ((List.range n).map fun v => if v < n then labPV v none else PV.agg [.int .i64 0, .int .i64 0, .int .i64 0]) = outPV n (fun _ => none) := by
      unfold outPV
      apply List.map_congr_left
      intro v hv
      rw [if_pos (List.mem_range.1 hv)]
    rw [if_neg hg, hout, e1]
    refine Eq.trans ?_ h
    have first : ∀ N, loopS (shortest_labels_L12 lpS) (N + 1) (IntKind.i64.wrap (((1 : Nat) : Int) - 1), PV.rm 3 ks vs, 1, outPV n (fun _ => none), [PV.agg [.int .i64 s, .int .i64 0, .int .i64 0, .int .i64 0]], ()) = lpS.run (shortest_labels_L11 lpS) (.rm 3 ks vs, outPV n (fun _ => none), 1, [PV.agg [.int .i64 s, .int .i64 0, .int .i64 0, .int .i64 0]], ()) := fun N => by
      simp only [loopS]
      generalize loopS (shortest_labels_L12 lpS) N = rec
      unfold shortest_labels_L12
      dsimp only
      have hg : decide (IntKind.i64.wrap (((1 : Nat) : Int) - 1) > 0) = false := by decide
      rw [hg, cond_false, bind_some', if_neg (by simp)]
    exact first 18446744073709551615
  · congr 1
    have : ((List.range n).map fun v => if v < 0 then labPV v none else PV.agg [.int .i64 0, .int .i64 0, .int .i64 0]) = List.replicate n (PV.agg [.int .i64 0, .int .i64 0, .int .i64 0]) := by
      apply List.ext_getElem?
      intro i
      by_cases hi : i < n
      · simp [hi, List.getElem?_replicate]
      · rw [List.getElem?_eq_none (by simp; omega), List.getElem?_eq_none (by simp; omega)]
    rw [this]
    rfl
end
end Go.Ab.Nw

namespace Go.Ab.Nw
set_option maxRecDepth 100000
set_option linter.unusedVariables false
set_option linter.unusedSimpArgs false

theorem run_end {S R : Type} {body : S → (S → Option R) → Option R} {s : S} {r : Option R} (h : ∀ rec, body s rec = r) : lpS.run body s = r :=
  loop_until (fun _ => s) 0 (fun k hk => by omega) h (by unfold rounds; omega) rfl
/-! ### lists that are filled from the left -/
def fillL (n k : Nat) (F : Nat → PV) (z : PV) : List PV := (List.range n).map fun v => if v < k then F v else z
theorem fill_len (n k : Nat) (F : Nat → PV) (z : PV) : (fillL n k F z).length = n := by simp [fillL]
theorem fill_get {n k : Nat} {F : Nat → PV} {z : PV} (hk : k < n) : (fillL n k F z)[k]? = some z := by simp [fillL, hk]
theorem fill_set {n k : Nat} {F : Nat → PV} {z : PV} (hk : k < n) : (fillL n k F z).set k (F k) = fillL n (k + 1) F z := by
  apply List.ext_getElem?
  intro i
  rw [List.getElem?_set]
  by_cases e : k = i
  · subst e
    simp [fillL, hk]
  · rw [if_neg e]
    unfold fillL
    by_cases hi : i < n
    · simp only [List.getElem?_map, List.getElem?_range hi, Option.map_some]
      by_cases h1 : i < k
      · rw [if_pos h1, if_pos (by omega)]
      · rw [if_neg h1, if_neg (by omega)]
    · rw [List.getElem?_eq_none (by simp; omega), List.getElem?_eq_none (by simp; omega)]
theorem fill_zero (n : Nat) (F : Nat → PV) (z : PV) : fillL n 0 F z = List.replicate n z := by
  unfold fillL
  apply List.ext_getElem?
  intro i
  by_cases hi : i < n
  · simp [hi, List.getElem?_replicate]
  · rw [List.getElem?_eq_none (by simp; omega), List.getElem?_eq_none (by simp; omega)]
theorem fill_all (n : Nat) (F : Nat → PV) (z : PV) : fillL n n F z = (List.range n).map F := by
  unfold fillL
  apply List.map_congr_left
  intro v hv
  rw [if_pos (List.mem_range.1 hv)]

def lenI : Lab → Int
  | none => -1
  | some (L, _) => L
theorem lab1 (v : Nat) (l : Lab) : asInt .i64 (cell (labPV v l) 1) = some (lenI l) := by
  cases l with
  | none => rfl
  | some p => obtain ⟨L, e⟩ := p; rfl
theorem lengths_ok (n : Nat) (hn : n ≤ 64) (o : Labs) : shortest_lengths_M [.rs 3 (outPV n o)] = some (.rs 1 ((List.range n).map fun v => .int .i64 (lenI (o v)))) := by
  have e0 : asSl 3 (.rs 3 (outPV n o)) = some (outPV n o) := by simp [asSl]
  have hroom : (0 : Int) ≤ ((n : Nat) : Int) ∧ ((n : Nat) : Int) ≤ ((n : Nat) : Int) ∧ n * 8 ≤ roomBound ∧ 0 < 8 ∧ 0 < 1 := by
    refine ⟨by omega, by omega, ?_, by omega, by omega⟩
    unfold roomBound; omega
  simp only [shortest_lengths_M, shortest_lengths, e0, bind_some', outPV_len, Int.toNat_natCast, if_pos hroom]
  refine loop_until (fun k => (outPV n o, (n : Int), (k : Int), fillL n k (fun v => .int .i64 (lenI (o v))) (.int .i64 0), ())) n (fun k hk rec => ?_) (fun rec => ?_) (by unfold rounds; omega) ?_
  · unfold shortest_lengths_L1
    dsimp only
    have hg : decide ((k : Int) < (n : Int)) = true := by simp; omega
    rw [if_pos hg, idxP_nat, outPV_get o hk, bind_some', lab1, bind_some', if_pos (inR (by rw [fill_len]; exact hk)), Int.toNat_natCast, fill_get hk, bind_some', wrap_nat (by omega)]
    rw [fill_set (F := fun v => PV.int .i64 (lenI (o v))) hk]
  · unfold shortest_lengths_L1
    dsimp only
    rw [if_neg (by simp), fill_all]
  · rw [fill_zero]; rfl

/-! ### the check -/
theorem one_ok (i n : Nat) (h : i < n) : shortest_check_1_M [.int .i64 i, .rp [.int .i64 n]] = some (.bool false) := by
  have h1 : decide ((i : Int) < 0) = false := by simp
  have h2 : decide ((i : Int) ≥ (n : Int)) = false := by simp; omega
  simp only [shortest_check_1_M, shortest_check_1, asI, bind_some', h1, cond_false, h2]
theorem ed0 (y : Ed) : cell y.pv 0 = .int .i64 y.f := rfl
theorem check_ok (E : List Ed) (n : Nat) (hn : n ≤ 64) (hE : E.length ≤ 4096) (h : ∀ y ∈ E, y.f < n ∧ y.t < n ∧ y.c ≤ 1073741824) : shortest_check_M [.int .i64 n, .rs 3 (E.map Ed.pv), .rs 0 []] = some (.int .i64 0) := by
  have e0 : asSl 3 (.rs 3 (E.map Ed.pv)) = some (E.map Ed.pv) := by simp [asSl]
  have e1 : asSl 1 (.rs 0 []) = some [] := by simp [asSl]
  have h1 : decide ((n : Int) < 0) = false := by simp
  have h2 : decide ((n : Int) > 64) = false := by simp; omega
  have h3 : ¬ decide (((E.map Ed.pv).length : Int) > 4096) = true := by simp; omega
  simp only [shortest_check_M, shortest_check, asI, e0, e1, bind_some', h1, h2, cond_false, Bool.false_eq_true, if_false, if_neg h3]
  refine loop_until (fun k => (([] : List PV), E.map Ed.pv, ((E.map Ed.pv).length : Int), (k : Int), (n : Int), ())) E.length (fun k hk rec => ?_) (fun rec => ?_) (by unfold rounds; omega) rfl
  · unfold shortest_check_L2
    dsimp only
    have hg : decide ((k : Int) < ((E.map Ed.pv).length : Int)) = true := by simp; omega
    obtain ⟨z, hz⟩ : ∃ z, E[k]? = some z := ⟨_, List.getElem?_eq_getElem hk⟩
    have hge : (E.map Ed.pv)[k]? = some z.pv := by rw [List.getElem?_map, hz]; rfl
    obtain ⟨a1, a2, a3⟩ := h z (List.mem_of_getElem? hz)
    have h4 : decide ((z.c : Int) < 0) = false := by simp
    have h5 : decide ((z.c : Int) > 1073741824) = false := by simp; omega
    simp only [hg, if_true, idxP_nat, hge, bind_some', ed0, ed1, ed2, asI, one_ok _ _ a1, one_ok _ _ a2, asBool, cond_false, Bool.false_eq_true, if_false, h4, h5, wrap_nat (show k < 9223372036854775807 by omega)]
  · unfold shortest_check_L2
    dsimp only
    rw [if_neg (by simp)]
    refine run_end fun rec => ?_
    unfold shortest_check_L1
    dsimp only
    rw [if_neg (by simp)]

/-! ### the map of the edges by node -/
abbrev NMap := List (Nat × List Ed)
def nput (z : Ed) : NMap → NMap
  | [] => [(z.f, [z])]
  | (a, l) :: r => if z.f = a then (a, l ++ [z]) :: r else (a, l) :: nput z r
def nlook (v : Nat) : NMap → List Ed
  | [] => []
  | (a, l) :: r => if v = a then l else nlook v r
def nPV (m : NMap) : List (PV × PV) := m.map fun x => (.int .i64 x.1, .rsO 3 (x.2.map Ed.pv))
theorem nkey (a b : Nat) : peqL (PV.int .i64 a).cells (PV.int .i64 b).cells = decide (a = b) := by
  have : ((a : Int) == (b : Int)) = decide (a = b) := by
    by_cases h : a = b
    · simp [h]
    · rw [decide_eq_false h, beq_eq_false_iff_ne]; omega
  simp only [PV.cells, peqL, peq, Bool.and_true, this]
theorem nrow (v : Nat) : ∀ m : NMap, mrow 3 (.int .i64 v) (nPV m) = some ((nlook v m).map Ed.pv)
  | [] => rfl
  | (a, l) :: r => by
    have ih := nrow v r
    unfold nPV at ih ⊢
    simp only [List.map_cons, mrow, nlook, nkey]
    by_cases h : v = a
    · simp [h, asRow]
    · simp only [h, decide_false, Bool.false_eq_true, if_false]; exact ih
theorem nput_pv (z : Ed) : ∀ m : NMap, mput (.int .i64 z.f) (.rsO 3 ((nlook z.f m).map Ed.pv ++ [z.pv])) (mtake (.int .i64 z.f) (nPV m)) = nPV (nput z m)
  | [] => by simp [nPV, mtake, mput, nput, nlook]
  | (a, l) :: r => by
    have ih := nput_pv z r
    unfold nPV at ih ⊢
    simp only [List.map_cons, mtake, nput, nlook, nkey]
    by_cases h : z.f = a
    · subst h
      simp [mput, nkey]
    · simp only [h, decide_false, Bool.false_eq_true, if_false, mput, nkey, List.map_cons]
      rw [ih]
theorem nlook_put (v : Nat) (z : Ed) : ∀ m : NMap, nlook v (nput z m) = nlook v m ++ (if z.f = v then [z] else [])
  | [] => by
    simp only [nput, nlook]
    by_cases h : v = z.f
    · simp [h]
    · rw [if_neg h, if_neg fun e => h e.symm]; rfl
  | (a, l) :: r => by
    simp only [nput]
    by_cases h : z.f = a
    · subst h
      simp only [if_true, nlook]
      by_cases hv : v = z.f
      · simp [hv]
      · rw [if_neg hv, if_neg hv, if_neg fun e => hv e.symm]; simp
    · rw [if_neg h]
      simp only [nlook]
      by_cases hv : v = a
      · subst hv; rw [if_pos rfl, if_pos rfl, if_neg h]; simp
      · rw [if_neg hv, if_neg hv]; exact nlook_put v z r
def nall (E : List Ed) : NMap := E.foldl (fun m z => nput z m) []
theorem nall_snoc (E : List Ed) (z : Ed) : nall (E ++ [z]) = nput z (nall E) := by simp [nall]
theorem nall_look (v : Nat) (E : List Ed) : nlook v (nall E) = E.filter fun y => y.f == v := by
  rw [← List.reverse_reverse E]
  induction E.reverse with
  | nil => rfl
  | cons z l ih =>
    rw [List.reverse_cons, nall_snoc, nlook_put, ih, List.filter_append]
    by_cases h : z.f = v
    · simp [h]
    · simp [h]
theorem nzip (v : Nat) : ∀ m : NMap, asSl 3 (mlook (.int .i64 v) (.rs 0 []) (((nPV m).map fun x => x.1).zip ((nPV m).map fun x => x.2.strip1))) = some ((nlook v m).map Ed.pv)
  | [] => by simp [nPV, mlook, asSl, nlook]
  | (a, l) :: r => by
    have ih := nzip v r
    unfold nPV at ih ⊢
    simp only [List.map_cons, List.zip_cons_cons, mlook, nkey, nlook]
    by_cases h : v = a
    · simp [h, PV.strip1, asSl]
    · simp only [h, decide_false, Bool.false_eq_true, if_false]; exact ih
theorem neighbors_ok (E : List Ed) (hE : E.length ≤ 4096) : shortest_neighbors_M [.rs 3 (E.map Ed.pv), .bool false] = some (.rm 3 ((nPV (nall E)).map fun x => x.1) ((nPV (nall E)).map fun x => x.2.strip1)) := by
  have e0 : asSl 3 (.rs 3 (E.map Ed.pv)) = some (E.map Ed.pv) := by simp [asSl]
  simp only [shortest_neighbors_M, shortest_neighbors, e0, bind_some', asBool]
  refine loop_until (fun k => (false, E.map Ed.pv, ((E.map Ed.pv).length : Int), (k : Int), nPV (nall (E.take k)), ())) E.length (fun k hk rec => ?_) (fun rec => ?_) (by unfold rounds; omega) (by simp [nall, nPV])
  · unfold shortest_neighbors_L1
    dsimp only
    have hg : decide ((k : Int) < ((E.map Ed.pv).length : Int)) = true := by simp; omega
    obtain ⟨z, hz⟩ : ∃ z, E[k]? = some z := ⟨_, List.getElem?_eq_getElem hk⟩
    have hge : (E.map Ed.pv)[k]? = some z.pv := by rw [List.getElem?_map, hz]; rfl
    have htk : E.take (k + 1) = E.take k ++ [z] := by
      rw [List.take_add_one, hz]; rfl
    have hce : PV.agg [cell z.pv 0, cell z.pv 1, cell z.pv 2] = z.pv := rfl
    have hlen : ((nlook z.f (nall (E.take k))).map Ed.pv ++ [z.pv]).length * 24 ≤ roomBound ∧ 0 < 24 := by
      have : (nlook z.f (nall (E.take k))).length ≤ E.length := by
        rw [nall_look]
        exact Nat.le_trans (List.length_filter_le ..) (by rw [List.length_take]; omega)
      simp only [List.length_append, List.length_map, List.length_cons, List.length_nil]
      unfold roomBound; omega
    rw [if_pos hg, idxP_nat, hge, bind_some', if_neg (by simp)]
    have hce2 : PV.agg [.int .i64 z.f, cell z.pv 1, cell z.pv 2] = z.pv := rfl
    simp only [ed0, asI, bind_some', nrow, hce2, if_pos hlen]
    rw [nput_pv, htk, nall_snoc, wrap_nat (by omega)]
  · unfold shortest_neighbors_L1
    dsimp only
    rw [if_neg (by simp), List.take_length]
theorem graph_ok (E : List Ed) (n : Nat) (hn : n ≤ 64) (hE : E.length ≤ 4096) (h : ∀ y ∈ E, y.f < n ∧ y.t < n ∧ y.c ≤ 1073741824) : Gr E n ((nPV (nall E)).map fun x => x.1) ((nPV (nall E)).map fun x => x.2.strip1) :=
  ⟨by omega, by omega, h, fun v _ => by rw [nzip, nall_look]⟩
end Go.Ab.Nw
