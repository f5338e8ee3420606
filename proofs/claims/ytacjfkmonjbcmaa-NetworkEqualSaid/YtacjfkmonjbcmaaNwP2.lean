/- The matrix of the shortest lengths, whatever the order of the edges. -/
import Derived.Test.YtacjfkmonjbcmaaNwP1
namespace Go.Ab.Nw
set_option maxRecDepth 100000
set_option linter.unusedVariables false
set_option linter.unusedSimpArgs false

/-- a shortest length, -1 where there is none -/
def IsD (E : List Ed) (M : Nat) (s v : Nat) (d : Int) : Prop := (d = -1 ∧ ∀ L, ¬ Rch E s v L) ∨ ∃ L : Nat, d = L ∧ L ≤ M ∧ Rch E s v L ∧ ∀ L', Rch E s v L' → L ≤ L'
theorem IsD.unique {E : List Ed} {M M' s v : Nat} {d d' : Int} (h : IsD E M s v d) (h' : IsD E M' s v d') : d = d' := by
  rcases h with ⟨e, h⟩ | ⟨L, e, _, h1, h2⟩
  · rcases h' with ⟨e', _⟩ | ⟨L', _, _, h1', _⟩
    · rw [e, e']
    · exact absurd h1' (h L')
  · rcases h' with ⟨_, h'⟩ | ⟨L', e', _, h1', h2'⟩
    · exact absurd h1 (h' L)
    · rw [e, e', Nat.le_antisymm (h2 _ h1') (h2' _ h1)]
theorem Rch.mem {E E' : List Ed} (h : ∀ y, y ∈ E → y ∈ E') {s v L : Nat} (hr : Rch E s v L) : Rch E' s v L := by
  rcases hr with hr | hr
  · exact .inl hr
  · exact .inr (hr.mono fun i j c hc => h _ hc)
theorem IsD.mem {E E' : List Ed} (h : ∀ y, y ∈ E ↔ y ∈ E') {M s v : Nat} {d : Int} (hd : IsD E M s v d) : IsD E' M s v d := by
  rcases hd with ⟨e, h1⟩ | ⟨L, e, hM, h1, h2⟩
  · exact .inl ⟨e, fun L hL => h1 L (hL.mem fun y hy => (h y).2 hy)⟩
  · exact .inr ⟨L, e, hM, h1.mem fun y hy => (h y).1 hy, fun L' hL => h2 L' (hL.mem fun y hy => (h y).2 hy)⟩
def rowPV (n : Nat) (D : Nat → Int) : List PV := (List.range n).map fun v => .int .i64 (D v)
def matPV (n : Nat) (D : Nat → Nat → Int) : List PV := (List.range n).map fun s => .rs 1 (rowPV n (D s))
theorem matPV_congr {n : Nat} {D D' : Nat → Nat → Int} (h : ∀ s v, s < n → v < n → D s v = D' s v) : matPV n D = matPV n D' := by
  unfold matPV
  apply List.map_congr_left
  intro s hs
  unfold rowPV
  congr 1
  apply List.map_congr_left
  intro v hv
  rw [h s v (List.mem_range.1 hs) (List.mem_range.1 hv)]
theorem all_ok (E : List Ed) (n B : Nat) (hn : n ≤ 64) (hE : E.length ≤ 4096) (hB : B ≤ 1073741824) (h : ∀ y ∈ E, y.f < n ∧ y.t < n ∧ y.c ≤ B) :
    ∃ D : Nat → Nat → Int, (∀ s v, s < n → v < n → IsD E (B * n) s v (D s v)) ∧ shortest_All_M [.int .i64 n, .rs 3 (E.map Ed.pv)] = some (.tup [.rs 1 (matPV n D), .int .i64 0]) := by
  have h' : ∀ y ∈ E, y.f < n ∧ y.t < n ∧ y.c ≤ 1073741824 := fun y hy => ⟨(h y hy).1, (h y hy).2.1, by have := (h y hy).2.2; omega⟩
  have hG := graph_ok E n hn hE h'
  have each : ∀ s, ∃ o : Labs, s < n → (∃ pu, DI E n s B o pu []) ∧ shortest_labels_M [.int .i64 n, .rm 3 ((nPV (nall E)).map fun x => x.1) ((nPV (nall E)).map fun x => x.2.strip1), .int .i64 s] = some (.rs 3 (outPV n o)) := fun s => by
    by_cases hs : s < n
    · obtain ⟨o, pu, h1, h2⟩ := labels_ok hG hs hB (fun y hy => (h y hy).2.2) hn
      exact ⟨o, fun _ => ⟨⟨pu, h1⟩, h2⟩⟩
    · exact ⟨fun _ => none, fun h => absurd h hs⟩
  obtain ⟨o, ho⟩ := Classical.axiomOfChoice each
  refine ⟨fun s v => lenI (o s v), fun s v hs hv => ?_, ?_⟩
  · obtain ⟨⟨pu, hI⟩, _⟩ := ho s hs
    have := hI.done h hv
    cases hl : o s v with
    | none => rw [hl] at this; exact .inl ⟨by dsimp only; rw [hl]; rfl, this⟩
    | some p =>
      obtain ⟨L, e⟩ := p
      rw [hl] at this
      exact .inr ⟨L, by dsimp only; rw [hl]; rfl, this.1, this.2.1, this.2.2⟩
  · have e0 : asSl 3 (.rs 3 (E.map Ed.pv)) = some (E.map Ed.pv) := by simp [asSl]
    have hroom : (0 : Int) ≤ (n : Int) ∧ (n : Int) ≤ (n : Int) ∧ n * 24 ≤ roomBound ∧ 0 < 24 ∧ 0 < 1 := by
      refine ⟨by omega, by omega, ?_, by omega, by omega⟩
      unfold roomBound; omega
    have hz : ((0 : Int) != 0) = false := rfl
    simp only [shortest_All_M, shortest_All, asI, e0, bind_some', check_ok E n hn hE h', hz, Bool.false_eq_true, if_false, neighbors_ok E hE, mapCase, if_true, Int.toNat_natCast, if_pos hroom, List.length_replicate]
    refine loop_until (fun k => ((n : Int), PV.rm 3 ((nPV (nall E)).map fun x => x.1) ((nPV (nall E)).map fun x => x.2.strip1), (n : Int), (k : Int), fillL n k (fun s => .rs 1 (rowPV n fun v => lenI (o s v))) (.rs 0 []), ())) n (fun k hk rec => ?_) (fun rec => ?_) (by unfold rounds; omega) ?_
    · unfold shortest_All_L1
      dsimp only
      have hg : decide ((k : Int) < (n : Int)) = true := by simp; omega
      have e3 : asSl 3 (.rs 3 (outPV n (o k))) = some (outPV n (o k)) := by simp [asSl]
      have e1 : asSl 1 (.rs 1 ((List.range n).map fun v => PV.int .i64 (lenI (o k v)))) = some ((List.range n).map fun v => PV.int .i64 (lenI (o k v))) := by simp [asSl]
      rw [if_pos hg, (ho k hk).2, bind_some', e3, bind_some', lengths_ok n hn, bind_some', e1, bind_some', if_pos (inR (by rw [fill_len]; exact hk)), Int.toNat_natCast, fill_get hk, bind_some', wrap_nat (by omega)]
      have := fill_set (F := fun s => PV.rs 1 (rowPV n fun v => lenI (o s v))) (z := .rs 0 []) hk
      unfold rowPV at this ⊢
      rw [this]
    · unfold shortest_All_L1
      dsimp only
      rw [if_neg (by simp), fill_all]
      rfl
    · rw [fill_zero]; rfl
theorem all_perm (E E' : List Ed) (n B : Nat) (hn : n ≤ 64) (hE : E'.length ≤ 4096) (hB : B ≤ 1073741824) (h : ∀ y ∈ E, y.f < n ∧ y.t < n ∧ y.c ≤ B) (he : ∀ y, y ∈ E ↔ y ∈ E') {D : Nat → Nat → Int} (hD : ∀ s v, s < n → v < n → IsD E (B * n) s v (D s v)) :
    shortest_All_M [.int .i64 n, .rs 3 (E'.map Ed.pv)] = some (.tup [.rs 1 (matPV n D), .int .i64 0]) := by
  obtain ⟨D', d1, d2⟩ := all_ok E' n B hn hE hB fun y hy => h y ((he y).2 hy)
  rw [d2, matPV_congr fun s v hs hv => ((hD s v hs hv).mem he).unique (d1 s v hs hv)]
end Go.Ab.Nw

namespace Go.Ab.Nw
set_option maxRecDepth 100000
set_option linter.unusedVariables false
set_option linter.unusedSimpArgs false

structure Fp where
  a : Nat
  b : Nat
  c : Nat
  free : Bool
  deriving DecidableEq
def Fp.pv (p : Fp) : PV := .agg [.int .i64 p.a, .int .i64 p.b, .int .i64 p.c, .bool p.free]
theorem fp0 (p : Fp) : cell p.pv 0 = .int .i64 p.a := rfl
theorem fp1 (p : Fp) : cell p.pv 1 = .int .i64 p.b := rfl
theorem fp2 (p : Fp) : cell p.pv 2 = .int .i64 p.c := rfl
theorem fp3 (p : Fp) : cell p.pv 3 = .bool p.free := rfl
def Fp.ed (p : Fp) : Ed := ⟨p.a, p.b, p.c⟩

def bset (z : Ed) : List Ed → List Ed
  | [] => [z]
  | e :: r => if z.f = e.f ∧ z.t = e.t then z :: r else e :: bset z r
def bget (a b : Nat) : List Ed → Option Nat
  | [] => none
  | e :: r => if a = e.f ∧ b = e.t then some e.c else bget a b r
theorem bget_set (a b : Nat) (z : Ed) : ∀ m, bget a b (bset z m) = if a = z.f ∧ b = z.t then some z.c else bget a b m
  | [] => rfl
  | e :: r => by
    simp only [bset]
    by_cases h : z.f = e.f ∧ z.t = e.t
    · rw [if_pos h]
      simp only [bget]
      by_cases h2 : a = z.f ∧ b = z.t
      · rw [if_pos h2, if_pos h2]
      · rw [if_neg h2, if_neg h2, if_neg (by rw [← h.1, ← h.2]; exact h2)]
    · rw [if_neg h]
      simp only [bget]
      by_cases h2 : a = e.f ∧ b = e.t
      · rw [if_pos h2, if_neg (by rw [h2.1, h2.2]; rintro ⟨x, y⟩; exact h ⟨x.symm, y.symm⟩), if_pos h2]
      · rw [if_neg h2, if_neg h2]; exact bget_set a b z r
theorem bset_mem (z e : Ed) : ∀ m, e ∈ bset z m → e = z ∨ e ∈ m
  | [], h => by simp [bset] at h; exact .inl h
  | x :: r, h => by
    simp only [bset] at h
    split at h
    · rcases List.mem_cons.1 h with h | h
      · exact .inl h
      · exact .inr (by simp [h])
    · rcases List.mem_cons.1 h with h | h
      · exact .inr (by simp [h])
      · rcases bset_mem z e r h with h | h
        · exact .inl h
        · exact .inr (by simp [h])
theorem bget_mem {a b x : Nat} : ∀ {m : List Ed}, bget a b m = some x → ∃ e ∈ m, e.f = a ∧ e.t = b ∧ e.c = x
  | [], h => by cases h
  | e :: r, h => by
    simp only [bget] at h
    split at h
    · rename_i h2
      cases h
      exact ⟨e, by simp, h2.1.symm, h2.2.symm, rfl⟩
    · obtain ⟨e', h1, h2⟩ := bget_mem h
      exact ⟨e', by simp [h1], h2⟩
theorem bset_len (z : Ed) : ∀ m, (bset z m).length ≤ m.length + 1
  | [] => by simp [bset]
  | e :: r => by
    simp only [bset]
    split
    · simp
    · have := bset_len z r; simp; omega
def bstep (fr : Bool) (m : List Ed) (p : Fp) : List Ed := if (fr && !p.free) = true then m else match bget p.a p.b m with
  | none => bset p.ed m
  | some x => if p.c < x then bset p.ed m else m
def best (fr : Bool) (l : List Fp) : List Ed := l.foldl (bstep fr) []
theorem best_snoc (fr : Bool) (l : List Fp) (p : Fp) : best fr (l ++ [p]) = bstep fr (best fr l) p := by simp [best]
/-- the footpaths that count -/
def counted (fr : Bool) (l : List Fp) : List Ed := (l.filter fun p => !(fr && !p.free)).map Fp.ed
theorem best_ok (fr : Bool) (l : List Fp) : (∀ e ∈ best fr l, e ∈ counted fr l) ∧ (∀ e ∈ counted fr l, ∃ x, bget e.f e.t (best fr l) = some x ∧ x ≤ e.c) ∧ (best fr l).length ≤ l.length := by
  rw [← List.reverse_reverse l]
  induction l.reverse with
  | nil => exact ⟨(fun e h => by simp [best] at h), (fun e h => by simp [counted] at h), Nat.le_refl _⟩
  | cons p l ih =>
    rw [List.reverse_cons, best_snoc]
    obtain ⟨i1, i2, i3⟩ := ih
    have hc : counted fr (l.reverse ++ [p]) = counted fr l.reverse ++ (if (fr && !p.free) = true then [] else [p.ed]) := by
      unfold counted
      rw [List.filter_append, List.map_append]
      congr 1
      cases hb : (fr && !p.free) with
      | true => simp only [List.filter_cons, hb, Bool.not_true, Bool.false_eq_true, if_false, List.filter_nil, List.map_nil, if_true]
      | false => simp only [List.filter_cons, hb, Bool.not_false, Bool.false_eq_true, if_false, List.filter_nil, List.map_nil, List.map_cons, if_true]
    rw [hc]
    unfold bstep
    by_cases h : (fr && !p.free) = true
    · rw [if_pos h, if_pos h]
      exact ⟨fun e he => by simpa using i1 e he, fun e he => i2 e (by simpa using he), by simp at i3 ⊢; omega⟩
    · rw [if_neg h, if_neg h]
      have put : (∀ e ∈ bset p.ed (best fr l.reverse), e ∈ counted fr l.reverse ++ [p.ed]) := fun e he => by
        rcases bset_mem _ _ _ he with rfl | he
        · simp
        · exact List.mem_append_left _ (i1 e he)
      have len : (bset p.ed (best fr l.reverse)).length ≤ (l.reverse ++ [p]).length := by
        have := bset_len p.ed (best fr l.reverse)
        simp at i3 ⊢; omega
      cases hb : bget p.a p.b (best fr l.reverse) with
      | none =>
        refine ⟨put, fun e he => ?_, len⟩
        rw [bget_set]
        by_cases hk : e.f = p.ed.f ∧ e.t = p.ed.t
        · rw [if_pos hk]
          rcases List.mem_append.1 he with he | he
          · obtain ⟨x, h1, _⟩ := i2 e he
            rw [hk.1, hk.2] at h1
            rw [show p.ed.f = p.a from rfl, show p.ed.t = p.b from rfl, hb] at h1
            cases h1
          · simp at he; subst he; exact ⟨_, rfl, Nat.le_refl _⟩
        · rw [if_neg hk]
          rcases List.mem_append.1 he with he | he
          · exact i2 e he
          · simp at he; subst he; exact absurd ⟨rfl, rfl⟩ hk
      | some x =>
        dsimp only
        by_cases hx : p.c < x
        · rw [if_pos hx]
          refine ⟨put, fun e he => ?_, len⟩
          rw [bget_set]
          by_cases hk : e.f = p.ed.f ∧ e.t = p.ed.t
          · rw [if_pos hk]
            rcases List.mem_append.1 he with he | he
            · obtain ⟨y, h1, h2⟩ := i2 e he
              rw [hk.1, hk.2, show p.ed.f = p.a from rfl, show p.ed.t = p.b from rfl, hb] at h1
              cases h1
              exact ⟨_, rfl, by show p.c ≤ e.c; omega⟩
            · simp at he; subst he; exact ⟨_, rfl, Nat.le_refl _⟩
          · rw [if_neg hk]
            rcases List.mem_append.1 he with he | he
            · exact i2 e he
            · simp at he; subst he; exact absurd ⟨rfl, rfl⟩ hk
        · rw [if_neg hx]
          refine ⟨fun e he => List.mem_append_left _ (i1 e he), fun e he => ?_, by simp at i3 ⊢; omega⟩
          rcases List.mem_append.1 he with he | he
          · exact i2 e he
          · simp at he; subst he; exact ⟨x, hb, by show x ≤ p.c; omega⟩

/-! ### the map, as printed -/
def entPV (e : Ed) : PV × PV := (.agg [.int .i64 e.f, .int .i64 e.t, .bool false], .int .i64 e.c)
theorem ekey (a b c d : Nat) : peqL (PV.agg [.int .i64 a, .int .i64 b, .bool false]).cells (PV.agg [.int .i64 c, .int .i64 d, .bool false]).cells = decide (a = c ∧ b = d) := by
  have h : ∀ x y : Nat, ((x : Int) == (y : Int)) = decide (x = y) := fun x y => by
    by_cases h : x = y
    · simp [h]
    · rw [decide_eq_false h, beq_eq_false_iff_ne]; omega
  simp only [PV.cells, peqL, peq, Bool.and_true, h, beq_self_eq_true, Bool.decide_and]
theorem blook (a b : Nat) : ∀ m : List Ed, mlook (.agg [.int .i64 a, .int .i64 b, .bool false]) (.int .i64 0) (m.map entPV) = .int .i64 (((bget a b m).getD 0 : Nat) : Int) ∧ mhas (.agg [.int .i64 a, .int .i64 b, .bool false]) (m.map entPV) = (bget a b m).isSome
  | [] => ⟨rfl, rfl⟩
  | e :: r => by
    obtain ⟨h1, h2⟩ := blook a b r
    simp only [List.map_cons, entPV, mlook, mhas, ekey, bget]
    by_cases h : a = e.f ∧ b = e.t
    · simp [h]
    · simp only [h, decide_false, Bool.false_eq_true, if_false, Bool.false_or]
      exact ⟨h1, h2⟩
theorem bput (z : Ed) : ∀ m : List Ed, mput (.agg [.int .i64 z.f, .int .i64 z.t, .bool false]) (.int .i64 z.c) (m.map entPV) = (bset z m).map entPV
  | [] => rfl
  | e :: r => by
    have ih := bput z r
    simp only [List.map_cons, mput, bset]
    rw [show (entPV e) = (PV.agg [.int .i64 e.f, .int .i64 e.t, .bool false], PV.int .i64 e.c) from rfl]
    simp only [ekey]
    by_cases h : z.f = e.f ∧ z.t = e.t
    · simp [h, entPV]
    · simp only [h, decide_false, Bool.false_eq_true, if_false, List.map_cons, ih]; rfl
theorem pickAll_eq {R : Type} {n : Nat} {g : Nat → Option R} {r : R} (hn : 0 < n) (h : ∀ i, i < n → g i = some r) : pickAll n g = some r := by
  unfold pickAll
  have hh : ∃ r, ∀ i, i < n → g i = some r := ⟨r, h⟩
  rw [dif_pos hh]
  have := Classical.choose_spec hh 0 hn
  rw [h 0 hn] at this
  exact this.symm
/-- the entries are taken in whatever order -/
theorem pick_loop {n : Nat} (hn : n ≤ 64) (r : PV) (good : List Ed → Prop) (hend : ∀ acc, good acc → ∃ D, shortest_All_M [.int .i64 n, .rs 3 (acc.map Ed.pv)] = some (.tup [.rs 1 D, .int .i64 0]) ∧ r = .rs 1 D) :
    ∀ (rem acc : List Ed) (N : Nat), rem.length < N → acc.length + rem.length ≤ 4096 → (∀ l, (∀ y, y ∈ l ↔ y ∈ acc ∨ y ∈ rem) → l.length = acc.length + rem.length → good l) →
    loopS (footpath_distances_L1 lpS) N ((n : Int), acc.map Ed.pv, rem.map entPV, ()) = some r := by
  intro rem
  generalize hk : rem.length = k
  induction k generalizing rem with
  | zero =>
    intro acc N hN hl hg
    have : rem = [] := List.eq_nil_of_length_eq_zero hk
    subst this
    obtain ⟨N, rfl⟩ : ∃ m, N = m + 1 := ⟨N - 1, by omega⟩
    simp only [loopS]
    unfold footpath_distances_L1
    dsimp only
    rw [if_pos (show (List.map entPV []).isEmpty = true from rfl)]
    obtain ⟨D, h1, h2⟩ := hend acc (hg acc (fun y => by simp) (by simp))
    have e2 : asTup 2 (.tup [.rs 1 D, .int .i64 0]) = some [.rs 1 D, .int .i64 0] := rfl
    have e3 : asSl 1 (.rs 1 D) = some D := by simp [asSl]
    rw [h1, bind_some', e2, bind_some']
    simp only [List.getD_cons_zero, List.getD_cons_succ, e3, bind_some', asI]
    rw [h2]
  | succ k ih =>
    intro acc N hN hl hg
    obtain ⟨N, rfl⟩ : ∃ m, N = m + 1 := ⟨N - 1, by omega⟩
    simp only [loopS]
    generalize hrec : loopS (footpath_distances_L1 lpS) N = rec
    unfold footpath_distances_L1
    dsimp only
    have hne : ¬ (rem.map entPV).isEmpty = true := by cases rem with
      | nil => simp at hk
      | cons _ _ => simp
    rw [if_neg hne]
    refine pickAll_eq (by simp; omega) fun i hi => ?_
    have hi' : i < rem.length := by simpa using hi
    obtain ⟨e, he⟩ : ∃ e, rem[i]? = some e := ⟨_, List.getElem?_eq_getElem hi'⟩
    have hge : (rem.map entPV)[i]? = some (entPV e) := by rw [List.getElem?_map, he]; rfl
    have hroom : (acc.map Ed.pv ++ [PV.agg [.int .i64 e.f, .int .i64 e.t, .int .i64 e.c]]).length * 24 ≤ roomBound ∧ 0 < 24 := by
      simp only [List.length_append, List.length_map, List.length_cons, List.length_nil]
      unfold roomBound; omega
    have hap : acc.map Ed.pv ++ [PV.agg [.int .i64 e.f, .int .i64 e.t, .int .i64 e.c]] = (acc ++ [e]).map Ed.pv := by simp [Ed.pv]
    have herase : (rem.map entPV).eraseIdx i = (rem.eraseIdx i).map entPV := by
      apply List.ext_getElem?
      intro j
      simp only [List.getElem?_eraseIdx, List.getElem?_map]
      split <;> rfl
    have hle : (rem.eraseIdx i).length = k := by rw [List.length_eraseIdx]; simp [hi']; omega
    rw [hge, bind_some']
    rw [hap] at hroom
    simp only [entPV, ag3, ag30, ag31, asI, bind_some', hap, if_pos hroom, herase]
    rw [← hrec]
    refine ih (rem.eraseIdx i) hle (acc ++ [e]) N (by omega) (by simp; omega) fun l hml hll => hg l (fun y => ?_) (by rw [hll]; simp; omega)
    rw [hml]
    have hmem : y ∈ rem ↔ y = e ∨ y ∈ rem.eraseIdx i := by
      rw [List.mem_eraseIdx_iff_getElem?]
      constructor
      · intro hy
        obtain ⟨j, hj⟩ := List.getElem?_of_mem hy
        by_cases hji : j = i
        · subst hji; rw [he] at hj; exact .inl (Option.some.inj hj).symm
        · exact .inr ⟨j, hji, hj⟩
      · rintro (rfl | ⟨j, _, hj⟩)
        · exact List.mem_of_getElem? he
        · exact List.mem_of_getElem? hj
    rw [hmem]
    simp only [List.mem_append, List.mem_singleton]
    constructor
    · rintro ((h | h) | h)
      · exact .inl h
      · exact .inr (.inl h)
      · exact .inr (.inr h)
    · rintro (h | h | h)
      · exact .inl (.inl h)
      · exact .inl (.inr h)
      · exact .inr h
end Go.Ab.Nw

namespace Go.Ab.Nw
set_option maxRecDepth 100000
set_option linter.unusedVariables false
set_option linter.unusedSimpArgs false

theorem Rch.leq {E E' : List Ed} (h : ∀ e ∈ E, ∃ e' ∈ E', e'.f = e.f ∧ e'.t = e.t ∧ e'.c ≤ e.c) {s v L : Nat} (hr : Rch E s v L) : ∃ L', L' ≤ L ∧ Rch E' s v L' := by
  rcases hr with ⟨h1, h2⟩ | hr
  · exact ⟨L, Nat.le_refl _, .inl ⟨h1, h2⟩⟩
  · obtain ⟨L', l1, l2⟩ := hr.leq (w' := ew E') fun i j c hc => by
      obtain ⟨e', m, e1, e2, e3⟩ := h _ hc
      refine ⟨e'.c, e3, ?_⟩
      unfold ew
      have : (⟨i, j, e'.c⟩ : Ed) = e' := by
        have e1 : e'.f = i := e1
        have e2 : e'.t = j := e2
        rw [← e1, ← e2]
      rw [this]; exact m
    exact ⟨L', l1, .inr l2⟩
theorem isd_best {fr : Bool} {l : List Fp} {M s v : Nat} {d : Int} (h : IsD (best fr l) M s v d) : IsD (counted fr l) M s v d := by
  obtain ⟨b1, b2, _⟩ := best_ok fr l
  have low : ∀ {L}, Rch (counted fr l) s v L → ∃ L', L' ≤ L ∧ Rch (best fr l) s v L' := fun hr => hr.leq fun e he => by
    obtain ⟨x, h1, h2⟩ := b2 e he
    obtain ⟨e', m, e1, e2, e3⟩ := bget_mem h1
    exact ⟨e', m, e1, e2, by omega⟩
  rcases h with ⟨e, h1⟩ | ⟨L, e, hM, h1, h2⟩
  · refine .inl ⟨e, fun L hL => ?_⟩
    obtain ⟨L', _, hL'⟩ := low hL
    exact h1 L' hL'
  · refine .inr ⟨L, e, hM, h1.mem b1, fun L' hL => ?_⟩
    obtain ⟨L'', l1, l2⟩ := low hL
    exact Nat.le_trans (h2 L'' l2) l1
theorem counted_mem {fr : Bool} {l : List Fp} {e : Ed} (h : e ∈ counted fr l) : ∃ p ∈ l, p.ed = e := by
  unfold counted at h
  obtain ⟨p, hp, rfl⟩ := List.mem_map.1 h
  exact ⟨p, (List.mem_filter.1 hp).1, rfl⟩
theorem dist_ok (l : List Fp) (n B : Nat) (hn : n ≤ 64) (hl : l.length ≤ 4096) (hB : B ≤ 1073741824) (h : ∀ p ∈ l, p.a < n ∧ p.b < n ∧ p.c ≤ B) (fr : Bool) :
    ∃ D : Nat → Nat → Int, (∀ s v, s < n → v < n → IsD (counted fr l) (B * n) s v (D s v)) ∧ footpath_distances_M [.rs 4 (l.map Fp.pv), .int .i64 n, .bool fr] = some (.rs 1 (matPV n D)) := by
  obtain ⟨b1, b2, b3⟩ := best_ok fr l
  have hbe : ∀ y ∈ best fr l, y.f < n ∧ y.t < n ∧ y.c ≤ B := fun y hy => by
    obtain ⟨p, hp, rfl⟩ := counted_mem (b1 y hy)
    exact h p hp
  obtain ⟨D, d1, d2⟩ := all_ok (best fr l) n B hn (by omega) hB hbe
  refine ⟨D, fun s v hs hv => isd_best (d1 s v hs hv), ?_⟩
  have e0 : asSl 4 (.rs 4 (l.map Fp.pv)) = some (l.map Fp.pv) := by simp [asSl]
  simp only [footpath_distances_M, footpath_distances, e0, bind_some', asI, asBool]
  refine loop_until (fun k => ((n : Int), fr, l.map Fp.pv, ((l.map Fp.pv).length : Int), (k : Int), (best fr (l.take k)).map entPV, ())) l.length (fun k hk rec => ?_) (fun rec => ?_) (by unfold rounds; omega) (by simp [best])
  · unfold footpath_distances_L2
    dsimp only
    have hg : decide ((k : Int) < ((l.map Fp.pv).length : Int)) = true := by simp; omega
    obtain ⟨p, hp⟩ : ∃ p, l[k]? = some p := ⟨_, List.getElem?_eq_getElem hk⟩
    have hge : (l.map Fp.pv)[k]? = some p.pv := by rw [List.getElem?_map, hp]; rfl
    have htk : l.take (k + 1) = l.take k ++ [p] := by rw [List.take_add_one, hp]; rfl
    have hr7 : (bif fr then (asBool (cell p.pv 3)).bind fun b6 => some !b6 else some false) = some (fr && !p.free) := by
      rw [fp3]
      cases fr <;> rfl
    obtain ⟨g1, g2⟩ := blook p.a p.b (best fr (l.take k))
    rw [if_pos hg, idxP_nat, hge, bind_some', hr7, bind_some', wrap_nat (by omega), htk, best_snoc]
    unfold bstep
    by_cases hf : (fr && !p.free) = true
    · rw [if_pos hf, if_pos hf]
    · rw [if_neg hf, if_neg hf]
      simp only [fp0, fp1, fp2, asI, bind_some', g1, g2]
      cases hb : bget p.a p.b (best fr (l.take k)) with
      | none =>
        simp only [Option.isSome_none, Bool.not_false, cond_true, bind_some', if_true]
        rw [show (p.c : Int) = ((p.ed.c : Nat) : Int) from rfl, show (p.a : Int) = ((p.ed.f : Nat) : Int) from rfl, show (p.b : Int) = ((p.ed.t : Nat) : Int) from rfl, bput]
      | some x =>
        simp only [Option.isSome_some, Bool.not_true, cond_false, bind_some', Option.getD_some]
        by_cases hx : p.c < x
        · have hd : decide ((p.c : Int) < (x : Int)) = true := by simp; omega
          simp only [hd, if_true, if_pos hx]
          rw [show (p.c : Int) = ((p.ed.c : Nat) : Int) from rfl, show (p.a : Int) = ((p.ed.f : Nat) : Int) from rfl, show (p.b : Int) = ((p.ed.t : Nat) : Int) from rfl, bput]
        · have hd : decide ((p.c : Int) < (x : Int)) = false := by simp; omega
          simp only [hd, Bool.false_eq_true, if_false, if_neg hx]
  · unfold footpath_distances_L2
    dsimp only
    have hml : ((best fr (l.take l.length)).map entPV).length ≤ maxLen := by
      rw [List.take_length, List.length_map]
      have : (4096 : Nat) ≤ maxLen := by decide
      omega
    have hroom : (0 : Int) ≤ 0 ∧ 0 ≤ ((((best fr (l.take l.length)).map entPV).length : Nat) : Int) ∧ ((((best fr (l.take l.length)).map entPV).length : Nat) : Int).toNat * 24 ≤ roomBound ∧ 0 < 24 ∧ 0 < 3 := by
      refine ⟨by omega, by omega, ?_, by omega, by omega⟩
      rw [Int.toNat_natCast, List.take_length, List.length_map]
      unfold roomBound; omega
    rw [if_neg (by simp), if_pos hml, if_pos hroom, List.take_length, lpS_run]
    have hp := pick_loop hn (.rs 1 (matPV n D)) (fun acc => (∀ y, y ∈ best fr l ↔ y ∈ acc) ∧ acc.length ≤ 4096) (fun acc ⟨h1, h2⟩ => ⟨_, all_perm (best fr l) acc n B hn h2 hB hbe h1 d1, rfl⟩) (best fr l) [] rounds (by unfold rounds; omega) (by simp; omega) (fun l' h1 h2 => ⟨fun y => by rw [h1]; simp, by rw [h2]; simp; omega⟩)
    exact hp
end Go.Ab.Nw

namespace Go.Ab.Nw

abbrev Mx := Nat → Nat → Nat
def updM (d : Mx) (i j x : Nat) : Mx := fun a b => if a = i ∧ b = j then x else d a b
def dj (k i : Nat) (d : Mx) : Nat → Mx
  | 0 => d
  | j + 1 => updM (dj k i d j) i j (min (dj k i d j i j) (dj k i d j i k + dj k i d j k j))
def di (n k : Nat) (d : Mx) : Nat → Mx
  | 0 => d
  | i + 1 => dj k i (di n k d i) n
def dk (n : Nat) (d : Mx) : Nat → Mx
  | 0 => d
  | k + 1 => di n k (dk n d k) n
/-- within round k: rows before i, and cells before j of row i, are done -/
structure Mid (w : Nat → Nat → Nat → Prop) (inf n k i j : Nat) (d : Mx) : Prop where
  fw : Fw w inf n d
  old : ∀ a b, a < n → b < n → Below' w k a b (d a b)
  new : ∀ a b, a < n → b < n → (a < i ∨ (a = i ∧ b < j)) → Below' w (k + 1) a b (d a b)
variable {w : Nat → Nat → Nat → Prop} {inf n : Nat}
theorem Below'.le {k i j x y : Nat} (h : Below' w k i j x) (hy : y ≤ x) : Below' w k i j y := fun L hL => Nat.le_trans hy (h L hL)
theorem Mid.cell {k i j : Nat} {d : Mx} (h : Mid w inf n k i j d) (hi : i < n) (hj : j < n) (hk : k < n) : Mid w inf n k i (j + 1) (updM d i j (min (d i j) (d i k + d k j))) := by
  obtain ⟨h1, h2, h3⟩ := fw_step h.fw hi hj hk (x := min (d i j) (d i k + d k j)) rfl (d' := updM d i j (min (d i j) (d i k + d k j))) (fun a b => rfl)
  refine ⟨h1, fun a b ha hb => (h.old a b ha hb).le (h2 a b), fun a b ha hb hd => ?_⟩
  by_cases e : a = i ∧ b = j
  · obtain ⟨rfl, rfl⟩ := e
    exact h3 (h.old _ _ ha hk) (h.old _ _ hk hb) (h.old _ _ ha hb)
  · exact (h.new a b ha hb (by omega)).le (h2 a b)
theorem Mid.row {k i : Nat} {d : Mx} (h : Mid w inf n k i 0 d) (hi : i < n) (hk : k < n) : ∀ j, j ≤ n → Mid w inf n k i j (dj k i d j)
  | 0, _ => h
  | j + 1, hj => (Mid.row h hi hk j (by omega)).cell hi (by omega) hk
theorem Mid.rows {k : Nat} {d : Mx} (h : Mid w inf n k 0 0 d) (hk : k < n) : ∀ i, i ≤ n → Mid w inf n k i 0 (di n k d i)
  | 0, _ => h
  | i + 1, hi => by
    have := (Mid.rows h hk i (by omega)).row (by omega) hk n (Nat.le_refl _)
    exact ⟨this.fw, this.old, fun a b ha hb hd => this.new a b ha hb (by omega)⟩
structure Done (w : Nat → Nat → Nat → Prop) (inf n k : Nat) (d : Mx) : Prop where
  fw : Fw w inf n d
  low : ∀ a b, a < n → b < n → Below' w k a b (d a b)
theorem Done.rounds {d : Mx} (h : Done w inf n 0 d) : ∀ k, k ≤ n → Done w inf n k (dk n d k)
  | 0, _ => h
  | k + 1, hk => by
    have ih := Done.rounds h k (by omega)
    have := Mid.rows (k := k) ⟨ih.fw, ih.low, fun a b ha hb hd => by omega⟩ (by omega) n (Nat.le_refl _)
    exact ⟨this.fw, fun a b ha hb => this.new a b ha hb (.inl ha)⟩
/-- the first matrix: footpaths laid one after the other -/
def fill0 (inf : Nat) : Mx := fun _ _ => inf
def lay (d : Mx) (e : Ed) : Mx := updM d e.f e.t (min (d e.f e.t) e.c)
def start (inf : Nat) (E : List Ed) : Mx := E.foldl lay (fill0 inf)
theorem start_snoc (inf : Nat) (E : List Ed) (e : Ed) : start inf (E ++ [e]) = lay (start inf E) e := by simp [start]
theorem start_ok (E : List Ed) : (∀ i j, start inf E i j ≤ inf) ∧ (∀ i j, start inf E i j < inf → (⟨i, j, start inf E i j⟩ : Ed) ∈ E) ∧ ∀ e ∈ E, start inf E e.f e.t ≤ e.c := by
  rw [← List.reverse_reverse E]
  induction E.reverse with
  | nil => exact ⟨fun i j => Nat.le_refl _, fun i j h => by simp [start, fill0] at h, fun e h => by cases h⟩
  | cons e l ih =>
    rw [List.reverse_cons, start_snoc]
    obtain ⟨i1, i2, i3⟩ := ih
    have hl : ∀ a b, lay (start inf l.reverse) e a b = if a = e.f ∧ b = e.t then min (start inf l.reverse e.f e.t) e.c else start inf l.reverse a b := fun a b => rfl
    refine ⟨fun a b => ?_, fun a b h => ?_, fun z hz => ?_⟩
    · rw [hl]
      split
      · have := i1 e.f e.t; omega
      · exact i1 a b
    · rw [hl] at h ⊢
      split
      · rename_i hk
        rw [if_pos hk] at h
        by_cases hm : start inf l.reverse e.f e.t ≤ e.c
        · rw [show min (start inf l.reverse e.f e.t) e.c = start inf l.reverse e.f e.t by omega] at h ⊢
          rw [hk.1, hk.2]
          exact List.mem_append_left _ (i2 _ _ h)
        · rw [show min (start inf l.reverse e.f e.t) e.c = e.c by omega, hk.1, hk.2]
          simp
      · rename_i hk
        rw [if_neg hk] at h
        exact List.mem_append_left _ (i2 a b h)
    · rw [hl]
      rcases List.mem_append.1 hz with hz | hz
      · have := i3 z hz
        split
        · rename_i hk; rw [hk.1, hk.2] at this; omega
        · exact this
      · simp at hz; subst hz
        rw [if_pos ⟨rfl, rfl⟩]; omega
theorem start_done (E : List Ed) : Done (ew E) inf n 0 (start inf E) := by
  obtain ⟨h1, h2, h3⟩ := start_ok (inf := inf) E
  exact ⟨⟨fun i j _ _ => h1 i j, fun i j _ _ h => .edge (h2 i j h)⟩, fun a b _ _ L hL => h3 ⟨a, b, L⟩ hL⟩
/-- the matrix at the end, beside the shortest lengths -/
theorem fw_dist {E : List Ed} {M : Nat} (hE : ∀ y ∈ E, y.f < n ∧ y.t < n) (hM : M < inf) {i j : Nat} (hi : i < n) (hj : j < n) (hij : i ≠ j) {D : Int} (hD : IsD E M i j D) :
    (D = -1 ∧ dk n (start inf E) n i j = inf) ∨ (D = (dk n (start inf E) n i j : Int) ∧ dk n (start inf E) n i j ≤ M) := by
  have hd := (start_done (n := n) (inf := inf) E).rounds n (Nat.le_refl _)
  have rch : ∀ L, Rch E i j L ↔ Walk (ew E) i j L := fun L => ⟨fun h => by rcases h with ⟨h, _⟩ | h; exact absurd h.symm hij; exact h, .inr⟩
  have hs := fw_done (w := ew E) (fun a b c h => (hE _ h).1) hd.fw hi hj (hd.low i j hi hj) (fun L hmin hw => by
    rcases hD with ⟨_, h⟩ | ⟨L', _, hle, h1, h2⟩
    · exact absurd ((rch L).2 hw) (h L)
    · have := hmin L' ((rch L').1 h1); omega)
  rcases hD with ⟨e, h⟩ | ⟨L', e, hle, h1, h2⟩
  · left
    refine ⟨e, ?_⟩
    have htop := hd.fw.top i j hi hj
    by_cases hlt : dk n (start inf E) n i j < inf
    · exact absurd ((rch _).2 (hd.fw.real i j hi hj hlt)) (h _)
    · omega
  · right
    have : (if dk n (start inf E) n i j < inf then some (dk n (start inf E) n i j) else none) = some L' := hs.unique ⟨(rch L').1 h1, fun L'' hw => h2 L'' ((rch L'').2 hw)⟩
    split at this
    · simp only [Option.some.injEq] at this
      exact ⟨by rw [e, this], by omega⟩
    · cases this
end Go.Ab.Nw

namespace Go.Ab.Nw
set_option maxRecDepth 100000
set_option linter.unusedVariables false
set_option linter.unusedSimpArgs false

def rowO (n : Nat) (r : Nat → Nat) : List PV := (List.range n).map fun j => .int .i64 (r j)
def matO (n : Nat) (d : Mx) : List PV := (List.range n).map fun i => .rsO 1 (rowO n (d i))
theorem matO_len (n : Nat) (d : Mx) : (matO n d).length = n := by simp [matO]
theorem rowO_len (n : Nat) (r : Nat → Nat) : (rowO n r).length = n := by simp [rowO]
theorem matO_get {n i : Nat} (d : Mx) (h : i < n) : (matO n d)[i]? = some (.rsO 1 (rowO n (d i))) := by simp [matO, h]
theorem rowO_get {n j : Nat} (r : Nat → Nat) (h : j < n) : (rowO n r)[j]? = some (.int .i64 (r j)) := by simp [rowO, h]
theorem matO_set {n i j : Nat} (d : Mx) (x : Nat) (hi : i < n) (hj : j < n) : (matO n d).set i (.rsO 1 ((rowO n (d i)).set j (.int .i64 x))) = matO n (updM d i j x) := by
  apply List.ext_getElem?
  intro a
  rw [List.getElem?_set]
  by_cases e : i = a
  · subst e
    rw [if_pos rfl, if_pos (by rw [matO_len]; exact hi), matO_get _ hi]
    congr 2
    apply List.ext_getElem?
    intro b
    rw [List.getElem?_set]
    by_cases e : j = b
    · subst e
      rw [if_pos rfl, if_pos (by rw [rowO_len]; exact hj), rowO_get _ hj]; simp [updM]
    · rw [if_neg e]
      by_cases hb : b < n
      · rw [rowO_get _ hb, rowO_get _ hb]; simp [updM, Ne.symm e]
      · rw [List.getElem?_eq_none (by rw [rowO_len]; omega), List.getElem?_eq_none (by rw [rowO_len]; omega)]
  · rw [if_neg e]
    by_cases ha : a < n
    · rw [matO_get _ ha, matO_get _ ha]
      congr 2
      unfold rowO
      apply List.map_congr_left
      intro b _
      simp [updM, Ne.symm e]
    · rw [List.getElem?_eq_none (by rw [matO_len]; omega), List.getElem?_eq_none (by rw [matO_len]; omega)]
theorem asR (es : List PV) : asRow 1 (cell (.rsO 1 es) 0) = some es := rfl
theorem cI (x : Int) : cell (.int .i64 x) 0 = .int .i64 x := rfl
theorem set1 (e p : PV) : setRow 1 e 0 p = p := rfl
theorem set2 (q p : PV) : setCells 1 q 0 1 p = p := rfl
theorem min_int (a b : Nat) (hb : b ≤ 4398046511104) : (if IntKind.i64.wrap (b : Int) < (a : Int) then IntKind.i64.wrap (b : Int) else (a : Int)) = ((min a b : Nat) : Int) := by
  rw [wrap_in (by omega) (by omega)]
  split <;> omega

theorem loop_j (rec35 : Int × Int × Int × List PV × Unit → Option PV) (n k i : Nat) (d : Mx) (hn : n ≤ 64) (hk : k < n) (hi : i < n) (hd : ∀ j, j ≤ n → ∀ a b, a < n → b < n → dj k i d j a b ≤ 1099511627776) :
    lpS.run (ref26_Shortest_L2 rec35) ((n : Int), (k : Int), (i : Int), 0, matO n d, ()) = rec35 ((n : Int), (k : Int), IntKind.i64.wrap ((i : Int) + 1), matO n (dj k i d n), ()) := by
  refine loop_until (fun j => ((n : Int), (k : Int), (i : Int), (j : Int), matO n (dj k i d j), ())) n (fun j hj rec => ?_) (fun rec => ?_) (by unfold rounds; omega) rfl
  · unfold ref26_Shortest_L2
    dsimp only
    have hg : decide ((j : Int) < (n : Int)) = true := by simp; omega
    have ii : inRange (i : Int) (matO n (dj k i d j)).length := inR (by rw [matO_len]; exact hi)
    have ik : inRange (k : Int) (matO n (dj k i d j)).length := inR (by rw [matO_len]; exact hk)
    have ji : inRange (j : Int) (rowO n (dj k i d j i)).length := inR (by rw [rowO_len]; exact hj)
    have ki : inRange (k : Int) (rowO n (dj k i d j i)).length := inR (by rw [rowO_len]; exact hk)
    have jk : inRange (j : Int) (rowO n (dj k i d j k)).length := inR (by rw [rowO_len]; exact hj)
    have b1 := hd j (by omega) i k hi hk
    have b2 := hd j (by omega) k j hk hj
    have hs : (((dj k i d j i k : Nat) : Int) + ((dj k i d j k j : Nat) : Int)) = ((dj k i d j i k + dj k i d j k j : Nat) : Int) := by omega
    simp only [hg, if_true, if_pos ii, if_pos ik, Int.toNat_natCast, matO_get _ hi, matO_get _ hk, bind_some', asR, if_pos ji, if_pos ki, if_pos jk, rowO_get _ hj, rowO_get _ hk, cI, asI, set1, set2, hs, min_int _ _ (show dj k i d j i k + dj k i d j k j ≤ 4398046511104 by omega), matO_set _ _ hi hj, wrap_nat (show j < 9223372036854775807 by omega)]
    rfl
  · unfold ref26_Shortest_L2
    dsimp only
    rw [if_neg (by simp)]
theorem loop_i (rec33 : Int × Int × List PV × Unit → Option PV) (n k : Nat) (d : Mx) (hn : n ≤ 64) (hk : k < n) (hd : ∀ i, i < n → ∀ j, j ≤ n → ∀ a b, a < n → b < n → dj k i (di n k d i) j a b ≤ 1099511627776) :
    lpS.run (ref26_Shortest_L3 lpS rec33) ((n : Int), (k : Int), 0, matO n d, ()) = rec33 ((n : Int), IntKind.i64.wrap ((k : Int) + 1), matO n (di n k d n), ()) := by
  refine loop_until (fun i => ((n : Int), (k : Int), (i : Int), matO n (di n k d i), ())) n (fun i hi rec => ?_) (fun rec => ?_) (by unfold rounds; omega) rfl
  · unfold ref26_Shortest_L3
    dsimp only
    have hg : decide ((i : Int) < (n : Int)) = true := by simp; omega
    rw [if_pos hg, loop_j rec n k i _ hn hk hi (hd i hi), wrap_nat (by omega)]
    rfl
  · unfold ref26_Shortest_L3
    dsimp only
    rw [if_neg (by simp)]
theorem loop_k (n : Nat) (d : Mx) (hn : n ≤ 64) (hd : ∀ k, k < n → ∀ i, i < n → ∀ j, j ≤ n → ∀ a b, a < n → b < n → dj k i (di n k (dk n d k) i) j a b ≤ 1099511627776) :
    lpS.run (ref26_Shortest_L4 lpS) ((n : Int), 0, matO n d, ()) = some (.rs 1 ((matO n (dk n d n)).map PV.strip)) := by
  refine loop_until (fun k => ((n : Int), (k : Int), matO n (dk n d k), ())) n (fun k hk rec => ?_) (fun rec => ?_) (by unfold rounds; omega) rfl
  · unfold ref26_Shortest_L4
    dsimp only
    have hg : decide ((k : Int) < (n : Int)) = true := by simp; omega
    rw [if_pos hg, loop_i rec n k _ hn hk (hd k hk), wrap_nat (by omega)]
    rfl
  · unfold ref26_Shortest_L4
    dsimp only
    rw [if_neg (by simp)]
end Go.Ab.Nw

namespace Go.Ab.Nw
set_option maxRecDepth 100000
set_option linter.unusedVariables false
set_option linter.unusedSimpArgs false

abbrev infN : Nat := 1099511627776
theorem matO_fill (n : Nat) : List.replicate n (PV.rsO 1 (List.replicate n (PV.int .i64 1099511627776))) = matO n (fill0 infN) := by
  unfold matO rowO fill0
  apply List.ext_getElem?
  intro i
  by_cases hi : i < n
  · have : (List.range n).map (fun j => PV.int .i64 ((infN : Nat) : Int)) = List.replicate n (PV.int .i64 1099511627776) := by
      apply List.ext_getElem?
      intro j
      by_cases hj : j < n
      · simp [hj, List.getElem?_replicate]
      · rw [List.getElem?_eq_none (by simp; omega), List.getElem?_eq_none (by simp; omega)]
    simp only [List.getElem?_replicate, if_pos hi, List.getElem?_map, List.getElem?_range hi, Option.map_some]
    rw [← this]
  · rw [List.getElem?_eq_none (by simp; omega), List.getElem?_eq_none (by simp; omega)]
theorem strip_mat (n : Nat) (d : Mx) : (matO n d).map PV.strip = matPV n fun i j => ((d i j : Nat) : Int) := by
  unfold matO matPV rowO rowPV
  rw [List.map_map]
  rfl
theorem min_int2 (a b : Nat) : (if (b : Int) < (a : Int) then (b : Int) else (a : Int)) = ((min a b : Nat) : Int) := by split <;> omega
theorem counted_snoc (fr : Bool) (l : List Fp) (p : Fp) : counted fr (l ++ [p]) = if (fr && !p.free) = true then counted fr l else counted fr l ++ [p.ed] := by
  unfold counted
  rw [List.filter_append, List.map_append]
  cases hb : (fr && !p.free) with
  | true => simp only [List.filter_cons, hb, Bool.not_true, Bool.false_eq_true, if_false, List.filter_nil, List.map_nil, if_true, List.append_nil]
  | false => simp only [List.filter_cons, hb, Bool.not_false, Bool.false_eq_true, if_false, List.filter_nil, List.map_nil, List.map_cons, if_true]
theorem shortest_ref (l : List Fp) (n : Nat) (hn : n ≤ 64) (hl : l.length ≤ 4096) (h : ∀ p ∈ l, p.a < n ∧ p.b < n) (fr : Bool) :
    ref26_Shortest_M [.rs 4 (l.map Fp.pv), .int .i64 n, .bool fr] = some (.rs 1 (matPV n fun i j => ((dk n (start infN (counted fr l)) n i j : Nat) : Int))) := by
  have e0 : asSl 4 (.rs 4 (l.map Fp.pv)) = some (l.map Fp.pv) := by simp [asSl]
  have hE : ∀ y ∈ counted fr l, y.f < n ∧ y.t < n := fun y hy => by
    obtain ⟨p, hp, rfl⟩ := counted_mem hy
    exact h p hp
  simp only [ref26_Shortest_M, ref26_Shortest, e0, bind_some', asI, asBool]
  refine loop_until (fun i => (l.map Fp.pv, (n : Int), fr, (i : Int), List.replicate i (PV.rsO 1 (List.replicate n (PV.int .i64 1099511627776))), ())) n (fun i hi rec => ?_) (fun rec => ?_) (by unfold rounds; omega) rfl
  · unfold ref26_Shortest_L6
    dsimp only
    have hg : decide ((i : Int) < (n : Int)) = true := by simp; omega
    rw [if_pos hg]
    refine loop_until (fun j => (l.map Fp.pv, (n : Int), fr, (i : Int), (j : Int), List.replicate i (PV.rsO 1 (List.replicate n (PV.int .i64 1099511627776))), List.replicate j (PV.int .i64 1099511627776), ())) n (fun j hj rec2 => ?_) (fun rec2 => ?_) (by unfold rounds; omega) rfl
    · unfold ref26_Shortest_L1
      dsimp only
      have hg : decide ((j : Int) < (n : Int)) = true := by simp; omega
      have hap : List.replicate j (PV.int .i64 1099511627776) ++ [PV.int .i64 1099511627776] = List.replicate (j + 1) (PV.int .i64 1099511627776) := (List.replicate_succ' ..).symm
      rw [if_pos hg]
      simp only [hap, List.length_replicate]
      rw [if_pos (by unfold roomBound; omega), wrap_nat (by omega)]
    · unfold ref26_Shortest_L1
      dsimp only
      have hap : List.replicate i (PV.rsO 1 (List.replicate n (PV.int .i64 1099511627776))) ++ [PV.rsO 1 (List.replicate n (PV.int .i64 1099511627776))] = List.replicate (i + 1) (PV.rsO 1 (List.replicate n (PV.int .i64 1099511627776))) := (List.replicate_succ' ..).symm
      rw [if_neg (by simp)]
      simp only [hap, List.length_replicate]
      rw [if_pos (by unfold roomBound; omega), wrap_nat (by omega)]
  · unfold ref26_Shortest_L6
    dsimp only
    rw [if_neg (by simp), matO_fill]
    refine loop_until (fun k => (l.map Fp.pv, (n : Int), fr, (k : Int), matO n (start infN (counted fr (l.take k))), ())) l.length (fun k hk rec2 => ?_) (fun rec2 => ?_) (by unfold rounds; omega) rfl
    · unfold ref26_Shortest_L5
      dsimp only
      have hg : decide ((k : Int) < ((l.map Fp.pv).length : Int)) = true := by simp; omega
      obtain ⟨p, hp⟩ : ∃ p, l[k]? = some p := ⟨_, List.getElem?_eq_getElem hk⟩
      have hge : (l.map Fp.pv)[k]? = some p.pv := by rw [List.getElem?_map, hp]; rfl
      have htk : l.take (k + 1) = l.take k ++ [p] := by rw [List.take_add_one, hp]; rfl
      obtain ⟨pa, pb⟩ := h p (List.mem_of_getElem? hp)
      have hr : (bif p.free then some true else some !fr) = some (!(fr && !p.free)) := by cases p.free <;> cases fr <;> rfl
      rw [if_pos hg, idxP_nat, hge, bind_some', htk, counted_snoc]
      simp only [fp3, asBool, bind_some', hr]
      cases hb : (fr && !p.free) with
      | true =>
        simp only [Bool.not_true, Bool.false_eq_true, if_false, if_true, wrap_nat (show k < 9223372036854775807 by omega)]
      | false =>
        obtain ⟨d, hd⟩ : ∃ d, d = start infN (counted fr (l.take k)) := ⟨_, rfl⟩
        have ia : inRange (p.a : Int) (matO n d).length := inR (by rw [matO_len]; exact pa)
        have ib : inRange (p.b : Int) (rowO n (d p.a)).length := inR (by rw [rowO_len]; exact pb)
        have hst : matO n (start infN (counted fr (l.take k) ++ [p.ed])) = matO n (updM d p.a p.b (min (d p.a p.b) p.c)) := by
          rw [start_snoc, ← hd]; rfl
        simp only [Bool.not_false, if_true, Bool.false_eq_true, if_false, hst, ← hd, fp0, fp1, fp2, asI, bind_some', if_pos ia, Int.toNat_natCast, matO_get _ pa, asR, if_pos ib, rowO_get _ pb, cI, set1, set2, min_int2, matO_set _ _ pa pb, wrap_nat (show k < 9223372036854775807 by omega)]
    · unfold ref26_Shortest_L5
      dsimp only
      rw [if_neg (by simp), List.take_length, ← strip_mat]
      have hdone := start_done (n := n) (inf := infN) (counted fr l)
      exact loop_k n _ hn fun k hk i hi j hj a b ha hb => by
        have ih := hdone.rounds k (by omega)
        have := (Mid.rows (k := k) ⟨ih.fw, ih.low, fun a b ha hb hd => by omega⟩ hk i (by omega)).row hi hk j hj
        exact this.fw.top a b ha hb
end Go.Ab.Nw

namespace Go.Ab.Nw
set_option maxRecDepth 100000
set_option linter.unusedVariables false
set_option linter.unusedSimpArgs false

def fpI (i k : Nat) (s : Int) (b : Bool) : PV := .agg [.int .i64 i, .int .i64 k, .int .i64 s, .bool b]
/-- what a pair of stops adds -/
def itR (w f : Int) (i k : Nat) : List PV := if i = k ∨ w > 14400 then [] else fpI i k w (f == w) :: (if f > w ∧ f ≤ 14400 then [fpI i k f true] else [])
def rowL (n : Nat) (it : Nat → Nat → List PV) (i : Nat) : List PV := (List.range n).flatMap (it i)
def outL (n : Nat) (it : Nat → Nat → List PV) (m : Nat) : List PV := (List.range m).flatMap (rowL n it)
theorem rowL_succ (n : Nat) (it : Nat → Nat → List PV) (i : Nat) : rowL (n + 1) it i = rowL n it i ++ it i n := by simp [rowL, List.range_succ, List.flatMap_append]
theorem outL_succ (n : Nat) (it : Nat → Nat → List PV) (m : Nat) : outL n it (m + 1) = outL n it m ++ rowL n it m := by simp [outL, List.range_succ, List.flatMap_append]
theorem rowL_len {it : Nat → Nat → List PV} (h : ∀ i k, (it i k).length ≤ 2) (i : Nat) : ∀ k, (rowL k it i).length ≤ 2 * k
  | 0 => by simp [rowL]
  | k + 1 => by rw [rowL_succ, List.length_append]; have := rowL_len h i k; have := h i k; omega
theorem outL_len {it : Nat → Nat → List PV} (h : ∀ i k, (it i k).length ≤ 2) (n : Nat) : ∀ m, (outL n it m).length ≤ 2 * n * m
  | 0 => by simp [outL]
  | m + 1 => by rw [outL_succ, List.length_append, Nat.mul_succ]; have := outL_len h n m; have := rowL_len h m n; omega
theorem itR_len (w f : Int) (i k : Nat) : (itR w f i k).length ≤ 2 := by
  unfold itR
  split
  · simp
  · split <;> simp
theorem rowPV_get {n k : Nat} (D : Nat → Int) (h : k < n) : (rowPV n D)[k]? = some (.int .i64 (D k)) := by simp [rowPV, h]
theorem matPV_get {n i : Nat} (D : Nat → Nat → Int) (h : i < n) : (matPV n D)[i]? = some (.rs 1 (rowPV n (D i))) := by simp [matPV, h]
theorem asS1 (es : List PV) : asSl 1 (cell (.rs 1 es) 0) = some es := by
  show asSl 1 (.rs 1 es) = some es
  simp [asSl]
theorem room_ok {a : List PV} (h : a.length ≤ 16384) : a.length * 32 ≤ roomBound ∧ 0 < 32 := by unfold roomBound; omega
theorem closed_row (rec7 : TY22 → Option PV) (n i : Nat) (W F : Nat → Nat → Int) (hn : n ≤ 64) (hi : i < n) (acc : List PV) (hacc : acc.length ≤ 8192) :
    lpS.run (ref26_Closed_L1 lpS rec7) ((n : Int), matPV n W, matPV n F, (i : Int), 0, acc, ()) = rec7 ((n : Int), matPV n W, matPV n F, IntKind.i64.wrap ((i : Int) + 1), acc ++ rowL n (fun i k => itR (W i k) (F i k) i k) i, ()) := by
  refine loop_until (fun k => ((n : Int), matPV n W, matPV n F, (i : Int), (k : Int), acc ++ rowL k (fun i k => itR (W i k) (F i k) i k) i, ())) n (fun k hk rec => ?_) (fun rec => ?_) (by unfold rounds; omega) (by simp [rowL])
  · unfold ref26_Closed_L1
    dsimp only
    have hg : decide ((k : Int) < (n : Int)) = true := by simp; omega
    rw [rowL_succ]
    have hlen := rowL_len (it := fun i k => itR (W i k) (F i k) i k) (fun i k => itR_len _ _ i k) i k
    generalize hA : acc ++ rowL k (fun i k => itR (W i k) (F i k) i k) i = A
    have hAl : A.length ≤ 8192 + 128 := by rw [← hA, List.length_append]; omega
    rw [← List.append_assoc, hA]
    simp only [hg, if_true, idxP_nat, matPV_get _ hi, bind_some', asS1, rowPV_get _ hk, cI, asI, wrap_nat (show k < 9223372036854775807 by omega)]
    generalize W i k = w
    generalize F i k = f
    by_cases hik : i = k
    · have hb : ((i : Int) == (k : Int)) = true := by simp [hik]
      have hit : itR w f i k = [] := if_pos (.inl hik)
      simp only [hb, cond_true, bind_some', if_true, hit, List.append_nil]
    · have hb : ((i : Int) == (k : Int)) = false := by rw [beq_eq_false_iff_ne]; omega
      simp only [hb, cond_false, bind_some']
      by_cases hw : w > 14400
      · have hit : itR w f i k = [] := if_pos (.inr hw)
        simp only [hw, decide_true, if_true, hit, List.append_nil]
      · have hr1 : (A ++ [PV.agg [.int .i64 i, .int .i64 k, .int .i64 w, .bool (f == w)]]).length * 32 ≤ roomBound ∧ 0 < 32 := room_ok (by simp; omega)
        simp only [hw, decide_false, Bool.false_eq_true, if_false, if_pos hr1]
        by_cases hf : f > w
        · by_cases hf2 : f ≤ 14400
          · have hr2 : (A ++ [PV.agg [.int .i64 i, .int .i64 k, .int .i64 w, .bool (f == w)]] ++ [PV.agg [.int .i64 i, .int .i64 k, .int .i64 f, .bool true]]).length * 32 ≤ roomBound ∧ 0 < 32 := room_ok (by simp; omega)
            have hit : itR w f i k = [fpI i k w (f == w), fpI i k f true] := by
              unfold itR
              rw [if_neg (by omega), if_pos ⟨hf, hf2⟩]
            simp only [hf, hf2, decide_true, cond_true, bind_some', if_true, if_pos hr2, hit]
            rw [List.append_assoc]
            rfl
          · have hit : itR w f i k = [fpI i k w (f == w)] := by
              unfold itR
              rw [if_neg (by omega), if_neg (by omega)]
            simp only [hf, hf2, decide_true, decide_false, cond_true, bind_some', Bool.false_eq_true, if_false, hit]
            rfl
        · have hit : itR w f i k = [fpI i k w (f == w)] := by
            unfold itR
            rw [if_neg (by omega), if_neg (by omega)]
          simp only [hf, decide_false, cond_false, bind_some', Bool.false_eq_true, if_false, hit]
          rfl
  · unfold ref26_Closed_L1
    dsimp only
    rw [if_neg (by simp)]
theorem closed_loop (n : Nat) (W F : Nat → Nat → Int) (hn : n ≤ 64) :
    lpS.run (ref26_Closed_L2 lpS) ((n : Int), matPV n W, matPV n F, 0, [], ()) = some (.rs 4 (outL n (fun i k => itR (W i k) (F i k) i k) n)) := by
  refine loop_until (fun i => ((n : Int), matPV n W, matPV n F, (i : Int), outL n (fun i k => itR (W i k) (F i k) i k) i, ())) n (fun i hi rec => ?_) (fun rec => ?_) (by unfold rounds; omega) rfl
  · unfold ref26_Closed_L2
    dsimp only
    have hg : decide ((i : Int) < (n : Int)) = true := by simp; omega
    have hlen := outL_len (it := fun i k => itR (W i k) (F i k) i k) (fun i k => itR_len _ _ i k) n i
    have hb : 2 * n * i ≤ 2 * 64 * 64 := Nat.mul_le_mul (by omega) (by omega)
    rw [if_pos hg, closed_row rec n i W F hn hi _ (by omega), outL_succ, wrap_nat (by omega)]
  · unfold ref26_Closed_L2
    dsimp only
    rw [if_neg (by simp)]
/-- the reference's entries -/
def refW (n : Nat) (l : List Fp) (fr : Bool) (i j : Nat) : Int := ((dk n (start infN (counted fr l)) n i j : Nat) : Int)
theorem closed_ref (l : List Fp) (n : Nat) (hn : n ≤ 64) (hl : l.length ≤ 4096) (h : ∀ p ∈ l, p.a < n ∧ p.b < n) :
    ref26_Closed_M [.rs 4 (l.map Fp.pv), .int .i64 n] = some (.rs 4 (outL n (fun i k => itR (refW n l false i k) (refW n l true i k) i k) n)) := by
  have e0 : asSl 4 (.rs 4 (l.map Fp.pv)) = some (l.map Fp.pv) := by simp [asSl]
  have e1 : ∀ es, asSl 1 (.rs 1 es) = some es := fun es => by simp [asSl]
  simp only [ref26_Closed_M, ref26_Closed, e0, bind_some', asI, shortest_ref l n hn hl h false, shortest_ref l n hn hl h true, e1]
  exact closed_loop n (refW n l false) (refW n l true) hn
end Go.Ab.Nw

namespace Go.Ab.Nw
set_option maxRecDepth 100000
set_option linter.unusedVariables false
set_option linter.unusedSimpArgs false

def itP (w f : Int) (i k : Nat) : List PV := if i = k then [] else (if 0 < w ∧ w ≤ 14400 then [fpI i k w (f == w)] else []) ++ (if f ≠ w ∧ 0 < f ∧ f ≤ 14400 then [fpI i k f true] else [])
theorem Walk.pos {w : Nat → Nat → Nat → Prop} (h : ∀ i j c, w i j c → 1 ≤ c) {i j L : Nat} (hw : Walk w i j L) : 1 ≤ L := by
  cases hw with
  | edge e => exact h _ _ _ e
  | snoc _ e => have := h _ _ _ e; omega
/-- lengths as the algorithm and as the matrix say them -/
def Same (M : Nat) (d w : Int) : Prop := (d = -1 ∧ w = (infN : Int)) ∨ (d = w ∧ 1 ≤ w ∧ w ≤ M)
theorem it_eq {M : Nat} (hM : M < infN) {d0 d1 w f : Int} (h0 : Same M d0 w) (h1 : Same M d1 f) (h10 : d1 ≠ -1 → d0 ≠ -1 ∧ d0 ≤ d1) (i k : Nat) : itP d0 d1 i k = itR w f i k := by
  unfold itP itR
  by_cases hik : i = k
  · rw [if_pos hik, if_pos (.inl hik)]
  · rw [if_neg hik]
    have hM : (M : Int) < 1099511627776 := by have : M < 1099511627776 := hM; omega
    have hinf : ((infN : Nat) : Int) = 1099511627776 := rfl
    rw [Same, hinf] at h0 h1
    rcases h0 with ⟨e0, w0⟩ | ⟨e0, w1, w2⟩
    · have e1 : d1 = -1 := by
        by_cases h : d1 = -1
        · exact h
        · exact absurd e0 (h10 h).1
      rw [if_neg (by omega), if_neg (by omega), if_pos (.inr (by omega))]
      rfl
    · subst e0
      rcases h1 with ⟨e1, f0⟩ | ⟨e1, f1, f2⟩
      · by_cases hw : d0 ≤ 14400
        · have b1 : (d1 == d0) = false := by rw [beq_eq_false_iff_ne]; omega
          have b2 : (f == d0) = false := by rw [beq_eq_false_iff_ne]; omega
          rw [if_pos ⟨by omega, hw⟩, if_neg (by omega), if_neg (by omega), if_neg (by omega), b1, b2]
          rfl
        · rw [if_neg (by omega), if_neg (by omega), if_pos (.inr (by omega))]; rfl
      · subst e1
        have hle := (h10 (by omega)).2
        by_cases hw : d0 ≤ 14400
        · rw [if_pos ⟨by omega, hw⟩, if_neg (show ¬ (i = k ∨ d0 > 14400) by omega)]
          by_cases hf : d1 > d0 ∧ d1 ≤ 14400
          · rw [if_pos hf, if_pos ⟨by omega, by omega, by omega⟩]; rfl
          · rw [if_neg hf, if_neg (by omega)]; rfl
        · rw [if_neg (by omega), if_neg (by omega), if_pos (.inr (by omega))]; rfl
theorem same_of {l : List Fp} {n B : Nat} (hn : n ≤ 64) (hB : B ≤ 1073741824) (h : ∀ p ∈ l, p.a < n ∧ p.b < n ∧ 1 ≤ p.c ∧ p.c ≤ B) (fr : Bool) {i k : Nat} (hi : i < n) (hk : k < n) (hik : i ≠ k) {d : Int} (hd : IsD (counted fr l) (B * n) i k d) : Same (B * n) d (refW n l fr i k) := by
  have hE : ∀ y ∈ counted fr l, y.f < n ∧ y.t < n ∧ 1 ≤ y.c := fun y hy => by
    obtain ⟨p, hp, rfl⟩ := counted_mem hy
    obtain ⟨a, b, c, _⟩ := h p hp
    exact ⟨a, b, c⟩
  have hM : B * n < infN := by
    have : B * n ≤ 1073741824 * 64 := Nat.mul_le_mul hB hn
    show B * n < 1099511627776
    omega
  rcases fw_dist (inf := infN) (fun y hy => ⟨(hE y hy).1, (hE y hy).2.1⟩) hM hi hk hik hd with ⟨e1, e2⟩ | ⟨e1, e2⟩
  · exact .inl ⟨e1, by unfold refW; rw [e2]⟩
  · refine .inr ⟨e1, ?_, by unfold refW; omega⟩
    rcases hd with ⟨e, _⟩ | ⟨L, e, _, hr, _⟩
    · omega
    · have : 1 ≤ L := by
        rcases hr with ⟨h, _⟩ | hw
        · exact absurd h.symm hik
        · exact hw.pos fun a b c hc => (hE _ hc).2.2
      unfold refW
      omega
theorem free_le {l : List Fp} {M i k : Nat} {d0 d1 : Int} (h0 : IsD (counted false l) M i k d0) (h1 : IsD (counted true l) M i k d1) (hne : d1 ≠ -1) : d0 ≠ -1 ∧ d0 ≤ d1 := by
  have sub : ∀ y, y ∈ counted true l → y ∈ counted false l := fun y hy => by
    unfold counted at hy ⊢
    obtain ⟨p, hp, rfl⟩ := List.mem_map.1 hy
    exact List.mem_map.2 ⟨p, List.mem_filter.2 ⟨(List.mem_filter.1 hp).1, rfl⟩, rfl⟩
  rcases h1 with ⟨e, _⟩ | ⟨L1, e1, _, r1, _⟩
  · exact absurd e hne
  · have r := r1.mem sub
    rcases h0 with ⟨_, h⟩ | ⟨L0, e0, _, _, m0⟩
    · exact absurd r (h L1)
    · have := m0 L1 r
      omega
end Go.Ab.Nw

namespace Go.Ab.Nw
set_option maxRecDepth 100000
set_option linter.unusedVariables false
set_option linter.unusedSimpArgs false

theorem itP_len (w f : Int) (i k : Nat) : (itP w f i k).length ≤ 2 := by
  unfold itP
  split
  · simp
  · rw [List.length_append]
    split <;> split <;> simp
theorem closP_row (rec7 : TY8 → Option PV) (n i : Nat) (W F : Nat → Nat → Int) (hn : n ≤ 64) (hi : i < n) (acc : List PV) (hacc : acc.length ≤ 8192) :
    lpS.run (footpath_closure_L1 lpS rec7) (matPV n W, matPV n F, (i : Int), (n : Int), (i : Int), rowPV n (W i), (n : Int), 0, acc, ()) = rec7 (matPV n W, matPV n F, (n : Int), IntKind.i64.wrap ((i : Int) + 1), acc ++ rowL n (fun i k => itP (W i k) (F i k) i k) i, ()) := by
  refine loop_until (fun k => (matPV n W, matPV n F, (i : Int), (n : Int), (i : Int), rowPV n (W i), (n : Int), (k : Int), acc ++ rowL k (fun i k => itP (W i k) (F i k) i k) i, ())) n (fun k hk rec => ?_) (fun rec => ?_) (by unfold rounds; omega) (by simp [rowL])
  · unfold footpath_closure_L1
    dsimp only
    have hg : decide ((k : Int) < (n : Int)) = true := by simp; omega
    rw [rowL_succ]
    have hlen := rowL_len (it := fun i k => itP (W i k) (F i k) i k) (fun i k => itP_len _ _ i k) i k
    generalize hA : acc ++ rowL k (fun i k => itP (W i k) (F i k) i k) i = A
    have hAl : A.length ≤ 8192 + 128 := by rw [← hA, List.length_append]; omega
    rw [← List.append_assoc, hA]
    simp only [hg, if_true, idxP_nat, rowPV_get _ hk, matPV_get _ hi, bind_some', asS1, cI, asI, wrap_nat (show k < 9223372036854775807 by omega)]
    generalize W i k = w
    generalize F i k = f
    by_cases hik : i = k
    · have hb : ((i : Int) == (k : Int)) = true := by simp [hik]
      have hit : itP w f i k = [] := if_pos hik
      simp only [hb, if_true, hit, List.append_nil]
    · have hb : ((i : Int) == (k : Int)) = false := by rw [beq_eq_false_iff_ne]; omega
      have hand : ∀ x : Int, (bif decide (x > 0) then some (decide (x ≤ 14400)) else some false) = some (decide (0 < x ∧ x ≤ 14400)) := fun x => by
        by_cases h1 : x > 0
        · have : (0 < x ∧ x ≤ 14400) ↔ x ≤ 14400 := ⟨fun h => h.2, fun h => ⟨h1, h⟩⟩
          rw [decide_eq_true h1, cond_true, decide_eq_decide.2 this.symm]
        · have : ¬ (0 < x ∧ x ≤ 14400) := fun h => h1 h.1
          rw [decide_eq_false h1, cond_false, decide_eq_false this]
      have hr1 : (A ++ [PV.agg [.int .i64 i, .int .i64 k, .int .i64 w, .bool (f == w)]]).length * 32 ≤ roomBound ∧ 0 < 32 := room_ok (by simp; omega)
      have hr2 : (A ++ [PV.agg [.int .i64 i, .int .i64 k, .int .i64 w, .bool (f == w)]] ++ [PV.agg [.int .i64 i, .int .i64 k, .int .i64 f, .bool true]]).length * 32 ≤ roomBound ∧ 0 < 32 := room_ok (by simp; omega)
      have hr3 : (A ++ [PV.agg [.int .i64 i, .int .i64 k, .int .i64 f, .bool true]]).length * 32 ≤ roomBound ∧ 0 < 32 := room_ok (by simp; omega)
      have hne : (f != w) = decide (f ≠ w) := by
        by_cases h : f = w
        · simp [h]
        · simp [h]
      have hit : itP w f i k = (if 0 < w ∧ w ≤ 14400 then [fpI i k w (f == w)] else []) ++ (if f ≠ w ∧ 0 < f ∧ f ≤ 14400 then [fpI i k f true] else []) := if_neg hik
      simp only [hb, Bool.false_eq_true, if_false, hand, bind_some', hne, decide_eq_true_eq, hit, if_pos hr1, if_pos hr2, if_pos hr3]
      by_cases h1 : 0 < w ∧ w ≤ 14400
      · by_cases h2 : f ≠ w
        · by_cases h3 : 0 < f ∧ f ≤ 14400
          · rw [if_pos h1, if_pos h2, if_pos h3, if_pos h1, if_pos ⟨h2, h3⟩, List.append_assoc]; rfl
          · rw [if_pos h1, if_pos h2, if_neg h3, if_pos h1, if_neg (fun h => h3 h.2)]; rfl
        · rw [if_pos h1, if_neg h2, if_pos h1, if_neg (fun h => h2 h.1)]; rfl
      · by_cases h2 : f ≠ w
        · by_cases h3 : 0 < f ∧ f ≤ 14400
          · rw [if_neg h1, if_pos h2, if_pos h3, if_neg h1, if_pos ⟨h2, h3⟩]; rfl
          · rw [if_neg h1, if_pos h2, if_neg h3, if_neg h1, if_neg (fun h => h3 h.2)]; simp
        · rw [if_neg h1, if_neg h2, if_neg h1, if_neg (fun h => h2 h.1)]; simp
  · unfold footpath_closure_L1
    dsimp only
    rw [if_neg (by simp)]
theorem closP_loop (n : Nat) (W F : Nat → Nat → Int) (hn : n ≤ 64) {es' : List PV} (hs : sortSK 4 (fun c a b => footpath_closure_2_M [a, b]) (outL n (fun i k => itP (W i k) (F i k) i k) n) = some es') :
    lpS.run (footpath_closure_L2 lpS) (matPV n W, matPV n F, (n : Int), 0, [], ()) = some (.rs 4 es') := by
  have hlen : ∀ i, i ≤ n → (outL n (fun i k => itP (W i k) (F i k) i k) i).length ≤ 8192 := fun i hi => by
    have h1 := outL_len (it := fun i k => itP (W i k) (F i k) i k) (fun i k => itP_len _ _ i k) n i
    have hb : 2 * n * i ≤ 2 * 64 * 64 := Nat.mul_le_mul (by omega) (by omega)
    omega
  refine loop_until (fun i => (matPV n W, matPV n F, (n : Int), (i : Int), outL n (fun i k => itP (W i k) (F i k) i k) i, ())) n (fun i hi rec => ?_) (fun rec => ?_) (by unfold rounds; omega) rfl
  · unfold footpath_closure_L2
    dsimp only
    have hg : decide ((i : Int) < (n : Int)) = true := by simp; omega
    have hrl : ((rowPV n (W i)).length : Int) = (n : Int) := by simp [rowPV]
    rw [if_pos hg, idxP_nat, matPV_get _ hi, bind_some', asS1, bind_some', hrl, closP_row rec n i W F hn hi _ (hlen i (by omega)), outL_succ, wrap_nat (by omega)]
  · unfold footpath_closure_L2
    dsimp only
    have h := hlen n (Nat.le_refl _)
    rw [if_neg (by simp), if_pos (by refine ⟨rfl, ?_⟩; unfold roomBound; omega), hs]
    rfl
end Go.Ab.Nw

namespace Go.Ab.Nw
set_option maxRecDepth 100000
set_option linter.unusedVariables false
set_option linter.unusedSimpArgs false

def kI : PV → Int
  | .int _ n => n
  | _ => 0
def c3 (x y : Int) : Int := if x < y then -1 else if x > y then 1 else 0
def or3 (a b c : Int) : Int := if a ≠ 0 then a else if b ≠ 0 then b else c
def cfp (a b : List PV) : Int := or3 (c3 (kI (a.getD 0 .bad)) (kI (b.getD 0 .bad))) (c3 (kI (a.getD 1 .bad)) (kI (b.getD 1 .bad))) (c3 (kI (a.getD 2 .bad)) (kI (b.getD 2 .bad)))
theorem compare_ok (x y : Int) : cmp_Compare_int_M [.int .i64 x, .int .i64 y] = some (.int .i64 (c3 x y)) := by
  have h : ∀ z : Int, ¬ (z != z) = true := fun z => by simp
  simp only [cmp_Compare_int_M, cmp_Compare_int, asI, bind_some', if_neg (h x), if_neg (h y), decide_eq_true_eq]
  unfold c3
  split
  · rfl
  · split <;> rfl
theorem or_ok (a b c : Int) : cmp_Or_int_M [.rs 1 [.int .i64 a, .int .i64 b, .int .i64 c]] = some (.int .i64 (or3 a b c)) := by
  have e0 : asSl 1 (.rs 1 [.int .i64 a, .int .i64 b, .int .i64 c]) = some [.int .i64 a, .int .i64 b, .int .i64 c] := by simp [asSl]
  simp only [cmp_Or_int_M, cmp_Or_int, e0, bind_some']
  obtain ⟨es, hes⟩ : ∃ es, es = [PV.int .i64 a, .int .i64 b, .int .i64 c] := ⟨_, rfl⟩
  have hl : ((es.length : Nat) : Int) = 3 := by rw [hes]; rfl
  rw [← hes]
  have hb : ∀ (k : Nat) (x : Int), es[k]? = some (.int .i64 x) → k < 3 → ∀ rec, cmp_Or_int_L1 (0, es, ((es.length : Nat) : Int), (k : Int), ()) rec = if x ≠ 0 then some (.int .i64 x) else rec (0, es, ((es.length : Nat) : Int), ((k + 1 : Nat) : Int), ()) := fun k x hx hk rec => by
    unfold cmp_Or_int_L1
    dsimp only
    have hg : decide ((k : Int) < ((es.length : Nat) : Int)) = true := by rw [hl]; simp; omega
    rw [if_pos hg, idxP_nat, hx, bind_some', cI, asI, bind_some', wrap_nat (by omega)]
    by_cases h : x = 0
    · subst h; rfl
    · have : (x != 0) = true := by simpa using h
      rw [if_pos this, if_pos h]
  have he : ∀ rec, cmp_Or_int_L1 (0, es, ((es.length : Nat) : Int), ((3 : Nat) : Int), ()) rec = some (.int .i64 0) := fun rec => by
    unfold cmp_Or_int_L1
    dsimp only
    have hg : ¬ decide (((3 : Nat) : Int) < ((es.length : Nat) : Int)) = true := by rw [hl]; decide
    rw [if_neg hg]
  have hN : rounds = 18446744073709551612 + 1 + 1 + 1 + 1 := rfl
  rw [lpS_run, hN]
  generalize 18446744073709551612 = N
  show cmp_Or_int_L1 (0, es, ((es.length : Nat) : Int), ((0 : Nat) : Int), ()) _ = _
  rw [hb 0 a (by rw [hes]; rfl) (by omega)]
  unfold or3
  by_cases h1 : a ≠ 0
  · rw [if_pos h1, if_pos h1]
  · rw [if_neg h1, if_neg h1]
    show cmp_Or_int_L1 (0, es, ((es.length : Nat) : Int), ((1 : Nat) : Int), ()) _ = _
    rw [hb 1 b (by rw [hes]; rfl) (by omega)]
    by_cases h2 : b ≠ 0
    · rw [if_pos h2, if_pos h2]
    · rw [if_neg h2, if_neg h2]
      show cmp_Or_int_L1 (0, es, ((es.length : Nat) : Int), ((2 : Nat) : Int), ()) _ = _
      rw [hb 2 c (by rw [hes]; rfl) (by omega)]
      by_cases h3 : c ≠ 0
      · rw [if_pos h3]
      · rw [if_neg h3]
        show cmp_Or_int_L1 (0, es, ((es.length : Nat) : Int), ((3 : Nat) : Int), ()) _ = _
        rw [he]
        have : c = 0 := Decidable.not_not.1 h3
        rw [this]
def fpc (i k : Nat) (s : Int) (b : Bool) : List PV := [.int .i64 i, .int .i64 k, .int .i64 s, .bool b]
theorem cmp_item (i k : Nat) (s : Int) (b : Bool) (i' k' : Nat) (s' : Int) (b' : Bool) : footpath_closure_2_M [rowP (fpc i k s b), rowP (fpc i' k' s' b')] = some (.int .i64 (cfp (fpc i k s b) (fpc i' k' s' b'))) := by
  have a : ∀ (w x y z : PV), asAgg 4 (.agg [w, x, y, z]) = some () := fun _ _ _ _ => rfl
  have a0 : ∀ (w x y z : PV), cell (.agg [w, x, y, z]) 0 = w := fun _ _ _ _ => rfl
  have a1 : ∀ (w x y z : PV), cell (.agg [w, x, y, z]) 1 = x := fun _ _ _ _ => rfl
  have a2 : ∀ (w x y z : PV), cell (.agg [w, x, y, z]) 2 = y := fun _ _ _ _ => rfl
  have a3 : ∀ (w x y z : PV), cell (.agg [w, x, y, z]) 3 = z := fun _ _ _ _ => rfl
  simp only [footpath_closure_2_M, footpath_closure_2, rowP, fpc, a, a0, a1, a2, a3, asI, asBool, bind_some', compare_ok, or_ok]
  rfl
end Go.Ab.Nw

namespace Go.Ab.Nw
set_option maxRecDepth 100000
set_option linter.unusedVariables false
set_option linter.unusedSimpArgs false

theorem c3_iff (x y : Int) : (c3 x y < 0 ↔ x < y) ∧ (c3 x y = 0 ↔ x = y) := by unfold c3; split <;> (try split) <;> constructor <;> constructor <;> intro h <;> first | omega | (exfalso; omega)
theorem cfp_lt (i k : Nat) (s : Int) (b : Bool) (i' k' : Nat) (s' : Int) (b' : Bool) : cfp (fpc i k s b) (fpc i' k' s' b') < 0 ↔ i < i' ∨ (i = i' ∧ (k < k' ∨ (k = k' ∧ s < s'))) := by
  show or3 (c3 (i : Int) (i' : Int)) (c3 (k : Int) (k' : Int)) (c3 s s') < 0 ↔ _
  have h1 := c3_iff (i : Int) (i' : Int)
  have h2 := c3_iff (k : Int) (k' : Int)
  have h3 := c3_iff s s'
  unfold or3
  split
  · constructor <;> intro h <;> omega
  · split
    · constructor <;> intro h <;> omega
    · constructor <;> intro h <;> omega
def IsF (e : List PV) : Prop := ∃ i k s b, e = fpc i k s b
theorem pair_total {ns : List (List PV)} (h : ns.Pairwise fun a b => cfp a b < 0) : ∀ a ∈ ns, ∀ b ∈ ns, ¬ cfp a b < 0 → ¬ cfp b a < 0 → a = b := by
  induction h with
  | nil => intro a ha; cases ha
  | @cons x l hx _ ih =>
    intro a ha b hb h1 h2
    rcases List.mem_cons.1 ha with ea | ha'
    · rcases List.mem_cons.1 hb with eb | hb'
      · rw [ea, eb]
      · rw [ea] at h1; exact absurd (hx b hb') h1
    · rcases List.mem_cons.1 hb with eb | hb'
      · rw [eb] at h2; exact absurd (hx a ha') h2
      · exact ih a ha' b hb' h1 h2
theorem sorted_fits {ns : List (List PV)} (hF : ∀ e ∈ ns, IsF e) (h : ns.Pairwise fun a b => cfp a b < 0) : SortFitsK 4 (fun c a b => footpath_closure_2_M [a, b]) ns ns cfp where
  len a ha := by obtain ⟨i, k, s, b, rfl⟩ := hF a ha; rfl
  scal a ha p hp := by
    obtain ⟨i, k, s, b, rfl⟩ := hF a ha
    simp only [fpc, List.mem_cons, List.not_mem_nil, or_false] at hp
    rcases hp with rfl | rfl | rfl | rfl <;> rfl
  perm := List.Perm.refl _
  reads c _ _ a ha b hb := by
    obtain ⟨i, k, s, q, rfl⟩ := hF a ha
    obtain ⟨i', k', s', q', rfl⟩ := hF b hb
    exact cmp_item ..
  irrefl a ha := by
    obtain ⟨i, k, s, q, rfl⟩ := hF a ha
    rw [cfp_lt]; omega
  trans a ha b hb c hc h1 h2 := by
    obtain ⟨i, k, s, q, rfl⟩ := hF a ha
    obtain ⟨i', k', s', q', rfl⟩ := hF b hb
    obtain ⟨i2, k2, s2, q2, rfl⟩ := hF c hc
    rw [cfp_lt] at *; omega
  total := pair_total h
  sorted := h.imp_of_mem fun {a b} ha hb hab => by
    obtain ⟨i, k, s, q, rfl⟩ := hF a ha
    obtain ⟨i', k', s', q', rfl⟩ := hF b hb
    rw [cfp_lt] at *; omega
/-- what a pair of stops adds, as cells -/
def itC (w f : Int) (i k : Nat) : List (List PV) := if i = k ∨ w > 14400 then [] else fpc i k w (f == w) :: (if f > w ∧ f ≤ 14400 then [fpc i k f true] else [])
theorem itC_row (w f : Int) (i k : Nat) : (itC w f i k).map rowP = itR w f i k := by
  unfold itC itR
  split
  · rfl
  · split <;> rfl
def allC (n : Nat) (W F : Nat → Nat → Int) : List (List PV) := (List.range n).flatMap fun i => (List.range n).flatMap fun k => itC (W i k) (F i k) i k
theorem allC_rows (n : Nat) (W F : Nat → Nat → Int) : rowsP (allC n W F) = outL n (fun i k => itR (W i k) (F i k) i k) n := by
  unfold rowsP allC outL rowL
  rw [List.map_flatMap]
  congr 1
  funext i
  rw [List.map_flatMap]
  congr 1
  funext k
  exact itC_row ..
theorem itC_mem {w f : Int} {i k : Nat} {e : List PV} (h : e ∈ itC w f i k) : ∃ s b, e = fpc i k s b := by
  unfold itC at h
  split at h
  · cases h
  · rcases List.mem_cons.1 h with rfl | h
    · exact ⟨_, _, rfl⟩
    · split at h
      · simp at h; subst h; exact ⟨_, _, rfl⟩
      · cases h
theorem allC_isF (n : Nat) (W F : Nat → Nat → Int) : ∀ e ∈ allC n W F, IsF e := fun e h => by
  obtain ⟨i, _, h⟩ := List.mem_flatMap.1 h
  obtain ⟨k, _, h⟩ := List.mem_flatMap.1 h
  obtain ⟨s, b, rfl⟩ := itC_mem h
  exact ⟨i, k, s, b, rfl⟩
theorem allC_sorted (n : Nat) (W F : Nat → Nat → Int) : (allC n W F).Pairwise fun a b => cfp a b < 0 := by
  unfold allC
  rw [List.pairwise_flatMap]
  refine ⟨fun i _ => ?_, List.pairwise_lt_range.imp fun {i i'} hii x hx y hy => ?_⟩
  · rw [List.pairwise_flatMap]
    refine ⟨fun k _ => ?_, List.pairwise_lt_range.imp fun {k k'} hkk x hx y hy => ?_⟩
    · unfold itC
      split
      · exact .nil
      · split
        · rename_i h
          refine List.pairwise_cons.2 ⟨fun y hy => ?_, List.pairwise_singleton ..⟩
          simp at hy; subst hy
          rw [cfp_lt]; omega
        · exact List.pairwise_singleton ..
    · obtain ⟨s, b, rfl⟩ := itC_mem hx
      obtain ⟨s', b', rfl⟩ := itC_mem hy
      rw [cfp_lt]; omega
  · obtain ⟨k, _, hx⟩ := List.mem_flatMap.1 hx
    obtain ⟨k', _, hy⟩ := List.mem_flatMap.1 hy
    obtain ⟨s, b, rfl⟩ := itC_mem hx
    obtain ⟨s', b', rfl⟩ := itC_mem hy
    rw [cfp_lt]; omega
/-- the program's closure is the reference's -/
theorem closure_ok (l : List Fp) (n : Nat) (hn : n ≤ 64) (hl : l.length ≤ 4096) (h : ∀ p ∈ l, p.a < n ∧ p.b < n ∧ 1 ≤ p.c ∧ p.c ≤ 14400) :
    footpath_closure_M [.rs 4 (l.map Fp.pv), .int .i64 n] = some (.rs 4 (rowsP (allC n (refW n l false) (refW n l true)))) ∧ ref26_Closed_M [.rs 4 (l.map Fp.pv), .int .i64 n] = some (.rs 4 (rowsP (allC n (refW n l false) (refW n l true)))) := by
  have hr := closed_ref l n hn hl fun p hp => ⟨(h p hp).1, (h p hp).2.1⟩
  rw [← allC_rows] at hr
  refine ⟨?_, hr⟩
  have hB : (14400 : Nat) ≤ 1073741824 := by omega
  obtain ⟨D0, d0, e0⟩ := dist_ok l n 14400 hn hl hB (fun p hp => ⟨(h p hp).1, (h p hp).2.1, (h p hp).2.2.2⟩) false
  obtain ⟨D1, d1, e1⟩ := dist_ok l n 14400 hn hl hB (fun p hp => ⟨(h p hp).1, (h p hp).2.1, (h p hp).2.2.2⟩) true
  have hM : 14400 * n < infN := by show 14400 * n < 1099511627776; omega
  have hout : outL n (fun i k => itP (D0 i k) (D1 i k) i k) n = rowsP (allC n (refW n l false) (refW n l true)) := by
    rw [allC_rows]
    unfold outL rowL
    rw [List.flatMap_def, List.flatMap_def]
    congr 1
    apply List.map_congr_left
    intro i hi
    rw [List.flatMap_def, List.flatMap_def]
    congr 1
    apply List.map_congr_left
    intro k hk
    have hi := List.mem_range.1 hi
    have hk := List.mem_range.1 hk
    dsimp only
    by_cases hik : i = k
    · rw [show itP (D0 i k) (D1 i k) i k = [] from if_pos hik, show itR (refW n l false i k) (refW n l true i k) i k = [] from if_pos (.inl hik)]
    · exact it_eq hM (same_of hn hB h false hi hk hik (d0 i k hi hk)) (same_of hn hB h true hi hk hik (d1 i k hi hk)) (free_le (d0 i k hi hk) (d1 i k hi hk)) i k
  have a0 : asSl 4 (.rs 4 (l.map Fp.pv)) = some (l.map Fp.pv) := by simp [asSl]
  have a1 : ∀ es, asSl 1 (.rs 1 es) = some es := fun es => by simp [asSl]
  have hlen : ((matPV n D0).length : Int) = (n : Int) := by simp [matPV]
  simp only [footpath_closure_M, footpath_closure, a0, asI, bind_some', e0, e1, a1, hlen]
  exact closP_loop n D0 D1 hn (by rw [hout]; exact sortSK_eq (sorted_fits (allC_isF _ _ _) (allC_sorted _ _ _)))
end Go.Ab.Nw
