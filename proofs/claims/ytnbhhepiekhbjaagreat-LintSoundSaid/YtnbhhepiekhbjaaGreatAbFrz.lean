/- Cells of a value; own memory read as pure values. -/
import Derived.Test.YtnbhhepiekhbjaaGreatAbOps4
set_option linter.unusedVariables false
namespace Go.Ab
open Go.RowKit (Below)

section
variable {P : Program} {G : Nat → Option (List PV)} {w0 : Base} {μ : Ro} {φ : Nat → Phys} {m : Mem} {w : World}

theorem hasL_nil (id : Nat) : hasL id [] = false := rfl

theorem toCells_ok {n : Nat} {v : V} {cs : List V} (h : toCells n v = some cs) : cs.length = n ∧ (∀ id, hasL id cs = true → v.has id = true) ∧
    ∀ (P : Program) (μ : Ro) (φ : Nat → Phys) (x : Value), RepV P μ φ v x → x.cells.size = n ∧ (∀ (i : Nat) u y, cs[i]? = some u → x.cells[i]? = some y → RepV P μ φ u y) ∧ (∀ (i : Nat) (y : Value), x.cells[i]? = some y → y.oneCell' = true) := by
  have one : ∀ (v : V), (∀ (P : Program) (μ : Ro) (φ : Nat → Phys) (x : Value), RepV P μ φ v x → x.oneCell' = true ∧ x.cells = #[x]) → (if n = 1 then some [v] else none) = some cs →
      cs.length = n ∧ (∀ id, hasL id cs = true → v.has id = true) ∧
      ∀ (P : Program) (μ : Ro) (φ : Nat → Phys) (x : Value), RepV P μ φ v x → x.cells.size = n ∧ (∀ (i : Nat) u y, cs[i]? = some u → x.cells[i]? = some y → RepV P μ φ u y) ∧ (∀ (i : Nat) (y : Value), x.cells[i]? = some y → y.oneCell' = true) := by
    intro v h1 h
    split at h
    · rename_i hn
      simp only [Option.some.injEq] at h; subst h; subst hn
      refine ⟨rfl, fun id hid => by simpa [hasL] using hid, fun P μ φ x hx => ?_⟩
      obtain ⟨h2, h3⟩ := h1 _ _ _ _ hx
      rw [h3]
      refine ⟨rfl, fun i u y hu hy => ?_, fun i y hy => ?_⟩
      · cases i with
        | zero => simp at hu hy; subst hu; subst hy; exact hx
        | succ i => simp at hu
      · cases i with
        | zero => simp at hy; subst hy; exact h2
        | succ i => simp at hy
    · cases h
  have cells1 : ∀ x : Value, x.oneCell' = true → x.cells = #[x] := by
    intro x hx
    cases x <;> first | rfl | (simp [Value.oneCell'] at hx)
  unfold toCells at h
  split at h
  · rename_i ps
    split at h
    · rename_i hn
      simp only [Option.some.injEq] at h; subst h
      refine ⟨by simpa using hn, fun id hid => (by rw [hasL_pv] at hid; cases hid), fun P μ φ x hx => ?_⟩
      cases hx with
      | pv hx => cases hx with
        | agg h1 h2 h3 =>
          refine ⟨by simp only [Value.cells]; omega, fun i u y hu hy => ?_, h3⟩
          simp only [List.getElem?_map, Option.map_eq_some_iff] at hu
          obtain ⟨q, hq, rfl⟩ := hu
          exact .pv (h2 i q y hq hy)
    · cases h
  · split at h
    · rename_i hn
      simp only [Option.some.injEq] at h; subst h
      refine ⟨hn, fun id hid => by simpa [V.has] using hid, fun P μ φ x hx => ?_⟩
      cases hx with
      | agg h1 h2 h3 => exact ⟨by simp only [Value.cells]; omega, h2, h3⟩
    · cases h
  · cases h
  · cases h
  · cases h
  · cases h
  · rename_i h1 h2 h3 h4 h5 h6
    refine one v (fun P μ φ x hx => ?_) h
    have : x.oneCell' = true := by
      cases hx with
      | pv hp => exact hp.one (fun cs e => h1 cs (by rw [e])) (fun cs e => h5 cs (by rw [e])) (fun e => h6 (by rw [e]))
      | agg => exact absurd rfl (h2 _)
      | tup => exact absurd rfl (h4 _)
      | top => exact absurd rfl h3
      | _ => rfl
    exact ⟨this, cells1 x this⟩

theorem frz_pure : ∀ (d : Nat) {v : V} {p : PV} {x : Value}, frz noMem d v = some p → RepV P μ φ v x → RepPV P μ p x
  | 0, v, p, x, h, _ => by simp [frz] at h
  | d + 1, v, p, x, h, hx => by
    have ih := fun {v p x} => @frz_pure d v p x
    cases v with
    | pv q => simp [frz] at h; subst h; cases hx with | pv hx => exact hx
    | nils => simp [frz] at h; subst h; cases hx; exact .rsNil
    | agg cs =>
      simp only [frz] at h
      obtain ⟨ps, hps, h⟩ := Option.bind_eq_some_iff.1 h
      simp only [Option.some.injEq] at h; subst h
      obtain ⟨h1, h2⟩ := frzs_ok hps
      cases hx with
      | agg g1 g2 g3 =>
        refine .agg (by omega) (fun i q y hq hy => ?_) g3
        obtain ⟨u, hu, hg⟩ := h2 i q hq
        exact ih hg (g2 i u y hu hy)
    | tup cs =>
      simp only [frz] at h
      obtain ⟨ps, hps, h⟩ := Option.bind_eq_some_iff.1 h
      simp only [Option.some.injEq] at h; subst h
      obtain ⟨h1, h2⟩ := frzs_ok hps
      cases hx with
      | tup g1 g2 =>
        refine .tup (by omega) (fun i q y hq hy => ?_)
        obtain ⟨u, hu, hg⟩ := h2 i q hq
        exact ih hg (g2 i u y hu hy)
    | op id off => simp [frz, noMem] at h
    | oe id i off => simp [frz, noMem] at h
    | os id => simp [frz, noMem] at h
    | osub id lo len => simp [frz, noMem] at h
    | om id => simp [frz, noMem] at h
    | fn f cs =>
      simp only [frz] at h
      obtain ⟨ps, hps, h⟩ := Option.bind_eq_some_iff.1 h
      simp only [Option.some.injEq] at h; subst h
      obtain ⟨h1, h2⟩ := frzs_ok hps
      cases hx with
      | fn g1 g2 =>
        refine .fn (by omega) (fun i q y hq hy => ?_)
        obtain ⟨u, hu, hg⟩ := h2 i q hq
        exact ih hg (g2 i u y hu hy)
    | yl id => simp [frz] at h
    | top => simp [frz] at h
def heapOf (w : World) : Ro := fun b => w.heap[b]?
theorem RelM.heap_ro (hM : RelM P G w0 μ φ m w) : ∀ b o, μ b = some o → heapOf w b = some o := hM.ro
theorem cellAt_heap {g o : Nat} {c : Array Value} {T : TypeId} {fz : Nat × Nat} {y : Value} (h : w.heap[g]? = some (.cells c T fz)) (hy : c[o]? = some y) : cellAt (heapOf w) g o = some y := by
  simp [cellAt, heapOf, h, hy]
theorem RepArr.slice (hM : RelM P G w0 μ φ m w) {id s : Nat} {et : TypeId} {es : List PV} (hA : RepArr P μ φ w id s et es) {g : Nat} (hg : (φ id).g = some g) {lo len : Nat} (hl : lo + len ≤ es.length)
    {ν : Ro} (hν : ∀ b o, μ b = some o → ν b = some o) (hν' : ν g = w.heap[g]?) :
    RepPV P ν (.rs s ((es.drop lo).take len)) (.slice (some ⟨g, lo * s, none⟩) len ((φ id).cap - lo)) := by
  have hle := hA.lenLe
  obtain ⟨a1, a2, a3, a4, a5, a6, a7⟩ := hA
  rw [hg] at a7
  obtain ⟨c, c1, c2, c3, c4, c5⟩ := a7
  have hget : ∀ (i : Nat) e, ((es.drop lo).take len)[i]? = some e → i < len ∧ es[lo + i]? = some e := fun i e hi => take_drop_get hi
  have hlen : ((es.drop lo).take len).length = len := by simp; omega
  have hb : ∀ (i : Nat) e (j : Nat) p, ((es.drop lo).take len)[i]? = some e → e.cells[j]? = some p → (lo + i) * s + j < es.length * s := by
    intro i e j p hi hj
    obtain ⟨_, hi⟩ := hget i e hi
    have h1 := (List.getElem?_eq_some_iff.1 hi).1
    have h2 := (List.getElem?_eq_some_iff.1 hj).1
    have h3 := a5 _ e hi
    have : (lo + i + 1) * s ≤ es.length * s := Nat.mul_le_mul_right _ (by omega)
    rw [Nat.add_mul _ 1] at this
    omega
  have hc : ∀ (i : Nat) e (j : Nat) p, ((es.drop lo).take len)[i]? = some e → e.cells[j]? = some p → c[(lo + i) * s + j]? = some (c.getD ((lo + i) * s + j) undef) := by
    intro i e j p hi hj
    obtain ⟨_, hi⟩ := hget i e hi
    have h1 := (List.getElem?_eq_some_iff.1 hi).1
    have h2 := (List.getElem?_eq_some_iff.1 hj).1
    have h3 := a5 _ e hi
    have : (lo + i + 1) * s ≤ (φ id).cap * s := Nat.mul_le_mul_right _ (by omega)
    rw [Nat.add_mul _ 1] at this
    have hlt : (lo + i) * s + j < c.size := by omega
    rw [Array.getElem?_eq_getElem hlt]
    simp [Array.getD, hlt]
  have := RepPV.rs (P := P) (μ := ν) (sz := s) (es := (es.drop lo).take len) (b := g) (o := lo * s) (cap := (φ id).cap - lo) (fun i j => c.getD ((lo + i) * s + j) undef) (by omega) (by omega)
    (fun i e hi => a5 _ e (hget i e hi).2) (fun i e j p hi hj => by
      have := hc i e j p hi hj
      unfold cellAt
      rw [hν', c1]
      simp only
      rw [← this, Nat.add_mul]) (fun i e j p hi hj => ((c4 _ e j p _ (hget i e hi).2 hj (hc i e j p hi hj)).mono hν)) (fun i e j p hi hj => c5 _ _ (hb i e j p hi hj) (hc i e j p hi hj))
  rw [hlen] at this
  exact this

theorem RepArr.full (hM : RelM P G w0 μ φ m w) {id s : Nat} {et : TypeId} {es : List PV} (hA : RepArr P μ φ w id s et es) {x : Value} (hx : RepV P μ φ (.os id) x)
    {ν : Ro} (hν : ∀ b o, μ b = some o → ν b = some o) (hν' : ∀ g, (φ id).g = some g → ν g = w.heap[g]?) : RepPV P ν (.rs s es) x := by
  have hA' := hA
  obtain ⟨a1, a2, a3, a4, a5, a6, a7⟩ := hA
  cases hx with
  | osN hg => rw [hg] at a7; rw [a7.1]; exact .rsNil
  | @os _ g hg =>
    have := hA'.slice hM hg (lo := 0) (len := es.length) (by omega) hν (hν' g hg)
    rw [a1]
    simpa using this

theorem cellAt_of {ν : Ro} {g o : Nat} {c : Array Value} {T : TypeId} {fz : Nat × Nat} {y : Value} (hν : ν g = w.heap[g]?) (h : w.heap[g]? = some (.cells c T fz)) (hy : c[o]? = some y) : cellAt ν g o = some y := by
  simp [cellAt, hν, h, hy]
theorem frz_full (hM : RelM P G w0 μ φ m w) {ν : Ro} (ro : ∀ b o, μ b = some o → ν b = some o) (own : ∀ id b g, m id = some b → (φ id).g = some g → ν g = w.heap[g]?) : ∀ (d : Nat) {v : V} {p : PV} {x : Value}, frz m d v = some p → RepV P μ φ v x → RepPV P ν p x
  | 0, v, p, x, h, _ => by simp [frz] at h
  | d + 1, v, p, x, h, hx => by
    have ih := fun {v p x} => @frz_full hM ν ro own d v p x
    cases v with
    | pv q => simp [frz] at h; subst h; cases hx with | pv hx => exact hx.mono ro
    | nils => simp [frz] at h; subst h; cases hx; exact .rsNil
    | agg cs =>
      simp only [frz] at h
      obtain ⟨ps, hps, h⟩ := Option.bind_eq_some_iff.1 h
      simp only [Option.some.injEq] at h; subst h
      obtain ⟨h1, h2⟩ := frzs_ok hps
      cases hx with
      | agg g1 g2 g3 =>
        refine .agg (by omega) (fun i q y hq hy => ?_) g3
        obtain ⟨u, hu, hg⟩ := h2 i q hq
        exact ih hg (g2 i u y hu hy)
    | tup cs =>
      simp only [frz] at h
      obtain ⟨ps, hps, h⟩ := Option.bind_eq_some_iff.1 h
      simp only [Option.some.injEq] at h; subst h
      obtain ⟨h1, h2⟩ := frzs_ok hps
      cases hx with
      | tup g1 g2 =>
        refine .tup (by omega) (fun i q y hq hy => ?_)
        obtain ⟨u, hu, hg⟩ := h2 i q hq
        exact ih hg (g2 i u y hu hy)
    | op id off =>
      simp only [frz] at h
      split at h
      · rename_i cs hm
        obtain ⟨ps, hps, h⟩ := Option.bind_eq_some_iff.1 h
        simp only [Option.some.injEq] at h; subst h
        obtain ⟨h1, h2⟩ := frzs_ok hps
        obtain ⟨g, c, T, hg, hh, hs, hv, hone, hln⟩ := hM.blk id _ hm
        cases hx with
        | op hg' =>
          rw [hg] at hg'; simp only [Option.some.injEq] at hg'; subst hg'
          have hget : ∀ (i : Nat) p, ps[i]? = some p → c[off + i]? = some (c.getD (off + i) undef) := by
            intro i p hi
            have := (List.getElem?_eq_some_iff.1 hi).1
            rw [h1] at this; simp at this
            have hlt : off + i < c.size := by omega
            rw [Array.getElem?_eq_getElem hlt]
            simp [Array.getD, hlt]
          refine .rp (fun i => c.getD (off + i) undef) (fun i p hi => cellAt_of (own _ _ _ hm hg) hh (hget i p hi)) (fun i p hi => ?_) (fun i hi => ?_)
          · obtain ⟨u, hu, hgu⟩ := h2 i p hi
            exact ih hgu (hv (off + i) u _ (drop_get hu) (hget i p hi))
          · exact hone _ _ (hget i _ (List.getElem?_eq_getElem hi))
      · cases h
    | oe id i off =>
      have key : ∀ (s : Nat) (et : TypeId) (es : List PV), (m id = some (.arr s et es) ∨ m id = some (.fro s et es)) → ((es[i]?).bind fun e => some (PV.rp ((elemCells s e).drop off))) = some p → RepPV P ν p x := by
        intro s et es hm h
        obtain ⟨e, he, h⟩ := Option.bind_eq_some_iff.1 h
        simp only [Option.some.injEq] at h; subst h
        have hA := hM.arr hm
        have hA' := hA
        have hνo : ∀ g, (φ id).g = some g → ν g = w.heap[g]? := fun g hg => by rcases hm with hm | hm <;> exact own _ _ _ hm hg
        obtain ⟨a1, a2, a3, a4, a5, a6, a7⟩ := hA
        cases hx with
        | @oe _ _ _ g hg =>
          rw [a2]
          have hsl := hA'.slice hM hg (lo := 0) (len := es.length) (by omega) ro (hνo _ hg)
          have hsl' : RepPV P ν (.rs s es) (.slice (some ⟨g, 0, none⟩) es.length (φ id).cap) := by simpa using hsl
          obtain ⟨b, o, cap, e1, hr⟩ := hsl'.rs_elem he
          simp only [Value.slice.injEq, Option.some.injEq, Addr.mk.injEq] at e1
          obtain ⟨⟨rfl, rfl, _⟩, _⟩ := e1
          have := hr.rp_drop off
          simpa using this
      simp only [frz] at h
      split at h
      · rename_i s et es hm; exact key s et es (.inl hm) h
      · rename_i s et es hm; exact key s et es (.inr hm) h
      · cases h
    | os id =>
      simp only [frz] at h
      split at h
      · rename_i s et es hm
        simp only [Option.some.injEq] at h; subst h
        exact (hM.arr (.inl hm)).full hM hx ro (fun g hg => own _ _ _ hm hg)
      · rename_i s et es hm
        simp only [Option.some.injEq] at h; subst h
        exact (hM.arr (.inr hm)).full hM hx ro (fun g hg => own _ _ _ hm hg)
      · cases h
    | osub id lo len =>
      have key : ∀ (s : Nat) (et : TypeId) (es : List PV), (m id = some (.arr s et es) ∨ m id = some (.fro s et es)) → RepPV P ν (.rs s ((es.drop lo).take len)) x := by
        intro s et es hm
        have hA := hM.arr hm
        have hA' := hA
        have hνo : ∀ g, (φ id).g = some g → ν g = w.heap[g]? := fun g hg => by rcases hm with hm | hm <;> exact own _ _ _ hm hg
        have hle := hA.lenLe
        obtain ⟨a1, a2, a3, a4, a5, a6, a7⟩ := hA
        cases hx with
        | osubN hg => simp; exact .rsNil
        | @osub _ _ _ g a hg hl ha =>
          rw [a1] at hl
          rcases ha with rfl | ha
          · rw [a2]
            exact hA'.slice hM hg hl ro (hνo _ hg)
          · have h0 : len = 0 := by omega
            subst h0
            simp only [List.take_zero]
            exact .rsE (by omega)
      simp only [frz] at h
      split at h
      · rename_i s et es hm
        simp only [Option.some.injEq] at h; subst h
        exact key s et es (.inl hm)
      · rename_i s et es hm
        simp only [Option.some.injEq] at h; subst h
        exact key s et es (.inr hm)
      · cases h
    | om id =>
      simp only [frz] at h
      split at h
      · rename_i kt es hm
        simp only [Option.some.injEq] at h; subst h
        obtain ⟨g, en, clock, kk, hg, hh, hs, hk, hck, hv⟩ := hM.blk id _ hm
        cases hx with
        | om hg' =>
          rw [hg] at hg'; simp only [Option.some.injEq] at hg'; subst hg'
          refine .rm (show ν g = _ from (own _ _ _ hm hg).trans hh) (by simp [hs]) (by simp) hk (fun i k hi => ?_) (fun i k e hi he => ?_) (fun i v e hi he => ?_)
          · simp only [List.getElem?_map, Option.map_eq_some_iff] at hi
            obtain ⟨⟨a, b⟩, hq, rfl⟩ := hi
            exact hck i a b hq
          · simp only [List.getElem?_map, Option.map_eq_some_iff] at hi
            obtain ⟨⟨a, b⟩, hq, rfl⟩ := hi
            exact (hv i a b e hq he).1.mono ro
          · simp only [List.getElem?_map, Option.map_eq_some_iff] at hi
            obtain ⟨⟨a, b⟩, hq, rfl⟩ := hi
            exact (hv i a b e hq he).2.mono ro
      · cases h
    | fn f cs =>
      simp only [frz] at h
      obtain ⟨ps, hps, h⟩ := Option.bind_eq_some_iff.1 h
      simp only [Option.some.injEq] at h; subst h
      obtain ⟨h1, h2⟩ := frzs_ok hps
      cases hx with
      | fn g1 g2 =>
        refine .fn (by omega) (fun i q y hq hy => ?_)
        obtain ⟨u, hu, hg⟩ := h2 i q hq
        exact ih hg (g2 i u y hu hy)
    | yl id => simp [frz] at h
    | top => simp [frz] at h
end
end Go.Ab
