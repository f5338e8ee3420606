/- Cells of a value; own memory read as pure values. -/
import Derived.Test.YtacjfkmonjbcmaaAbP1
import Derived.Laws.StructEq
import Derived.ChangeKeysEq
set_option linter.unusedVariables false
namespace Go.Ab
open Go.RowKit (Below)

section
variable {P : Program} {G : Nat → Option (List PV)} {w0 : Base} {μ : Ro} {φ : Nat → Phys} {m : Mem} {w : World}

theorem toCells_ok {n : Nat} {v : V} {cs : List V} (h : toCells n v = some cs) : cs.length = n ∧ (∀ id, hasL id cs = true → v.has id = true) ∧
    ∀ (P : Program) (μ : Ro) (φ : Nat → Phys) (x : Value), RepV P μ φ v x → x.cells.size = n ∧ (∀ (i : Nat) u y, cs[i]? = some u → x.cells[i]? = some y → RepV P μ φ u y) ∧ (∀ (i : Nat) (y : Value), x.cells[i]? = some y → y.oneCell' = true) := by
  have one : ∀ (v : V), (∀ (P : Program) (μ : Ro) (φ : Nat → Phys) (x : Value), RepV P μ φ v x → x.oneCell' = true ∧ x.cells = #[x]) → (if n = 1 then some [v] else none) = some cs →
      cs.length = n ∧ (∀ id, hasL id cs = true → v.has id = true) ∧
      ∀ (P : Program) (μ : Ro) (φ : Nat → Phys) (x : Value), RepV P μ φ v x → x.cells.size = n ∧ (∀ (i : Nat) u y, cs[i]? = some u → x.cells[i]? = some y → RepV P μ φ u y) ∧ (∀ (i : Nat) (y : Value), x.cells[i]? = some y → y.oneCell' = true) := by
    intro v h1 h
    split at h
    · rename_i hn
      simp only [Option.some.injEq] at h; subst h; subst hn
      refine ⟨rfl, fun id hid => by simpa [hasL] using hid, fun P μ φ x hx => ?_⟩
      obtain ⟨h2, h3⟩ := h1 _ _ _ _ hx
      rw [h3]
      refine ⟨rfl, fun i u y hu hy => ?_, fun i y hy => ?_⟩
      · cases i with
        | zero => simp at hu hy; subst hu; subst hy; exact hx
        | succ i => simp at hu
      · cases i with
        | zero => simp at hy; subst hy; exact h2
        | succ i => simp at hy
    · cases h
  have cells1 : ∀ x : Value, x.oneCell' = true → x.cells = #[x] := by
    intro x hx
    cases x <;> first | rfl | (simp [Value.oneCell'] at hx)
  unfold toCells at h
  split at h
  · rename_i ps
    split at h
    · rename_i hn
      simp only [Option.some.injEq] at h; subst h
      refine ⟨by simpa using hn, fun id hid => (by rw [hasL_pv] at hid; cases hid), fun P μ φ x hx => ?_⟩
      cases hx with
      | pv hx => cases hx with
        | agg h1 h2 h3 =>
          refine ⟨by simp only [Value.cells]; omega, fun i u y hu hy => ?_, h3⟩
          simp only [List.getElem?_map, Option.map_eq_some_iff] at hu
          obtain ⟨q, hq, rfl⟩ := hu
          exact .pv (h2 i q y hq hy)
    · cases h
  · split at h
    · rename_i hn
      simp only [Option.some.injEq] at h; subst h
      refine ⟨hn, fun id hid => by simpa [V.has] using hid, fun P μ φ x hx => ?_⟩
      cases hx with
      | agg h1 h2 h3 => exact ⟨by simp only [Value.cells]; omega, h2, h3⟩
    · cases h
  · cases h
  · cases h
  · cases h
  · cases h
  · rename_i h1 h2 h3 h4 h5 h6
    refine one v (fun P μ φ x hx => ?_) h
    have : x.oneCell' = true := by
      cases hx with
      | pv hp => exact hp.one (fun cs e => h1 cs (by rw [e])) (fun cs e => h5 cs (by rw [e])) (fun e => h6 (by rw [e]))
      | agg => exact absurd rfl (h2 _)
      | tup => exact absurd rfl (h4 _)
      | top => exact absurd rfl h3
      | _ => rfl
    exact ⟨this, cells1 x this⟩

theorem frz_pure : ∀ (d : Nat) {v : V} {p : PV} {x : Value}, frz noMem d v = some p → RepV P μ φ v x → RepPV P μ p x
  | 0, v, p, x, h, _ => by simp [frz] at h
  | d + 1, v, p, x, h, hx => by
    have ih := fun {v p x} => @frz_pure d v p x
    cases v with
    | pv q => simp [frz] at h; subst h; cases hx with | pv hx => exact hx
    | nils => simp [frz] at h; subst h; cases hx; exact .rsNil
    | agg cs =>
      simp only [frz] at h
      obtain ⟨ps, hps, h⟩ := Option.bind_eq_some_iff.1 h
      simp only [Option.some.injEq] at h; subst h
      obtain ⟨h1, h2⟩ := frzs_ok hps
      cases hx with
      | agg g1 g2 g3 =>
        refine .agg (by omega) (fun i q y hq hy => ?_) g3
        obtain ⟨u, hu, hg⟩ := h2 i q hq
        exact ih hg (g2 i u y hu hy)
    | tup cs =>
      simp only [frz] at h
      obtain ⟨ps, hps, h⟩ := Option.bind_eq_some_iff.1 h
      simp only [Option.some.injEq] at h; subst h
      obtain ⟨h1, h2⟩ := frzs_ok hps
      cases hx with
      | tup g1 g2 =>
        refine .tup (by omega) (fun i q y hq hy => ?_)
        obtain ⟨u, hu, hg⟩ := h2 i q hq
        exact ih hg (g2 i u y hu hy)
    | op id off => simp [frz, noMem] at h
    | oe id i off => simp [frz, noMem] at h
    | os id => simp [frz, noMem] at h
    | osub id lo len => simp [frz, noMem] at h
    | os2 id i off => simp [frz, noMem] at h
    | oe2 id i off s j off2 => simp [frz] at h
    | om id => simp [frz, noMem] at h
    | fn f cs =>
      simp only [frz] at h
      obtain ⟨ps, hps, h⟩ := Option.bind_eq_some_iff.1 h
      simp only [Option.some.injEq] at h; subst h
      obtain ⟨h1, h2⟩ := frzs_ok hps
      cases hx with
      | fn g1 g2 =>
        refine .fn (by omega) (fun i q y hq hy => ?_)
        obtain ⟨u, hu, hg⟩ := h2 i q hq
        exact ih hg (g2 i u y hu hy)
    | yl id => simp [frz] at h
    | it id => simp [frz] at h
    | top => simp [frz] at h
def heapOf (w : World) : Ro := fun b => w.heap[b]?
theorem RelM.heap_ro (hM : RelM P G w0 μ φ m w) : ∀ b o, μ b = some o → heapOf w b = some o := hM.ro
theorem RepArr.slice' {id s : Nat} {et : TypeId} {es : List PV} (hA : RepArr P μ φ w id s et es) {g : Nat} (hg : (φ id).g = some g) {lo len : Nat} (hl : lo + len ≤ es.length)
    {cap : Nat} (hcap : cap ≤ (φ id).cap - lo) (hlc : len ≤ cap) {ν : Ro} (hν : ∀ b o, μ b = some o → ν b = some o) (hν' : ν g = w.heap[g]?) :
    RepPV P ν (.rs s ((es.drop lo).take len)) (.slice (some ⟨g, lo * s, none⟩) len cap) := by
  have hle := hA.lenLe
  obtain ⟨a1, a2, a3, a4, a5, a6, a7⟩ := hA
  rw [hg] at a7
  obtain ⟨c, c1, c2, c3, c4, c5⟩ := a7
  have hget : ∀ (i : Nat) e, ((es.drop lo).take len)[i]? = some e → i < len ∧ es[lo + i]? = some e := fun i e hi => take_drop_get hi
  have hlen : ((es.drop lo).take len).length = len := by simp; omega
  have hb : ∀ (i : Nat) e (j : Nat) p, ((es.drop lo).take len)[i]? = some e → e.cells[j]? = some p → (lo + i) * s + j < es.length * s := by
    intro i e j p hi hj
    obtain ⟨_, hi⟩ := hget i e hi
    have h1 := (List.getElem?_eq_some_iff.1 hi).1
    have h2 := (List.getElem?_eq_some_iff.1 hj).1
    have h3 := a5 _ e hi
    have : (lo + i + 1) * s ≤ es.length * s := Nat.mul_le_mul_right _ (by omega)
    rw [Nat.add_mul _ 1] at this
    omega
  have hc : ∀ (i : Nat) e (j : Nat) p, ((es.drop lo).take len)[i]? = some e → e.cells[j]? = some p → c[(lo + i) * s + j]? = some (c.getD ((lo + i) * s + j) undef) := by
    intro i e j p hi hj
    obtain ⟨_, hi⟩ := hget i e hi
    have h1 := (List.getElem?_eq_some_iff.1 hi).1
    have h2 := (List.getElem?_eq_some_iff.1 hj).1
    have h3 := a5 _ e hi
    have : (lo + i + 1) * s ≤ (φ id).cap * s := Nat.mul_le_mul_right _ (by omega)
    rw [Nat.add_mul _ 1] at this
    have hlt : (lo + i) * s + j < c.size := by omega
    rw [Array.getElem?_eq_getElem hlt]
    simp [Array.getD, hlt]
  have := RepPV.rs (P := P) (μ := ν) (sz := s) (es := (es.drop lo).take len) (b := g) (o := lo * s) (cap := cap) (fun i j => c.getD ((lo + i) * s + j) undef) (by omega) (by omega)
    (fun i e hi => a5 _ e (hget i e hi).2) (fun i e j p hi hj => by
      have := hc i e j p hi hj
      unfold cellAt
      rw [hν', c1]
      simp only
      rw [← this, Nat.add_mul]) (fun i e j p hi hj => ((c4 _ e j p _ (hget i e hi).2 hj (hc i e j p hi hj)).mono hν)) (fun i e j p hi hj => c5 _ _ (hb i e j p hi hj) (hc i e j p hi hj))
  rw [hlen] at this
  exact this

theorem RepArr.slice (hM : RelM P G w0 μ φ m w) {id s : Nat} {et : TypeId} {es : List PV} (hA : RepArr P μ φ w id s et es) {g : Nat} (hg : (φ id).g = some g) {lo len : Nat} (hl : lo + len ≤ es.length)
    {ν : Ro} (hν : ∀ b o, μ b = some o → ν b = some o) (hν' : ν g = w.heap[g]?) :
    RepPV P ν (.rs s ((es.drop lo).take len)) (.slice (some ⟨g, lo * s, none⟩) len ((φ id).cap - lo)) := hA.slice' hg hl (Nat.le_refl _) (by have := hA.lenLe; omega) hν hν'
theorem RepArr.full' {id s : Nat} {et : TypeId} {es : List PV} (hA : RepArr P μ φ w id s et es) {x : Value} (hx : RepV P μ φ (.os id) x)
    {ν : Ro} (hν : ∀ b o, μ b = some o → ν b = some o) (hν' : ∀ g, (φ id).g = some g → ν g = w.heap[g]?) : RepPV P ν (.rs s es) x := by
  have hA' := hA
  obtain ⟨a1, a2, a3, a4, a5, a6, a7⟩ := hA
  cases hx with
  | osN hg => rw [hg] at a7; rw [a7.1]; exact .rsNil
  | @os _ g hg =>
    have hle := hA'.lenLe
    have := hA'.slice' hg (lo := 0) (len := es.length) (by omega) (cap := (φ id).cap) (by omega) hle.1 hν (hν' g hg)
    rw [a1]
    simpa using this
theorem RepArr.full (hM : RelM P G w0 μ φ m w) {id s : Nat} {et : TypeId} {es : List PV} (hA : RepArr P μ φ w id s et es) {x : Value} (hx : RepV P μ φ (.os id) x)
    {ν : Ro} (hν : ∀ b o, μ b = some o → ν b = some o) (hν' : ∀ g, (φ id).g = some g → ν g = w.heap[g]?) : RepPV P ν (.rs s es) x := hA.full' hx hν hν'
theorem RepRow.full {R : Ph0} {s : Nat} {rs : List PV} {x : Value} (h : RepRow P μ R w s rs x) {ν : Ro} (hν : ∀ b o, μ b = some o → ν b = some o) (hν' : ∀ g, R.g = some g → ν g = w.heap[g]?) : RepPV P ν (.rs s rs) x := by
  obtain ⟨⟨et, hA⟩, hV⟩ := h
  exact hA.full' hV hν hν'
theorem strip_cells (e : PV) : e.strip.cells = e.cells.map PV.strip1 := by
  cases e <;> rfl
theorem RepNest.strip {id sz : Nat} {et : TypeId} {es : List PV} (h : RepNest P μ φ w id sz et es) {ν : Ro} (hν : ∀ b o, μ b = some o → ν b = some o)
    (hν' : ∀ i off g, (Blk.nest sz et es).rowAt i off = true → ((φ id).row i off).g = some g → ν g = w.heap[g]?) : RepArr P ν φ w id sz et (es.map PV.strip) := by
  obtain ⟨a1, a2, a3, a4, a5, a6, a7⟩ := h
  refine ⟨by simpa using a1, a2, a3, a4, fun i e he => ?_, a6, ?_⟩
  · rw [List.getElem?_map, Option.map_eq_some_iff] at he
    obtain ⟨e0, h0, rfl⟩ := he
    rw [strip_cells, List.length_map]; exact a5 i e0 h0
  · cases hg : (φ id).g with
    | none => rw [hg] at a7; simp [a7.1, a7.2]
    | some g =>
      rw [hg] at a7
      obtain ⟨c, c1, c2, c3, c4, c5⟩ := a7
      refine ⟨c, c1, c2, by simpa using c3, fun i e j p x he hp hx => ?_, fun i x hi hx => c5 i x (by simpa using hi) hx⟩
      rw [List.getElem?_map, Option.map_eq_some_iff] at he
      obtain ⟨e0, h0, rfl⟩ := he
      rw [strip_cells, List.getElem?_map, Option.map_eq_some_iff] at hp
      obtain ⟨p0, hp0, rfl⟩ := hp
      have hc := c4 i e0 j p0 x h0 hp0 hx
      cases hr : p0.isRow with
      | false =>
        have : p0.strip1 = p0 := by cases p0 <;> first | rfl | cases hr
        rw [this]; exact (hc.of_pure hr).mono hν
      | true =>
        cases p0 <;> first | (cases hr; done) | skip
        rename_i s rs
        exact RepRow.full (show RepRow P μ _ w s rs x from hc) hν fun g' hg' => hν' i j g' (by simp [Blk.rowAt, h0, hp0, PV.isRow]) hg'

theorem cellAt_of {ν : Ro} {g o : Nat} {c : Array Value} {T : TypeId} {fz : Nat × Nat} {y : Value} (hν : ν g = w.heap[g]?) (h : w.heap[g]? = some (.cells c T fz)) (hy : c[o]? = some y) : cellAt ν g o = some y := by
  simp [cellAt, hν, h, hy]
theorem frz_full (hM : RelM P G w0 μ φ m w) {ν : Ro} (ro : ∀ b o, μ b = some o → ν b = some o) (own : ∀ id b g, m id = some b → b.owns (φ id) g → ν g = w.heap[g]?) : ∀ (d : Nat) {v : V} {p : PV} {x : Value}, frz m d v = some p → RepV P μ φ v x → RepPV P ν p x
  | 0, v, p, x, h, _ => by simp [frz] at h
  | d + 1, v, p, x, h, hx => by
    have ih := fun {v p x} => @frz_full hM ν ro own d v p x
    cases v with
    | pv q => simp [frz] at h; subst h; cases hx with | pv hx => exact hx.mono ro
    | nils => simp [frz] at h; subst h; cases hx; exact .rsNil
    | agg cs =>
      simp only [frz] at h
      obtain ⟨ps, hps, h⟩ := Option.bind_eq_some_iff.1 h
      simp only [Option.some.injEq] at h; subst h
      obtain ⟨h1, h2⟩ := frzs_ok hps
      cases hx with
      | agg g1 g2 g3 =>
        refine .agg (by omega) (fun i q y hq hy => ?_) g3
        obtain ⟨u, hu, hg⟩ := h2 i q hq
        exact ih hg (g2 i u y hu hy)
    | tup cs =>
      simp only [frz] at h
      obtain ⟨ps, hps, h⟩ := Option.bind_eq_some_iff.1 h
      simp only [Option.some.injEq] at h; subst h
      obtain ⟨h1, h2⟩ := frzs_ok hps
      cases hx with
      | tup g1 g2 =>
        refine .tup (by omega) (fun i q y hq hy => ?_)
        obtain ⟨u, hu, hg⟩ := h2 i q hq
        exact ih hg (g2 i u y hu hy)
    | op id off =>
      simp only [frz] at h
      split at h
      · rename_i cs hm
        obtain ⟨ps, hps, h⟩ := Option.bind_eq_some_iff.1 h
        simp only [Option.some.injEq] at h; subst h
        obtain ⟨h1, h2⟩ := frzs_ok hps
        obtain ⟨g, c, T, hg, hh, hs, hv, hone, hln⟩ := hM.blk id _ hm
        cases hx with
        | op hg' =>
          rw [hg] at hg'; simp only [Option.some.injEq] at hg'; subst hg'
          have hget : ∀ (i : Nat) p, ps[i]? = some p → c[off + i]? = some (c.getD (off + i) undef) := by
            intro i p hi
            have := (List.getElem?_eq_some_iff.1 hi).1
            rw [h1] at this; simp at this
            have hlt : off + i < c.size := by omega
            rw [Array.getElem?_eq_getElem hlt]
            simp [Array.getD, hlt]
          refine .rp (fun i => c.getD (off + i) undef) (fun i p hi => cellAt_of (own _ _ _ hm (.inl hg)) hh (hget i p hi)) (fun i p hi => ?_) (fun i hi => ?_)
          · obtain ⟨u, hu, hgu⟩ := h2 i p hi
            exact ih hgu (hv (off + i) u _ (drop_get hu) (hget i p hi))
          · exact hone _ _ (hget i _ (List.getElem?_eq_getElem hi))
      · cases h
    | oe id i off =>
      have key : ∀ (s : Nat) (et : TypeId) (es : List PV), (m id = some (.arr s et es) ∨ m id = some (.fro s et es)) → ((es[i]?).bind fun e => some (PV.rp ((elemCells s e).drop off))) = some p → RepPV P ν p x := by
        intro s et es hm h
        obtain ⟨e, he, h⟩ := Option.bind_eq_some_iff.1 h
        simp only [Option.some.injEq] at h; subst h
        have hA := hM.arr hm
        have hA' := hA
        have hνo : ∀ g, (φ id).g = some g → ν g = w.heap[g]? := fun g hg => by rcases hm with hm | hm <;> exact own _ _ _ hm (.inl hg)
        obtain ⟨a1, a2, a3, a4, a5, a6, a7⟩ := hA
        cases hx with
        | @oe _ _ _ g hg =>
          rw [a2]
          have hsl := hA'.slice hM hg (lo := 0) (len := es.length) (by omega) ro (hνo _ hg)
          have hsl' : RepPV P ν (.rs s es) (.slice (some ⟨g, 0, none⟩) es.length (φ id).cap) := by simpa using hsl
          obtain ⟨b, o, cap, e1, hr⟩ := hsl'.rs_elem he
          simp only [Value.slice.injEq, Option.some.injEq, Addr.mk.injEq] at e1
          obtain ⟨⟨rfl, rfl, _⟩, _⟩ := e1
          have := hr.rp_drop off
          simpa using this
      simp only [frz] at h
      split at h
      · rename_i s et es hm; exact key s et es (.inl hm) h
      · rename_i s et es hm; exact key s et es (.inr hm) h
      · cases h
    | os id =>
      simp only [frz] at h
      split at h
      · rename_i s et es hm
        simp only [Option.some.injEq] at h; subst h
        exact (hM.arr (.inl hm)).full hM hx ro (fun g hg => own _ _ _ hm (.inl hg))
      · rename_i s et es hm
        simp only [Option.some.injEq] at h; subst h
        exact (hM.arr (.inr hm)).full hM hx ro (fun g hg => own _ _ _ hm (.inl hg))
      · rename_i s et es hm
        simp only [Option.some.injEq] at h; subst h
        have hN : RepNest P μ φ w id s et es := hM.blk id _ hm
        exact (hN.strip ro fun i off g hr hg => own _ _ _ hm (.inr ⟨i, off, hr, hg⟩)).full' (hx.monoR ro) (fun _ _ h => h) fun g hg => own _ _ _ hm (.inl hg)
      · cases h
    | oe2 id i off s j off2 => simp [frz] at h
    | os2 id i off =>
      simp only [frz] at h
      split at h
      · rename_i s et es hm
        obtain ⟨e, he, h⟩ := Option.bind_eq_some_iff.1 h
        split at h
        · rename_i s' rs hc
          simp only [Option.some.injEq] at h; subst h
          have hN : RepNest P μ φ w id s et es := hM.blk id _ hm
          obtain ⟨_, _, _, _, ⟨⟨et', hA⟩, _⟩, hce⟩ := hN.row (s := s') (rs := rs) he (by rw [hc]; simp [asRow])
          exact hA.full' (hx.os2_to (ν := μ)) ro fun g hg => own _ _ _ hm (.inr ⟨i, off, by simp [Blk.rowAt, he, hce, PV.isRow], hg⟩)
        · cases h
      · cases h
    | osub id lo len =>
      have key : ∀ (s : Nat) (et : TypeId) (es : List PV), (m id = some (.arr s et es) ∨ m id = some (.fro s et es)) → RepPV P ν (.rs s ((es.drop lo).take len)) x := by
        intro s et es hm
        have hA := hM.arr hm
        have hA' := hA
        have hνo : ∀ g, (φ id).g = some g → ν g = w.heap[g]? := fun g hg => by rcases hm with hm | hm <;> exact own _ _ _ hm (.inl hg)
        have hle := hA.lenLe
        obtain ⟨a1, a2, a3, a4, a5, a6, a7⟩ := hA
        cases hx with
        | osubN hg => simp; exact .rsNil
        | @osub _ _ _ cap g a hg hl ha hc1 hc2 =>
          rw [a1] at hl
          rcases ha with rfl | ⟨ha, _⟩
          · rw [a2]
            exact hA'.slice' hg hl (by omega) hc1 ro (hνo _ hg)
          · have h0 : len = 0 := by omega
            subst h0
            simp only [List.take_zero]
            exact .rsE (by omega)
      simp only [frz] at h
      split at h
      · rename_i s et es hm
        simp only [Option.some.injEq] at h; subst h
        exact key s et es (.inl hm)
      · rename_i s et es hm
        simp only [Option.some.injEq] at h; subst h
        exact key s et es (.inr hm)
      · cases h
    | om id =>
      simp only [frz] at h
      split at h
      · rename_i kt es hm
        simp only [Option.some.injEq] at h; subst h
        obtain ⟨g, en, clock, kk, hg, hh, hs, hk, hck, _, hv⟩ := hM.blk id _ hm
        cases hx with
        | om hg' =>
          rw [hg] at hg'; simp only [Option.some.injEq] at hg'; subst hg'
          refine .rm (show ν g = _ from (own _ _ _ hm (.inl hg)).trans hh) (by simp [hs]) (by simp) hk (fun i k hi => ?_) (fun i k e hi he => ?_) (fun i v e hi he => ?_)
          · simp only [List.getElem?_map, Option.map_eq_some_iff] at hi
            obtain ⟨⟨a, b⟩, hq, rfl⟩ := hi
            exact hck i a b hq
          · simp only [List.getElem?_map, Option.map_eq_some_iff] at hi
            obtain ⟨⟨a, b⟩, hq, rfl⟩ := hi
            exact (hv i a b e hq he).1.mono ro
          · simp only [List.getElem?_map, Option.map_eq_some_iff] at hi
            obtain ⟨⟨a, b⟩, hq, rfl⟩ := hi
            exact (hv i a b e hq he).2.mono ro
      · rename_i kt e0 es hm
        simp only [Option.some.injEq] at h; subst h
        obtain ⟨g, en, clock, kk, hg, hh, hs, hk, hck, _, hv⟩ := hM.blk id _ hm
        cases hx with
        | om hg' =>
          rw [hg] at hg'; simp only [Option.some.injEq] at hg'; subst hg'
          refine .rm (show ν g = _ from (own _ _ _ hm (.inl hg)).trans hh) (by simp [hs]) (by simp) hk (fun i k hi => ?_) (fun i k e hi he => ?_) (fun i v e hi he => ?_)
          · simp only [List.getElem?_map, Option.map_eq_some_iff] at hi
            obtain ⟨⟨a, b⟩, hq, rfl⟩ := hi
            exact hck i a b hq
          · simp only [List.getElem?_map, Option.map_eq_some_iff] at hi
            obtain ⟨⟨a, b⟩, hq, rfl⟩ := hi
            exact (hv i a b e hq he).1.mono ro
          · simp only [List.getElem?_map, Option.map_eq_some_iff] at hi
            obtain ⟨⟨a, b⟩, hq, rfl⟩ := hi
            have h2 := (hv i a b e hq he).2
            cases hr : b.isRow with
            | false =>
              have e1 : b.strip1 = b := by cases b <;> first | rfl | cases hr
              simp only [e1]
              split at h2
              · cases hr
              · exact h2.mono ro
            | true =>
              cases b <;> first | (cases hr; done) | skip
              exact h2.1.full' h2.2 ro fun g' hg' => own _ _ _ hm (.inr ⟨i, 0, by simp [Blk.rowAt, hq, PV.isRow], hg'⟩)
      · cases h
    | fn f cs =>
      simp only [frz] at h
      obtain ⟨ps, hps, h⟩ := Option.bind_eq_some_iff.1 h
      simp only [Option.some.injEq] at h; subst h
      obtain ⟨h1, h2⟩ := frzs_ok hps
      cases hx with
      | fn g1 g2 =>
        refine .fn (by omega) (fun i q y hq hy => ?_)
        obtain ⟨u, hu, hg⟩ := h2 i q hq
        exact ih hg (g2 i u y hu hy)
    | yl id => simp [frz] at h
    | it id => simp [frz] at h
    | top => simp [frz] at h
end
end Go.Ab

set_option linter.unusedVariables false
namespace Go.Ab
open Go.RowKit (Below)

section
variable {P : Program} {w : World}
def valOf : PV → Value
  | .int k n => .int k n
  | .bool b => .bool b
  | .str s => .string ⟨s.toArray⟩
  | _ => undef
def mkVal (P : Program) (t : TypeId) (ps : List PV) : Value := if isAggT P t then .agg (ps.map valOf).toArray else valOf (ps.headD .bad)

theorem valOf_rep {μ : Ro} {k : Kd} {p : PV} {y : Value} (h : kdIs k p = true) (hy : RepPV P μ p y) : y = valOf p := by
  cases k <;> cases p <;> simp [kdIs] at h <;> cases hy <;> rfl
theorem chk_len : ∀ {ks : List Kd} {ps : List PV}, chk ks ps = true → ps.length = ks.length
  | [], [], _ => rfl
  | [], _ :: _, h => by simp [chk] at h
  | _ :: _, [], h => by simp [chk] at h
  | k :: ks, p :: ps, h => by simp [chk] at h; simp [chk_len h.2]
theorem chk_get : ∀ {ks : List Kd} {ps : List PV}, chk ks ps = true → ∀ (i : Nat) p, ps[i]? = some p → ∃ k, ks[i]? = some k ∧ kdIs k p = true
  | [], [], _, i, p, hi => by simp at hi
  | [], _ :: _, h, _, _, _ => by simp [chk] at h
  | _ :: _, [], h, _, _, _ => by simp [chk] at h
  | k :: ks, q :: ps, h, i, p, hi => by
    simp [chk] at h
    cases i with
    | zero => simp at hi; subst hi; exact ⟨k, by simp, h.1⟩
    | succ i => simp at hi; simpa using chk_get h.2 i p hi
theorem chk_append : ∀ (a b : List Kd) (ps : List PV), chk (a ++ b) ps = true ↔ chk a (ps.take a.length) = true ∧ chk b (ps.drop a.length) = true
  | [], b, ps => by simp [chk]
  | k :: a, b, [] => by simp [chk]
  | k :: a, b, p :: ps => by simp [chk, chk_append a b ps, Bool.and_eq_true, and_assoc]
theorem peqL_append : ∀ (n : Nat) (ps qs : List PV), n ≤ ps.length → n ≤ qs.length → peqL ps qs = (peqL (ps.take n) (qs.take n) && peqL (ps.drop n) (qs.drop n))
  | 0, ps, qs, _, _ => by simp [peqL]
  | n + 1, [], _, h, _ => by simp at h
  | n + 1, _ :: _, [], _, h => by simp at h
  | n + 1, p :: ps, q :: qs, h1, h2 => by
    simp only [List.length_cons, Nat.add_le_add_iff_right] at h1 h2
    simp only [peqL, List.take_succ_cons, List.drop_succ_cons, peqL_append n ps qs h1 h2, Bool.and_assoc]

theorem vals_of_cells {μ : Ro} {ks : List Kd} {ps : List PV} {xs : Array Value} (hk : chk ks ps = true) (hl : xs.size = ps.length) (hv : ∀ (i : Nat) p y, ps[i]? = some p → xs[i]? = some y → RepPV P μ p y) : xs = (ps.map valOf).toArray := by
  apply Array.ext'
  apply List.ext_getElem?
  intro i
  by_cases hi : i < ps.length
  · have h1 : ps[i]? = some ps[i] := List.getElem?_eq_getElem hi
    have h2 : xs[i]? = some xs[i] := Array.getElem?_eq_getElem (by omega)
    obtain ⟨k, _, hk⟩ := chk_get hk i _ h1
    have := valOf_rep hk (hv i _ _ h1 h2)
    simp only [Array.getElem?_toList, h2, List.getElem?_map, h1, Option.map_some, this]
  · simp [hi, hl]

theorem kdsRep_length (a : List Kd) : ∀ n, (kdsRep a n).length = n * a.length
  | 0 => by simp [kdsRep]
  | n + 1 => by simp [kdsRep, kdsRep_length a n, Nat.add_mul]; omega
theorem chk_one {k : Kd} {ps : List PV} (h : chk [k] ps = true) : ∃ p, ps = [p] ∧ kdIs k p = true := by
  cases ps with
  | nil => simp [chk] at h
  | cons p r => cases r with
    | nil => exact ⟨p, rfl, by simpa [chk] using h⟩
    | cons q r => simp [chk] at h
theorem kds_agg {d : Nat} {t : TypeId} {ks : List Kd} (h : kds P d t = some ks) : (isAggT P t = true → ks.length = csz P t) ∧ (isAggT P t = false → ks.length = 1) ∧ ∃ de, P.underlying t = some de := by
  cases d with
  | zero => simp [kds] at h
  | succ d =>
    unfold kds at h
    split at h
    · rename_i q hu; simp at h; subst h; exact ⟨by simp [isAggT, hu], by simp, _, hu⟩
    · rename_i hu; simp at h; subst h; exact ⟨by simp [isAggT, hu], by simp, _, hu⟩
    · rename_i hu; simp at h; subst h; exact ⟨by simp [isAggT, hu], by simp, _, hu⟩
    · rename_i fs hu
      split at h
      · cases h
      · obtain ⟨a, ha, h⟩ := Option.bind_eq_some_iff.1 h
        split at h
        · rename_i hl; simp at h; subst h; exact ⟨fun _ => hl, by simp [isAggT, hu], _, hu⟩
        · cases h
    · rename_i n e hu
      obtain ⟨a, ha, h⟩ := Option.bind_eq_some_iff.1 h
      split at h
      · rename_i hl
        simp at h; subst h
        refine ⟨fun _ => ?_, by simp [isAggT, hu], _, hu⟩
        rw [← hl.2, kdsRep_length]
      · cases h
    · cases h

theorem run_part_val {d : Nat} {t : TypeId} {ks : List Kd} {ps : List PV} {off : Nat} (h : kds P d t = some ks) (hl : off + ks.length ≤ ps.length) :
    (part t (ps.map valOf).toArray off).run P w = .ok (mkVal P t ((ps.drop off).take ks.length)) w := by
  obtain ⟨h1, h2, de, hu⟩ := kds_agg h
  cases ha : isAggT P t with
  | true =>
    rw [run_part_agg ha]
    congr 1
    simp only [mkVal, ha, if_true]
    congr 1
    rw [← h1 ha]
    simp [List.map_drop, List.map_take, List.extract_eq_take_drop]
  | false =>
    have hk := h2 ha
    rw [hk] at hl ⊢
    have hlt : off < ps.length := by omega
    rw [run_part_one hu ha (y := valOf ps[off]) (by simp [hlt])]
    congr 1
    simp only [mkVal, ha, Bool.false_eq_true, if_false]
    rw [List.drop_eq_getElem_cons hlt]
    rfl
theorem run_equalIn_kds : ∀ (d : Nat) (t : TypeId) (ks : List Kd), kds P d t = some ks → ∀ (D : Nat) (w : World) (ps qs : List PV), chk ks ps = true → chk ks qs = true →
    (Op.equalIn (D + d) t (mkVal P t ps) (mkVal P t qs)).run P w = .ok (peqL ps qs) w
  | 0, t, ks, h, _, _, _, _, _, _ => by simp [kds] at h
  | d + 1, t, ks, h, D, w, ps, qs, hp, hq => by
    have ih := run_equalIn_kds d
    have h0 := h
    unfold kds at h
    split at h
    · rename_i q hu
      simp only [Option.some.injEq] at h; subst h
      have ha : isAggT P t = false := by simp [isAggT, hu]
      obtain ⟨p, rfl, hkp⟩ := chk_one hp
      obtain ⟨q', rfl, hkq⟩ := chk_one hq
      clear hp hq
      cases p <;> simp [kdIs] at hkp
      cases q' <;> simp [kdIs] at hkq
      subst hkp; subst hkq
      simp [mkVal, ha, valOf, peqL, peq, ← Nat.add_assoc, Op.equalIn, run_underlying hu]
    · rename_i hu
      simp only [Option.some.injEq] at h; subst h
      have ha : isAggT P t = false := by simp [isAggT, hu]
      obtain ⟨p, rfl, hkp⟩ := chk_one hp
      obtain ⟨q', rfl, hkq⟩ := chk_one hq
      clear hp hq
      cases p <;> simp [kdIs] at hkp
      cases q' <;> simp [kdIs] at hkq
      simp [mkVal, ha, valOf, peqL, peq, ← Nat.add_assoc, Op.equalIn, run_underlying hu]
    · rename_i hu
      simp only [Option.some.injEq] at h; subst h
      have ha : isAggT P t = false := by simp [isAggT, hu]
      obtain ⟨p, rfl, hkp⟩ := chk_one hp
      obtain ⟨q', rfl, hkq⟩ := chk_one hq
      clear hp hq
      cases p <;> simp [kdIs] at hkp
      cases q' <;> simp [kdIs] at hkq
      simp only [mkVal, ha, valOf, peqL, peq, ← Nat.add_assoc, Bool.false_eq_true, if_false, List.headD_cons, Bool.and_true]
      rw [run_equalIn_string w _ _ _ _ hu, ByteArray.toList_eq, ByteArray.toList_eq]
    · rename_i fs hu
      split at h
      · cases h
      · rename_i hst
        obtain ⟨a, ha, h⟩ := Option.bind_eq_some_iff.1 h
        split at h
        · rename_i hlen
          simp only [Option.some.injEq] at h; subst h
          have hag : isAggT P t = true := by simp [isAggT, hu]
          have hfo : P.fieldsOf t = fs := by simp [Program.fieldsOf, hu]
          simp only [mkVal, hag, if_true, ← Nat.add_assoc]
          rw [run_equalIn_struct w (D + d) t _ _ (by rw [hfo]; exact hu) (by simpa using hst), hfo]
          have key : ∀ (L : List Field) (off : Nat) (b : List Kd) (w : World), kdsField (kds P d) L off = some b → off ≤ ps.length → off ≤ qs.length → chk b (ps.drop off) = true → chk b (qs.drop off) = true →
              (Op.eqFields (D + d) (ps.map valOf).toArray (qs.map valOf).toArray L).run P w = .ok (peqL (ps.drop off) (qs.drop off)) w := by
            intro L
            induction L with
            | nil =>
              intro off b w hb o1 o2 h1 h2
              simp only [kdsField, Option.some.injEq] at hb; subst hb
              have e1 : ps.drop off = [] := by cases hh : ps.drop off with | nil => rfl | cons x r => rw [hh] at h1; simp [chk] at h1
              have e2 : qs.drop off = [] := by cases hh : qs.drop off with | nil => rfl | cons x r => rw [hh] at h2; simp [chk] at h2
              simp [Op.eqFields, e1, e2, peqL]
            | cons f L ihL =>
              intro off b w hb o1 o2 h1 h2
              simp only [kdsField] at hb
              split at hb
              · rename_i hf
                obtain ⟨c, hc, hb⟩ := Option.bind_eq_some_iff.1 hb
                obtain ⟨b', hb', hb⟩ := Option.bind_eq_some_iff.1 hb
                simp only [Option.some.injEq] at hb; subst hb
                rw [chk_append] at h1 h2
                have l1 := chk_len h1.1
                have l2 := chk_len h2.1
                simp only [List.length_take, List.length_drop] at l1 l2
                have p1 := run_part_val (w := w) (ps := ps) (off := off) hc (by omega)
                have p2 := run_part_val (w := w) (ps := qs) (off := off) hc (by omega)
                have p3 := ih f.type c hc D w _ _ h1.1 h2.1
                have p4 := ihL (off + c.length) b' w hb' (by omega) (by omega) (by rw [← List.drop_drop]; exact h1.2) (by rw [← List.drop_drop]; exact h2.2)
                simp only [Op.eqFields, hf.2, ne_eq, not_false_eq_true, if_true, Sem.run_bind, hf.1, p1, p2, p3, Result.andThen_ok]
                rw [peqL_append c.length (ps.drop off) (qs.drop off) (by simp; omega) (by simp; omega), List.drop_drop, List.drop_drop]
                cases hr : peqL ((ps.drop off).take c.length) ((qs.drop off).take c.length) with
                | false => simp
                | true => simpa using p4
              · cases hb
          simpa using key fs.toList 0 a w ha (by simp) (by simp) (by simpa using hp) (by simpa using hq)
        · cases h
    · rename_i n e hu
      obtain ⟨a, ha, h⟩ := Option.bind_eq_some_iff.1 h
      split at h
      · rename_i hlen
        simp only [Option.some.injEq] at h; subst h
        have hag : isAggT P t = true := by simp [isAggT, hu]
        obtain ⟨_, _, de, hde⟩ := kds_agg ha
        obtain ⟨i, hi⟩ : ∃ i, P.info? e = some i := by
          unfold Program.underlying at hde
          cases hq : P.info? e with
          | none => simp [hq] at hde
          | some i => exact ⟨i, rfl⟩
        have hsz : P.cellsOf e = a.length := hlen.1.symm
        simp only [mkVal, hag, if_true, ← Nat.add_assoc]
        rw [run_equalIn_array w (D + d) _ _ hu hi, hsz]
        have key : ∀ (k j : Nat) (w : World), j + k = n → j * a.length ≤ ps.length → j * a.length ≤ qs.length → chk (kdsRep a k) (ps.drop (j * a.length)) = true → chk (kdsRep a k) (qs.drop (j * a.length)) = true →
            (Op.eqItems (D + d) e a.length (ps.map valOf).toArray (qs.map valOf).toArray (List.range' j k)).run P w = .ok (peqL (ps.drop (j * a.length)) (qs.drop (j * a.length))) w := by
          intro k
          induction k with
          | zero =>
            intro j w _ _ _ h1 h2
            simp only [kdsRep] at h1 h2
            have e1 : ps.drop (j * a.length) = [] := by cases hh : ps.drop (j * a.length) with | nil => rfl | cons x r => rw [hh] at h1; simp [chk] at h1
            have e2 : qs.drop (j * a.length) = [] := by cases hh : qs.drop (j * a.length) with | nil => rfl | cons x r => rw [hh] at h2; simp [chk] at h2
            simp [Op.eqItems, e1, e2, peqL]
          | succ k ihk =>
            intro j w hj o1 o2 h1 h2
            simp only [kdsRep] at h1 h2
            rw [chk_append] at h1 h2
            have l1 := chk_len h1.1
            have l2 := chk_len h2.1
            simp only [List.length_take, List.length_drop] at l1 l2
            have p1 := run_part_val (w := w) (ps := ps) (off := j * a.length) ha (by omega)
            have p2 := run_part_val (w := w) (ps := qs) (off := j * a.length) ha (by omega)
            have p3 := ih e a ha D w _ _ h1.1 h2.1
            have ej : (j + 1) * a.length = j * a.length + a.length := by rw [Nat.add_mul]; omega
            have p4 := ihk (j + 1) w (by omega) (by omega) (by omega) (by rw [ej, ← List.drop_drop]; exact h1.2) (by rw [ej, ← List.drop_drop]; exact h2.2)
            rw [List.range'_succ]
            simp only [Op.eqItems, Sem.run_bind, p1, p2, p3, Result.andThen_ok]
            rw [peqL_append a.length (ps.drop (j * a.length)) (qs.drop (j * a.length)) (by simp; omega) (by simp; omega), List.drop_drop, List.drop_drop, ← ej]
            cases hr : peqL ((ps.drop (j * a.length)).take a.length) ((qs.drop (j * a.length)).take a.length) with
            | false => simp
            | true => simpa using p4
        have := key n 0 w (by omega) (by simp) (by simp) (by simpa using hp) (by simpa using hq)
        rw [List.range_eq_range']
        simpa using this
      · cases h
    · cases h
end
end Go.Ab

set_option linter.unusedVariables false
namespace Go.Ab
open Go.RowKit (Below)

section
variable {R : Type} {E : Env}

theorem wf_tmod {k : IntKind} {x y : Int} (hx : (Lit.int k x).wf = true) : (Lit.int k (x.tmod y)).wf = true := by
  rw [wf_bool] at *
  have h0 : k.min ≤ 0 ∧ 0 ≤ k.max := by cases k <;> simp [IntKind.min, IntKind.max, IntKind.signed, IntKind.bits]
  rcases Int.le_total 0 x with h | h
  · have h1 := Int.tmod_nonneg y h
    have h2 : x.tmod y ≤ x := by
      have := Int.natAbs_tmod x y
      have h3 : x.natAbs % y.natAbs ≤ x.natAbs := Nat.mod_le _ _
      omega
    omega
  · have h1 : x.tmod y = -((-x).tmod y) := by rw [Int.neg_tmod]; omega
    have h2 := Int.tmod_nonneg y (show 0 ≤ -x by omega)
    have h3 : (-x).tmod y ≤ -x := by
      have := Int.natAbs_tmod (-x) y
      have h3 : (-x).natAbs % y.natAbs ≤ (-x).natAbs := Nat.mod_le _ _
      omega
    omega
theorem wf_fdiv {k : IntKind} {x : Int} (n : Nat) (hx : (Lit.int k x).wf = true) : (Lit.int k (x.fdiv (2 ^ n))).wf = true := by
  rw [wf_bool] at *
  have h0 : k.min ≤ 0 ∧ 0 ≤ k.max := by cases k <;> simp [IntKind.min, IntKind.max, IntKind.signed, IntKind.bits]
  have hp : (0 : Int) < 2 ^ n := Int.pow_pos (by omega)
  rw [Int.fdiv_eq_ediv_of_nonneg _ (by omega)]
  rcases Int.le_total 0 x with h | h
  · have h1 := Int.ediv_nonneg h (Int.le_of_lt hp)
    have h2 := Int.ediv_le_self (2 ^ n) h
    omega
  · have h1 : x / 2 ^ n ≤ 0 := Int.ediv_nonpos_of_nonpos_of_neg h hp
    have h2 : x ≤ x / 2 ^ n := by
      rw [Int.le_ediv_iff_mul_le hp]
      have : x * 2 ^ n ≤ x * 1 := Int.mul_le_mul_of_nonpos_left h (by omega)
      omega
    omega

theorem mkVal_agg {P : Program} {t : TypeId} {ps : List PV} (ha : isAggT P t = true) : mkVal P t ps = .agg (ps.map valOf).toArray := by simp [mkVal, ha]

def P_eqGuard (P : Program) (t : TypeId) : Bool := P.eqGuardType P.depth t
def runBin (op : BinOp) (t : TypeId) (ox oy : Operand) (x y : Value) : Sem Value := do eqGuard op t ox oy x y; binOp op t x y

theorem run_eql_of {P : Program} {w : World} {t : TypeId} {x y : Value} {b : Bool} (hb : binOp .eql t x y = (do pure (.bool (← Op.equal t x y)))) (h : (Op.equalIn 10000 t x y).run P w = .ok b w) : (binOp .eql t x y).run P w = .ok (.bool b) w := by
  rw [hb]
  simp only [Op.equal, Op.maxDepth, Sem.run_bind, h, Result.andThen_ok, Sem.run_pure]
theorem run_neq_of {P : Program} {w : World} {t : TypeId} {x y : Value} {b : Bool} (hb : binOp .neq t x y = (do pure (.bool (!(← Op.equal t x y))))) (h : (Op.equalIn 10000 t x y).run P w = .ok b w) : (binOp .neq t x y).run P w = .ok (.bool (!b)) w := by
  rw [hb]
  simp only [Op.equal, Op.maxDepth, Sem.run_bind, h, Result.andThen_ok, Sem.run_pure]
theorem run_runBin {P : Program} {w : World} {op : BinOp} {t : TypeId} {ox oy : Operand} {x y z : Value} (h1 : (eqGuard op t ox oy x y).run P w = .ok () w) (h2 : (binOp op t x y).run P w = .ok z w) : (runBin op t ox oy x y).run P w = .ok z w := by
  simp only [runBin, Sem.run_bind, h1, h2, Result.andThen_ok]
theorem run_eqPtr {P : Program} {w : World} {t e : TypeId} (hu : P.underlying t = some (.pointer e)) (a : Option Addr) : (Op.equalIn 10000 t (.pointer a) (.pointer none)).run P w = .ok a.isNone w := by
  show (Op.equalIn (9999 + 1) t (.pointer a) (.pointer none)).run P w = .ok a.isNone w
  cases a <;> (unfold Op.equalIn; simp only [Sem.run_bind, run_underlying hu, Result.andThen_ok]; rfl)

theorem run_eqFunc {P : Program} {w : World} {t : TypeId} {a b : Array TypeId} {c : Bool} (hu : P.underlying t = some (.func a b c)) (f : Fn) (xs ys : Array Value) : (Op.equalIn 10000 t (.func f xs ys) .nilFunc).run P w = .ok false w := by
  show (Op.equalIn (9999 + 1) t (.func f xs ys) .nilFunc).run P w = .ok false w
  unfold Op.equalIn; simp only [Sem.run_bind, run_underlying hu, Result.andThen_ok]; rfl
theorem xbin_ok {op : BinOp} {t : TypeId} {a b : V} {k : PV → Option R} {r : R} (h : xbin E op t a b k = some r) :
    ∃ q, (∀ (R' : Type) (k' : PV → Option R'), xbin E op t a b k' = k' q) ∧ k q = some r ∧
    ∀ (μ : Ro) (φ : Nat → Phys) (w : World) (ox oy : Operand) (x y : Value), RepV E.P μ φ a x → RepV E.P μ φ b y → ∃ z, (runBin op t ox oy x y).run E.P w = .ok z w ∧ RepPV E.P μ q z := by
  unfold xbin at h
  split at h
  · rename_i q x q' y
    have ints : ∀ (μ : Ro) (φ : Nat → Phys) (u v : Value), RepV E.P μ φ (.pv (.int q x)) u → RepV E.P μ φ (.pv (.int q' y)) v → u = .int q x ∧ v = .int q' y ∧ (Lit.int q x).wf = true := by
      intro μ φ u v hu hv
      cases hu with | pv hu => cases hu with | int h1 => cases hv with | pv hv => cases hv with | int h2 => exact ⟨rfl, rfl, h1⟩
    cases op
    case shl =>
      simp only at h
      split at h
      · cases h
      · rename_i hy
        refine ⟨_, fun R' k' => by simp [xbin, hy], h, fun μ φ w ox oy u v hu hv => ?_⟩
        obtain ⟨rfl, rfl, _⟩ := ints μ φ u v hu hv
        exact ⟨_, by simp [runBin, eqGuard, binOp, Op.shift, hy], .int (wf_wrap _ _)⟩
    case shr =>
      simp only at h
      split at h
      · cases h
      · rename_i hy
        refine ⟨_, fun R' k' => by simp [xbin, hy], h, fun μ φ w ox oy u v hu hv => ?_⟩
        obtain ⟨rfl, rfl, hw⟩ := ints μ φ u v hu hv
        exact ⟨_, by simp [runBin, eqGuard, binOp, Op.shift, hy], .int (wf_fdiv _ hw)⟩
    case quo =>
      simp only at h
      split at h
      · rename_i hq; subst hq
        split at h
        · cases h
        · rename_i hy
          refine ⟨_, fun R' k' => by simp [xbin, hy], h, fun μ φ w ox oy u v hu hv => ?_⟩
          obtain ⟨rfl, rfl, _⟩ := ints μ φ u v hu hv
          exact ⟨_, by simp [runBin, eqGuard, binOp, Op.intDiv, hy], .int (wf_wrap _ _)⟩
      · cases h
    case rem =>
      simp only at h
      split at h
      · rename_i hq; subst hq
        split at h
        · cases h
        · rename_i hy
          refine ⟨_, fun R' k' => by simp [xbin, hy], h, fun μ φ w ox oy u v hu hv => ?_⟩
          obtain ⟨rfl, rfl, hw⟩ := ints μ φ u v hu hv
          exact ⟨_, by simp [runBin, eqGuard, binOp, Op.intDiv, hy], .int (wf_tmod hw)⟩
      · cases h
    case eql | neq | lss | leq | gtr | geq =>
      simp only at h
      split at h
      · rename_i hq; subst hq
        refine ⟨_, fun R' k' => by simp [xbin], h, fun μ φ w ox oy u v hu hv => ?_⟩
        obtain ⟨rfl, rfl, _⟩ := ints μ φ u v hu hv
        refine ⟨_, run_runBin (by rw [eqGuard_at_int]; rfl) ?_, .bool⟩
        first | rw [binOp_eql] | rw [binOp_neq] | rw [binOp_lss] | rw [binOp_leq] | rw [binOp_gtr] | rw [binOp_geq]
        rfl
      · cases h
    all_goals
      simp only at h
      split at h
      · rename_i hq; subst hq
        refine ⟨_, fun R' k' => by simp [xbin], h, fun μ φ w ox oy u v hu hv => ?_⟩
        obtain ⟨rfl, rfl, _⟩ := ints μ φ u v hu hv
        refine ⟨_, run_runBin (by rw [eqGuard_at_int]; rfl) ?_, .int (wf_wrap _ _)⟩
        first | rw [binOp_add] | rw [binOp_sub] | rw [binOp_mul] | rw [binOp_and] | rw [binOp_or] | rw [binOp_xor] | rw [binOp_andNot]
        rfl
      · cases h
  · rename_i x y
    have strs : ∀ (μ : Ro) (φ : Nat → Phys) (u v : Value), RepV E.P μ φ (.pv (.str x)) u → RepV E.P μ φ (.pv (.str y)) v → u = .string ⟨x.toArray⟩ ∧ v = .string ⟨y.toArray⟩ := by
      intro μ φ u v hu hv
      cases hu with | pv hu => cases hu with | str h1 => cases hv with | pv hv => cases hv with | str h2 => exact ⟨rfl, rfl⟩
    cases op
    case add =>
      simp only at h
      split at h
      · rename_i hroom
        have hy : ¬ ((x.length + y.length : Nat) : Int) > IntKind.i64.max := by have := E.lp.room_ok _ hroom; omega
        refine ⟨_, fun R' k' => by simp only [xbin]; rw [if_pos hroom], h, fun μ φ w ox oy u v hu hv => ?_⟩
        obtain ⟨rfl, rfl⟩ := strs μ φ u v hu hv
        refine ⟨.string ⟨(x ++ y).toArray⟩, ?_, .str ?_⟩
        · simp only [runBin, eqGuard, binOp, Op.stringOp, Sem.run_bind]
          have e : (⟨x.toArray⟩ ++ ⟨y.toArray⟩ : ByteArray) = ⟨(x ++ y).toArray⟩ := by
            apply ByteArray.ext
            simp
          simp only [size_str, e]
          rw [if_neg hy]
          simp
        · simp only [maxLen]
          simp only [IntKind.max_i64] at hy
          simp; omega
      · cases h
    case eql | neq | lss | leq | gtr | geq =>
      simp only at h
      refine ⟨_, fun R' k' => by simp only [xbin], h, fun μ φ w ox oy u v hu hv => ?_⟩
      obtain ⟨rfl, rfl⟩ := strs μ φ u v hu hv
      refine ⟨_, run_runBin (by rw [eqGuard_at_string]; rfl) ?_, .bool⟩
      simp only [binOp, Op.stringOp, ByteArray.toList_eq]
      rfl
    all_goals (simp only at h; cases h)
  · rename_i x y
    have bools : ∀ (μ : Ro) (φ : Nat → Phys) (u v : Value), RepV E.P μ φ (.pv (.bool x)) u → RepV E.P μ φ (.pv (.bool y)) v → u = .bool x ∧ v = .bool y := by
      intro μ φ u v hu hv
      cases hu with | pv hu => cases hu with | bool => cases hv with | pv hv => cases hv with | bool => exact ⟨rfl, rfl⟩
    split at h
    · rename_i hu'
      refine ⟨_, fun R' k' => by simp only [xbin, hu'], h, fun μ φ w ox oy u v hu hv => ?_⟩
      obtain ⟨rfl, rfl⟩ := bools μ φ u v hu hv
      exact ⟨_, run_runBin (by rw [eqGuard_at_bool]; rfl) (run_eql_of rfl (run_equalIn_bool w _ _ _ _ hu')), .bool⟩
    · rename_i hu'
      refine ⟨_, fun R' k' => by simp only [xbin, hu'], h, fun μ φ w ox oy u v hu hv => ?_⟩
      obtain ⟨rfl, rfl⟩ := bools μ φ u v hu hv
      exact ⟨_, run_runBin (by rw [eqGuard_at_bool]; rfl) (run_neq_of rfl (run_equalIn_bool w _ _ _ _ hu')), .bool⟩
    · cases h
  · split at h
    · rename_i hu'
      refine ⟨_, fun R' k' => by simp only [xbin, hu'], h, fun μ φ w ox oy u v hu hv => ?_⟩
      cases hu with | pv hu => cases hu; cases hv with | pv hv => cases hv; exact ⟨_, run_runBin (by rw [eqGuard_at_pointer]; rfl) (run_eql_of rfl (run_eqPtr hu' none)), .bool⟩
    · rename_i hu'
      refine ⟨_, fun R' k' => by simp only [xbin, hu'], h, fun μ φ w ox oy u v hu hv => ?_⟩
      cases hu with | pv hu => cases hu; cases hv with | pv hv => cases hv; exact ⟨_, run_runBin (by rw [eqGuard_at_pointer]; rfl) (run_neq_of rfl (run_eqPtr hu' none)), .bool⟩
    · cases h
  · split at h
    · rename_i hu'
      refine ⟨_, fun R' k' => by simp only [xbin, hu'], h, fun μ φ w ox oy u v hu hv => ?_⟩
      cases hu with | fn => cases hv with | pv hv => cases hv; exact ⟨_, run_runBin (by rw [eqGuard_at_func]; rfl) (run_eql_of rfl (run_eqFunc hu' _ _ _)), .bool⟩
    · rename_i hu'
      refine ⟨_, fun R' k' => by simp only [xbin, hu'], h, fun μ φ w ox oy u v hu hv => ?_⟩
      cases hu with | fn => cases hv with | pv hv => cases hv; exact ⟨_, run_runBin (by rw [eqGuard_at_func]; rfl) (run_neq_of rfl (run_eqFunc hu' _ _ _)), .bool⟩
    · cases h
  · split at h
    · rename_i hu'
      refine ⟨_, fun R' k' => by simp only [xbin, hu'], h, fun μ φ w ox oy u v hu hv => ?_⟩
      cases hu with | pv hu => cases hu; cases hv with | pv hv => cases hv; exact ⟨_, run_runBin (by rw [eqGuard_at_func]; rfl) (run_eql_of rfl (run_eqFunc hu' _ _ _)), .bool⟩
    · rename_i hu'
      refine ⟨_, fun R' k' => by simp only [xbin, hu'], h, fun μ φ w ox oy u v hu hv => ?_⟩
      cases hu with | pv hu => cases hu; cases hv with | pv hv => cases hv; exact ⟨_, run_runBin (by rw [eqGuard_at_func]; rfl) (run_neq_of rfl (run_eqFunc hu' _ _ _)), .bool⟩
    · cases h
  · split at h
    · rename_i hu'
      refine ⟨_, fun R' k' => by simp only [xbin, hu'], h, fun μ φ w ox oy u v hu hv => ?_⟩
      cases hu with | pv hu => cases hu; cases hv with | pv hv => cases hv; exact ⟨_, run_runBin (by rw [eqGuard_at_pointer]; rfl) (run_eql_of rfl (run_eqPtr hu' _)), .bool⟩
    · rename_i hu'
      refine ⟨_, fun R' k' => by simp only [xbin, hu'], h, fun μ φ w ox oy u v hu hv => ?_⟩
      cases hu with | pv hu => cases hu; cases hv with | pv hv => cases hv; exact ⟨_, run_runBin (by rw [eqGuard_at_pointer]; rfl) (run_neq_of rfl (run_eqPtr hu' _)), .bool⟩
    · cases h
  · split at h
    · rename_i hu'
      refine ⟨_, fun R' k' => by simp only [xbin, hu'], h, fun μ φ w ox oy u v hu hv => ?_⟩
      cases hu with | op hg => cases hv with | pv hv => cases hv; exact ⟨_, run_runBin (by rw [eqGuard_at_pointer]; rfl) (run_eql_of rfl (run_eqPtr hu' _)), .bool⟩
    · rename_i hu'
      refine ⟨_, fun R' k' => by simp only [xbin, hu'], h, fun μ φ w ox oy u v hu hv => ?_⟩
      cases hu with | op hg => cases hv with | pv hv => cases hv; exact ⟨_, run_runBin (by rw [eqGuard_at_pointer]; rfl) (run_neq_of rfl (run_eqPtr hu' _)), .bool⟩
    · cases h
  · split at h
    · rename_i hu'
      refine ⟨_, fun R' k' => by simp only [xbin, hu'], h, fun μ φ w ox oy u v hu hv => ?_⟩
      cases hu with | oe hg => cases hv with | pv hv => cases hv; exact ⟨_, run_runBin (by rw [eqGuard_at_pointer]; rfl) (run_eql_of rfl (run_eqPtr hu' _)), .bool⟩
    · rename_i hu'
      refine ⟨_, fun R' k' => by simp only [xbin, hu'], h, fun μ φ w ox oy u v hu hv => ?_⟩
      cases hu with | oe hg => cases hv with | pv hv => cases hv; exact ⟨_, run_runBin (by rw [eqGuard_at_pointer]; rfl) (run_neq_of rfl (run_eqPtr hu' _)), .bool⟩
    · cases h
  · rename_i n1 n2 n3 n4 m1 m2 n5 n6 n7
    split at h
    · rename_i ha
      split at h
      · rename_i ks as bs hks has hbs
        split at h
        · rename_i ps qs hps hqs
          split at h
          · rename_i hc
            have hE : P_eqGuard E.P t = false ∧ kds E.P 8 t = some ks := by
              unfold kdsOf at hks
              split at hks
              · cases hks
              · rename_i hg; exact ⟨by simpa [P_eqGuard] using hg, hks⟩
            have key : ∀ (μ : Ro) (φ : Nat → Phys) (w : World) (x y : Value), RepV E.P μ φ a x → RepV E.P μ φ b y →
                ∃ xs ys, x = .agg xs ∧ y = .agg ys ∧ (Op.equalIn 10000 t x y).run E.P w = .ok (peqL ps qs) w := by
              intro μ φ w x y hx hy
              obtain ⟨xs, rfl, g1, g2, g3⟩ := (aggCells_ok has).2 _ _ _ _ hx
              obtain ⟨ys, rfl, g4, g5, g6⟩ := (aggCells_ok hbs).2 _ _ _ _ hy
              obtain ⟨l1, l2⟩ := frzs_ok hps
              obtain ⟨l3, l4⟩ := frzs_ok hqs
              have e1 := vals_of_cells (P := E.P) (μ := μ) (xs := xs) hc.1 (by omega) (fun i p z hi hz => by
                obtain ⟨v, hv, hg⟩ := l2 i p hi
                exact frz_pure 1 hg (g2 i v z hv hz))
              have e2 := vals_of_cells (P := E.P) (μ := μ) (xs := ys) hc.2 (by omega) (fun i p z hi hz => by
                obtain ⟨v, hv, hg⟩ := l4 i p hi
                exact frz_pure 1 hg (g5 i v z hv hz))
              refine ⟨xs, ys, rfl, rfl, ?_⟩
              have := run_equalIn_kds 8 t ks hE.2 9992 w ps qs hc.1 hc.2
              rw [mkVal_agg ha, mkVal_agg ha, ← e1, ← e2] at this
              exact this
            have nat1 : ∀ (R' : Type) (k' : PV → Option R'), xbin E .eql t a b k' = k' (.bool (peqL ps qs)) := by
              intro R' k'
              unfold xbin
              split
              · exact (n1 _ _ _ _ rfl rfl).elim
              · exact (n2 _ _ rfl rfl).elim
              · exact (n3 _ _ rfl rfl).elim
              · exact (n4 rfl rfl).elim
              · exact (m1 _ _ rfl rfl).elim
              · exact (m2 _ _ rfl rfl).elim
              · exact (n5 _ rfl rfl).elim
              · exact (n6 _ _ rfl rfl).elim
              · exact (n7 _ _ _ rfl rfl).elim
              · rw [if_pos ha, hks, has, hbs]
                simp only [hps, hqs]
                rw [if_pos hc]
            have nat2 : ∀ (R' : Type) (k' : PV → Option R'), xbin E .neq t a b k' = k' (.bool (!(peqL ps qs))) := by
              intro R' k'
              unfold xbin
              split
              · exact (n1 _ _ _ _ rfl rfl).elim
              · exact (n2 _ _ rfl rfl).elim
              · exact (n3 _ _ rfl rfl).elim
              · exact (n4 rfl rfl).elim
              · exact (m1 _ _ rfl rfl).elim
              · exact (m2 _ _ rfl rfl).elim
              · exact (n5 _ rfl rfl).elim
              · exact (n6 _ _ rfl rfl).elim
              · exact (n7 _ _ _ rfl rfl).elim
              · rw [if_pos ha, hks, has, hbs]
                simp only [hps, hqs]
                rw [if_pos hc]
            cases op
            case eql =>
              refine ⟨_, fun R' k' => nat1 R' k', h, fun μ φ w ox oy x y hx hy => ?_⟩
              obtain ⟨xs, ys, rfl, rfl, hr⟩ := key μ φ w x y hx hy
              exact ⟨_, run_runBin (run_eqGuard_agg w _ _ _ _ _ _ hE.1) (run_eql_of rfl hr), .bool⟩
            case neq =>
              refine ⟨_, fun R' k' => nat2 R' k', h, fun μ φ w ox oy x y hx hy => ?_⟩
              obtain ⟨xs, ys, rfl, rfl, hr⟩ := key μ φ w x y hx hy
              exact ⟨_, run_runBin (run_eqGuard_agg w _ _ _ _ _ _ hE.1) (run_neq_of rfl hr), .bool⟩
            all_goals (simp only at h; cases h)
          · cases h
        · cases h
      · cases h
    · cases h

theorem xun_ok {op : UnOp} {a : V} {k : PV → Option R} {r : R} (h : xun op a k = some r) :
    ∃ q, (∀ (R' : Type) (k' : PV → Option R'), xun op a k' = k' q) ∧ k q = some r ∧
    ∀ (P : Program) (μ : Ro) (φ : Nat → Phys) (w : World) (x : Value), RepV P μ φ a x → ∃ z, (Op.unary op x).run P w = .ok z w ∧ RepPV P μ q z := by
  unfold xun at h
  split at h
  · refine ⟨_, fun R' k' => rfl, h, fun P μ φ w x hx => ?_⟩
    cases hx with | pv hx => cases hx; exact ⟨_, rfl, .bool⟩
  · refine ⟨_, fun R' k' => rfl, h, fun P μ φ w x hx => ?_⟩
    cases hx with | pv hx => cases hx; exact ⟨_, rfl, .int (wf_wrap _ _)⟩
  · refine ⟨_, fun R' k' => rfl, h, fun P μ φ w x hx => ?_⟩
    cases hx with | pv hx => cases hx; exact ⟨_, rfl, .int (wf_wrap _ _)⟩
  · cases h
theorem wrap_wf {k : IntKind} {n : Int} (h : (Lit.int k n).wf = true) : k.wrap n = n := by
  rw [wf_bool] at h
  cases k <;> simp only [IntKind.wrap, IntKind.min, IntKind.max, IntKind.signed, IntKind.bits] at * <;> simp at * <;> (try split) <;> omega
theorem xconv_ok {s d : TypeId} {a : V} {k : PV → Option R} {r : R} (h : xconv E s d a k = some r) :
    ∃ q, (∀ (R' : Type) (k' : PV → Option R'), xconv E s d a k' = k' q) ∧ k q = some r ∧
    ∀ (μ : Ro) (φ : Nat → Phys) (w : World) (x : Value), RepV E.P μ φ a x → ∃ z, (convert s d x).run E.P w = .ok z w ∧ RepPV E.P μ q z := by
  unfold xconv at h
  split at h
  · rename_i q q' q'' n hs hd
    split at h
    · rename_i e1; subst e1
      split at h
      · rename_i e2; subst e2
        refine ⟨_, fun R' k' => by simp [xconv, hs, hd], h, fun μ φ w x hx => ?_⟩
        cases hx with | pv hx => cases hx with | int hw => exact ⟨_, by simp [convert, run_underlying hs, run_underlying hd, Conv.intToInt, wrap_wf hw], .int hw⟩
      · rename_i e2
        refine ⟨_, fun R' k' => by simp [xconv, hs, hd, e2], h, fun μ φ w x hx => ?_⟩
        cases hx with | pv hx => cases hx with | int hw => exact ⟨_, by simp [convert, run_underlying hs, run_underlying hd, Conv.intToInt], .int (wf_wrap _ _)⟩
    · cases h
  · rename_i hs hd
    refine ⟨_, fun R' k' => by simp [xconv, hs, hd], h, fun μ φ w x hx => ?_⟩
    cases hx with | pv hx => cases hx with | str hl => exact ⟨_, by simp [convert, run_underlying hs, run_underlying hd], .str hl⟩
  · cases h
theorem min2P_ok {a b : V} {k : PV → Option R} {r : R} (h : min2P a b k = some r) :
    ∃ q, (∀ (R' : Type) (k' : PV → Option R'), min2P a b k' = k' q) ∧ k q = some r ∧
    ∀ (P : Program) (μ : Ro) (φ : Nat → Phys) (w : World) (x y : Value), RepV P μ φ a x → RepV P μ φ b y → ∃ z, (Builtin.min2 x y).run P w = .ok z w ∧ RepPV P μ q z := by
  unfold min2P at h
  split at h
  · split at h
    · rename_i e; subst e
      refine ⟨_, fun R' k' => by simp [min2P], h, fun P μ φ w x y hx hy => ?_⟩
      cases hx with | pv hx => cases hx with | int h1 => cases hy with | pv hy => cases hy with | int h2 => exact ⟨_, rfl, by split <;> exact .int (by assumption)⟩
    · cases h
  · cases h
theorem max2P_ok {a b : V} {k : PV → Option R} {r : R} (h : max2P a b k = some r) :
    ∃ q, (∀ (R' : Type) (k' : PV → Option R'), max2P a b k' = k' q) ∧ k q = some r ∧
    ∀ (P : Program) (μ : Ro) (φ : Nat → Phys) (w : World) (x y : Value), RepV P μ φ a x → RepV P μ φ b y → ∃ z, (Builtin.max2 x y).run P w = .ok z w ∧ RepPV P μ q z := by
  unfold max2P at h
  split at h
  · split at h
    · rename_i e; subst e
      refine ⟨_, fun R' k' => by simp [max2P], h, fun P μ φ w x y hx hy => ?_⟩
      cases hx with | pv hx => cases hx with | int h1 => cases hy with | pv hy => cases hy with | int h2 => exact ⟨_, rfl, by split <;> exact .int (by assumption)⟩
    · cases h
  · cases h
theorem max4P_ok {a b c d : V} {k : PV → Option R} {r : R} (h : max4P a b c d k = some r) :
    ∃ q, (∀ (R' : Type) (k' : PV → Option R'), max4P a b c d k' = k' q) ∧ k q = some r ∧
    ∀ (P : Program) (μ : Ro) (φ : Nat → Phys) (w : World) (x y z u : Value), RepV P μ φ a x → RepV P μ φ b y → RepV P μ φ c z → RepV P μ φ d u →
      ∃ v1 v2 v3, (Builtin.max2 x y).run P w = .ok v1 w ∧ (Builtin.max2 v1 z).run P w = .ok v2 w ∧ (Builtin.max2 v2 u).run P w = .ok v3 w ∧ RepPV P μ q v3 := by
  unfold max4P at h
  obtain ⟨q1, a1, h, b1⟩ := max2P_ok h
  obtain ⟨q2, a2, h, b2⟩ := max2P_ok h
  obtain ⟨q3, a3, h, b3⟩ := max2P_ok h
  refine ⟨q3, fun R' k' => by unfold max4P; rw [a1, a2, a3], h, fun P μ φ w x y z u hx hy hz hu => ?_⟩
  obtain ⟨v1, c1, d1⟩ := b1 P μ φ w x y hx hy
  obtain ⟨v2, c2, d2⟩ := b2 P μ φ w v1 z (.pv d1) hz
  obtain ⟨v3, c3, d3⟩ := b3 P μ φ w v2 u (.pv d2) hu
  exact ⟨v1, v2, v3, c1, c2, c3, d3⟩
end
end Go.Ab

set_option linter.unusedVariables false
namespace Go.Ab
open Go.RowKit (Below)

section
variable {P : Program} {G : Nat → Option (List PV)} {w0 : Base} {μ μ' : Ro} {φ φ' : Nat → Phys} {m : Mem} {w w' : World}

@[simp] theorem memSet_same (m : Mem) (d : Nat) (b : Blk) : memSet m d b d = some b := by simp [memSet]
theorem memSet_ne {m : Mem} {d t : Nat} {b : Blk} (h : t ≠ d) : memSet m d b t = m t := by
  simp [memSet, cond_eq_ite, h]
@[simp] theorem memDel_same (m : Mem) (d : Nat) : memDel m d d = none := by simp [memDel]
theorem memDel_ne {m : Mem} {d t : Nat} (h : t ≠ d) : memDel m d t = m t := by
  simp [memDel, cond_eq_ite, h]
@[simp] theorem frSet_same (f : Fr) (d : Nat) (v : V) : frSet f d v d = v := by simp [frSet]
theorem frSet_ne {f : Fr} {d t : Nat} {v : V} (h : t ≠ d) : frSet f d v t = f t := by
  simp [frSet, cond_eq_ite, h]

theorem RepArr.stable {id sz : Nat} {et : TypeId} {es : List PV} (h : RepArr P μ φ w id sz et es) (hφ : φ' id = φ id) (hμ : ∀ b o, μ b = some o → μ' b = some o)
    (hw : ∀ g, (φ id).g = some g → w'.heap[g]? = w.heap[g]?) : RepArr P μ' φ' w' id sz et es := by
  obtain ⟨a1, a2, a3, a4, a5, a6, a7⟩ := h
  unfold RepArr
  rw [hφ]
  refine ⟨a1, a2, a3, a4, a5, a6, ?_⟩
  cases hg : (φ id).g with
  | none => rw [hg] at a7; exact a7
  | some g =>
    rw [hg] at a7
    obtain ⟨c, c1, c2, c3, c4, c5⟩ := a7
    exact ⟨c, by rw [hw g hg]; exact c1, c2, c3, fun i e j p x h1 h2 h3 => (c4 i e j p x h1 h2 h3).mono hμ, c5⟩

theorem RepRow.stable {R : Ph0} {s : Nat} {rs : List PV} {x : Value} (h : RepRow P μ R w s rs x) (hμ : ∀ b o, μ b = some o → μ' b = some o) (hw : ∀ g, R.g = some g → w'.heap[g]? = w.heap[g]?) : RepRow P μ' R w' s rs x :=
  let ⟨⟨et, hA⟩, hV⟩ := h
  ⟨⟨et, hA.stable rfl hμ hw⟩, hV.monoR hμ⟩
theorem RepCell.stable {R : Ph0} {p : PV} {x : Value} (h : RepCell P μ R w p x) (hμ : ∀ b o, μ b = some o → μ' b = some o) (hw : p.isRow = true → ∀ g, R.g = some g → w'.heap[g]? = w.heap[g]?) : RepCell P μ' R w' p x := by
  unfold RepCell at *
  split at h
  · exact RepRow.stable h hμ (hw rfl)
  · exact h.mono hμ
theorem rowAt_nest {sz : Nat} {et : TypeId} {es : List PV} {i j : Nat} {e p : PV} (he : es[i]? = some e) (hp : e.cells[j]? = some p) : (Blk.nest sz et es).rowAt i j = p.isRow := by simp [Blk.rowAt, he, hp]
theorem RepNest.stable {id sz : Nat} {et : TypeId} {es : List PV} (h : RepNest P μ φ w id sz et es) (hφ : φ' id = φ id) (hμ : ∀ b o, μ b = some o → μ' b = some o)
    (hw : ∀ g, (Blk.nest sz et es).owns (φ id) g → w'.heap[g]? = w.heap[g]?) : RepNest P μ' φ' w' id sz et es := by
  obtain ⟨a1, a2, a3, a4, a5, a6, a7⟩ := h
  unfold RepNest
  rw [hφ]
  refine ⟨a1, a2, a3, a4, a5, a6, ?_⟩
  cases hg : (φ id).g with
  | none => rw [hg] at a7; exact a7
  | some g =>
    rw [hg] at a7
    obtain ⟨c, c1, c2, c3, c4, c5⟩ := a7
    exact ⟨c, by rw [hw g (.inl hg)]; exact c1, c2, c3, fun i e j p x h1 h2 h3 => (c4 i e j p x h1 h2 h3).stable hμ fun hr g' hg' => hw g' (.inr ⟨i, j, by rw [rowAt_nest h1 h2]; exact hr, hg'⟩), c5⟩
theorem rowAt_mapN {kt e : TypeId} {es : List (PV × PV)} {i : Nat} {k v : PV} (he : es[i]? = some (k, v)) : (Blk.mapN kt e es).rowAt i 0 = v.isRow := by simp [Blk.rowAt, he]
theorem RepB.stable {id : Nat} {b : Blk} (h : RepB P μ φ w id b) (hn : ∀ j, b.names j = true → φ' j = φ j) (hφ : φ' id = φ id) (hμ : ∀ b o, μ b = some o → μ' b = some o)
    (hw : ∀ g, b.owns (φ id) g → w'.heap[g]? = w.heap[g]?) : RepB P μ' φ' w' id b := by
  cases b with
  | nest sz et es => exact RepNest.stable h hφ hμ hw
  | mapN kt e0 es =>
    obtain ⟨g, en, clock, kk, hg, hh, hs, hk, hc, hbo, hv⟩ := h
    refine ⟨g, en, clock, kk, by rw [hφ]; exact hg, by rw [hw g (.inl hg)]; exact hh, hs, hk, hc, hbo, fun i k v e h1 h2 => ⟨(hv i k v e h1 h2).1.mono hμ, ?_⟩⟩
    have h3 := (hv i k v e h1 h2).2
    rw [hφ]
    split at h3
    · exact ⟨h3.1.stable rfl hμ fun g' hg' => hw g' (.inr ⟨i, 0, by rw [rowAt_mapN h1]; rfl, hg'⟩), h3.2.monoR hμ⟩
    · exact h3.mono hμ
  | box cs =>
    obtain ⟨g, c, T, hg, hh, hs, hv, h1, hln⟩ := h
    exact ⟨g, c, T, by rw [hφ]; exact hg, by rw [hw g (.inl hg)]; exact hh, hs, fun i v x hi hx => (hv i v x hi hx).mono hμ (fun j hj => hn j (hasL_mem (List.mem_of_getElem? hi) hj)), h1, by rw [hφ]; exact hln⟩
  | arr sz et es => exact RepArr.stable h hφ hμ fun g hg => hw g (.inl hg)
  | fro sz et es =>
    refine ⟨RepArr.stable h.1 hφ hμ fun g hg => hw g (.inl hg), fun g hg => ?_⟩
    rw [hφ] at hg
    have := h.2 g hg
    obtain ⟨o, ho⟩ := Option.isSome_iff_exists.1 this
    rw [hμ _ _ ho]; rfl
  | map kt es =>
    obtain ⟨g, en, clock, kk, hg, hh, hs, hk, hc, hbo, hv⟩ := h
    exact ⟨g, en, clock, kk, by rw [hφ]; exact hg, by rw [hw g (.inl hg)]; exact hh, hs, hk, hc, hbo, fun i k v e h1 h2 => ⟨(hv i k v e h1 h2).1.mono hμ, (hv i k v e h1 h2).2.mono hμ⟩⟩
  | iter t es cur =>
    obtain ⟨g, mg, en, clock, seen, hg, hh, hmu, hbo, hln, hv, hcu⟩ := h
    exact ⟨g, mg, en, clock, seen, by rw [hφ]; exact hg, by rw [hw g (.inl hg)]; exact hh, hμ _ _ hmu, hbo, hln, fun i k v e h1 h2 => ⟨(hv i k v e h1 h2).1.mono hμ, (hv i k v e h1 h2).2.mono hμ⟩, fun k v hc => let ⟨i, e, h1, h2, h3, h4⟩ := hcu k v hc; ⟨i, e, h1, h2, h3.mono hμ, h4.mono hμ⟩⟩
  | loop st =>
    obtain ⟨g, rc, hg, hh⟩ := h
    exact ⟨g, rc, by rw [hφ]; exact hg, by rw [hw g (.inl hg)]; exact hh⟩

theorem RepRow.glt {R : Ph0} {s g : Nat} {rs : List PV} {x : Value} (h : RepRow P μ R w s rs x) (hg : R.g = some g) : g < w.heap.size := by
  obtain ⟨⟨et, _, _, _, _, _, _, a7⟩, _⟩ := h
  have hg' : R.up.g = some g := hg
  simp only [hg'] at a7
  obtain ⟨c, c1, _⟩ := a7
  exact (Array.getElem?_eq_some_iff.1 c1).1
theorem rowAt_of {b : Blk} {i off : Nat} (h : b.rowAt i off = true) : (∃ sz et es e s rs, b = .nest sz et es ∧ es[i]? = some e ∧ e.cells[off]? = some (.rsO s rs)) ∨ ∃ kt e0 es k s rs, b = .mapN kt e0 es ∧ off = 0 ∧ es[i]? = some (k, .rsO s rs) := by
  unfold Blk.rowAt at h
  split at h
  · rename_i sz et es i off
    split at h
    · rename_i e he
      split at h
      · rename_i p hp
        cases p <;> first | (cases h; done) | skip
        rename_i s rs
        exact .inl ⟨_, _, _, e, s, rs, rfl, he, hp⟩
      · cases h
    · cases h
  · rename_i kt e0 es i
    split at h
    · rename_i x hx
      obtain ⟨k, v⟩ := x
      cases v <;> first | (cases h; done) | skip
      rename_i s rs
      exact .inr ⟨_, _, _, k, s, rs, rfl, rfl, hx⟩
    · cases h
  · cases h
theorem RepB.rowLt {id g i off : Nat} {b : Blk} (h : RepB P μ φ w id b) (hr : b.rowAt i off = true) (hg : ((φ id).row i off).g = some g) : g < w.heap.size := by
  rcases rowAt_of hr with ⟨sz, et, es, e, s, rs, rfl, he, hp⟩ | ⟨kt, e0, es, k, s, rs, rfl, rfl, he⟩
  · have hN : RepNest P μ φ w id sz et es := h
    have hgg : ∃ g0, (φ id).g = some g0 := by
      cases hq : (φ id).g with
      | some g0 => exact ⟨g0, rfl⟩
      | none =>
        have a7 := hN.2.2.2.2.2.2
        rw [hq] at a7; rw [a7.1] at he; simp at he
    obtain ⟨g0, hg0⟩ := hgg
    obtain ⟨c, x, _, _, c3, _⟩ := hN.cell hg0 he hp
    exact RepRow.glt (show RepRow P μ _ w s rs x from c3) hg
  · obtain ⟨g0, en, clock, kk, hg0, hh, hs, hk, hc, hbo, hv⟩ := h
    have hi : i < en.size := by rw [hs]; exact (List.getElem?_eq_some_iff.1 he).1
    have h3 := (hv i k _ en[i] he (Array.getElem?_eq_getElem hi)).2
    exact RepRow.glt (P := P) (μ := μ) (R := (φ id).row i 0) (s := s) (rs := rs) (x := en[i].val) ⟨⟨_, h3.1⟩, h3.2⟩ hg
theorem RepB.glt {id g : Nat} {b : Blk} (h : RepB P μ φ w id b) (hg : b.owns (φ id) g) : g < w.heap.size := by
  rcases hg with hg | ⟨i, off, hr, hg⟩
  rotate_left
  · exact h.rowLt hr hg
  have key : ∀ o, w.heap[g]? = some o → g < w.heap.size := fun o ho => (Array.getElem?_eq_some_iff.1 ho).1
  cases b with
  | nest sz et es =>
    obtain ⟨_, _, _, _, _, _, a7⟩ := h
    rw [hg] at a7; obtain ⟨c, c1, _⟩ := a7; exact key _ c1
  | mapN kt e0 es =>
    obtain ⟨g', en, clock, kk, hg', hh, _⟩ := h
    rw [hg] at hg'; simp only [Option.some.injEq] at hg'; subst hg'
    exact key _ hh
  | box cs =>
    obtain ⟨g', c, T, hg', hh, _⟩ := h
    rw [hg] at hg'; simp only [Option.some.injEq] at hg'; subst hg'
    exact key _ hh
  | arr sz et es =>
    obtain ⟨_, _, _, _, _, _, a7⟩ := h
    rw [hg] at a7; obtain ⟨c, c1, _⟩ := a7; exact key _ c1
  | fro sz et es =>
    obtain ⟨⟨_, _, _, _, _, _, a7⟩, _⟩ := h
    rw [hg] at a7; obtain ⟨c, c1, _⟩ := a7; exact key _ c1
  | map kt es =>
    obtain ⟨g', en, clock, kk, hg', hh, _⟩ := h
    rw [hg] at hg'; simp only [Option.some.injEq] at hg'; subst hg'
    exact key _ hh
  | iter t es cur =>
    obtain ⟨g', mg, en, clock, seen, hg', hh, _⟩ := h
    rw [hg] at hg'; simp only [Option.some.injEq] at hg'; subst hg'
    exact key _ hh
  | loop st =>
    obtain ⟨g', rc, hg', hh⟩ := h
    rw [hg] at hg'; simp only [Option.some.injEq] at hg'; subst hg'
    exact key _ hh

theorem RelM.names_live (hM : RelM P G w0 μ φ m w) {j : Nat} {b : Blk} (hm : m j = some b) {id : Nat} (hn : b.names id = true) : (m id).isSome = true := by
  cases b with
  | box cs => exact hM.liveB j cs id hm hn
  | _ => simp [Blk.names] at hn

theorem hasL_kill {id j : Nat} {cs : List V} (h : hasL j (cs.map (killV id)) = true) : hasL j cs = true ∧ j ≠ id := by
  obtain ⟨v, hv, hh⟩ := hasL_iff.1 h
  obtain ⟨u, hu, rfl⟩ := List.mem_map.1 hv
  obtain ⟨h1, h2⟩ := has_kill hh
  exact ⟨hasL_mem hu h1, h2⟩
theorem RepB.kill {id j : Nat} {b : Blk} (h : RepB P μ φ w j b) : RepB P μ φ w j (killB id b) := by
  cases b with
  | box cs =>
    obtain ⟨g, c, T, hg, hh, hs, hv, h1, hln⟩ := h
    refine ⟨g, c, T, hg, hh, by simpa using hs, fun i v x hi hx => ?_, h1, by simpa using hln⟩
    simp only [List.getElem?_map, Option.map_eq_some_iff] at hi
    obtain ⟨u, hu, rfl⟩ := hi
    exact (hv i u x hu hx).kill id
  | _ => exact h
theorem rowAt_kill (id : Nat) (b : Blk) : (killB id b).rowAt = b.rowAt := by cases b <;> rfl
theorem owns_kill {id : Nat} {b : Blk} {p : Phys} {g : Nat} : (killB id b).owns p g ↔ b.owns p g := by unfold Blk.owns; rw [rowAt_kill]
theorem apart_kill {id : Nat} {b : Blk} {p : Phys} : (killB id b).apart p ↔ b.apart p := by unfold Blk.apart; rw [rowAt_kill]
theorem apart_of {b : Blk} {p : Phys} (h : ∀ i off, b.rowAt i off = true → False) : b.apart p := fun i off _ hr => (h i off hr).elim
theorem owns_of {b : Blk} {p : Phys} {g : Nat} (h : ∀ i off, b.rowAt i off = true → False) (ho : b.owns p g) : p.g = some g := by
  rcases ho with h1 | ⟨i, off, hr, _⟩
  · exact h1
  · exact (h i off hr).elim
theorem killM_some {id j : Nat} {b : Blk} (h : killM id m j = some b) : ∃ b', m j = some b' ∧ b = killB id b' := by
  unfold killM at h
  cases hm : m j with
  | none => rw [hm] at h; cases h
  | some b' => rw [hm] at h; simp only [Option.some.injEq] at h; exact ⟨b', rfl, h.symm⟩
theorem killB_mut (id : Nat) (b : Blk) : (killB id b).mutable = b.mutable := by cases b <;> rfl
theorem RelM.forget (hM : RelM P G w0 μ φ m w) (id : Nat) : RelM P G w0 μ φ (memDel (killM id m) id) w := by
  have key : ∀ j b, memDel (killM id m) id j = some b → j ≠ id ∧ ∃ b', m j = some b' ∧ b = killB id b' := by
    intro j b h
    by_cases e : j = id
    · subst e; simp at h
    · rw [memDel_ne e] at h; exact ⟨e, killM_some h⟩
  refine ⟨hM.below, hM.ro, hM.glob, fun j b h => ?_, fun j b g h hg => ?_, fun i j b1 b2 g h1 h2 g1 g2 => ?_, fun j b h => ?_, fun j cs i h hh => ?_, hM.base, hM.keep, fun j st h => ?_⟩
  rotate_right
  · obtain ⟨_, b', hb, e⟩ := key j _ h
    cases b' with
    | loop st' =>
      simp only [killB, Blk.loop.injEq] at e; subst e
      exact hM.lps j st hb
    | _ => simp [killB] at e
  · obtain ⟨_, b', hb, rfl⟩ := key j b h; exact (hM.blk j b' hb).kill
  · obtain ⟨_, b', hb, rfl⟩ := key j b h; rw [killB_mut]; exact hM.own j b' g hb (owns_kill.1 hg)
  · obtain ⟨_, b1', hb1, rfl⟩ := key i b1 h1
    obtain ⟨_, b2', hb2, rfl⟩ := key j b2 h2
    exact hM.inj i j b1' b2' g hb1 hb2 (owns_kill.1 g1) (owns_kill.1 g2)
  · obtain ⟨_, b', hb, rfl⟩ := key j b h; exact apart_kill.2 (hM.apart j b' hb)
  · obtain ⟨_, b', hb, e⟩ := key j _ h
    cases b' with
    | box cs' =>
      simp only [killB, Blk.box.injEq] at e; subst e
      obtain ⟨h1, h2⟩ := hasL_kill hh
      have := hM.liveB j cs' i hb h1
      rw [memDel_ne h2]
      obtain ⟨bb, hbb⟩ := Option.isSome_iff_exists.1 this
      simp [killM, hbb]
    | _ => simp [killB] at e
theorem memSet_forget (m : Mem) (id : Nat) (b : Blk) : memSet (memDel m id) id b = memSet m id b := by
  funext t
  by_cases h : t = id
  · subst h; simp
  · rw [memSet_ne h, memSet_ne h, memDel_ne h]

theorem owns_sub {b b' : Blk} {p : Phys} {g : Nat} (hro : ∀ i off, b'.rowAt i off = true → b.rowAt i off = true) (h : b'.owns p g) : b.owns p g := by
  rcases h with h | ⟨i, off, hr, h⟩
  · exact .inl h
  · exact .inr ⟨i, off, hro i off hr, h⟩
theorem apart_sub {b b' : Blk} {p : Phys} (hro : ∀ i off, b'.rowAt i off = true → b.rowAt i off = true) (h : b.apart p) : b'.apart p := fun i off g hr hg =>
  let ⟨h1, h2⟩ := h i off g (hro i off hr) hg
  ⟨h1, fun i' off' hr' hg' => h2 i' off' (hro i' off' hr') hg'⟩
theorem RelM.writeO (hM : RelM P G w0 μ φ m w) {id g : Nat} {b b' : Blk} (hm : m id = some b) (hmut : b.mutable = true) (hg : b.owns (φ id) g)
    (hbel : Bel g w w') (hsize : w'.heap.size = w.heap.size) (hw : ∀ k, k ≠ g → w'.heap[k]? = w.heap[k]?) (hB : RepB P μ φ w' id b') (hmut' : b'.mutable = true) (hn : ∀ j, b'.names j = true → (m j).isSome = true)
    (hro : ∀ i off, b'.rowAt i off = true → b.rowAt i off = true)
    (hlp : ∀ st, b' = .loop st → ∃ rc, (φ id).g = some g ∧ w0.rc id = some (g, rc) ∧ w'.heap[g]? = some (.loop (st.obj rc)) := by intro st h; cases h) :
    RelM P G w0 μ φ (memSet m id b') w' := by
  obtain ⟨hown, hμ⟩ := hM.own id b g hm hg
  have hμ := hμ hmut
  refine ⟨hM.below.trans (hbel.mono hown), fun k o hk => ?_, hM.glob, fun j c hj => ?_, fun j c g' hj hg' => ?_, fun i j b1 b2 g' h1 h2 g1 g2 => ?_, fun j c hj => ?_, fun j cs i hj hh => ?_, hM.base, hM.keep, fun j st hj => ?_⟩
  rotate_right
  · by_cases e : j = id
    · subst e; rw [memSet_same] at hj; simp only [Option.some.injEq] at hj
      obtain ⟨rc, h0, h1, h2⟩ := hlp st hj
      exact ⟨g, rc, h0, h1, h2⟩
    · rw [memSet_ne e] at hj
      obtain ⟨g', rc, h1, h2, h3⟩ := hM.lps j st hj
      exact ⟨g', rc, h1, h2, by rw [hw g' (fun e' => by subst e'; exact e (hM.inj j id _ b g' hj hm (.inl h1) hg))]; exact h3⟩
  · have : k ≠ g := fun e => by subst e; rw [hμ] at hk; cases hk
    rw [hw k this]; exact hM.ro k o hk
  · by_cases e : j = id
    · subst e; rw [memSet_same] at hj; simp only [Option.some.injEq] at hj; subst hj; exact hB
    · rw [memSet_ne e] at hj
      refine (hM.blk j c hj).stable (fun _ _ => rfl) rfl (fun _ _ h => h) (fun g' hg' => hw g' (fun e' => ?_))
      subst e'
      exact e (hM.inj j id c b g' hj hm hg' hg)
  · by_cases e : j = id
    · subst e; rw [memSet_same] at hj; simp only [Option.some.injEq] at hj; subst hj
      obtain ⟨h1, h2⟩ := hM.own j b g' hm (owns_sub hro hg')
      exact ⟨h1, fun _ => h2 hmut⟩
    · rw [memSet_ne e] at hj; exact hM.own j c g' hj hg'
  · have e1 : ∃ c1, m i = some c1 ∧ c1.owns (φ i) g' := by
      by_cases e : i = id
      · subst e; rw [memSet_same] at h1; simp only [Option.some.injEq] at h1; subst h1; exact ⟨b, hm, owns_sub hro g1⟩
      · rw [memSet_ne e] at h1; exact ⟨b1, h1, g1⟩
    have e2 : ∃ c2, m j = some c2 ∧ c2.owns (φ j) g' := by
      by_cases e : j = id
      · subst e; rw [memSet_same] at h2; simp only [Option.some.injEq] at h2; subst h2; exact ⟨b, hm, owns_sub hro g2⟩
      · rw [memSet_ne e] at h2; exact ⟨b2, h2, g2⟩
    obtain ⟨c1, e1, o1⟩ := e1; obtain ⟨c2, e2, o2⟩ := e2
    exact hM.inj i j c1 c2 g' e1 e2 o1 o2
  · by_cases e : j = id
    · subst e; rw [memSet_same] at hj; simp only [Option.some.injEq] at hj; subst hj; exact apart_sub hro (hM.apart j b hm)
    · rw [memSet_ne e] at hj; exact hM.apart j c hj
  · have : (m i).isSome = true := by
      by_cases e : j = id
      · subst e; rw [memSet_same] at hj; simp only [Option.some.injEq] at hj; subst hj; exact hn i hh
      · rw [memSet_ne e] at hj; exact hM.liveB j cs i hj hh
    by_cases e : i = id
    · subst e; simp
    · rw [memSet_ne e]; exact this
theorem RelM.write (hM : RelM P G w0 μ φ m w) {id g : Nat} {b b' : Blk} (hm : m id = some b) (hmut : b.mutable = true) (hg : (φ id).g = some g)
    (hbel : Bel g w w') (hsize : w'.heap.size = w.heap.size) (hw : ∀ k, k ≠ g → w'.heap[k]? = w.heap[k]?) (hB : RepB P μ φ w' id b') (hmut' : b'.mutable = true) (hn : ∀ j, b'.names j = true → (m j).isSome = true)
    (hlp : ∀ st, b' = .loop st → ∃ rc, w0.rc id = some (g, rc) ∧ w'.heap[g]? = some (.loop (st.obj rc)) := by intro st h; cases h)
    (hro : ∀ i off, b'.rowAt i off = true → b.rowAt i off = true := by intro i off h; simp [Blk.rowAt] at h) :
    RelM P G w0 μ φ (memSet m id b') w' :=
  hM.writeO hm hmut (.inl hg) hbel hsize hw hB hmut' hn hro fun st h => let ⟨rc, h1, h2⟩ := hlp st h; ⟨rc, hg, h1, h2⟩
def roAdd (μ : Ro) (w : World) (g : Option Nat) : Ro := fun b => if g = some b then w.heap[b]? else μ b
theorem roAdd_mono (hM : RelM P G w0 μ φ m w) (g : Option Nat) : ∀ b o, μ b = some o → roAdd μ w g b = some o := by
  intro b o hb
  unfold roAdd
  split
  · exact hM.ro b o hb
  · exact hb
noncomputable def roSet (μ : Ro) (w : World) (S : Nat → Prop) : Ro := fun b => @ite _ (S b) (Classical.propDecidable _) (w.heap[b]?) (μ b)
theorem roSet_mono (hM : RelM P G w0 μ φ m w) (S : Nat → Prop) : ∀ b o, μ b = some o → roSet μ w S b = some o := by
  intro b o hb
  unfold roSet
  split
  · exact hM.ro b o hb
  · exact hb
theorem RelM.freezeO (hM : RelM P G w0 μ φ m w) {id sz : Nat} {et : TypeId} {b : Blk} {es : List PV} (hm : m id = some b) (hlp : ∀ st, b ≠ .loop st)
    (hA : RepArr P (roSet μ w (b.owns (φ id))) φ w id sz et es) : RelM P G w0 (roSet μ w (b.owns (φ id))) φ (memSet m id (.fro sz et es)) w := by
  have mono := roSet_mono hM (b.owns (φ id))
  have norow : ∀ i off, (Blk.fro sz et es).rowAt i off = true → False := fun i off h => by simp [Blk.rowAt] at h
  refine ⟨hM.below, fun k o hb => ?_, fun g cs hg => (hM.glob g cs hg).mono mono, fun j c hj => ?_, fun j c g' hj hg' => ?_, fun i j b1 b2 g' h1 h2 g1 g2 => ?_, fun j c hj => ?_, fun j cs i hj hh => ?_, fun k o hb hlt => ?_, fun b o hb => mono b o (hM.keep b o hb), fun j st hj => ?_⟩
  rotate_right
  · by_cases e : j = id
    · subst e; rw [memSet_same] at hj; cases hj
    · rw [memSet_ne e] at hj; exact hM.lps j st hj
  rotate_right
  · unfold roSet at hb
    split at hb
    · rename_i he; have := (hM.own id b k hm he).1; omega
    · exact hM.base k o hb hlt
  · unfold roSet at hb
    split at hb
    · exact hb
    · exact hM.ro k o hb
  · by_cases e : j = id
    · subst e; rw [memSet_same] at hj; simp only [Option.some.injEq] at hj; subst hj
      refine ⟨hA, fun g hg => ?_⟩
      have := RepB.glt (b := .arr sz et es) hA (.inl hg)
      unfold roSet
      rw [if_pos (show b.owns (φ j) g from .inl hg)]
      simp [this]
    · rw [memSet_ne e] at hj
      exact (hM.blk j c hj).stable (fun _ _ => rfl) rfl mono (fun _ _ => rfl)
  · by_cases e : j = id
    · subst e; rw [memSet_same] at hj; simp only [Option.some.injEq] at hj; subst hj
      exact ⟨(hM.own j b g' hm (.inl (owns_of norow hg'))).1, by simp [Blk.mutable]⟩
    · rw [memSet_ne e] at hj
      obtain ⟨h1, h2⟩ := hM.own j c g' hj hg'
      refine ⟨h1, fun hmu => ?_⟩
      unfold roSet
      split
      · rename_i he
        exact absurd (hM.inj j id c _ g' hj hm hg' he) e
      · exact h2 hmu
  · have e1 : ∃ c1, m i = some c1 ∧ c1.owns (φ i) g' := by
      by_cases e : i = id
      · subst e; rw [memSet_same] at h1; simp only [Option.some.injEq] at h1; subst h1; exact ⟨b, hm, .inl (owns_of norow g1)⟩
      · rw [memSet_ne e] at h1; exact ⟨b1, h1, g1⟩
    have e2 : ∃ c2, m j = some c2 ∧ c2.owns (φ j) g' := by
      by_cases e : j = id
      · subst e; rw [memSet_same] at h2; simp only [Option.some.injEq] at h2; subst h2; exact ⟨b, hm, .inl (owns_of norow g2)⟩
      · rw [memSet_ne e] at h2; exact ⟨b2, h2, g2⟩
    obtain ⟨c1, e1, o1⟩ := e1; obtain ⟨c2, e2, o2⟩ := e2
    exact hM.inj i j c1 c2 g' e1 e2 o1 o2
  · by_cases e : j = id
    · subst e; rw [memSet_same] at hj; simp only [Option.some.injEq] at hj; subst hj; exact apart_of norow
    · rw [memSet_ne e] at hj; exact hM.apart j c hj
  · have : (m i).isSome = true := by
      by_cases e : j = id
      · subst e; rw [memSet_same] at hj; simp at hj
      · rw [memSet_ne e] at hj; exact hM.liveB j cs i hj hh
    by_cases e : i = id
    · subst e; simp
    · rw [memSet_ne e]; exact this
theorem arr_norow {sz : Nat} {et : TypeId} {es : List PV} : ∀ i off, (Blk.arr sz et es).rowAt i off = true → False := fun i off h => by simp [Blk.rowAt] at h
theorem RelM.freeze (hM : RelM P G w0 μ φ m w) {id sz : Nat} {et : TypeId} {es : List PV} (hm : m id = some (.arr sz et es)) :
    RelM P G w0 (roAdd μ w (φ id).g) φ (memSet m id (.fro sz et es)) w := by
  have e : roSet μ w ((Blk.arr sz et es).owns (φ id)) = roAdd μ w (φ id).g := by
    funext b
    unfold roSet roAdd
    by_cases h : (φ id).g = some b
    · rw [if_pos h, if_pos (show (Blk.arr sz et es).owns (φ id) b from .inl h)]
    · rw [if_neg h, if_neg fun ho => h (owns_of arr_norow ho)]
  have := hM.freezeO (sz := sz) (et := et) (es := es) hm (fun st h => by cases h) (RepArr.stable (hM.blk id _ hm) rfl (roSet_mono hM _) (fun _ _ => rfl))
  rwa [e] at this
theorem RelM.freezeN (hM : RelM P G w0 μ φ m w) {id sz : Nat} {et : TypeId} {es : List PV} (hm : m id = some (.nest sz et es)) :
    RelM P G w0 (roSet μ w ((Blk.nest sz et es).owns (φ id))) φ (memSet m id (.fro sz et (es.map PV.strip))) w := by
  have hN : RepNest P μ φ w id sz et es := hM.blk id _ hm
  refine hM.freezeO hm (fun st h => by cases h) (hN.strip (roSet_mono hM _) fun i off g hr hg => ?_)
  unfold roSet
  rw [if_pos (show (Blk.nest sz et es).owns (φ id) g from .inr ⟨i, off, hr, hg⟩)]
def roFresh (μ : Ro) (w w' : World) : Ro := fun b => if b < w.heap.size then μ b else w'.heap[b]?
theorem roFresh_mono (hM : RelM P G w0 μ φ m w) (w' : World) : ∀ b o, μ b = some o → roFresh μ w w' b = some o := by
  intro b o hb
  have := (Array.getElem?_eq_some_iff.1 (hM.ro b o hb)).1
  simp [roFresh, this, hb]
theorem RelM.called (hM : RelM P G w0 μ φ m w) (hb : Bel w.heap.size w w') : RelM P G w0 (roFresh μ w w') φ m w' := by
  have mono := roFresh_mono hM w'
  refine ⟨hM.below.trans (hb.mono hM.below.size), fun b o h => ?_, fun g cs hg => (hM.glob g cs hg).mono mono, fun id b h => ?_, fun id b g h hg => ?_, hM.inj, hM.apart, hM.liveB, fun b o h hlt => ?_, fun b o hb => mono b o (hM.keep b o hb), fun j st hj => ?_⟩
  rotate_right
  · obtain ⟨g, rc, h1, h2, h3⟩ := hM.lps j st hj
    exact ⟨g, rc, h1, h2, by rw [hb.block g (Array.getElem?_eq_some_iff.1 h3).1]; exact h3⟩
  rotate_right
  · have : w0.heap.size ≤ w.heap.size := hM.below.size; unfold roFresh at h; rw [if_pos (by omega)] at h; exact hM.base b o h hlt
  · unfold roFresh at h
    split at h
    · rename_i hlt; rw [hb.block b hlt]; exact hM.ro b o h
    · exact h
  · have hR := hM.blk id b h
    exact hR.stable (fun _ _ => rfl) rfl mono (fun g hg => hb.block g (hR.glt hg))
  · obtain ⟨h1, h2⟩ := hM.own id b g h hg
    refine ⟨h1, fun hm => ?_⟩
    have := (hM.blk id b h).glt hg
    simp [roFresh, this, h2 hm]
def roBut (μ : Ro) (g : Option Nat) : Ro := fun b => if g = some b then none else μ b
theorem roBut_le {μ : Ro} {g : Option Nat} {b : Nat} {o : Obj} (h : roBut μ g b = some o) : μ b = some o := by
  unfold roBut at h
  split at h
  · cases h
  · exact h
theorem roBut_mono (hM : RelM P G w0 μ φ m w) (w' : World) {g : Option Nat} (hg : ∀ b, g = some b → w.heap.size ≤ b) : ∀ b o, μ b = some o → roBut (roFresh μ w w') g b = some o := by
  intro b o hb
  have hlt := (Array.getElem?_eq_some_iff.1 (hM.ro b o hb)).1
  unfold roBut
  rw [if_neg fun e => by have := hg b e; omega]
  exact roFresh_mono hM w' b o hb
theorem RelM.calledBut (hM : RelM P G w0 μ φ m w) (hb : Bel w.heap.size w w') {go : Option Nat} (hgo : ∀ b, go = some b → w.heap.size ≤ b) : RelM P G w0 (roBut (roFresh μ w w') go) φ m w' := by
  have mono := roBut_mono hM w' hgo
  have hC := hM.called hb
  refine ⟨hC.below, fun b o h => hC.ro b o (roBut_le h), fun g cs hg => (hM.glob g cs hg).mono mono, fun id b h => ?_, fun id b g h hg => ?_, hM.inj, hM.apart, hM.liveB, fun b o h hlt => hC.base b o (roBut_le h) hlt, fun b o hb => mono b o (hM.keep b o hb), hC.lps⟩
  · have hR := hM.blk id b h
    exact hR.stable (fun _ _ => rfl) rfl mono (fun g hg => hb.block g (hR.glt hg))
  · obtain ⟨h1, h2⟩ := hC.own id b g h hg
    refine ⟨h1, fun hm => ?_⟩
    unfold roBut
    split
    · rfl
    · exact h2 hm
theorem RelM.drew (hM : RelM P G w0 μ φ m w) : RelM P G w0 μ φ m w.drew :=
  ⟨hM.below.drew, hM.ro, hM.glob, fun id b h => (hM.blk id b h).stable (fun _ _ => rfl) rfl (fun _ _ h => h) (fun _ _ => rfl), hM.own, hM.inj, hM.apart, hM.liveB, hM.base, hM.keep, hM.lps⟩
end
end Go.Ab
