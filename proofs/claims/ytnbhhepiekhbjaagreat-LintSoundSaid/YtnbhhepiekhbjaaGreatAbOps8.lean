/- The abstract operations are right, eighth part: rows of elements: 'append', 'copy', 'make', slice literals. -/
import Derived.Test.YtnbhhepiekhbjaaGreatAbOps7
import Derived.Laws.MakeOwn
set_option linter.unusedVariables false
namespace Go.Ab
open Go.RowKit (Below)
structure Cells (P : Program) (μ : Ro) (sz : Nat) (es : List PV) (xs : List Value) : Prop where
  len : xs.length = es.length * sz
  each : ∀ (i : Nat) e, es[i]? = some e → e.cells.length = sz
  rep : ∀ (i : Nat) e (j : Nat) p y, es[i]? = some e → e.cells[j]? = some p → xs[i * sz + j]? = some y → RepPV P μ p y
  one : ∀ (i : Nat) y, xs[i]? = some y → y.oneCell' = true

section
variable {P : Program} {μ μ' : Ro} {φ : Nat → Phys} {w : World} {sz : Nat} {es es' : List PV} {xs xs' : List Value}

theorem Cells.nil : Cells P μ sz [] [] := ⟨by simp, by simp, by simp, by simp⟩
theorem Cells.mono (h : Cells P μ sz es xs) (hμ : ∀ b o, μ b = some o → μ' b = some o) : Cells P μ' sz es xs :=
  ⟨h.len, h.each, fun i e j p y h1 h2 h3 => (h.rep i e j p y h1 h2 h3).mono hμ, h.one⟩
theorem idx_lt {i j n : Nat} (hi : i < n) (hj : j < sz) : i * sz + j < n * sz := by
  have : (i + 1) * sz ≤ n * sz := Nat.mul_le_mul_right _ hi
  rw [Nat.add_mul] at this; omega
theorem Cells.append (h : Cells P μ sz es xs) (h' : Cells P μ sz es' xs') : Cells P μ sz (es ++ es') (xs ++ xs') := by
  refine ⟨by simp [h.len, h'.len, Nat.add_mul], fun i e hi => ?_, fun i e j p y hi hj hy => ?_, fun i y hy => ?_⟩
  · rw [List.getElem?_append] at hi
    split at hi
    · exact h.each i e hi
    · exact h'.each _ e hi
  · rw [List.getElem?_append] at hi hy
    split at hi
    · rename_i hl
      have hjl : j < sz := by rw [← h.each i e hi]; exact (List.getElem?_eq_some_iff.1 hj).1
      rw [if_pos (by rw [h.len]; exact idx_lt hl hjl)] at hy
      exact h.rep i e j p y hi hj hy
    · rename_i hl
      have hle : es.length * sz ≤ i * sz := Nat.mul_le_mul_right _ (by omega)
      rw [if_neg (by rw [h.len]; omega)] at hy
      refine h'.rep _ e j p y hi hj ?_
      rw [← hy, h.len, Nat.sub_mul]; congr 1; omega
  · rw [List.getElem?_append] at hy
    split at hy
    · exact h.one i y hy
    · exact h'.one _ y hy
theorem Cells.take (h : Cells P μ sz es xs) (n : Nat) : Cells P μ sz (es.take n) (xs.take (n * sz)) := by
  refine ⟨?_, fun i e hi => h.each i e (take_get hi).2, fun i e j p y hi hj hy => h.rep i e j p y (take_get hi).2 hj (take_get hy).2, fun i y hy => h.one i y (take_get hy).2⟩
  rw [List.length_take, List.length_take, h.len]
  rcases Nat.le_total n es.length with hn | hn
  · rw [Nat.min_eq_left hn, Nat.min_eq_left (Nat.mul_le_mul_right _ hn)]
  · rw [Nat.min_eq_right hn, Nat.min_eq_right (Nat.mul_le_mul_right _ hn)]
theorem Cells.drop (h : Cells P μ sz es xs) (n : Nat) : Cells P μ sz (es.drop n) (xs.drop (n * sz)) := by
  refine ⟨by simp [h.len, Nat.sub_mul], fun i e hi => h.each _ e (drop_get hi), fun i e j p y hi hj hy => h.rep _ e j p y (drop_get hi) hj ?_, fun i y hy => h.one _ y (drop_get hy)⟩
  rw [← drop_get hy, Nat.add_mul]; congr 1; omega

theorem RepArr.cells {id : Nat} {et : TypeId} (hA : RepArr P μ φ w id sz et es) {g : Nat} (hg : (φ id).g = some g) :
    ∃ c : Array Value, w.heap[g]? = some (.cells c et (0, 0)) ∧ c.size = (φ id).cap * sz ∧ es.length ≤ (φ id).cap ∧ es.length * sz ≤ c.size ∧ Cells P μ sz es (c.toList.take (es.length * sz)) := by
  obtain ⟨a1, a2, a3, a4, a5, a6, a7⟩ := hA
  rw [hg] at a7
  obtain ⟨c, c1, c2, c3, c4, c5⟩ := a7
  have hle : es.length * sz ≤ c.size := by rw [c2]; exact Nat.mul_le_mul_right _ c3
  refine ⟨c, c1, c2, c3, hle, by simp; omega, a5, fun i e j p y hi hj hy => ?_, fun i y hy => ?_⟩
  · exact c4 i e j p y hi hj (by simpa using (take_get hy).2)
  · have := take_get hy
    exact c5 i y this.1 (by simpa using this.2)
theorem RepArr.of_cells {id g : Nat} {et : TypeId} {c : Array Value} (hph : φ id = ⟨some g, (φ id).cap, es.length, sz⟩) (hsz : sz = csz P et) (hpos : 0 < sz) (hcap : (φ id).cap ≤ maxLen)
    (hh : w.heap[g]? = some (.cells c et (0, 0))) (hc : c.size = (φ id).cap * sz) (hle : es.length ≤ (φ id).cap) (hC : Cells P μ sz es (c.toList.take (es.length * sz))) : RepArr P μ φ w id sz et es := by
  have e1 : (φ id).g = some g := by rw [hph]
  refine ⟨by rw [hph], by rw [hph], hsz, hpos, hC.each, hcap, ?_⟩
  rw [e1]
  have hjl : ∀ (i : Nat) e (j : Nat) p, es[i]? = some e → e.cells[j]? = some p → i * sz + j < es.length * sz := fun i e j p hi hj =>
    idx_lt (List.getElem?_eq_some_iff.1 hi).1 (by rw [← hC.each i e hi]; exact (List.getElem?_eq_some_iff.1 hj).1)
  refine ⟨c, hh, hc, hle, fun i e j p x hi hj hx => ?_, fun i x hi hx => ?_⟩
  · exact hC.rep i e j p x hi hj (by rw [List.getElem?_take_of_lt (hjl i e j p hi hj)]; simpa using hx)
  · exact hC.one i x (by rw [List.getElem?_take_of_lt hi]; simpa using hx)
inductive SrcOk (P : Program) (μ : Ro) (w : World) (sz : Nat) (es : List PV) : Value → Prop
  | none : es = [] → SrcOk P μ w sz es (.slice none 0 0)
  | some {a : Addr} {c : Nat} (xs : List Value) : Cells P μ sz es xs → (∀ (j : Nat) v, xs[j]? = some v → w.cell? (a.add j) = some v) → es.length ≤ c → c ≤ maxLen → SrcOk P μ w sz es (.slice (some a) es.length c)

theorem RepArr.src {id : Nat} {et : TypeId} (hA : RepArr P μ φ w id sz et es) {g : Nat} (hg : (φ id).g = some g) {lo len : Nat} (hl : lo + len ≤ es.length) :
    SrcOk P μ w sz ((es.drop lo).take len) (.slice (some ⟨g, lo * sz, none⟩) len ((φ id).cap - lo)) := by
  obtain ⟨c, c1, c2, c3, c4, c5⟩ := hA.cells hg
  have hcap := hA.lenLe
  have hlen : ((es.drop lo).take len).length = len := by simp; omega
  have := SrcOk.some (P := P) (μ := μ) (w := w) (sz := sz) (es := (es.drop lo).take len) (a := ⟨g, lo * sz, none⟩) (c := (φ id).cap - lo) _ ((c5.drop lo).take len) (fun j v hv => ?_) (by omega) (by omega)
  · rw [hlen] at this; exact this
  · have h1 := (take_get hv).2
    have h2 := (take_get (drop_get h1)).2
    rw [Addr.add_mid, cell?_of_heap c1]; simpa using h2
end

section
variable {R : Type} {E : Env}
theorem RepPV.src {P : Program} {G : Nat → Option (List PV)} {w0 : Base} {μ : Ro} {φ : Nat → Phys} {m : Mem} {w : World} {sz : Nat} {es : List PV} {y : Value} (hM : RelM P G w0 μ φ m w) (h : RepPV P μ (.rs sz es) y) : SrcOk P μ w sz es y := by
  cases h with
  | rsNil => exact .none rfl
  | rsE hc => exact .some (es := []) [] .nil (by simp) (by simp) hc
  | @rs _ _ b o cap X h1 h2 h3 h4 h5 h6 =>
    by_cases hz : sz = 0
    · subst hz
      refine .some [] ⟨by simp, h3, fun i e j p y hi hj => ?_, by simp⟩ (by simp) h1 h2
      have := h3 i e hi; have := (List.getElem?_eq_some_iff.1 hj).1; omega
    · have hget : ∀ k v, ((List.range (es.length * sz)).map fun k => X (k / sz) (k % sz))[k]? = some v → ∃ (e : PV) (p : PV), es[k / sz]? = some e ∧ e.cells[k % sz]? = some p ∧ v = X (k / sz) (k % sz) := by
        intro k v hk
        have hlt : k < es.length * sz := by have := (List.getElem?_eq_some_iff.1 hk).1; simpa using this
        rw [List.getElem?_map, List.getElem?_range hlt] at hk
        simp at hk
        have hi : k / sz < es.length := (Nat.div_lt_iff_lt_mul (by omega)).2 hlt
        have hj : k % sz < (es[k / sz]).cells.length := by rw [h3 _ _ (List.getElem?_eq_getElem hi)]; exact Nat.mod_lt _ (by omega)
        exact ⟨_, _, List.getElem?_eq_getElem hi, List.getElem?_eq_getElem hj, hk.symm⟩
      refine .some ((List.range (es.length * sz)).map fun k => X (k / sz) (k % sz)) ⟨by simp, h3, fun i e j p y hi hj hy => ?_, fun k v hk => ?_⟩ (fun k v hk => ?_) h1 h2
      · obtain ⟨e', p', he, hp, rfl⟩ := hget _ _ hy
        have hjl : j < sz := by rw [← h3 i e hi]; exact (List.getElem?_eq_some_iff.1 hj).1
        have e1 : (i * sz + j) / sz = i := by rw [Nat.mul_comm, Nat.mul_add_div (by omega), Nat.div_eq_of_lt hjl]; rfl
        have e2 : (i * sz + j) % sz = j := by rw [Nat.mul_comm, Nat.mul_add_mod, Nat.mod_eq_of_lt hjl]
        rw [e1, e2]
        exact h5 i e j p hi hj
      · obtain ⟨e', p', he, hp, rfl⟩ := hget _ _ hk
        exact h6 _ e' _ p' he hp
      · obtain ⟨e', p', he, hp, rfl⟩ := hget _ _ hk
        rw [Addr.add_mid]
        have := hM.cellAt (h4 _ e' _ p' he hp)
        rw [← this]; congr 2
        rw [Nat.add_assoc, Nat.div_add_mod' k sz]

theorem elemsV_ok {m : Mem} {sz : Nat} {x : V} {es : List PV} {ft : Foot} (h : elemsV m sz x = some (es, ft)) : (∀ m2 : Mem, (∀ x ∈ ft, m2 x.2 = m x.2) → elemsV m2 sz x = some (es, ft)) ∧ (∀ x ∈ ft, x.1 = false) ∧
    ∀ (P : Program) (G : Nat → Option (List PV)) (w0 : Base) (μ : Ro) (φ : Nat → Phys) (w : World) (y : Value), RelM P G w0 μ φ m w → RepV P μ φ x y → SrcOk P μ w sz es y := by
  unfold elemsV at h
  split at h
  · rename_i s es'
    split at h
    · rename_i hs
      simp only [Option.some.injEq, Prod.mk.injEq] at h; obtain ⟨rfl, rfl⟩ := h; subst hs
      exact ⟨fun m2 _ => by simp [elemsV], by simp, fun P G w0 μ φ w y hM hy => by cases hy with | pv hy => exact hy.src hM⟩
    · split at h
      · simp only [Option.some.injEq, Prod.mk.injEq] at h; obtain ⟨rfl, rfl⟩ := h
        refine ⟨fun m2 _ => by simp [elemsV], by simp, fun P G w0 μ φ w y hM hy => ?_⟩
        cases hy with
        | pv hy => cases hy with
          | rsNil => exact .none rfl
          | rsE hc => exact .some (es := []) [] .nil (by simp) (by simp) hc
          | rs X h1 h2 => exact .some (es := []) [] .nil (by simp) h1 h2
      · cases h
  · simp only [Option.some.injEq, Prod.mk.injEq] at h; obtain ⟨rfl, rfl⟩ := h
    exact ⟨fun m2 _ => by simp [elemsV], by simp, fun P G w0 μ φ w y hM hy => by cases hy; exact .none rfl⟩
  · rename_i id
    have key : ∀ (s : Nat) (et : TypeId) (es : List PV), (m id = some (.arr s et es) ∨ m id = some (.fro s et es)) → ∀ (P : Program) (G : Nat → Option (List PV)) (w0 : Base) (μ : Ro) (φ : Nat → Phys) (w : World) (y : Value), RelM P G w0 μ φ m w → RepV P μ φ (.os id) y → SrcOk P μ w s es y := by
      intro s et es hm P G w0 μ φ w y hM hy
      have hA := hM.arr hm
      cases hy with
      | osN hg =>
        obtain ⟨a1, a2, a3, a4, a5, a6, a7⟩ := hA
        rw [hg] at a7; exact .none a7.1
      | os hg =>
        have := hA.src hg (lo := 0) (len := es.length) (by omega)
        rw [hA.1]; simpa using this
    split at h
    · rename_i s' et es' hm
      split at h
      · rename_i hs
        simp only [Option.some.injEq, Prod.mk.injEq] at h; obtain ⟨rfl, rfl⟩ := h; subst hs
        exact ⟨fun m2 hm2 => by have := hm2 (false, id) (by simp); simp only at this; simp [elemsV, this, hm], by simp, key _ _ _ (.inl hm)⟩
      · cases h
    · rename_i s' et es' hm
      split at h
      · rename_i hs
        simp only [Option.some.injEq, Prod.mk.injEq] at h; obtain ⟨rfl, rfl⟩ := h; subst hs
        exact ⟨fun m2 hm2 => by have := hm2 (false, id) (by simp); simp only at this; simp [elemsV, this, hm], by simp, key _ _ _ (.inr hm)⟩
      · cases h
    · cases h
  · rename_i id lo len
    have key : ∀ (s : Nat) (et : TypeId) (es : List PV), (m id = some (.arr s et es) ∨ m id = some (.fro s et es)) → ∀ (P : Program) (G : Nat → Option (List PV)) (w0 : Base) (μ : Ro) (φ : Nat → Phys) (w : World) (y : Value), RelM P G w0 μ φ m w → RepV P μ φ (.osub id lo len) y → SrcOk P μ w s ((es.drop lo).take len) y := by
      intro s et es hm P G w0 μ φ w y hM hy
      have hA := hM.arr hm
      have hle := hA.lenLe
      have hal := hA.1
      have hsz := hA.2.1
      cases hy with
      | osubN hg => simp; exact .none rfl
      | osub hg hl ha =>
        rcases ha with rfl | ha
        · rw [hsz]; exact hA.src hg (by omega)
        · have h0 : len = 0 := by omega
          subst h0
          simp only [List.take_zero]
          exact .some (es := []) [] .nil (by simp) (by simp) (by omega)
    split at h
    · rename_i s' et es' hm
      split at h
      · rename_i hs
        simp only [Option.some.injEq, Prod.mk.injEq] at h; obtain ⟨rfl, rfl⟩ := h; subst hs
        exact ⟨fun m2 hm2 => by have := hm2 (false, id) (by simp); simp only at this; simp [elemsV, this, hm], by simp, key _ _ _ (.inl hm)⟩
      · cases h
    · rename_i s' et es' hm
      split at h
      · rename_i hs
        simp only [Option.some.injEq, Prod.mk.injEq] at h; obtain ⟨rfl, rfl⟩ := h; subst hs
        exact ⟨fun m2 hm2 => by have := hm2 (false, id) (by simp); simp only at this; simp [elemsV, this, hm], by simp, key _ _ _ (.inr hm)⟩
      · cases h
    · cases h
  · cases h
end
end Go.Ab
