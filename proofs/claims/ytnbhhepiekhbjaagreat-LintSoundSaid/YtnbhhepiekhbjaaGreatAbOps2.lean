/- The abstract operations are right, second part: loads and addresses. -/
import Derived.Test.YtnbhhepiekhbjaaGreatAbOps1
set_option linter.unusedVariables false
namespace Go.Ab
open Go.RowKit (Below)

section
variable {P : Program} {G : Nat → Option (List PV)} {w0 : Base} {μ : Ro} {φ : Nat → Phys} {m : Mem} {w : World}

theorem info_of_und {t : TypeId} {d : TypeDesc} (h : P.underlying t = some d) : (P.info? t).map (·.size) = some (csz P t) := by
  unfold Program.underlying at h
  cases hi : P.info? t with
  | none => simp [hi] at h
  | some i => simp [csz, hi]
theorem isAggT_und {t : TypeId} (h : isAggT P t = true) : ∃ d, P.underlying t = some d ∧ d.isRow = true := by
  unfold isAggT at h
  split at h
  · rename_i fs hu; exact ⟨_, hu, rfl⟩
  · rename_i n e hu; exact ⟨_, hu, rfl⟩
  · cases h
theorem run_isAgg {t : TypeId} {d : TypeDesc} (hu : P.underlying t = some d) : (isAgg t).run P w = .ok (isAggT P t) w := by
  unfold isAgg
  simp only [Sem.run_bind, run_underlying hu, Result.andThen_ok, isAggT, hu]
  cases d <;> rfl
theorem run_sizeOf' {t : TypeId} {d : TypeDesc} (hu : P.underlying t = some d) : (sizeOf t).run P w = .ok (csz P t) w := by
  have := info_of_und hu
  cases hi : P.info? t with
  | none => simp [hi] at this
  | some i => simp [sizeOf, typeInfo, hi, csz]
theorem run_loadAt_one {t : TypeId} {d : TypeDesc} {b o : Nat} {y : Value} (hu : P.underlying t = some d) (ha : isAggT P t = false) (hc : w.cell? ⟨b, o, none⟩ = some y) :
    (Instr.loadAt t (.pointer (some ⟨b, o, none⟩))).run P w = .ok y w := by
  simp only [Instr.loadAt, Instr.sureAddr, loadVar, Sem.run_bind, Sem.run_pure, Result.andThen_ok, run_isAgg hu, ha]
  simp [load, Sem.run, hc]
theorem run_loadAt_agg {t : TypeId} {b o : Nat} {cs : List Value} (ha : isAggT P t = true) (hc : w.rangeAt b o cs) (hl : cs.length = csz P t) :
    (Instr.loadAt t (.pointer (some ⟨b, o, none⟩))).run P w = .ok (.agg cs.toArray) w := by
  obtain ⟨d, hu, hd⟩ := isAggT_und ha
  exact run_loadAt_mid w b o t cs d hc hu hd (by rw [info_of_und hu, hl])

theorem RelM.cellAt (hM : RelM P G w0 μ φ m w) {b o : Nat} {x : Value} (h : cellAt μ b o = some x) : w.cell? ⟨b, o, none⟩ = some x := by
  unfold Go.Ab.cellAt at h
  split at h
  · rename_i c t fz hb
    simp [World.cell?, hM.ro _ _ hb, h]
  · cases h

theorem cell?_of_heap {g o : Nat} {c : Array Value} {T : TypeId} {fz : Nat × Nat} (h : w.heap[g]? = some (.cells c T fz)) : w.cell? ⟨g, o, none⟩ = c[o]? := by
  simp [World.cell?, h]

theorem take_get {T : Type} {l : List T} {n i : Nat} {x : T} (h : (l.take n)[i]? = some x) : i < n ∧ l[i]? = some x := by
  rw [List.getElem?_take] at h
  split at h
  · exact ⟨by assumption, h⟩
  · cases h
theorem take_drop_get {T : Type} {l : List T} {o n i : Nat} {x : T} (h : ((l.drop o).take n)[i]? = some x) : i < n ∧ l[o + i]? = some x := by
  rw [List.getElem?_take] at h
  split at h
  · rw [List.getElem?_drop] at h; exact ⟨by assumption, h⟩
  · cases h
theorem RepPV.rp_agg {cs : List PV} {b o n : Nat} {X : Nat → Value} (hM : RelM P G w0 μ φ m w) (h1 : ∀ (i : Nat) p, cs[i]? = some p → Go.Ab.cellAt μ b (o + i) = some (X i))
    (h2 : ∀ (i : Nat) p, cs[i]? = some p → RepPV P μ p (X i)) (h3 : ∀ i : Nat, i < cs.length → (X i).oneCell' = true) (hn : n ≤ cs.length) :
    w.rangeAt b o ((List.range n).map X) ∧ RepPV P μ (.agg (cs.take n)) (.agg ((List.range n).map X).toArray) := by
  have hX : ∀ i x, ((List.range n).map X)[i]? = some x → i < n ∧ x = X i := by
    intro i x hx
    have hi : i < n := by have := (List.getElem?_eq_some_iff.1 hx).1; simpa using this
    rw [List.getElem?_map, List.getElem?_range hi] at hx
    simp at hx
    exact ⟨hi, hx.symm⟩
  refine ⟨fun j v hv => ?_, .agg (by simp; omega) (fun i p x hi hx => ?_) (fun i x hx => ?_)⟩
  · obtain ⟨hj, rfl⟩ := hX j v hv
    exact hM.cellAt (h1 j _ (List.getElem?_eq_getElem (by omega)))
  · rw [List.getElem?_toArray] at hx
    obtain ⟨hj, rfl⟩ := hX i x hx
    exact h2 i p (take_get hi).2
  · rw [List.getElem?_toArray] at hx
    obtain ⟨hj, rfl⟩ := hX i x hx
    exact h3 i (by omega)
end

section
variable {R : Type} {E : Env}
def Quiet (v : V) (m : Mem) : Prop := ∀ id, v.has id = true → (m id).isSome = true

theorem frzs_ok {g : V → Option PV} {cs : List V} {ps : List PV} (h : frzs g cs = some ps) : ps.length = cs.length ∧ ∀ (i : Nat) p, ps[i]? = some p → ∃ v, cs[i]? = some v ∧ g v = some p := by
  induction cs generalizing ps with
  | nil => simp [frzs] at h; subst h; simp
  | cons c r ih =>
    simp only [frzs] at h
    obtain ⟨p, hp, h⟩ := Option.bind_eq_some_iff.1 h
    obtain ⟨ps', hps, h⟩ := Option.bind_eq_some_iff.1 h
    simp only [Option.some.injEq] at h; subst h
    obtain ⟨h1, h2⟩ := ih hps
    refine ⟨by simp [h1], fun i q hq => ?_⟩
    cases i with
    | zero => simp at hq; subst hq; exact ⟨c, by simp, hp⟩
    | succ i => simp at hq; simpa using h2 i q hq
theorem xloadE_ok {s off : Nat} {t : TypeId} {e : PV} {k : V → Option R} {r : R} (h : xloadE E s t e off k = some r) :
    ∃ v, (∀ (R' : Type) (k' : V → Option R'), xloadE E s t e off k' = k' v) ∧ k v = some r ∧ (∀ id, v.has id = false) ∧
    ∀ (μ : Ro) (φ : Nat → Phys) (w : World) (g o : Nat) (c : Array Value) (T : TypeId), w.heap[g]? = some (.cells c T (0, 0)) → e.cells.length = s →
      (∀ (j : Nat) p x, e.cells[j]? = some p → c[o + j]? = some x → RepPV E.P μ p x) → (∀ (i : Nat) (x : Value), i < o + s → c[i]? = some x → x.oneCell' = true) → o + s ≤ c.size →
      ∃ y, (Instr.loadAt t (.pointer (some ⟨g, o + off, none⟩))).run E.P w = .ok y w ∧ RepV E.P μ φ v y := by
  unfold xloadE at h
  split at h
  · rename_i ha
    split at h
    · rename_i hb
      refine ⟨_, fun R' k' => by simp [xloadE, ha, hb], h, by simp, fun μ φ w g o c T hg hs hc h1 hl => ?_⟩
      have hR : w.rangeAt g (o + off) ((c.toList.drop (o + off)).take (csz E.P t)) := fun j v hv => by
        obtain ⟨_, hv⟩ := take_drop_get hv
        rw [cell?_of_heap hg]; simpa using hv
      refine ⟨_, run_loadAt_agg ha hR (by simp; omega), .pv (.agg (by simp [elemCells_length]; omega) (fun i p x hi hx => ?_) (fun i x hx => ?_))⟩
      · rw [List.getElem?_toArray] at hx
        obtain ⟨_, hx⟩ := take_drop_get hx
        rw [elemCells_eq hs] at hi
        obtain ⟨_, hi⟩ := take_drop_get hi
        exact hc _ p x hi (by simpa [Nat.add_assoc] using hx)
      · rw [List.getElem?_toArray] at hx
        obtain ⟨_, hx⟩ := take_drop_get hx
        have hx : c[o + off + i]? = some x := by simpa using hx
        exact h1 _ x (by omega) hx
    · cases h
  · rename_i ha
    have ha : isAggT E.P t = false := by simpa using ha
    split at h
    · rename_i p hp
      obtain ⟨q, h1, h2, h3, _⟩ := ldTy_ok h
      obtain ⟨d, hu⟩ := ldTy_und h
      refine ⟨.pv q, fun R' k' => by simp [xloadE, ha, hp, h1], h2, by simp, fun μ φ w g o c T hg hs hc _ hl => ?_⟩
      rw [elemCells_eq hs] at hp
      have hoff : off < e.cells.length := (List.getElem?_eq_some_iff.1 hp).1
      have hx : c[o + off]? = some c[o + off] := Array.getElem?_eq_getElem (by omega)
      exact ⟨_, run_loadAt_one hu ha (by rw [cell?_of_heap hg]; exact hx), .pv (h3 _ _ _ (hc off p _ hp hx))⟩
    · cases h

theorem xload_ok {t : TypeId} {a : V} {m : Mem} {k : V → Foot → Option R} {r : R} (h : xload E t a m k = some r) :
    ∃ v ft, (∀ m2 : Mem, (∀ x ∈ ft, m2 x.2 = m x.2) → ∀ (R' : Type) (k' : V → Foot → Option R'), xload E t a m2 k' = k' v ft) ∧ k v ft = some r ∧ (∀ x ∈ ft, x.1 = false) ∧
    ∀ (G : Nat → Option (List PV)) (w0 : Base) (μ : Ro) (φ : Nat → Phys) (w : World) (x : Value), RelM E.P G w0 μ φ m w → RepV E.P μ φ a x →
      ∃ y, (Instr.loadAt t x).run E.P w = .ok y w ∧ RepV E.P μ φ v y ∧ Quiet v m := by
  unfold xload at h
  split at h
  · rename_i cs
    split at h
    · rename_i ha
      split at h
      · rename_i hn
        refine ⟨_, _, fun m2 _ R' k' => by simp [xload, ha, hn], h, by simp, fun G w0 μ φ w x hM hx => ?_⟩
        cases hx with
        | pv hp => cases hp with
          | rp X h1 h2 h3 =>
            obtain ⟨hr, hv⟩ := RepPV.rp_agg hM h1 h2 h3 hn
            exact ⟨_, run_loadAt_agg ha hr (by simp), .pv hv, by simp [Quiet]⟩
      · cases h
    · rename_i ha
      have ha : isAggT E.P t = false := by simpa using ha
      obtain ⟨p, hp0, h⟩ := Option.bind_eq_some_iff.1 h
      have hp1 : cs[0]? = some p := by rw [← List.head?_eq_getElem?]; exact hp0
      obtain ⟨q, h1, h2, h3, _⟩ := ldTy_ok h
      refine ⟨_, _, fun m2 _ R' k' => by simp [xload, ha, hp0, h1], h2, by simp, fun G w0 μ φ w x hM hx => ?_⟩
      obtain ⟨d, hu⟩ := ldTy_und h
      cases hx with
      | pv hp => cases hp with
        | rp X g1 g2 g3 =>
          have hc := hM.cellAt (g1 0 p hp1)
          exact ⟨_, run_loadAt_one hu ha (by simpa using hc), .pv (h3 _ _ _ (g2 0 p hp1)), by simp [Quiet]⟩
  · rename_i id off
    split at h
    · rename_i cs hm
      split at h
      · rename_i ha
        split at h
        · rename_i hn
          refine ⟨_, _, fun m2 hm2 R' k' => by simp [xload, ha, hn, hm2 (false, id) (by simp), hm], h, by simp, fun G w0 μ φ w x hM hx => ?_⟩
          cases hx with
          | @op _ _ g hg =>
            obtain ⟨g', c, T, hg', hh, hs, hv, h1, hln⟩ := hM.blk id _ hm
            rw [hg] at hg'; simp only [Option.some.injEq] at hg'; subst hg'
            have hR : w.rangeAt g off ((c.toList.drop off).take (csz E.P t)) := fun j v hv => by
              obtain ⟨_, hv⟩ := take_drop_get hv
              rw [cell?_of_heap hh]; simpa using hv
            refine ⟨_, run_loadAt_agg ha hR (by simp; omega), .agg (by simp; omega) (fun i p x hi hx => ?_) (fun i x hx => ?_), ?_⟩
            · rw [List.getElem?_toArray] at hx
              obtain ⟨_, hx⟩ := take_drop_get hx
              obtain ⟨_, hi⟩ := take_drop_get hi
              exact hv _ p x hi (by simpa using hx)
            · rw [List.getElem?_toArray] at hx
              obtain ⟨_, hx⟩ := take_drop_get hx
              exact h1 _ x (by simpa using hx)
            · intro id' hid
              simp only [V.has] at hid
              obtain ⟨v, hv, hh⟩ := hasL_iff.1 hid
              exact hM.liveB id cs id' hm (hasL_mem (List.mem_of_mem_drop (List.mem_of_mem_take hv)) hh)
        · cases h
      · rename_i ha
        have ha : isAggT E.P t = false := by simpa using ha
        split at h
        · rename_i ps hps
          obtain ⟨p, hp0, h⟩ := Option.bind_eq_some_iff.1 h
          obtain ⟨q, h1, h2, h3, _⟩ := ldTy_ok h
          refine ⟨_, _, fun m2 hm2 R' k' => by simp [xload, ha, hm2 (false, id) (by simp), hm, hps, hp0, h1], h2, by simp, fun G w0 μ φ w x hM hx => ?_⟩
          cases hx with
          | @op _ _ g hg =>
            obtain ⟨g', c, T, hg', hh, hs, hvv, _⟩ := hM.blk id _ hm
            rw [hg] at hg'; simp only [Option.some.injEq] at hg'; subst hg'
            obtain ⟨f1, f2⟩ := frzs_ok hps
            obtain ⟨hlt, hp1⟩ := List.getElem?_eq_some_iff.1 hp0
            have hoff : off < cs.length := by omega
            obtain ⟨v, hv, hpv⟩ := f2 off p hp0
            have hvp : v = .pv p := by
              cases v <;> simp [pvO] at hpv
              subst hpv; rfl
            subst hvp
            have hx : c[off]? = some c[off] := Array.getElem?_eq_getElem (by omega)
            obtain ⟨d, hu⟩ := ldTy_und h
            have hr := hvv off _ _ hv hx
            cases hr with
            | pv hr => exact ⟨_, run_loadAt_one hu ha (by rw [cell?_of_heap hh]; exact hx), .pv (h3 _ _ _ hr), by simp [Quiet]⟩
        · rename_i hnp
          split at h
          · rename_i v hv
            obtain ⟨u, h1, h2, h3, h4⟩ := ldTyV_ok h
            refine ⟨_, _, fun m2 hm2 R' k' => by simp [xload, ha, hm2 (false, id) (by simp), hm, hnp, hv, h1], h2, by simp, fun G w0 μ φ w x hM hx => ?_⟩
            cases hx with
            | @op _ _ g hg =>
              obtain ⟨g', c, T, hg', hh, hs, hvv, _⟩ := hM.blk id _ hm
              rw [hg] at hg'; simp only [Option.some.injEq] at hg'; subst hg'
              have hoff : off < cs.length := (List.getElem?_eq_some_iff.1 hv).1
              have hx : c[off]? = some c[off] := Array.getElem?_eq_getElem (by omega)
              obtain ⟨d, hu⟩ := ldTyV_und h
              refine ⟨_, run_loadAt_one hu ha (by rw [cell?_of_heap hh]; exact hx), h3 _ _ _ _ (hvv off v _ hv hx), fun id' hid => ?_⟩
              exact hM.liveB id cs id' hm (hasL_mem (List.mem_of_getElem? hv) (h4 id' hid))
          · cases h
    · cases h
  · rename_i id i off
    have key : ∀ (sz : Nat) (et : TypeId) (es : List PV), (m id = some (.arr sz et es) ∨ m id = some (.fro sz et es)) → ((es[i]?).bind fun e => xloadE E sz t e off fun v => k v [(false, id)]) = some r →
        ∃ v, (∀ (R' : Type) (k' : V → Foot → Option R'), ((es[i]?).bind fun e => xloadE E sz t e off fun v => k' v [(false, id)]) = k' v [(false, id)]) ∧ k v [(false, id)] = some r ∧
        ∀ (G : Nat → Option (List PV)) (w0 : Base) (μ : Ro) (φ : Nat → Phys) (w : World) (x : Value), RelM E.P G w0 μ φ m w → RepV E.P μ φ (.oe id i off) x →
          ∃ y, (Instr.loadAt t x).run E.P w = .ok y w ∧ RepV E.P μ φ v y ∧ Quiet v m := by
      intro sz et es hm hb
      obtain ⟨e, he, hb⟩ := Option.bind_eq_some_iff.1 hb
      obtain ⟨v, h1, h2, h3, h4⟩ := xloadE_ok hb
      refine ⟨v, fun R' k' => by simp [he, h1], h2, fun G w0 μ φ w x hM hx => ?_⟩
      have hA : RepArr E.P μ φ w id sz et es := by
        rcases hm with hm | hm
        · exact hM.blk id _ hm
        · exact (hM.blk id _ hm).1
      cases hx with
      | @oe _ _ _ g hg =>
        obtain ⟨a1, a2, a3, a4, a5, a6, a7⟩ := hA
        rw [hg] at a7
        obtain ⟨c, c1, c2, c3, c4, c5⟩ := a7
        have hi : i < es.length := (List.getElem?_eq_some_iff.1 he).1
        obtain ⟨y, hy, hv⟩ := h4 μ φ w g (i * sz) c et c1 (a5 i e he) (fun j p x hj hx => c4 i e j p x he hj hx) (fun i' x hi' hx => c5 i' x (by
          have : (i + 1) * sz ≤ es.length * sz := Nat.mul_le_mul_right _ (by omega)
          rw [Nat.add_mul] at this; omega) hx) (by
          rw [c2]
          have : (i + 1) * sz ≤ (φ id).cap * sz := Nat.mul_le_mul_right _ (by omega)
          rw [Nat.add_mul] at this; omega)
        rw [a2]
        exact ⟨y, hy, hv, fun id hid => by rw [h3] at hid; cases hid⟩
    split at h
    · rename_i sz et es hm
      obtain ⟨v, h1, h2, h3⟩ := key sz et es (.inl hm) h
      exact ⟨v, _, fun m2 hm2 R' k' => by have := hm2 (false, id) (by simp); simp only at this; simp only [xload, this, hm]; exact h1 R' k', h2, by simp, h3⟩
    · rename_i sz et es hm
      obtain ⟨v, h1, h2, h3⟩ := key sz et es (.inr hm) h
      exact ⟨v, _, fun m2 hm2 R' k' => by have := hm2 (false, id) (by simp); simp only at this; simp only [xload, this, hm]; exact h1 R' k', h2, by simp, h3⟩
    · cases h
  · cases h
end
end Go.Ab
