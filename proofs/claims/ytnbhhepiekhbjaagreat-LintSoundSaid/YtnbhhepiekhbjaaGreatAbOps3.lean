/- The abstract operations are right, third part: addresses, fields, indices, slices, lengths. -/
import Derived.Test.YtnbhhepiekhbjaaGreatAbOps2
set_option linter.unusedVariables false
namespace Go.Ab
open Go.RowKit (Below)

section
variable {R : Type} {E : Env}

theorem fieldOff_ok {s : TypeId} {j o : Nat} {t : TypeId} (h : fieldOff E s j = some (o, t)) :
    ∃ fs f, E.P.underlying s = some (.struct fs) ∧ fs[j]? = some f ∧ f.offset = o ∧ f.type = t ∧ csz E.P t ≠ 0 := by
  unfold fieldOff at h
  split at h
  · rename_i fs hu
    split at h
    · rename_i f hf
      split at h
      · cases h
      · rename_i hz
        simp only [Option.some.injEq, Prod.mk.injEq] at h
        obtain ⟨rfl, rfl⟩ := h
        exact ⟨fs, f, hu, hf, rfl, rfl, hz⟩
    · cases h
  · cases h
theorem csz_und {P : Program} {t : TypeId} (h : csz P t ≠ 0) : ∃ i, P.info? t = some i ∧ i.size = csz P t := by
  unfold csz at *
  cases hi : P.info? t with
  | none => simp [hi] at h
  | some i => exact ⟨i, rfl, by simp⟩
theorem run_sizeOf_ne {P : Program} {t : TypeId} {w : World} (h : csz P t ≠ 0) : (sizeOf t).run P w = .ok (csz P t) w := by
  obtain ⟨i, hi, hs⟩ := csz_und h
  simp [sizeOf, typeInfo, hi, hs]
theorem run_fieldAt {P : Program} {w : World} {s : TypeId} {fs : Array Field} {f : Field} {j b o : Nat} (hu : P.underlying s = some (.struct fs)) (hf : fs[j]? = some f) (hz : csz P f.type ≠ 0) :
    (Instr.fieldAt s (.pointer (some ⟨b, o, none⟩)) j).run P w = .ok (.pointer (some ⟨b, o + f.offset, none⟩)) w := by
  simp [Instr.fieldAt, run_underlying hu, hf, Instr.sureAddr, fieldPlace, run_sizeOf_ne hz, hz, Addr.add_mid]

theorem drop_get {T : Type} {l : List T} {o i : Nat} {x : T} (h : (l.drop o)[i]? = some x) : l[o + i]? = some x := by
  rw [List.getElem?_drop] at h; exact h
theorem RepPV.rp_drop {P : Program} {μ : Ro} {cs : List PV} {b o : Nat} (n : Nat) (h : RepPV P μ (.rp cs) (.pointer (some ⟨b, o, none⟩))) : RepPV P μ (.rp (cs.drop n)) (.pointer (some ⟨b, o + n, none⟩)) := by
  cases h with
  | rp X h1 h2 h3 =>
    refine .rp (fun i => X (n + i)) (fun i p hi => ?_) (fun i p hi => h2 _ p (drop_get hi)) (fun i hi => h3 _ ?_)
    · have := h1 _ p (drop_get hi)
      rw [Nat.add_assoc]; exact this
    · simp at hi; omega

theorem xfieldAddr_ok {s : TypeId} {x : V} {j : Nat} {k : V → Option R} {r : R} (h : xfieldAddr E s x j k = some r) :
    ∃ v, (∀ (R' : Type) (k' : V → Option R'), xfieldAddr E s x j k' = k' v) ∧ k v = some r ∧ (∀ id, v.has id = x.has id) ∧
    ∀ (μ : Ro) (φ : Nat → Phys) (w : World) (y : Value), RepV E.P μ φ x y → ∃ z, (Instr.fieldAt s y j).run E.P w = .ok z w ∧ RepV E.P μ φ v z := by
  unfold xfieldAddr at h
  split at h
  · rename_i o t ho
    obtain ⟨fs, f, hu, hf, rfl, rfl, hz⟩ := fieldOff_ok ho
    split at h
    · rename_i cs
      refine ⟨_, fun R' k' => by simp [xfieldAddr, ho], h, by simp, fun μ φ w y hy => ?_⟩
      cases hy with
      | pv hp => cases hp with
        | rp X h1 h2 h3 => exact ⟨_, run_fieldAt hu hf hz, .pv (RepPV.rp_drop _ (.rp X h1 h2 h3))⟩
    · rename_i id off
      refine ⟨_, fun R' k' => by simp [xfieldAddr, ho], h, by simp [V.has], fun μ φ w y hy => ?_⟩
      cases hy with
      | op hg => exact ⟨_, run_fieldAt hu hf hz, .op hg⟩
    · rename_i id i off
      refine ⟨_, fun R' k' => by simp [xfieldAddr, ho], h, by simp [V.has], fun μ φ w y hy => ?_⟩
      cases hy with
      | oe hg => exact ⟨_, run_fieldAt hu hf hz, by rw [Nat.add_assoc]; exact .oe hg⟩
    · cases h
  · cases h

theorem run_indexAt_sl {P : Program} {w : World} {t e : TypeId} {q : IntKind} {i : Int} {ad : Addr} {len cap : Nat} (hu : P.underlying t = some (.slice e)) (hz : csz P e ≠ 0) (h0 : 0 ≤ i) (h1 : i < (len : Int)) :
    (Instr.indexAt t (.slice (some ad) len cap) (.int q i)).run P w = .ok (.pointer (some (ad.add (i.toNat * csz P e)))) w := by
  simp [Instr.indexAt, asIntOf, run_underlying hu, h0, h1, run_sizeOf_ne hz]
theorem run_indexAt_arr {P : Program} {w : World} {t e : TypeId} {n : Nat} {q : IntKind} {i : Int} {ad : Addr} (hu : P.underlying t = some (.array n e)) (hz : csz P e ≠ 0) (h0 : 0 ≤ i) (h1 : i < (n : Int)) :
    (Instr.indexAt t (.pointer (some ad)) (.int q i)).run P w = .ok (.pointer (some (ad.add (i.toNat * csz P e)))) w := by
  simp [Instr.indexAt, asIntOf, run_underlying hu, h0, h1, run_sizeOf_ne hz, Instr.sureAddr]

theorem idxP_ok {es : List PV} {i : Int} {p : PV} (h : idxP es i = some p) : 0 ≤ i ∧ es[i.toNat]? = some p ∧ i < (es.length : Int) := by
  unfold idxP at h
  split at h
  · rename_i h0
    have := (List.getElem?_eq_some_iff.1 h).1
    exact ⟨h0, h, by omega⟩
  · cases h
theorem RepPV.rs_elem {P : Program} {μ : Ro} {sz : Nat} {es : List PV} {x : Value} {n : Nat} {p : PV} (h : RepPV P μ (.rs sz es) x) (hp : es[n]? = some p) :
    ∃ b o cap, x = .slice (some ⟨b, o, none⟩) es.length cap ∧ RepPV P μ (.rp (elemCells sz p)) (.pointer (some ⟨b, o + n * sz, none⟩)) := by
  cases h with
  | rsNil => simp at hp
  | rsE _ => simp at hp
  | @rs _ _ b o cap X h1 h2 h3 h4 h5 h6 =>
    refine ⟨b, o, cap, rfl, ?_⟩
    rw [elemCells_eq (h3 n p hp)]
    exact .rp (X n) (fun i q hi => h4 n p i q hp hi) (fun i q hi => h5 n p i q hp hi) (fun i hi => h6 n p i _ hp (List.getElem?_eq_getElem hi))

theorem xindexAddr_ok {t : TypeId} {x ix : V} {m : Mem} {k : V → Foot → Option R} {r : R} (h : xindexAddr E t x ix m k = some r) :
    ∃ v ft, (∀ m2 : Mem, (∀ x ∈ ft, m2 x.2 = m x.2) → ∀ (R' : Type) (k' : V → Foot → Option R'), xindexAddr E t x ix m2 k' = k' v ft) ∧ k v ft = some r ∧ (∀ x ∈ ft, x.1 = false) ∧ (∀ id, v.has id = true → x.has id = true) ∧
    ∀ (G : Nat → Option (List PV)) (w0 : Base) (μ : Ro) (φ : Nat → Phys) (w : World) (y z : Value), RelM E.P G w0 μ φ m w → RepV E.P μ φ x y → RepV E.P μ φ ix z →
      ∃ u, (Instr.indexAt t y z).run E.P w = .ok u w ∧ RepV E.P μ φ v u := by
  unfold xindexAddr at h
  split at h
  · rename_i q i
    split at h
    · rename_i e s es hu
      split at h
      · rename_i hs
        obtain ⟨p, hp, hk⟩ := Option.bind_eq_some_iff.1 h
        refine ⟨_, _, fun m2 _ R' k' => by simp only [xindexAddr, hu]; rw [if_pos hs, hp]; rfl, hk, by simp, by simp, fun G w0 μ φ w y z hM hy hz => ?_⟩
        obtain ⟨h0, hp, hl⟩ := idxP_ok hp
        cases hz with
        | pv hz => cases hz with
          | int hwf =>
            cases hy with
            | pv hy =>
              obtain ⟨b, o, cap, rfl, hr⟩ := hy.rs_elem hp
              refine ⟨_, run_indexAt_sl hu (by omega) h0 hl, ?_⟩
              rw [Addr.add_mid, ← hs.1]
              exact .pv hr
      · cases h
    · rename_i e id hu
      have key : ∀ (s : Nat) (et : TypeId) (es : List PV), (m id = some (.arr s et es) ∨ m id = some (.fro s et es)) → s = csz E.P e ∧ 0 < s → inRange i es.length →
          ∀ (G : Nat → Option (List PV)) (w0 : Base) (μ : Ro) (φ : Nat → Phys) (w : World) (y z : Value), RelM E.P G w0 μ φ m w → RepV E.P μ φ (.os id) y → RepV E.P μ φ (.pv (.int q i)) z →
            ∃ u, (Instr.indexAt t y z).run E.P w = .ok u w ∧ RepV E.P μ φ (.oe id i.toNat 0) u := by
        intro s et es hm hs hr G w0 μ φ w y z hM hy hz
        have hA : RepArr E.P μ φ w id s et es := by
          rcases hm with hm | hm
          · exact hM.blk id _ hm
          · exact (hM.blk id _ hm).1
        obtain ⟨a1, a2, a3, a4, a5, a6, a7⟩ := hA
        cases hz with
        | pv hz => cases hz with
          | int hwf =>
            cases hy with
            | osN hg => rw [hg] at a7; rw [a7.1] at hr; simp [inRange] at hr; omega
            | @os _ g hg =>
              refine ⟨_, run_indexAt_sl hu (by omega) hr.1 (by rw [a1]; exact hr.2), ?_⟩
              rw [Addr.add_mid]
              have := RepV.oe (P := E.P) (μ := μ) (φ := φ) (id := id) (i := i.toNat) (off := 0) hg
              rw [a2, hs.1] at this
              simpa using this
      split at h
      · rename_i s et es hm
        split at h
        · rename_i hs
          split at h
          · rename_i hr
            exact ⟨_, _, fun m2 hm2 R' k' => by have := hm2 (false, id) (by simp); simp only at this; simp only [xindexAddr, hu, this, hm]; rw [if_pos hs, if_pos hr], h, by simp, by simp [V.has], key s et es (.inl hm) hs hr⟩
          · cases h
        · cases h
      · rename_i s et es hm
        split at h
        · rename_i hs
          split at h
          · rename_i hr
            exact ⟨_, _, fun m2 hm2 R' k' => by have := hm2 (false, id) (by simp); simp only at this; simp only [xindexAddr, hu, this, hm]; rw [if_pos hs, if_pos hr], h, by simp, by simp [V.has], key s et es (.inr hm) hs hr⟩
          · cases h
        · cases h
      · rename_i cs hm
        split at h
        · rename_i hs
          refine ⟨_, _, fun m2 hm2 R' k' => by have := hm2 (false, id) (by simp); simp only at this; simp only [xindexAddr, hu, this, hm]; rw [if_pos hs], h, by simp, by simp [V.has], fun G w0 μ φ w y z hM hy hz => ?_⟩
          obtain ⟨g, c, T, hg, hh, hsz, hv, hone, hln⟩ := hM.blk id _ hm
          cases hz with
          | pv hz => cases hz with
            | int hwf =>
              cases hy with
              | osN hg' => rw [hg] at hg'; cases hg'
              | @os _ g' hg' =>
                refine ⟨_, run_indexAt_sl hu (by omega) hs.2.1 (by rw [hln]; exact hs.2.2), ?_⟩
                rw [Addr.add_mid, hs.1]
                have := RepV.op (P := E.P) (μ := μ) (φ := φ) (id := id) (off := i.toNat) hg'
                simpa using this
        · cases h
      · cases h
    · rename_i e id lo len hu
      have key : ∀ (s : Nat) (et : TypeId) (es : List PV), (m id = some (.arr s et es) ∨ m id = some (.fro s et es)) → s = csz E.P e ∧ 0 < s → inRange i len →
          ∀ (G : Nat → Option (List PV)) (w0 : Base) (μ : Ro) (φ : Nat → Phys) (w : World) (y z : Value), RelM E.P G w0 μ φ m w → RepV E.P μ φ (.osub id lo len) y → RepV E.P μ φ (.pv (.int q i)) z →
            ∃ u, (Instr.indexAt t y z).run E.P w = .ok u w ∧ RepV E.P μ φ (.oe id (lo + i.toNat) 0) u := by
        intro s et es hm hs hr G w0 μ φ w y z hM hy hz
        have hA : RepArr E.P μ φ w id s et es := by
          rcases hm with hm | hm
          · exact hM.blk id _ hm
          · exact (hM.blk id _ hm).1
        obtain ⟨a1, a2, a3, a4, a5, a6, a7⟩ := hA
        cases hz with
        | pv hz => cases hz with
          | int hwf =>
            cases hy with
            | osubN hg => simp [inRange] at hr; omega
            | @osub _ _ _ g ad hg hl ha =>
              have hcap : (φ id).cap ≠ lo := by
                rw [hg] at a7
                obtain ⟨c, c1, c2, c3, c4, c5⟩ := a7
                have := hr.1; have := hr.2
                omega
              have ha := ha.resolve_right hcap
              subst ha
              refine ⟨_, run_indexAt_sl hu (by omega) hr.1 hr.2, ?_⟩
              rw [Addr.add_mid]
              have := RepV.oe (P := E.P) (μ := μ) (φ := φ) (id := id) (i := lo + i.toNat) (off := 0) hg
              rw [a2, hs.1] at this
              rw [a2, hs.1]
              simpa [Nat.add_mul] using this
      split at h
      · rename_i s et es hm
        split at h
        · rename_i hs
          split at h
          · rename_i hr
            exact ⟨_, _, fun m2 hm2 R' k' => by have := hm2 (false, id) (by simp); simp only at this; simp only [xindexAddr, hu, this, hm]; rw [if_pos hs, if_pos hr], h, by simp, by simp [V.has], key s et es (.inl hm) hs hr⟩
          · cases h
        · cases h
      · rename_i s et es hm
        split at h
        · rename_i hs
          split at h
          · rename_i hr
            exact ⟨_, _, fun m2 hm2 R' k' => by have := hm2 (false, id) (by simp); simp only at this; simp only [xindexAddr, hu, this, hm]; rw [if_pos hs, if_pos hr], h, by simp, by simp [V.has], key s et es (.inr hm) hs hr⟩
          · cases h
        · cases h
      · cases h
    · rename_i n e id off hu
      split at h
      · rename_i hr
        refine ⟨_, _, fun m2 _ R' k' => by simp only [xindexAddr, hu]; rw [if_pos hr], h, by simp, by simp [V.has], fun G w0 μ φ w y z hM hy hz => ?_⟩
        cases hz with
        | pv hz => cases hz with
          | int hwf =>
            cases hy with
            | op hg => exact ⟨_, run_indexAt_arr hu (by omega) hr.1.1 hr.1.2, by rw [Addr.add_mid]; exact .op hg⟩
      · cases h
    · rename_i n e cs hu
      split at h
      · rename_i hr
        refine ⟨_, _, fun m2 _ R' k' => by simp only [xindexAddr, hu]; rw [if_pos hr], h, by simp, by simp, fun G w0 μ φ w y z hM hy hz => ?_⟩
        cases hz with
        | pv hz => cases hz with
          | int hwf =>
            cases hy with
            | pv hy => cases hy with
              | rp X h1 h2 h3 => exact ⟨_, run_indexAt_arr hu (by omega) hr.1.1 hr.1.2, by rw [Addr.add_mid]; exact .pv (RepPV.rp_drop _ (.rp X h1 h2 h3))⟩
      · cases h
    · rename_i n e id j off hu
      split at h
      · rename_i hr
        refine ⟨_, _, fun m2 _ R' k' => by simp only [xindexAddr, hu]; rw [if_pos hr], h, by simp, by simp [V.has], fun G w0 μ φ w y z hM hy hz => ?_⟩
        cases hz with
        | pv hz => cases hz with
          | int hwf =>
            cases hy with
            | oe hg => exact ⟨_, run_indexAt_arr hu (by omega) hr.1.1 hr.1.2, by rw [Addr.add_mid, Nat.add_assoc]; exact .oe hg⟩
      · cases h
    · cases h
  · cases h
theorem aggCells_ok {x : V} {cs : List V} (h : aggCells x = some cs) : (∀ id, hasL id cs = true → x.has id = true) ∧
    ∀ (P : Program) (μ : Ro) (φ : Nat → Phys) y, RepV P μ φ x y → ∃ xs : Array Value, y = .agg xs ∧ cs.length = xs.size ∧ (∀ (i : Nat) p x, cs[i]? = some p → xs[i]? = some x → RepV P μ φ p x) ∧ (∀ (i : Nat) (x : Value), xs[i]? = some x → x.oneCell' = true) := by
  unfold aggCells at h
  split at h
  · simp only [Option.some.injEq] at h; subst h
    refine ⟨fun id hid => (by rw [hasL_pv] at hid; cases hid), fun P μ φ y hy => ?_⟩
    cases hy with
    | pv hy => cases hy with
      | agg h1 h2 h3 =>
        refine ⟨_, rfl, by simpa using h1, fun i p x hi hx => ?_, h3⟩
        simp only [List.getElem?_map, Option.map_eq_some_iff] at hi
        obtain ⟨q, hq, rfl⟩ := hi
        exact .pv (h2 i q x hq hx)
  · simp only [Option.some.injEq] at h; subst h
    refine ⟨fun id hid => by simpa [V.has] using hid, fun P μ φ y hy => ?_⟩
    cases hy with
    | agg h1 h2 h3 => exact ⟨_, rfl, h1, h2, h3⟩
  · cases h
theorem run_part_agg {P : Program} {w : World} {t : TypeId} {xs : Array Value} {off : Nat} (ha : isAggT P t = true) : (part t xs off).run P w = .ok (.agg (xs.extract off (off + csz P t))) w := by
  obtain ⟨d, hu, _⟩ := isAggT_und ha
  simp [part, run_isAgg hu, ha, run_sizeOf' hu]
theorem run_part_one {P : Program} {w : World} {t : TypeId} {d : TypeDesc} {xs : Array Value} {off : Nat} {y : Value} (hu : P.underlying t = some d) (ha : isAggT P t = false) (hy : xs[off]? = some y) : (part t xs off).run P w = .ok y w := by
  simp [part, run_isAgg hu, ha, hy]
theorem partV_ok {t : TypeId} {cs : List V} {off : Nat} {k : V → Option R} {r : R} (h : partV E t cs off k = some r) :
    ∃ v, (∀ (R' : Type) (k' : V → Option R'), partV E t cs off k' = k' v) ∧ k v = some r ∧ (∀ id, v.has id = true → hasL id cs = true) ∧
    ∀ (μ : Ro) (φ : Nat → Phys) (w : World) (xs : Array Value), cs.length = xs.size → (∀ (i : Nat) p x, cs[i]? = some p → xs[i]? = some x → RepV E.P μ φ p x) → (∀ (i : Nat) (x : Value), xs[i]? = some x → x.oneCell' = true) →
      ∃ z, (part t xs off).run E.P w = .ok z w ∧ RepV E.P μ φ v z := by
  unfold partV at h
  split at h
  · rename_i ha
    split at h
    · rename_i hn
      refine ⟨_, fun R' k' => by simp [partV, ha, hn], h, fun id hid => ?_, fun μ φ w xs h1 h2 h3 => ⟨_, run_part_agg ha, ?_⟩⟩
      · simp only [V.has] at hid
        obtain ⟨v, hv, hh⟩ := hasL_iff.1 hid
        exact hasL_mem (List.mem_of_mem_drop (List.mem_of_mem_take hv)) hh
      · refine .agg (by simp; omega) (fun i p x hi hx => ?_) (fun i x hx => ?_)
        · obtain ⟨_, hi⟩ := take_drop_get hi
          rw [Array.getElem?_extract] at hx
          split at hx
          · exact h2 _ p x hi hx
          · cases hx
        · rw [Array.getElem?_extract] at hx
          split at hx
          · exact h3 _ x hx
          · cases hx
    · cases h
  · rename_i ha
    have ha : isAggT E.P t = false := by simpa using ha
    split at h
    · rename_i v hv
      obtain ⟨u, h1, h2, h3, h4⟩ := ldTyV_ok h
      obtain ⟨d, hu⟩ := ldTyV_und h
      refine ⟨u, fun R' k' => by simp [partV, ha, hv, h1], h2, fun id hid => hasL_mem (List.mem_of_getElem? hv) (h4 id hid), fun μ φ w xs g1 g2 g3 => ?_⟩
      have hlt : off < cs.length := (List.getElem?_eq_some_iff.1 hv).1
      have hx : xs[off]? = some xs[off] := Array.getElem?_eq_getElem (by omega)
      exact ⟨_, run_part_one hu ha hx, h3 _ _ _ _ (g2 off v _ hv hx)⟩
    · cases h
theorem xfield_ok {s : TypeId} {x : V} {j : Nat} {k : V → Option R} {r : R} (h : xfield E s x j k = some r) :
    ∃ v, (∀ (R' : Type) (k' : V → Option R'), xfield E s x j k' = k' v) ∧ k v = some r ∧ (∀ id, v.has id = true → x.has id = true) ∧
    ∀ (μ : Ro) (φ : Nat → Phys) (w : World) (y : Value), RepV E.P μ φ x y → ∃ z, (Instr.field s y j).run E.P w = .ok z w ∧ RepV E.P μ φ v z := by
  unfold xfield at h
  split at h
  · rename_i o t cs ho hc
    obtain ⟨fs, f, hu, hf, rfl, rfl, hz⟩ := fieldOff_ok ho
    obtain ⟨v, h1, h2, h3, h4⟩ := partV_ok h
    obtain ⟨c1, c2⟩ := aggCells_ok hc
    refine ⟨v, fun R' k' => by simp [xfield, ho, hc, h1], h2, fun id hid => c1 id (h3 id hid), fun μ φ w y hy => ?_⟩
    obtain ⟨xs, rfl, g1, g2, g3⟩ := c2 _ _ _ _ hy
    obtain ⟨z, hz, hv⟩ := h4 μ φ w xs g1 g2 g3
    exact ⟨z, by simp [Instr.field, run_underlying hu, hf, Go.asAgg, hz], hv⟩
  · cases h
theorem wf_u8 (b : UInt8) : (Lit.int .u8 b.toNat).wf = true := by
  rw [wf_bool]
  have := b.toNat_lt
  simp [IntKind.min, IntKind.max, IntKind.signed, IntKind.bits]
  omega
theorem xindex_ok {t : TypeId} {x ix : V} {k : V → Option R} {r : R} (h : xindex E t x ix k = some r) :
    ∃ v, (∀ (R' : Type) (k' : V → Option R'), xindex E t x ix k' = k' v) ∧ k v = some r ∧ (∀ id, v.has id = true → x.has id = true) ∧
    ∀ (μ : Ro) (φ : Nat → Phys) (w : World) (y z : Value), RepV E.P μ φ x y → RepV E.P μ φ ix z → ∃ u, (Instr.index t y z).run E.P w = .ok u w ∧ RepV E.P μ φ v u := by
  unfold xindex at h
  split at h
  · rename_i q i
    split at h
    · rename_i s hu
      obtain ⟨b, hb, hk⟩ := Option.bind_eq_some_iff.1 h
      refine ⟨_, fun R' k' => by simp [xindex, hu, hb], hk, by simp, fun μ φ w y z hy hz => ?_⟩
      cases hz with
      | pv hz => cases hz with
        | int hwf =>
          cases hy with
          | pv hy => cases hy with
            | str hl =>
              unfold idxB at hb
              split at hb
              · rename_i h0
                have hlt := (List.getElem?_eq_some_iff.1 hb).1
                have hb' : (⟨s.toArray⟩ : ByteArray)[i.toNat]? = some b := by
                  rw [getElem?_def]
                  have : i.toNat < (⟨s.toArray⟩ : ByteArray).size := by simpa [ByteArray.size] using hlt
                  rw [dif_pos this]
                  have e := (List.getElem?_eq_some_iff.1 hb).2
                  simp only [Option.some.injEq]
                  rw [← e]; rfl
                refine ⟨_, ?_, .pv (.int (wf_u8 b))⟩
                simp [Instr.index, asIntOf, run_underlying hu, h0, hb']
              · cases hb
    · rename_i n et hu
      split at h
      · rename_i cs hc
        split at h
        · rename_i hn
          obtain ⟨v, h1, h2, h3, h4⟩ := partV_ok h
          obtain ⟨c1, c2⟩ := aggCells_ok hc
          refine ⟨v, fun R' k' => by simp only [xindex, hu, hc]; rw [if_pos hn, h1], h2, fun id hid => c1 id (h3 id hid), fun μ φ w y z hy hz => ?_⟩
          obtain ⟨xs, rfl, g1, g2, g3⟩ := c2 _ _ _ _ hy
          obtain ⟨u, hu1, hv⟩ := h4 μ φ w xs g1 g2 g3
          cases hz with
          | pv hz => cases hz with
            | int hwf =>
              refine ⟨u, ?_, hv⟩
              have hr := hn.1
              unfold inRange at hr
              simp [Instr.index, asIntOf, run_underlying hu, hr.1, hr.2, run_sizeOf_ne (show csz E.P et ≠ 0 by omega), hu1]
        · cases h
      · cases h
    · cases h
  · cases h
end
end Go.Ab
