/- The abstract operations are right, fourth part: lengths, slices, numbers, strings. -/
import Derived.Test.YtnbhhepiekhbjaaGreatAbOps3
set_option linter.unusedVariables false
namespace Go.Ab
open Go.RowKit (Below)

section
variable {R : Type} {E : Env}

theorem size_str (s : Bytes) : (⟨s.toArray⟩ : ByteArray).size = s.length := by
  show s.toArray.size = _
  simp
theorem wf_len {n : Nat} (h : n ≤ maxLen) : (Lit.int .i64 (n : Int)).wf = true := by
  rw [wf_bool]
  simp only [maxLen] at h
  simp [IntKind.min, IntKind.max, IntKind.signed, IntKind.bits]
  omega

theorem rs_len {P : Program} {μ : Ro} {sz : Nat} {es : List PV} {x : Value} (h : RepPV P μ (.rs sz es) x) : ∃ a cap, x = .slice a es.length cap ∧ es.length ≤ maxLen := by
  cases h with
  | rsNil => exact ⟨none, 0, rfl, by simp⟩
  | @rsE _ cap a h => exact ⟨some a, cap, rfl, by simp⟩
  | rs X h1 h2 => exact ⟨_, _, rfl, by omega⟩

theorem RelM.arr {G : Nat → Option (List PV)} {P : Program} {w0 : Base} {μ : Ro} {φ : Nat → Phys} {m : Mem} {w : World} (hM : RelM P G w0 μ φ m w) {id s : Nat} {et : TypeId} {es : List PV}
    (hm : m id = some (.arr s et es) ∨ m id = some (.fro s et es)) : RepArr P μ φ w id s et es := by
  rcases hm with hm | hm
  · exact hM.blk id _ hm
  · exact (hM.blk id _ hm).1
theorem RepArr.lenLe {P : Program} {μ : Ro} {φ : Nat → Phys} {w : World} {id s : Nat} {et : TypeId} {es : List PV} (h : RepArr P μ φ w id s et es) : es.length ≤ (φ id).cap ∧ (φ id).cap ≤ maxLen := by
  obtain ⟨a1, a2, a3, a4, a5, a6, a7⟩ := h
  refine ⟨?_, a6⟩
  split at a7
  · rw [a7.1, a7.2]; simp
  · obtain ⟨c, _, _, c3, _⟩ := a7; exact c3

theorem lenV_ok {x : V} {m : Mem} {k : Nat → Foot → Option R} {r : R} (h : lenV m x k = some r) :
    ∃ n ft, (∀ m2 : Mem, (∀ x ∈ ft, m2 x.2 = m x.2) → ∀ (R' : Type) (k' : Nat → Foot → Option R'), lenV m2 x k' = k' n ft) ∧ k n ft = some r ∧ (∀ x ∈ ft, x.1 = false) ∧
    ∀ (P : Program) (G : Nat → Option (List PV)) (w0 : Base) (μ : Ro) (φ : Nat → Phys) (w : World) (y : Value), RelM P G w0 μ φ m w → RepV P μ φ x y → (∀ id, x.has id = true → (m id).isSome = true) → n ≤ maxLen ∧ ∃ a cap, y = .slice a n cap := by
  unfold lenV at h
  split at h
  · refine ⟨_, _, fun m2 _ R' k' => by simp [lenV], h, by simp, fun P G w0 μ φ w y hM hy _ => ?_⟩
    cases hy with
    | pv hy => obtain ⟨a, cap, rfl, hl⟩ := rs_len hy; exact ⟨hl, _, _, rfl⟩
  · refine ⟨_, _, fun m2 _ R' k' => by simp [lenV], h, by simp, fun P G w0 μ φ w y hM hy _ => ?_⟩
    cases hy; exact ⟨by simp, _, _, rfl⟩
  · rename_i id lo len
    have key : ∀ (s : Nat) (et : TypeId) (es : List PV), (m id = some (.arr s et es) ∨ m id = some (.fro s et es)) →
        ∀ (P : Program) (G : Nat → Option (List PV)) (w0 : Base) (μ : Ro) (φ : Nat → Phys) (w : World) (y : Value), RelM P G w0 μ φ m w → RepV P μ φ (.osub id lo len) y → len ≤ maxLen ∧ ∃ a cap, y = .slice a len cap := by
      intro s et es hm P G w0 μ φ w y hM hy
      have hA := hM.arr hm
      have hl := hA.lenLe
      cases hy with
      | osubN => exact ⟨by simp, _, _, rfl⟩
      | osub hg hl' ha => have := hA.1; exact ⟨by omega, _, _, rfl⟩
    split at h
    · rename_i s et es hm
      exact ⟨_, _, fun m2 hm2 R' k' => by have := hm2 (false, id) (by simp); simp only at this; simp [lenV, this, hm], h, by simp, fun P G w0 μ φ w y hM hy _ => key s et es (.inl hm) P G w0 μ φ w y hM hy⟩
    · rename_i s et es hm
      exact ⟨_, _, fun m2 hm2 R' k' => by have := hm2 (false, id) (by simp); simp only at this; simp [lenV, this, hm], h, by simp, fun P G w0 μ φ w y hM hy _ => key s et es (.inr hm) P G w0 μ φ w y hM hy⟩
    · cases h
  · rename_i id
    split at h
    · rename_i s et es hm
      refine ⟨_, _, fun m2 hm2 R' k' => by have := hm2 (false, id) (by simp); simp only at this; simp [lenV, this, hm], h, by simp, fun P G w0 μ φ w y hM hy _ => ?_⟩
      have hA := hM.arr (.inl hm)
      have hl := hA.lenLe
      obtain ⟨a1, a2, a3, a4, a5, a6, a7⟩ := hA
      refine ⟨by omega, ?_⟩
      cases hy with
      | osN hg => rw [hg] at a7; simp only [a7.1]; exact ⟨_, _, rfl⟩
      | os hg => rw [a1]; exact ⟨_, _, rfl⟩
    · rename_i s et es hm
      refine ⟨_, _, fun m2 hm2 R' k' => by have := hm2 (false, id) (by simp); simp only at this; simp [lenV, this, hm], h, by simp, fun P G w0 μ φ w y hM hy _ => ?_⟩
      have hA := hM.arr (.inr hm)
      have hl := hA.lenLe
      obtain ⟨a1, a2, a3, a4, a5, a6, a7⟩ := hA
      refine ⟨by omega, ?_⟩
      cases hy with
      | osN hg => rw [hg] at a7; simp only [a7.1]; exact ⟨_, _, rfl⟩
      | os hg => rw [a1]; exact ⟨_, _, rfl⟩
    · rename_i cs hm
      split at h
      · rename_i hlen
        refine ⟨_, _, fun m2 hm2 R' k' => by have := hm2 (false, id) (by simp); simp only at this; simp [lenV, this, hm, hlen], h, by simp, fun P G w0 μ φ w y hM hy _ => ?_⟩
        obtain ⟨g, c, T, hg, hh, hs, hv, hone, hln⟩ := hM.blk id _ hm
        refine ⟨hlen, ?_⟩
        cases hy with
        | osN hg' => rw [hg] at hg'; cases hg'
        | os hg' => rw [hln]; exact ⟨_, _, rfl⟩
      · cases h
    · cases h
  · cases h
theorem lenM_ok {x : V} {m : Mem} {k : Nat → Foot → Option R} {r : R} (h : lenM m x k = some r) :
    ∃ n ft, (∀ m2 : Mem, (∀ x ∈ ft, m2 x.2 = m x.2) → ∀ (R' : Type) (k' : Nat → Foot → Option R'), lenM m2 x k' = k' n ft) ∧ k n ft = some r ∧ (∀ x ∈ ft, x.1 = false) ∧ n ≤ maxLen ∧
    ∀ (P : Program) (G : Nat → Option (List PV)) (w0 : Base) (μ : Ro) (φ : Nat → Phys) (w : World) (y : Value) (t kt et ty : TypeId), P.underlying t = some (.map kt et) → RelM P G w0 μ φ m w → RepV P μ φ x y →
      (Builtin.len_ #[t] ty #[y]).run P w = .ok (.int .i64 n) w := by
  unfold lenM at h
  split at h
  · rename_i id
    split at h
    · rename_i kt es hm
      split at h
      · rename_i hl
        refine ⟨_, _, fun m2 hm2 R' k' => by have := hm2 (false, id) (by simp); simp only at this; simp [lenM, this, hm, hl], h, by simp, hl, fun P G w0 μ φ w y t kt et ty hu hM hy => ?_⟩
        cases hy with
        | @om _ g hg =>
          obtain ⟨g', en, clock, kk, hg', hh, hs, _⟩ := hM.blk id _ hm
          rw [hg] at hg'; simp only [Option.some.injEq] at hg'; subst hg'
          simp [Builtin.len_, run_underlying hu, getObj, Sem.run, hh, goInt, hs]
      · cases h
    · cases h
  · refine ⟨_, _, fun m2 _ R' k' => by simp [lenM], h, by simp, by simp, fun P G w0 μ φ w y t kt et ty hu hM hy => ?_⟩
    cases hy with
    | pv hy => cases hy; simp [Builtin.len_, run_underlying hu, goInt]
  · cases h
theorem xlen_ok {t : TypeId} {x : V} {m : Mem} {k : V → Foot → Option R} {r : R} (h : xlen E t x m k = some r) :
    ∃ v ft, (∀ m2 : Mem, (∀ x ∈ ft, m2 x.2 = m x.2) → ∀ (R' : Type) (k' : V → Foot → Option R'), xlen E t x m2 k' = k' v ft) ∧ k v ft = some r ∧ (∀ x ∈ ft, x.1 = false) ∧ (∀ id, v.has id = false) ∧
    ∀ (G : Nat → Option (List PV)) (w0 : Base) (μ : Ro) (φ : Nat → Phys) (w : World) (y : Value) (ty : TypeId), RelM E.P G w0 μ φ m w → RepV E.P μ φ x y → (∀ id, x.has id = true → (m id).isSome = true) →
      ∃ z, (Builtin.len_ #[t] ty #[y]).run E.P w = .ok z w ∧ RepV E.P μ φ v z := by
  unfold xlen at h
  split at h
  · rename_i n e hu
    split at h
    · rename_i hn
      exact ⟨_, _, fun m2 _ R' k' => by simp [xlen, hu, hn], h, by simp, by simp, fun G w0 μ φ w y ty hM hy _ => ⟨_, by simp [Builtin.len_, run_underlying hu, goInt], .pv (.int (wf_len hn))⟩⟩
    · cases h
  · rename_i hu
    split at h
    · refine ⟨_, _, fun m2 _ R' k' => by simp [xlen, hu], h, by simp, by simp, fun G w0 μ φ w y ty hM hy _ => ?_⟩
      cases hy with
      | pv hy => cases hy with
        | @str s hl => exact ⟨_, by simp [Builtin.len_, run_underlying hu, goInt, size_str], .pv (.int (wf_len hl))⟩
    · cases h
  · rename_i e hu
    obtain ⟨n, ft, h1, h2, h3, h4⟩ := lenV_ok h
    refine ⟨_, ft, fun m2 hm2 R' k' => by simp only [xlen, hu]; rw [h1 m2 hm2], h2, h3, by simp, fun G w0 μ φ w y ty hM hy hq => ?_⟩
    obtain ⟨hl, a, cap, rfl⟩ := h4 _ _ _ _ _ _ _ hM hy hq
    exact ⟨_, by simp [Builtin.len_, run_underlying hu, goInt], .pv (.int (wf_len hl))⟩
  · rename_i kt et hu
    obtain ⟨n, ft, h1, h2, h3, hl, h4⟩ := lenM_ok h
    refine ⟨_, ft, fun m2 hm2 R' k' => by simp only [xlen, hu]; rw [h1 m2 hm2], h2, h3, by simp, fun G w0 μ φ w y ty hM hy hq => ?_⟩
    exact ⟨_, h4 _ _ _ _ _ _ _ _ _ _ _ hu hM hy, .pv (.int (wf_len hl))⟩
  · cases h
theorem boundOf_ok {d i : Int} {v : Option V} (h : boundOf d v = some i) : (v = none ∧ i = d) ∨ ∃ q, v = some (.pv (.int q i)) := by
  unfold boundOf at h
  split at h
  · simp only [Option.some.injEq] at h; exact .inl ⟨rfl, h.symm⟩
  · simp only [Option.some.injEq] at h; subst h; exact .inr ⟨_, rfl⟩
  · cases h
theorem run_sliceBound {P : Program} {w : World} {q : IntKind} {i : Int} {y : Nat} {code : BoundsCode} (h0 : 0 ≤ i) (h1 : i ≤ (y : Int)) : (Instr.sliceBound (.int q i) y code).run P w = .ok i.toNat w := by
  simp [Instr.sliceBound, asIntOf, h0, h1]
theorem run_sliceBounds {P : Program} {w : World} {isS : Bool} {len cap : Nat} {l h : Int} {lo hi : Option V} {lo' hi' : Option Value} {μ : Ro} {φ : Nat → Phys}
    (hl : boundOf 0 lo = some l) (hh : boundOf len hi = some h) (rl : ∀ v, lo = some v → ∃ y, lo' = some y ∧ RepV P μ φ v y) (rl0 : lo = none → lo' = none) (rh : ∀ v, hi = some v → ∃ y, hi' = some y ∧ RepV P μ φ v y) (rh0 : hi = none → hi' = none)
    (b0 : 0 ≤ l) (b1 : l ≤ h) (b2 : h ≤ (len : Int)) (b3 : len ≤ cap) :
    (Instr.sliceBounds isS len cap lo' hi' none).run P w = .ok (l.toNat, h.toNat, cap) w := by
  have e1 : ∃ y, (hi' = none ∧ h = len) ∨ (hi' = some y ∧ ∃ q, y = .int q h) := by
    rcases boundOf_ok hh with ⟨rfl, rfl⟩ | ⟨q, rfl⟩
    · exact ⟨undef, .inl ⟨rh0 rfl, rfl⟩⟩
    · obtain ⟨y, rfl, hy⟩ := rh _ rfl
      cases hy with
      | pv hy => cases hy with
        | int hw => exact ⟨_, .inr ⟨rfl, q, rfl⟩⟩
  have e2 : ∃ y, (lo' = none ∧ l = 0) ∨ (lo' = some y ∧ ∃ q, y = .int q l) := by
    rcases boundOf_ok hl with ⟨rfl, rfl⟩ | ⟨q, rfl⟩
    · exact ⟨undef, .inl ⟨rl0 rfl, rfl⟩⟩
    · obtain ⟨y, rfl, hy⟩ := rl _ rfl
      cases hy with
      | pv hy => cases hy with
        | int hw => exact ⟨_, .inr ⟨rfl, q, rfl⟩⟩
  clear rl rl0 rh rh0 hl hh
  obtain ⟨y, ⟨rfl, rfl⟩ | ⟨rfl, q, rfl⟩⟩ := e1 <;> obtain ⟨z, ⟨rfl, rfl⟩ | ⟨rfl, q', rfl⟩⟩ := e2
  · simp [Instr.sliceBounds]
  · have := @run_sliceBound P w q' l len BoundsCode.sliceB b0 (by omega)
    simp [Instr.sliceBounds, this]
  · have := @run_sliceBound P w q h cap (if isS then BoundsCode.sliceAcap else .sliceAlen) (by omega) (by omega)
    simp [Instr.sliceBounds, this]
  · have h1 := @run_sliceBound P w q h cap (if isS then BoundsCode.sliceAcap else .sliceAlen) (by omega) (by omega)
    have h2 := @run_sliceBound P w q' l h.toNat BoundsCode.sliceB b0 (by omega)
    simp [Instr.sliceBounds, h1, h2]

theorem str_slice {s : Bytes} {l h : Nat} (hl : l ≤ h) (hh : h ≤ s.length) : (⟨s.toArray⟩ : ByteArray).extract l h = ⟨((s.take h).drop l).toArray⟩ := by
  apply ByteArray.ext
  simp only [ByteArray.data_extract]
  apply Array.ext'
  simp [List.extract_eq_take_drop, List.drop_take]

theorem rs_slice {P : Program} {μ : Ro} {sz : Nat} {es : List PV} {x : Value} {l h : Nat} (hx : RepPV P μ (.rs sz es) x) (hl : l ≤ h) (hh : h ≤ es.length) :
    ∃ a cap, x = .slice a es.length cap ∧ es.length ≤ cap ∧ RepPV P μ (.rs sz ((es.take h).drop l)) (.slice (if cap = l then a else a.map (·.add (l * sz))) (h - l) (cap - l)) := by
  have hlen : ((es.take h).drop l).length = h - l := by simp; omega
  cases hx with
  | rsNil =>
    simp at hh; subst hh; have : l = 0 := by omega
    subst this
    exact ⟨none, 0, rfl, by simp, by simpa using RepPV.rsNil⟩
  | @rsE _ cap a hc =>
    simp at hh; subst hh; have : l = 0 := by omega
    subst this
    refine ⟨some a, cap, rfl, by simp, ?_⟩
    have : (if cap = 0 then some a else (some a).map (·.add (0 * sz))) = some a := by split <;> simp [Addr.add]
    rw [this]
    exact .rsE hc
  | @rs _ _ b o cap X h1 h2 h3 h4 h5 h6 =>
    refine ⟨_, cap, rfl, h1, ?_⟩
    have hget : ∀ (i : Nat) e, ((es.take h).drop l)[i]? = some e → es[l + i]? = some e := fun i e hi => (take_get (drop_get hi)).2
    by_cases hz : h = l
    · have : (es.take h).drop l = [] := List.eq_nil_of_length_eq_zero (by omega)
      rw [this]
      have hz' : h - l = 0 := by omega
      rw [hz']
      split
      · exact .rsE (by omega)
      · simp only [Option.map_some]; exact .rsE (by omega)
    · have hc : cap ≠ l := by omega
      rw [if_neg hc]
      simp only [Option.map_some, Addr.add_mid]
      have := RepPV.rs (P := P) (μ := μ) (sz := sz) (es := (es.take h).drop l) (b := b) (o := o + l * sz) (cap := cap - l) (fun i j => X (l + i) j) (by omega) (by omega)
        (fun i e hi => h3 _ e (hget i e hi)) (fun i e j p hi hj => by
          have := h4 _ e j p (hget i e hi) hj
          rw [Nat.add_mul] at this
          rw [← this]; congr 1; omega) (fun i e j p hi hj => h5 _ e j p (hget i e hi) hj) (fun i e j p hi hj => h6 _ e j p (hget i e hi) hj)
      rw [hlen] at this
      exact this

theorem run_slice_sl {P : Program} {w : World} {t e : TypeId} {a : Option Addr} {len cap l h : Nat} {lo' hi' : Option Value} (hu : P.underlying t = some (.slice e)) (hz : csz P e ≠ 0)
    (hb : (Instr.sliceBounds true len cap lo' hi' none).run P w = .ok (l, h, cap) w) :
    (Instr.sliceAt t (.slice a len cap) lo' hi' none).run P w = .ok (.slice (if cap = l then a else a.map (·.add (l * csz P e))) (h - l) (cap - l)) w := by
  simp [Instr.sliceAt, Instr.slice, run_underlying hu, hb, run_sizeOf_ne hz]

theorem xslice_ok {t : TypeId} {x : V} {lo hi mx : Option V} {m : Mem} {k : V → Foot → Option R} {r : R} (h : xslice E t x lo hi mx m k = some r) :
    ∃ v ft, (∀ m2 : Mem, (∀ x ∈ ft, m2 x.2 = m x.2) → ∀ (R' : Type) (k' : V → Foot → Option R'), xslice E t x lo hi mx m2 k' = k' v ft) ∧ k v ft = some r ∧ (∀ x ∈ ft, x.1 = false) ∧ (∀ id, v.has id = true → x.has id = true) ∧
    mx = none ∧ ∀ (G : Nat → Option (List PV)) (w0 : Base) (μ : Ro) (φ : Nat → Phys) (w : World) (y : Value) (lo' hi' : Option Value), RelM E.P G w0 μ φ m w → RepV E.P μ φ x y →
      (∀ v, lo = some v → ∃ y, lo' = some y ∧ RepV E.P μ φ v y) → (lo = none → lo' = none) → (∀ v, hi = some v → ∃ y, hi' = some y ∧ RepV E.P μ φ v y) → (hi = none → hi' = none) →
      ∃ z, (Instr.sliceAt t y lo' hi' none).run E.P w = .ok z w ∧ RepV E.P μ φ v z := by
  unfold xslice at h
  split at h
  · cases h
  · split at h
    · rename_i s hu
      split at h
      · rename_i l hh hl hhh
        split at h
        · rename_i hb
          refine ⟨_, _, fun m2 _ R' k' => by simp only [xslice, hu, hl, hhh]; rw [if_pos hb], h, by simp, by simp, rfl, fun G w0 μ φ w y lo' hi' hM hy r1 r2 r3 r4 => ?_⟩
          cases hy with
          | pv hy => cases hy with
            | str hlen =>
              have hB := run_sliceBounds (P := E.P) (w := w) (isS := false) (cap := s.length) hl hhh r1 r2 r3 r4 hb.1 hb.2.1 hb.2.2 (Nat.le_refl _)
              refine ⟨_, ?_, .pv (.str (s := (s.take hh.toNat).drop l.toNat) (by simp; omega))⟩
              simp only [Instr.sliceAt, Instr.slice, Sem.run_bind, run_underlying hu, Result.andThen_ok, size_str, hB]
              simp only [Option.isSome_none, Bool.false_eq_true, if_false, Sem.run_bind, Sem.run_pure, Result.andThen_ok, hB]
              rw [str_slice (by omega) (by omega)]
        · cases h
      · cases h
    · rename_i e sz es hu
      split at h
      · rename_i l hh hl hhh
        split at h
        · rename_i hb
          refine ⟨_, _, fun m2 _ R' k' => by simp only [xslice, hu, hl, hhh]; rw [if_pos hb], h, by simp, by simp, rfl, fun G w0 μ φ w y lo' hi' hM hy r1 r2 r3 r4 => ?_⟩
          cases hy with
          | pv hy =>
            obtain ⟨a, cap, rfl, hc, hr⟩ := rs_slice (l := l.toNat) (h := hh.toNat) hy (by omega) (by omega)
            have hB := run_sliceBounds (P := E.P) (w := w) (isS := true) (cap := cap) hl hhh r1 r2 r3 r4 hb.1 hb.2.1 hb.2.2.1 hc
            exact ⟨_, run_slice_sl hu hb.2.2.2.2 hB, by rw [← hb.2.2.2.1]; exact .pv hr⟩
        · cases h
      · cases h
    · rename_i e id hu
      have key : ∀ (s : Nat) (et : TypeId) (es : List PV) (l hh : Int), (m id = some (.arr s et es) ∨ m id = some (.fro s et es)) → boundOf 0 lo = some l → boundOf es.length hi = some hh → (0 ≤ l ∧ l ≤ hh ∧ hh ≤ (es.length : Int) ∧ s = csz E.P e) →
          ∀ (G : Nat → Option (List PV)) (w0 : Base) (μ : Ro) (φ : Nat → Phys) (w : World) (y : Value) (lo' hi' : Option Value), RelM E.P G w0 μ φ m w → RepV E.P μ φ (.os id) y →
            (∀ v, lo = some v → ∃ y, lo' = some y ∧ RepV E.P μ φ v y) → (lo = none → lo' = none) → (∀ v, hi = some v → ∃ y, hi' = some y ∧ RepV E.P μ φ v y) → (hi = none → hi' = none) →
            ∃ z, (Instr.sliceAt t y lo' hi' none).run E.P w = .ok z w ∧ RepV E.P μ φ (.osub id l.toNat (hh.toNat - l.toNat)) z := by
        intro s et es l hh hm hl hhh hb G w0 μ φ w y lo' hi' hM hy r1 r2 r3 r4
        have hA := hM.arr hm
        have hle := hA.lenLe
        obtain ⟨a1, a2, a3, a4, a5, a6, a7⟩ := hA
        cases hy with
        | osN hg =>
          rw [hg] at a7
          have h0 : es.length = 0 := by rw [a7.1]; rfl
          have hB := run_sliceBounds (P := E.P) (w := w) (isS := true) (cap := 0) hl hhh r1 r2 r3 r4 hb.1 hb.2.1 hb.2.2.1 (by omega)
          rw [h0] at hB
          refine ⟨_, run_slice_sl hu (by omega) hB, ?_⟩
          have e1 : l.toNat = 0 := by omega
          have e2 : hh.toNat = 0 := by omega
          rw [e1, e2]
          exact .osubN hg
        | @os _ g hg =>
          have hB := run_sliceBounds (P := E.P) (w := w) (isS := true) (cap := (φ id).cap) hl hhh r1 r2 r3 r4 hb.1 hb.2.1 hb.2.2.1 (by omega)
          rw [← a1] at hB
          refine ⟨_, run_slice_sl hu (by omega) hB, ?_⟩
          by_cases hc : (φ id).cap = l.toNat
          · rw [if_pos hc]
            exact .osub hg (by omega) (.inr hc)
          · rw [if_neg hc]
            simp only [Option.map_some, Addr.add_mid, Nat.zero_add]
            refine .osub hg (by omega) (.inl ?_)
            rw [a2, hb.2.2.2]
      split at h
      · rename_i s et es hm
        split at h
        · rename_i l hh hl hhh
          split at h
          · rename_i hb
            exact ⟨_, _, fun m2 hm2 R' k' => by have := hm2 (false, id) (by simp); simp only at this; simp only [xslice, hu, this, hm, hl, hhh]; rw [if_pos hb], h, by simp, by simp [V.has], rfl, key s et es l hh (.inl hm) hl hhh hb⟩
          · cases h
        · cases h
      · rename_i s et es hm
        split at h
        · rename_i l hh hl hhh
          split at h
          · rename_i hb
            exact ⟨_, _, fun m2 hm2 R' k' => by have := hm2 (false, id) (by simp); simp only at this; simp only [xslice, hu, this, hm, hl, hhh]; rw [if_pos hb], h, by simp, by simp [V.has], rfl, key s et es l hh (.inr hm) hl hhh hb⟩
          · cases h
        · cases h
      · cases h
    · cases h
end
end Go.Ab
