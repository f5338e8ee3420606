/- The abstract operations are right, tenth part: 'append', 'copy', 'make', values that are written out. -/
import Derived.Test.YtnbhhepiekhbjaaGreatAbOps9
set_option linter.unusedVariables false
namespace Go.Ab
open Go.RowKit (Below)

section
variable {R : Type} {E : Env}

theorem xappend_ok {draw : Bool} {site : Nat} {t t' : TypeId} {s x : V} {f : Fr} {m : Mem} {k : V → Fr → Mem → Option R} {r : R} (h : xappend E draw site t t' s x f m k = some r) : draw = false ∧ t' = t ∧
    ∃ place f' m', k (.os place) f' m' = some r ∧ (m' place).isSome = true ∧
    ∀ (G : Nat → Option (List PV)) (w0 : Base) (μ : Ro) (φ : Nat → Phys) (w : World) (ρ : Nat → Value) (ys yx : Value) (ty : TypeId), RelM E.P G w0 μ φ m w → FrOk E.P μ φ m f ρ → RepV E.P μ φ s ys → RepV E.P μ φ x yx →
      ∃ w' y φ', (Builtin.append_ #[t, t] ty #[ys, yx]).run E.P w = .ok y w' ∧ RelM E.P G w0 μ φ' m' w' ∧ FrOk E.P μ φ' m' f' ρ ∧ RepV E.P μ φ' (.os place) y := by
  unfold xappend at h
  split at h
  · cases h
  · rename_i hd
    simp only [Bool.or_eq_true, not_or, Bool.not_eq_true, Bool.not_eq_false', decide_eq_true_eq, Bool.not_eq_eq_eq_not, Bool.not_true, Bool.not_false] at hd
    refine ⟨hd.1, by simpa using hd.2, ?_⟩
    split at h
    · rename_i e hu
      split at h
      · cases h
      · rename_i hz
        obtain ⟨z, hz⟩ : ∃ z, zeroCellsV E e = some z := by
          cases hq : zeroCellsV E e with
          | none => simp [hq] at hz
          | some z => exact ⟨z, rfl⟩
        split at h
        · rename_i new ft hel
          obtain ⟨_, _, hsrc⟩ := elemsV_ok hel
          split at h
          · split at h
            · rename_i hb
              obtain ⟨f', m', _, hk, hms, _, hfr⟩ := fresh_ok h
              refine ⟨_, f', m', hk, by simp [hms], fun G w0 μ φ w ρ ys yx ty hM hF hs hx => ?_⟩
              cases hs
              exact append_any (es := []) (draw := false) hu hz rfl hb.2.2 hb.2.1 (by simpa using hb.1) hM hF (hsrc _ _ _ _ _ _ _ hM hx) (.inl ⟨rfl, rfl⟩) hfr
            · cases h
          · rename_i id
            split at h
            · rename_i sz et es hm
              split at h
              · rename_i hc
                obtain ⟨rfl, rfl, hxid⟩ := hc
                split at h
                · rename_i hb
                  obtain ⟨f', m', _, hk, hms, _, hfr⟩ := fresh_ok h
                  refine ⟨_, f', m', hk, by simp [hms], fun G w0 μ φ w ρ ys yx ty hM hF hs hx => ?_⟩
                  have hM1 := hM.forget id
                  have hF1 := hF.forget id
                  have hA : RepArr E.P μ φ w id (csz E.P et) et es := hM.blk id _ hm
                  have hpos : 0 < csz E.P et := hA.2.2.2.1
                  refine append_any (draw := false) hu hz rfl hpos hb.2 hb.1 hM1 hF1 (hsrc _ _ _ _ _ _ _ hM hx) ?_ hfr
                  cases hs with
                  | osN hg =>
                    have a7 := hA.2.2.2.2.2.2
                    rw [hg] at a7; exact .inl ⟨rfl, a7.1⟩
                  | @os _ g hg =>
                    obtain ⟨c, c1, c2, c3, c4, c5⟩ := hA.cells hg
                    obtain ⟨o1, o2⟩ := hM.own id _ g hm hg
                    refine .inr ⟨g, (φ id).cap, c, by rw [hA.1], o1, o2 rfl, fun j b' hj hg' => ?_, c1, c2, c3, hA.lenLe.2, c4, c5⟩
                    obtain ⟨hne, b2, hb2, _⟩ := forget_some hj
                    exact hne (hM.inj j id b2 _ g hb2 hm hg' hg)
                · cases h
              · cases h
            · cases h
          · cases h
        · cases h
    · cases h
theorem run_copy_any {P : Program} {w : World} {dT ty elem : TypeId} {ts : List TypeId} {g dLen dCap : Nat} {c : Array Value} {T : TypeId} {sz : Nat} {es new : List PV} {μ : Ro} {yx : Value} (hu : P.underlying dT = some (.slice elem)) (hsz : sz = csz P elem) (hpos : 0 < sz)
    (hx : SrcOk P μ w sz new yx) (hg : w.heap[g]? = some (.cells c T (0, 0))) (hle : es.length * sz ≤ c.size) (hd : dLen = es.length) (hC : Cells P μ sz es (c.toList.take (es.length * sz))) :
    ∃ c' : Array Value, (Builtin.copy_ (dT :: ts).toArray ty #[.slice (some ⟨g, 0, none⟩) dLen dCap, yx]).run P w = .ok (goInt ((min new.length es.length : Nat) : Int)) (w.setRow g c') ∧ c'.size = c.size ∧
      Cells P μ sz (new.take es.length ++ es.drop new.length) (c'.toList.take ((new.take es.length ++ es.drop new.length).length * sz)) := by
  subst hd
  obtain ⟨i, hi, hs⟩ := csz_und (P := P) (t := elem) (by omega)
  have hnl : (new.take es.length ++ es.drop new.length).length = es.length := by simp; omega
  rw [hnl]
  cases hx with
  | none hn =>
    subst hn
    refine ⟨c, ?_, rfl, by simpa using hC⟩
    have := setRow_self w g c T (0, 0) hg
    rw [this]
    simp [Builtin.copy_, run_underlying hu, Builtin.lenOf, Builtin.firstCells, sizeOf, typeInfo, hi, storeCells]
  | @some a cx xs hX hxs hcx hcm =>
    have hmin : Nat.min new.length es.length = min new.length es.length := rfl
    have hl : (xs.take (min new.length es.length * sz)).length = min new.length es.length * i.size := by
      rw [hs, ← hsz, List.length_take, hX.len]
      exact Nat.min_eq_left (Nat.mul_le_mul_right _ (Nat.min_le_left _ _))
    have hle2 : min new.length es.length * sz ≤ es.length * sz := Nat.mul_le_mul_right _ (Nat.min_le_right _ _)
    have hf := run_firstCells_some (P := P) w i.size (min new.length es.length) a new.length cx (xs.take (min new.length es.length * sz)) hl (fun j v hj => hxs j v (take_get hj).2)
    have hl' : (xs.take (min new.length es.length * sz)).length = min new.length es.length * sz := by rw [hl, hs, hsz]
    have hst := run_storeCells_at P g 0 T (xs.take (min new.length es.length * sz)) 0 c w hg (by rw [hl']; omega) (fun v hv => by obtain ⟨j, hj⟩ := List.getElem?_of_mem hv; exact hX.one j v (take_get hj).2)
    simp only [Nat.zero_add, List.take_zero, List.nil_append, hl'] at hst
    refine ⟨(xs.take (min new.length es.length * sz) ++ c.toList.drop (min new.length es.length * sz)).toArray, ?_, ?_, ?_⟩
    · have hmin' : Nat.min new.length es.length = min new.length es.length := rfl
      simp [Builtin.copy_, run_underlying hu, Builtin.lenOf, sizeOf, typeInfo, hi, hmin', hf, hst]
    · simp only [List.size_toArray, List.length_append, hl', List.length_drop, Array.length_toList]; omega
    · have e1 : (xs.take (min new.length es.length * sz) ++ c.toList.drop (min new.length es.length * sz)).take (es.length * sz) = xs.take (min new.length es.length * sz) ++ (c.toList.take (es.length * sz)).drop (min new.length es.length * sz) := by
        rw [List.take_append, hl', List.drop_take, List.take_of_length_le (by rw [hl']; exact hle2)]
      simp only []
      rw [e1]
      have h1 := (hX.take (min new.length es.length)).append (hC.drop (min new.length es.length))
      have e2 : new.take (min new.length es.length) = new.take es.length := by
        rcases Nat.le_total new.length es.length with hh | hh
        · rw [Nat.min_eq_left hh, List.take_length, List.take_of_length_le hh]
        · rw [Nat.min_eq_right hh]
      have e3 : es.drop (min new.length es.length) = es.drop new.length := by
        rcases Nat.le_total new.length es.length with hh | hh
        · rw [Nat.min_eq_left hh]
        · rw [Nat.min_eq_right hh, List.drop_length, List.drop_eq_nil_of_le hh]
      rw [e2, e3] at h1; exact h1

theorem xcopy_ok {t : TypeId} {d x : V} {m : Mem} {k : V → Mem → Foot → Option R} {r : R} (h : xcopy E t d x m k = some r) :
    ∃ n id b ft, (∀ m2 : Mem, (∀ x ∈ ((true, id) :: ft : Foot), m2 x.2 = m x.2) → ∀ (R' : Type) (k' : V → Mem → Foot → Option R'), xcopy E t d x m2 k' = k' (.pv (.int .i64 n)) (memSet m2 id b) ((true, id) :: ft)) ∧ k (.pv (.int .i64 n)) (memSet m id b) ((true, id) :: ft) = some r ∧
    ∀ (G : Nat → Option (List PV)) (w0 : Base) (μ : Ro) (φ : Nat → Phys) (w : World) (ρ : Nat → Value) (f : Fr) (yd yx : Value) (ts : List TypeId) (ty : TypeId), RelM E.P G w0 μ φ m w → FrOk E.P μ φ m f ρ → RepV E.P μ φ d yd → RepV E.P μ φ x yx →
      ∃ w' φ', (Builtin.copy_ (t :: ts).toArray ty #[yd, yx]).run E.P w = .ok (.int .i64 n) w' ∧ RelM E.P G w0 μ φ' (memSet m id b) w' ∧ FrOk E.P μ φ' (memSet m id b) f ρ ∧ (Lit.int .i64 n).wf = true := by
  unfold xcopy at h
  split at h
  · rename_i e hu
    split at h
    · rename_i id
      split at h
      · rename_i sz et es hm
        split at h
        · rename_i hc
          split at h
          · rename_i new ft hel
            obtain ⟨hnat, _, hsrc⟩ := elemsV_ok hel
            refine ⟨_, id, _, ft, fun m2 hm2 R' k' => ?_, h, fun G w0 μ φ w ρ f yd yx ts ty hM hF hd hx => ?_⟩
            · have h1 := hm2 (true, id) (by simp)
              simp only at h1
              simp only [xcopy, hu, h1, hm]
              rw [if_pos hc]
              simp only [hnat m2 (fun y hy => hm2 y (by simp [hy]))]
            · have hA : RepArr E.P μ φ w id sz et es := hM.blk id _ hm
              have hS := hsrc _ _ _ _ _ _ _ hM hx
              have hle := hA.lenLe
              have hlen : (new.take es.length ++ es.drop new.length).length = es.length := by simp; omega
              have hwf : (Lit.int .i64 ((min new.length es.length : Nat) : Int)).wf = true := wf_len (by omega)
              cases hd with
              | osN hg =>
                have a7 := hA.2.2.2.2.2.2
                rw [hg] at a7
                have h0 := a7.1
                subst h0
                refine ⟨w, φ, ?_, ?_, ?_, hwf⟩
                · obtain ⟨i, hi, hs⟩ := csz_und (P := E.P) (t := e) (by have := hA.2.2.2.1; omega)
                  have hl0 : ∀ x : Addr, (loadCells x 0).run E.P w = .ok #[] w := fun x => by simpa using run_loadCells_list (P := E.P) w x [] (by simp)
                  cases hS with
                  | none hn => subst hn; simp [Builtin.copy_, run_underlying hu, Builtin.lenOf, Builtin.firstCells, sizeOf, typeInfo, hi, hA.1, goInt]
                  | some xs hX hxs hcx hcm => simp [Builtin.copy_, run_underlying hu, Builtin.lenOf, Builtin.firstCells, sizeOf, typeInfo, hi, hA.1, hl0, goInt]
                · have : memSet m id (.arr sz et (new.take ([] : List PV).length ++ ([] : List PV).drop new.length)) = m := by
                    funext j
                    by_cases e : j = id
                    · subst e; simp [hm]
                    · rw [memSet_ne e]
                  rw [this]; exact hM
                · exact hF.lives (fun _ _ h => h) .set
              | @os _ g hg =>
                obtain ⟨c, c1, c2, c3, c4, c5⟩ := hA.cells hg
                obtain ⟨c', r1, r2, r3⟩ := run_copy_any (ts := ts) (ty := ty) (dCap := (φ id).cap) hu hc.1 hA.2.2.2.1 hS c1 c4 hA.1 c5
                refine ⟨_, φ, r1, hM.write hm rfl hg (Bel.setRow (Nat.le_refl _)) setRow_size (fun k hk => setRow_heap_ne hk) ?_ rfl (by simp [Blk.names]), hF.lives (fun _ _ h => h) .set, hwf⟩
                refine RepArr.of_cells (g := g) ?_ hA.2.2.1 hA.2.2.2.1 hle.2 (setRow_heap w g c c' et (0, 0) c1) (by rw [r2, c2]) (by rw [hlen]; exact c3) r3
                rw [hlen, ← hA.1, ← hA.2.1]
                cases hq : φ id with
                | mk a b c d => rw [hq] at hg; simp only at hg; simp [hg]
          · cases h
        · cases h
      · cases h
    · cases h
  · cases h
end
end Go.Ab
