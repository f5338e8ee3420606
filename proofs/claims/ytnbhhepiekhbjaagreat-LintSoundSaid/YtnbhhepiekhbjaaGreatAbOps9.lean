/- The abstract operations are right, ninth part: 'append'. -/
import Derived.Test.YtnbhhepiekhbjaaGreatAbOps8
set_option linter.unusedVariables false
namespace Go.Ab
open Go.RowKit (Below)

section
variable {P : Program} {w : World}
theorem run_append_zero {t ty e : TypeId} (hu : P.underlying t = some (.slice e)) (hz : csz P e ≠ 0) {base a : Option Addr} {n cap c : Nat} (hn : n ≤ cap) :
    (Builtin.append_ #[t, t] ty #[.slice base n cap, .slice a 0 c]).run P w = .ok (.slice base n cap) w := by
  obtain ⟨i, hi, hs⟩ := csz_und hz
  have hl : ∀ x : Addr, (loadCells x 0).run P w = .ok #[] w := fun x => by simpa using run_loadCells_list (P := P) w x [] (by simp)
  cases base <;> cases a <;> simp [Builtin.append_, run_underlying hu, sizeOf, typeInfo, hi, Builtin.lenOf, Builtin.firstCells, hn, hl, storeCells]
end

section
variable {R : Type} {E : Env}
theorem bytes_und {P : Program} {t : TypeId} {i : TypeInfo} (hi : P.info? t = some i) : i.bytes = bsz P t ∧ i.size = csz P t := by simp [bsz, csz, hi]
theorem append_any {e t ty : TypeId} {sz : Nat} {es new : List PV} {z : List V} (hu : E.P.underlying t = some (.slice e)) (hz : zeroCellsV E e = some z) (hsz : sz = csz E.P e) (hpos : 0 < csz E.P e) (hby : 0 < bsz E.P e) (hroom : (es ++ new).length * bsz E.P e ≤ roomBound)
    {G : Nat → Option (List PV)} {w0 : Base} {μ : Ro} {φ : Nat → Phys} {m : Mem} {w : World} {ρ : Nat → Value} {f : Fr} {draw : Bool} {site : Nat} (hM : RelM E.P G w0 μ φ m w) (hF : FrOk E.P μ φ m f ρ)
    {ys yx : Value} (hx : SrcOk E.P μ w sz new yx)
    (hs : (ys = .slice none 0 0 ∧ es = []) ∨ ∃ (g cap : Nat) (c : Array Value), ys = .slice (some ⟨g, 0, none⟩) es.length cap ∧ w0.heap.size ≤ g ∧ μ g = none ∧ (∀ id b', m id = some b' → (φ id).g ≠ some g) ∧ w.heap[g]? = some (.cells c e (0, 0)) ∧ c.size = cap * sz ∧ es.length ≤ cap ∧ cap ≤ maxLen ∧
      es.length * sz ≤ c.size ∧ Cells E.P μ sz es (c.toList.take (es.length * sz)))
    {f' : Fr} {m' : Mem} (hfr : ∀ (P : Program) (G : Nat → Option (List PV)) (w0 : Base) (μ : Ro) (φ : Nat → Phys) (w w' : World) (ρ : Nat → Value) (ph : Phys), RelM P G w0 μ φ m w → FrOk P μ φ m f ρ → PutOk P w0 μ φ m w w' site (.arr sz e (es ++ new)) ph →
      ∃ φ', φ' site = ph ∧ RelM P G w0 μ φ' m' w' ∧ FrOk P μ φ' m' f' ρ) :
    ∃ w' y φ', (Builtin.append_ #[t, t] ty #[ys, yx]).run E.P w = .ok y w' ∧ RelM E.P G w0 μ φ' m' w' ∧ FrOk E.P μ φ' m' f' ρ ∧ RepV E.P μ φ' (.os site) y := by
  obtain ⟨i, zv, hi, hzv, his, _, hzs, _, _, _⟩ := zeroCellsV_ok hz
  obtain ⟨hib, _⟩ := bytes_und hi
  have hlen63 : (es ++ new).length ≤ 140737488355328 := by
    have : (es ++ new).length * 1 ≤ (es ++ new).length * bsz E.P e := Nat.mul_le_mul_left _ hby
    simp only [roomBound] at hroom; omega
  have hmax : (es ++ new).length ≤ maxLen := by simp only [maxLen]; omega
  have hll : (es ++ new).length = es.length + new.length := by simp
  -- the result lies nowhere
  have nilCase : es = [] → new = [] → ys = .slice none 0 0 → (Builtin.append_ #[t, t] ty #[ys, yx]).run E.P w = .ok ys w → ∃ w' y φ', (Builtin.append_ #[t, t] ty #[ys, yx]).run E.P w = .ok y w' ∧ RelM E.P G w0 μ φ' m' w' ∧ FrOk E.P μ φ' m' f' ρ ∧ RepV E.P μ φ' (.os site) y := by
    intro h1 h2 h3 hr
    obtain ⟨φ', a1, a2, a3⟩ := hfr E.P G w0 μ φ w w ρ ⟨none, 0, 0, sz⟩ hM hF ⟨Bel.refl _ _, hM.ro, fun _ _ _ _ _ => rfl, by simp, fun φ' hp _ => by
      refine ⟨by rw [hp, h1, h2]; rfl, by rw [hp], hsz, by omega, by rw [h1, h2]; simp, by rw [hp]; simp [maxLen], ?_⟩
      rw [hp]; exact ⟨by rw [h1, h2]; rfl, rfl⟩, by simp [Blk.names], fun st h => by cases h⟩
    exact ⟨w, ys, φ', hr, a2, a3, by rw [h3]; exact .osN (by rw [a1])⟩
  -- the result lies in a block that is there
  have atCase : ∀ (g cap : Nat) (c : Array Value) (w' : World), w0.heap.size ≤ g → μ g = none → (∀ id b', m id = some b' → (φ id).g ≠ some g) → Bel g w w' → (∀ k, k ≠ g → w'.heap[k]? = w.heap[k]?) →
      w'.heap[g]? = some (.cells c e (0, 0)) → c.size = cap * sz → (es ++ new).length ≤ cap → cap ≤ maxLen → Cells E.P μ sz (es ++ new) (c.toList.take ((es ++ new).length * sz)) →
      (Builtin.append_ #[t, t] ty #[ys, yx]).run E.P w = .ok (.slice (some ⟨g, 0, none⟩) (es.length + new.length) cap) w' →
      ∃ w' y φ', (Builtin.append_ #[t, t] ty #[ys, yx]).run E.P w = .ok y w' ∧ RelM E.P G w0 μ φ' m' w' ∧ FrOk E.P μ φ' m' f' ρ ∧ RepV E.P μ φ' (.os site) y := by
    intro g cap c w' b1 b2 b3 b4 b5 b6 b7 b8 b9 b10 hr
    obtain ⟨φ', a1, a2, a3⟩ := hfr E.P G w0 μ φ w w' ρ ⟨some g, cap, (es ++ new).length, sz⟩ hM hF ⟨b4.mono b1, fun k o hk => by rw [b5 k (fun e => by subst e; rw [b2] at hk; cases hk)]; exact hM.ro k o hk,
      fun id b' g' hid hg' => b5 g' (fun e => by subst e; exact b3 id b' hid hg'), fun g' hg' => by simp only [Option.some.injEq] at hg'; subst hg'; exact ⟨b1, b2, b3⟩,
      fun φ' hp _ => RepArr.of_cells (by rw [hp]) hsz (by omega) (by rw [hp]; exact b9) b6 (by rw [hp]; exact b7) (by rw [hp]; exact b8) b10, by simp [Blk.names], fun st h => by cases h⟩
    refine ⟨w', _, φ', hr, a2, a3, ?_⟩
    have := RepV.os (P := E.P) (μ := μ) (φ := φ') (id := site) (g := g) (by rw [a1])
    rw [a1, hll] at this; exact this
  -- the result lies in a new block
  have newCase : ∀ (cap : Nat) (c : Array Value), c.size = cap * sz → (es ++ new).length ≤ cap → cap ≤ maxLen → Cells E.P μ sz (es ++ new) (c.toList.take ((es ++ new).length * sz)) →
      (Builtin.append_ #[t, t] ty #[ys, yx]).run E.P w = .ok (.slice (some ⟨w.heap.size, 0, none⟩) (es.length + new.length) cap) (w.drew.alloc (.cells c e)) →
      ∃ w' y φ', (Builtin.append_ #[t, t] ty #[ys, yx]).run E.P w = .ok y w' ∧ RelM E.P G w0 μ φ' m' w' ∧ FrOk E.P μ φ' m' f' ρ ∧ RepV E.P μ φ' (.os site) y := by
    intro cap c b7 b8 b9 b10 hr
    obtain ⟨φ', a1, a2, a3⟩ := hfr E.P G w0 μ φ w.drew _ ρ ⟨some w.heap.size, cap, (es ++ new).length, sz⟩ hM.drew hF (PutOk.alloc (o := .cells c e) hM.drew rfl
      (fun φ' hp _ => RepArr.of_cells (g := w.heap.size) (by rw [hp]) hsz (by omega) (by rw [hp]; exact b9) (alloc_new w.drew _) (by rw [hp]; exact b7) (by rw [hp]; exact b8) b10) (by simp [Blk.names]))
    refine ⟨_, _, φ', hr, a2, a3, ?_⟩
    have := RepV.os (P := E.P) (μ := μ) (φ := φ') (id := site) (g := w.heap.size) (by rw [a1])
    rw [a1, hll] at this; exact this
  have hzc : ∀ n, (Builtin.zeroCells zv.cells n).size = n * sz := fun n => by rw [size_zeroCells, hzs, hsz]
  rcases hs with ⟨rfl, rfl⟩ | ⟨g, cap, c, rfl, g1, g2, g3, g4, g5, g6, g7, g8, g9⟩
  · cases hx with
    | none hn => exact nilCase rfl hn rfl (run_append_zero hu (by omega) (Nat.le_refl _))
    | @some a cx xs hC hxs hcx hcm =>
      by_cases h0 : new.length = 0
      · have hn : new = [] := List.eq_nil_of_length_eq_zero h0
        refine nilCase rfl hn rfl ?_
        rw [h0]; exact run_append_zero hu (by omega) (Nat.le_refl _)
      · have hr := run_append_nil (P := E.P) w t ty e i zv hu hi hzv a new.length cx xs (by rw [hC.len, hsz, his]) hxs (by omega) (by simp at hlen63; omega) (by simp only [roomBound] at hroom; rw [hib]; simp at hroom; omega)
        have hge := grownCap_ge w new.length 0 e
        refine newCase _ _ ?_ (by simpa using hge) (grownCap_le_maxLen w _ 0 e (by simpa using hmax)) ?_ (by simpa using hr)
        · rw [Array.size_append, hzc]; simp only [List.size_toArray, hC.len, ← Nat.add_mul]; congr 1; omega
        · have : ((xs.toArray ++ Builtin.zeroCells zv.cells (grownCap w new.length 0 e - new.length)).toList.take (([] ++ new).length * sz)) = xs := by
            simp only [Array.toList_append, List.nil_append]
            exact List.take_left' hC.len
          rw [this]; exact hC
  · cases hx with
    | none hn =>
      subst hn
      refine atCase g cap c w g1 g2 g3 (Bel.refl _ _) (fun _ _ => rfl) g4 g5 (by simpa using g6) g7 (by simpa using g9) ?_
      simpa using run_append_zero (w := w) (ty := ty) (base := some ⟨g, 0, none⟩) (a := none) (c := 0) hu (by omega) g6
    | @some a cx xs hC hxs hcx hcm =>
      by_cases hrm : es.length + new.length ≤ cap
      · have hfit : es.length * i.size + xs.length ≤ c.size := by rw [his, ← hsz, hC.len, g5, ← Nat.add_mul]; exact Nat.mul_le_mul_right _ hrm
        have hr := run_append_room (P := E.P) w t ty e i hu hi g es.length cap c g4 a new.length cx xs (by rw [hC.len, hsz, his]) hxs (fun u hu => by obtain ⟨j, hj⟩ := List.getElem?_of_mem hu; exact hC.one j u hj) hrm hfit
        rw [his, ← hsz] at hr hfit
        refine atCase g cap _ _ g1 g2 g3 (Bel.setRow (Nat.le_refl _)) (fun k hk => setRow_heap_ne hk) (setRow_heap w g c _ e (0, 0) g4) ?_ (by omega) g7 ?_ hr
        · simp only [List.size_toArray, List.length_append, List.length_take, List.length_drop, Array.length_toList]
          omega
        · have h1 : (c.toList.take (es.length * sz)).length = es.length * sz := by simp; omega
          have : ((c.toList.take (es.length * sz) ++ xs ++ c.toList.drop (es.length * sz + xs.length)).toArray.toList.take ((es ++ new).length * sz)) = c.toList.take (es.length * sz) ++ xs := by
            simp only []
            exact List.take_left' (by rw [List.length_append, h1, hC.len, hll, Nat.add_mul])
          rw [this]; exact g9.append hC
      · have h1 : (c.toList.take (es.length * sz)).length = es.length * sz := by simp; omega
        have hr := run_append_grow (P := E.P) w t ty e i zv hu hi hzv ⟨g, 0, none⟩ es.length cap (c.toList.take (es.length * sz)) (by rw [h1, hsz, his]) (fun j v hj => by
            rw [Addr.add_mid, cell?_of_heap g4]; simpa using (take_get hj).2) a new.length cx xs (by rw [hC.len, hsz, his]) hxs (by omega) (by omega)
          (growslice_fits (by omega) (by rw [hib, ← hll]; simpa [roomBound] using hroom))
        have hge := grownCap_ge w (es.length + new.length) cap e
        refine newCase _ _ ?_ (by rw [hll]; exact hge) (grownCap_le_maxLen w _ cap e (by omega)) ?_ hr
        · rw [Array.size_append, Array.size_append, hzc]; simp only [List.size_toArray, hC.len, h1, ← Nat.add_mul]; congr 1; omega
        · have : ((c.toList.take (es.length * sz)).toArray ++ xs.toArray ++ Builtin.zeroCells zv.cells (grownCap w (es.length + new.length) cap e - (es.length + new.length))).toList.take ((es ++ new).length * sz) = c.toList.take (es.length * sz) ++ xs := by
            simp only [Array.toList_append]
            exact List.take_left' (by rw [List.length_append, h1, hC.len, hll, Nat.add_mul])
          rw [this]; exact g9.append hC
end
end Go.Ab
