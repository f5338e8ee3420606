/- The abstract operations are right, seventh part: what is stored is frozen; stores. -/
import Derived.Test.YtnbhhepiekhbjaaGreatAbOps6
set_option linter.unusedVariables false
namespace Go.Ab
open Go.RowKit (Below)

section
variable {P : Program} {G : Nat → Option (List PV)} {w0 : Base} {μ : Ro} {φ : Nat → Phys} {m m' : Mem} {w : World}
def Lives (m m' : Mem) : Prop := ∀ id, (m id).isSome = true → (m' id).isSome = true
theorem Lives.refl (m : Mem) : Lives m m := fun _ h => h
theorem Lives.trans {a b c : Mem} (h : Lives a b) (k : Lives b c) : Lives a c := fun id hid => k id (h id hid)
theorem Lives.set {id : Nat} {b : Blk} : Lives m (memSet m id b) := fun j hj => by
  by_cases e : j = id
  · subst e; simp
  · rw [memSet_ne e]; exact hj
theorem FrOk.lives {f : Fr} {ρ : Nat → Value} {μ' : Ro} (h : FrOk P μ φ m f ρ) (hμ : ∀ b o, μ b = some o → μ' b = some o) (hl : Lives m m') : FrOk P μ' φ m' f ρ :=
  h.mono hμ fun id hid => ⟨rfl, hl id hid⟩

theorem frzS_ok {v : V} {p : PV} (h : frzS m v = some (p, m')) : Lives m m' ∧
    ∀ (P : Program) (G : Nat → Option (List PV)) (w0 : Base) (μ : Ro) (φ : Nat → Phys) (w : World) (x : Value), RelM P G w0 μ φ m w → RepV P μ φ v x →
      ∃ μ', (∀ b o, μ b = some o → μ' b = some o) ∧ RelM P G w0 μ' φ m' w ∧ RepPV P μ' p x := by
  unfold frzS at h
  split at h
  · simp only [Option.some.injEq, Prod.mk.injEq] at h; obtain ⟨rfl, rfl⟩ := h
    exact ⟨.refl _, fun P G w0 μ φ w x hM hx => ⟨μ, fun _ _ h => h, hM, by cases hx with | pv hx => exact hx⟩⟩
  · simp only [Option.some.injEq, Prod.mk.injEq] at h; obtain ⟨rfl, rfl⟩ := h
    exact ⟨.refl _, fun P G w0 μ φ w x hM hx => ⟨μ, fun _ _ h => h, hM, by cases hx; exact .rsNil⟩⟩
  · rename_i id
    split at h
    · rename_i s et es hm
      simp only [Option.some.injEq, Prod.mk.injEq] at h; obtain ⟨rfl, rfl⟩ := h
      refine ⟨.set, fun P G w0 μ φ w x hM hx => ⟨_, roAdd_mono hM (φ id).g, hM.freeze hm, ?_⟩⟩
      refine (hM.arr (.inl hm)).full hM hx (roAdd_mono hM _) fun g hg => ?_
      simp [roAdd, hg]
    · rename_i s et es hm
      simp only [Option.some.injEq, Prod.mk.injEq] at h; obtain ⟨rfl, rfl⟩ := h
      refine ⟨.refl _, fun P G w0 μ φ w x hM hx => ⟨μ, fun _ _ h => h, hM, ?_⟩⟩
      refine (hM.arr (.inr hm)).full hM hx (fun _ _ h => h) fun g hg => ?_
      obtain ⟨o, ho⟩ := Option.isSome_iff_exists.1 ((hM.blk id _ hm).2 g hg)
      rw [ho, hM.ro _ _ ho]
    · cases h
  · cases h
theorem frzS_pure {v : V} {p : PV} (h : frzS noMem v = some (p, m')) : ∀ (P : Program) (μ : Ro) (φ : Nat → Phys) (x : Value), RepV P μ φ v x → RepPV P μ p x := by
  unfold frzS at h
  split at h
  · simp only [Option.some.injEq, Prod.mk.injEq] at h; obtain ⟨rfl, rfl⟩ := h
    exact fun P μ φ x hx => by cases hx with | pv hx => exact hx
  · simp only [Option.some.injEq, Prod.mk.injEq] at h; obtain ⟨rfl, rfl⟩ := h
    exact fun P μ φ x hx => by cases hx; exact .rsNil
  · simp [noMem] at h
  · cases h
theorem frzS_noMem {v : V} {p : PV} (h : frzS noMem v = some (p, m')) : m' = noMem := by
  unfold frzS at h
  split at h
  · simp only [Option.some.injEq, Prod.mk.injEq] at h; exact h.2.symm
  · simp only [Option.some.injEq, Prod.mk.injEq] at h; exact h.2.symm
  · simp [noMem] at h
  · cases h

theorem frzSL_ok : ∀ {cs : List V} {m m' : Mem} {ps : List PV}, frzSL m cs = some (ps, m') → Lives m m' ∧ ps.length = cs.length ∧
    ∀ (P : Program) (G : Nat → Option (List PV)) (w0 : Base) (μ : Ro) (φ : Nat → Phys) (w : World) (X : Nat → Value), RelM P G w0 μ φ m w → (∀ (i : Nat) u, cs[i]? = some u → RepV P μ φ u (X i)) →
      ∃ μ', (∀ b o, μ b = some o → μ' b = some o) ∧ RelM P G w0 μ' φ m' w ∧ ∀ (i : Nat) p, ps[i]? = some p → RepPV P μ' p (X i)
  | [], m, m', ps, h => by
    simp only [frzSL, Option.some.injEq, Prod.mk.injEq] at h; obtain ⟨rfl, rfl⟩ := h
    exact ⟨.refl _, rfl, fun P G w0 μ φ w X hM _ => ⟨μ, fun _ _ h => h, hM, by simp⟩⟩
  | c :: r, m, m', ps, h => by
    simp only [frzSL] at h
    split at h
    · rename_i p m1 h1
      split at h
      · rename_i ps1 m2 h2
        simp only [Option.some.injEq, Prod.mk.injEq] at h; obtain ⟨rfl, rfl⟩ := h
        obtain ⟨a1, a2⟩ := frzS_ok h1
        obtain ⟨b1, b2, b3⟩ := frzSL_ok h2
        refine ⟨a1.trans b1, by simp [b2], fun P G w0 μ φ w X hM hx => ?_⟩
        obtain ⟨μ1, c1, c2, c3⟩ := a2 P G w0 μ φ w (X 0) hM (hx 0 c (by simp))
        obtain ⟨μ2, d1, d2, d3⟩ := b3 P G w0 μ1 φ w (fun i => X (i + 1)) c2 (fun i u hu => (hx (i + 1) u (by simpa using hu)).monoR c1)
        refine ⟨μ2, fun b o h => d1 b o (c1 b o h), d2, fun i q hq => ?_⟩
        cases i with
        | zero => simp at hq; subst hq; exact c3.mono d1
        | succ i => exact d3 i q (by simpa using hq)
      · cases h
    · cases h
theorem frzSL_pure : ∀ {cs : List V} {m' : Mem} {ps : List PV}, frzSL noMem cs = some (ps, m') → ps.length = cs.length ∧
    ∀ (P : Program) (μ : Ro) (φ : Nat → Phys) (X : Nat → Value), (∀ (i : Nat) u, cs[i]? = some u → RepV P μ φ u (X i)) → ∀ (i : Nat) p, ps[i]? = some p → RepPV P μ p (X i)
  | [], m', ps, h => by
    simp only [frzSL, Option.some.injEq, Prod.mk.injEq] at h; obtain ⟨rfl, rfl⟩ := h
    exact ⟨rfl, by simp⟩
  | c :: r, m', ps, h => by
    simp only [frzSL] at h
    split at h
    · rename_i p m1 h1
      split at h
      · rename_i ps1 m2 h2
        simp only [Option.some.injEq, Prod.mk.injEq] at h; obtain ⟨rfl, rfl⟩ := h
        have := frzS_noMem h1; subst this
        obtain ⟨b2, b3⟩ := frzSL_pure h2
        refine ⟨by simp [b2], fun P μ φ X hx i q hq => ?_⟩
        cases i with
        | zero => simp at hq; subst hq; exact frzS_pure h1 P μ φ _ (hx 0 c (by simp))
        | succ i => exact b3 P μ φ (fun i => X (i + 1)) (fun i u hu => hx (i + 1) u (by simpa using hu)) i q (by simpa using hq)
      · cases h
    · cases h
structure ElemOk (P : Program) (μ : Ro) (n : Nat) (p : PV) (x : Value) : Prop where
  len : p.cells.length = n
  size : x.cells.size = n
  rep : ∀ (j : Nat) q y, p.cells[j]? = some q → x.cells[j]? = some y → RepPV P μ q y
  one : ∀ (j : Nat) y, x.cells[j]? = some y → y.oneCell' = true

theorem elem_of_cells {P : Program} {μ : Ro} {n : Nat} {agg : Bool} {ps : List PV} {p : PV} {x : Value} (hp : (if agg then some (.agg ps) else match ps with | [p] => some p | _ => none) = some p) (hl : ps.length = n)
    (hs : x.cells.size = n) (hr : ∀ (j : Nat) q y, ps[j]? = some q → x.cells[j]? = some y → RepPV P μ q y) (h1 : ∀ (j : Nat) y, x.cells[j]? = some y → y.oneCell' = true) : ElemOk P μ n p x := by
  have hc : p.cells = ps := by
    cases agg with
    | true => simp at hp; subst hp; rfl
    | false =>
      simp only [Bool.false_eq_true, if_false] at hp
      split at hp
      · rename_i q
        simp only [Option.some.injEq] at hp; subst hp
        have hlt : 0 < x.cells.size := by simp at hl; omega
        have hr0 := hr 0 q _ (by simp) (Array.getElem?_eq_getElem hlt)
        have h10 := h1 0 _ (Array.getElem?_eq_getElem hlt)
        generalize x.cells[0] = y at hr0 h10
        cases q <;> first | rfl | (cases hr0; simp [Value.oneCell'] at h10)
      · cases hp
  exact ⟨by rw [hc]; exact hl, hs, by rw [hc]; exact hr, h1⟩

theorem frzElem_ok {m m' : Mem} {n : Nat} {agg : Bool} {v : V} {p : PV} (h : frzElem m n agg v = some (p, m')) : Lives m m' ∧
    ∀ (P : Program) (G : Nat → Option (List PV)) (w0 : Base) (μ : Ro) (φ : Nat → Phys) (w : World) (x : Value), RelM P G w0 μ φ m w → RepV P μ φ v x →
      ∃ μ', (∀ b o, μ b = some o → μ' b = some o) ∧ RelM P G w0 μ' φ m' w ∧ ElemOk P μ' n p x := by
  unfold frzElem at h
  split at h
  · rename_i cs hc
    obtain ⟨c1, c2, c3⟩ := toCells_ok hc
    split at h
    · rename_i ps m1 hf
      obtain ⟨f1, f2, f3⟩ := frzSL_ok hf
      have hp : (if agg then some (.agg ps) else match ps with | [p] => some p | _ => none) = some p ∧ m1 = m' := by
        cases agg with
        | true => simp at h; exact ⟨by simp [h.1], h.2⟩
        | false =>
          simp only [Bool.false_eq_true, if_false] at h ⊢
          split at h
          · simp only [Option.some.injEq, Prod.mk.injEq] at h; exact ⟨by simp [h.1], h.2⟩
          · cases h
      obtain ⟨hp, rfl⟩ := hp
      refine ⟨f1, fun P G w0 μ φ w x hM hx => ?_⟩
      obtain ⟨d1, d2, d3⟩ := c3 P μ φ x hx
      have hX : ∀ (i : Nat), i < cs.length → x.cells[i]? = some (x.cells.getD i undef) := fun i hi => by
        have hlt : i < x.cells.size := by omega
        rw [Array.getElem?_eq_getElem hlt]; simp [Array.getD, hlt]
      obtain ⟨μ', e1, e2, e3⟩ := f3 P G w0 μ φ w (fun i => x.cells.getD i undef) hM fun i u hu => d2 i u _ hu (hX i (List.getElem?_eq_some_iff.1 hu).1)
      refine ⟨μ', e1, e2, elem_of_cells hp (by omega) d1 (fun j q y hq hy => ?_) d3⟩
      have := e3 j q hq
      rw [hX j (by have := (List.getElem?_eq_some_iff.1 hq).1; omega)] at hy
      simp only [Option.some.injEq] at hy; subst hy; exact this
    · cases h
  · cases h
theorem frzElem_pure {m' : Mem} {n : Nat} {agg : Bool} {v : V} {p : PV} (h : frzElem noMem n agg v = some (p, m')) :
    ∀ (P : Program) (μ : Ro) (φ : Nat → Phys) (x : Value), RepV P μ φ v x → ElemOk P μ n p x := by
  unfold frzElem at h
  split at h
  · rename_i cs hc
    obtain ⟨c1, c2, c3⟩ := toCells_ok hc
    split at h
    · rename_i ps m1 hf
      obtain ⟨f2, f3⟩ := frzSL_pure hf
      have hp : (if agg then some (.agg ps) else match ps with | [p] => some p | _ => none) = some p := by
        cases agg with
        | true => simp at h; simp [h.1]
        | false =>
          simp only [Bool.false_eq_true, if_false] at h ⊢
          split at h
          · simp only [Option.some.injEq, Prod.mk.injEq] at h; simp [h.1]
          · cases h
      refine fun P μ φ x hx => ?_
      obtain ⟨d1, d2, d3⟩ := c3 P μ φ x hx
      have hX : ∀ (i : Nat), i < cs.length → x.cells[i]? = some (x.cells.getD i undef) := fun i hi => by
        have hlt : i < x.cells.size := by omega
        rw [Array.getElem?_eq_getElem hlt]; simp [Array.getD, hlt]
      have e3 := f3 P μ φ (fun i => x.cells.getD i undef) fun i u hu => d2 i u _ hu (hX i (List.getElem?_eq_some_iff.1 hu).1)
      refine elem_of_cells hp (by omega) d1 (fun j q y hq hy => ?_) d3
      have := e3 j q hq
      rw [hX j (by have := (List.getElem?_eq_some_iff.1 hq).1; omega)] at hy
      simp only [Option.some.injEq] at hy; subst hy; exact this
    · cases h
  · cases h
theorem frzElemD_ok {draw : Bool} {m m' : Mem} {n : Nat} {agg : Bool} {v : V} {p : PV} (h : frzElemD draw m n agg v = some (p, m')) : Lives m m' ∧
    (draw = true → m' = m ∧ ∀ m2 : Mem, frzElemD true m2 n agg v = some (p, m2)) ∧
    ∀ (P : Program) (G : Nat → Option (List PV)) (w0 : Base) (μ : Ro) (φ : Nat → Phys) (w : World) (x : Value), RelM P G w0 μ φ m w → RepV P μ φ v x →
      ∃ μ', (∀ b o, μ b = some o → μ' b = some o) ∧ RelM P G w0 μ' φ m' w ∧ ElemOk P μ' n p x := by
  unfold frzElemD at h
  split at h
  · rename_i hd
    split at h
    · rename_i q m1 hf
      simp only [Option.some.injEq, Prod.mk.injEq] at h; obtain ⟨rfl, rfl⟩ := h
      exact ⟨.refl _, fun _ => ⟨rfl, fun m2 => by simp [frzElemD, hf]⟩, fun P G w0 μ φ w x hM hx => ⟨μ, fun _ _ h => h, hM, frzElem_pure hf P μ φ x hx⟩⟩
    · cases h
  · rename_i hd
    obtain ⟨h1, h2⟩ := frzElem_ok h
    exact ⟨h1, fun hd' => absurd hd' hd, h2⟩
theorem RepArr.set {P : Program} {μ : Ro} {φ : Nat → Phys} {w : World} {id sz : Nat} {et : TypeId} {es : List PV} (hA : RepArr P μ φ w id sz et es) {g : Nat} (hg : (φ id).g = some g) {i off n : Nat} {e p q : PV} {x : Value}
    (he : es[i]? = some e) (hE : ElemOk P μ n p x) (hb : off + n ≤ sz) (hq : q.cells = splice (elemCells sz e) off p.cells) :
    ∃ c T, w.heap[g]? = some (.cells c T (0, 0)) ∧ i * sz + off + x.cells.size ≤ c.size ∧ RepArr P μ φ (w.setRow g (splice c.toList (i * sz + off) x.cells.toList).toArray) id sz et (es.set i q) := by
  obtain ⟨a1, a2, a3, a4, a5, a6, a7⟩ := hA
  rw [hg] at a7
  obtain ⟨c, c1, c2, c3, c4, c5⟩ := a7
  have hi : i < es.length := (List.getElem?_eq_some_iff.1 he).1
  have hbd : i * sz + off + n ≤ c.size := by
    have : (i + 1) * sz ≤ (φ id).cap * sz := Nat.mul_le_mul_right _ (by omega)
    rw [Nat.add_mul] at this; omega
  have hxl : x.cells.toList.length = n := by simpa using hE.size
  have hsl : (elemCells sz e).length = sz := elemCells_length _ _
  have hql : q.cells.length = sz := by rw [hq, splice_length (by rw [hsl, hE.len]; exact hb), hsl]
  have hsp : (splice c.toList (i * sz + off) x.cells.toList).length = c.size := by rw [splice_length (by simp [hE.size]; omega)]; simp
  have hset : ∀ (i' : Nat) e', (es.set i q)[i']? = some e' → (i' = i ∧ e' = q) ∨ (i' ≠ i ∧ es[i']? = some e') := by
    intro i' e' h'
    rw [List.getElem?_set] at h'
    split at h'
    · rename_i hii; subst hii; simp [hi] at h'; exact .inl ⟨rfl, h'.symm⟩
    · rename_i hii; exact .inr ⟨fun e => hii e.symm, h'⟩
  refine ⟨c, et, c1, by rw [hE.size]; exact hbd, ?_⟩
  refine ⟨by simp [a1], a2, a3, a4, fun i' e' h' => ?_, a6, ?_⟩
  · rcases hset i' e' h' with ⟨_, rfl⟩ | ⟨_, h'⟩
    · exact hql
    · exact a5 i' e' h'
  · rw [hg]
    refine ⟨_, setRow_heap w g c _ et (0, 0) c1, by simp [hsp, c2], by simpa using c3, fun i' e' j p' x' h' hj hx => ?_, fun j x' hj hx => ?_⟩
    · rw [List.getElem?_toArray] at hx
      rcases splice_get (by simp [hE.size]; omega) hx with ⟨b1, b2, b3⟩ | ⟨b1, b2⟩
      · rw [hxl] at b2
        have hii : i' = i ∧ e' = q := by
          rcases hset i' e' h' with h | ⟨hne, h'⟩
          · exact h
          · exfalso
            have hjl := (List.getElem?_eq_some_iff.1 hj).1
            rw [a5 i' e' h'] at hjl
            rcases Nat.lt_or_gt_of_ne hne with hlt | hgt
            · have : (i' + 1) * sz ≤ i * sz := Nat.mul_le_mul_right _ hlt
              rw [Nat.add_mul] at this; omega
            · have : (i + 1) * sz ≤ i' * sz := Nat.mul_le_mul_right _ hgt
              rw [Nat.add_mul] at this; omega
        obtain ⟨rfl, rfl⟩ := hii
        rw [hq] at hj
        rcases splice_get (by rw [hsl, hE.len]; exact hb) hj with ⟨d1, d2, d3⟩ | ⟨d1, d2⟩
        · exact hE.rep _ _ _ d3 (by rw [← Array.getElem?_toList, ← b3]; congr 1; omega)
        · exfalso; rw [hE.len] at d1; omega
      · rw [hxl] at b1
        have b2 : c[i' * sz + j]? = some x' := by simpa using b2
        rcases hset i' e' h' with ⟨rfl, rfl⟩ | ⟨hne, h'⟩
        · rw [hq] at hj
          rcases splice_get (by rw [hsl, hE.len]; exact hb) hj with ⟨d1, d2, d3⟩ | ⟨d1, d2⟩
          · exfalso; rw [hE.len] at d2; omega
          · rw [elemCells_eq (a5 i' e he)] at d2
            exact c4 i' e j p' x' he d2 b2
        · exact c4 i' e' j p' x' h' hj b2
    · rw [List.getElem?_toArray] at hx
      rw [List.length_set] at hj
      rcases splice_get (by simp [hE.size]; omega) hx with ⟨b1, b2, b3⟩ | ⟨b1, b2⟩
      · exact hE.one _ x' (by simpa using b3)
      · exact c5 j x' hj (by simpa using b2)
end

section
variable {R : Type} {E : Env}
theorem xstore_ok {draw : Bool} {t : TypeId} {a x : V} {m : Mem} {k : Mem → Foot → Option R} {r : R} (h : xstore E draw t a x m k = some r) :
    ∃ m' ft, k m' ft = some r ∧ (draw = true → ∃ id b, m' = memSet m id b ∧ ft = [(true, id)] ∧ ∀ m2 : Mem, m2 id = m id → ∀ (R' : Type) (k' : Mem → Foot → Option R'), xstore E true t a x m2 k' = k' (memSet m2 id b) [(true, id)]) ∧
    Lives m m' ∧ ∀ (G : Nat → Option (List PV)) (w0 : Base) (μ : Ro) (φ : Nat → Phys) (w : World) (ya yx : Value), RelM E.P G w0 μ φ m w → RepV E.P μ φ a ya → RepV E.P μ φ x yx → (∀ id, x.has id = true → (m id).isSome = true) →
      ∃ w' μ', (Instr.storeAt t ya yx).run E.P w = .ok () w' ∧ (∀ b o, μ b = some o → μ' b = some o) ∧ RelM E.P G w0 μ' φ m' w' := by
  unfold xstore at h
  split at h
  · rename_i id off
    split at h
    · rename_i cs hm
      split at h
      · rename_i new hn
        split at h
        · rename_i hb
          refine ⟨_, _, h, fun hd => ⟨id, _, rfl, rfl, fun m2 hm2 R' k' => by simp only [xstore, hm2, hm, hn]; rw [if_pos hb]⟩, .set, fun G w0 μ φ w ya yx hM ha hx hlx => ?_⟩
          obtain ⟨n1, n2, n3⟩ := toCells_ok hn
          obtain ⟨x1, x2, x3⟩ := n3 _ _ _ _ hx
          cases ha with
          | @op _ _ g hg =>
            obtain ⟨g', c, T, hg', hh, hs, hv, h1, hln⟩ := hM.blk id _ hm
            rw [hg] at hg'; simp only [Option.some.injEq] at hg'; subst hg'
            have hi := info_of_und' (P := E.P) (t := t) (by omega)
            have hfit : off + yx.cells.toList.length ≤ c.toList.length := by simp; omega
            refine ⟨_, μ, run_storeVar_at x1 hi hh (by omega) x3, fun _ _ h => h, ?_⟩
            refine hM.write hm rfl hg (Bel.setRow (Nat.le_refl _)) setRow_size (fun k hk => setRow_heap_ne hk) ⟨g, _, T, hg, setRow_heap w g c _ T (0, 0) hh, ?_, fun i u y hu hy => ?_, fun i y hy => ?_, by rw [splice_length (by omega)]; exact hln⟩ rfl fun j hj => ?_
            · simp only [List.size_toArray]
              rw [splice_length hfit, splice_length (by omega)]; simp [hs]
            · rw [List.getElem?_toArray] at hy
              have e1 : yx.cells.toList.length = new.length := by simp; omega
              rcases splice_get hfit hy with ⟨b1, b2, b3⟩ | ⟨b1, b2⟩ <;> rcases splice_get (by omega) hu with ⟨d1, d2, d3⟩ | ⟨d1, d2⟩
              · exact x2 _ u y d3 (by simpa using b3)
              · exfalso; omega
              · exfalso; omega
              · exact hv i u y d2 (by simpa using b2)
            · rw [List.getElem?_toArray] at hy
              rcases splice_get hfit hy with ⟨b1, b2, b3⟩ | ⟨b1, b2⟩
              · exact x3 _ y (by simpa using b3)
              · exact h1 i y (by simpa using b2)
            · simp only [Blk.names] at hj
              obtain ⟨v, hv', hh'⟩ := hasL_iff.1 hj
              simp only [splice_eq, List.mem_append] at hv'
              rcases hv' with (hv' | hv') | hv'
              · exact hM.liveB id cs j hm (hasL_mem (List.mem_of_mem_take hv') hh')
              · exact hlx j (n2 j (hasL_mem hv' hh'))
              · exact hM.liveB id cs j hm (hasL_mem (List.mem_of_mem_drop hv') hh')
        · cases h
      · cases h
    · cases h
  · rename_i id i off
    split at h
    · rename_i p m1 hf
      obtain ⟨f1, f2, f3⟩ := frzElemD_ok hf
      split at h
      · rename_i s et es hm
        obtain ⟨e, he, h⟩ := Option.bind_eq_some_iff.1 h
        have key : ∀ q, 0 < csz E.P t → off + csz E.P t ≤ s → (p.cells.length = csz E.P t → e.cells.length = s → q.cells = splice (elemCells s e) off p.cells) →
            ∀ (G : Nat → Option (List PV)) (w0 : Base) (μ : Ro) (φ : Nat → Phys) (w : World) (ya yx : Value), RelM E.P G w0 μ φ m w → RepV E.P μ φ (.oe id i off) ya → RepV E.P μ φ x yx → (∀ id, x.has id = true → (m id).isSome = true) →
              ∃ w' μ', (Instr.storeAt t ya yx).run E.P w = .ok () w' ∧ (∀ b o, μ b = some o → μ' b = some o) ∧ RelM E.P G w0 μ' φ (memSet m1 id (.arr s et (es.set i q))) w' := by
          intro q hz hb hq G w0 μ φ w ya yx hM ha hx _
          obtain ⟨μ', g1, g2, g3⟩ := f3 _ _ _ _ _ _ _ hM hx
          cases ha with
          | @oe _ _ _ g hg =>
            have hA : RepArr E.P μ' φ w id s et es := g2.blk id _ hm
            have hq' := hq g3.len (hA.2.2.2.2.1 i e he)
            obtain ⟨c, T, hh, hfit, hA'⟩ := hA.set hg he g3 hb hq'
            have hsz : (φ id).sz = s := hA.2.1
            have hi := info_of_und' (P := E.P) (t := t) (by omega)
            refine ⟨_, μ', ?_, g1, g2.write hm rfl hg (Bel.setRow (Nat.le_refl _)) setRow_size (fun k hk => setRow_heap_ne hk) hA' rfl fun j hj => by simp [Blk.names] at hj⟩
            rw [hsz]
            exact run_storeVar_at g3.size hi hh hfit g3.one
        split at h
        · rename_i hb
          refine ⟨_, _, h, fun hd => ?_, f1.trans .set, key p (by omega) (by omega) fun h1 h2 => ?_⟩
          · obtain ⟨rfl, f4⟩ := f2 hd
            refine ⟨id, _, rfl, rfl, fun m2 hm2 R' k' => ?_⟩
            simp only [xstore, f4 m2, hm2, hm, he, Option.bind_some]; rw [if_pos hb]
          · rw [hb.1, splice_eq, h1, hb.2.1]
            simp [elemCells_length]
        · rename_i hnb
          split at h
          · rename_i hb
            refine ⟨_, _, h, fun hd => ?_, f1.trans .set, key _ (by omega) (by omega) fun _ _ => rfl⟩
            obtain ⟨rfl, f4⟩ := f2 hd
            refine ⟨id, _, rfl, rfl, fun m2 hm2 R' k' => ?_⟩
            simp only [xstore, f4 m2, hm2, hm, he, Option.bind_some]; rw [if_neg hnb, if_pos hb]
          · cases h
      · cases h
    · cases h
  · cases h
end
end Go.Ab
