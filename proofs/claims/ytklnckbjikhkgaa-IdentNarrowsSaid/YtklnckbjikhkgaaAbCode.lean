/- What the evaluator says of code holds of the model: conditions, blocks, loops, functions. -/
import Derived.Test.YtklnckbjikhkgaaAbOrd4
import Derived.Scope
namespace Go.Ab
open Go.RowKit (Below)

/-- a loop by rounds -/
theorem wp_loop_n {P : Program} {c : Code} {Q : Exit → Act → World → Prop} (I : Nat → Act → World → Prop)
    (round : ∀ n a w, I n a w → ∃ n', n = n' + 1 ∧ c.wp P (Exit.then (I n') Q) a w) : ∀ n a w, I n a w → (Code.loop c).wp P Q a w := by
  intro n a w hI b k cs
  have key : ∀ n a w, I n a w → ∃ e a' w', Q e a' w' ∧ Arrives P (lone (b.at a (.code c :: .inLoop c :: k)) cs w) b k cs e a' w' := by
    intro n
    induction n with
    | zero => intro a w h; obtain ⟨n', h, _⟩ := round 0 a w h; omega
    | succ n ih =>
      intro a w h
      obtain ⟨n', hn, hr⟩ := round _ a w h
      have hn : n = n' := by omega
      subst hn
      obtain ⟨e, a₁, w₁, hq, harr⟩ := hr b (.inLoop c :: k) cs
      cases e with
      | normal =>
        obtain ⟨e₂, a₂, w₂, hq₂, harr₂⟩ := ih a₁ w₁ hq
        exact ⟨e₂, a₂, w₂, hq₂, .of_steps (Steps.trans harr (.one step_inLoop)) harr₂⟩
      | _ => exact ⟨_, a₁, w₁, hq, .pass (x := .inLoop c) rfl (fun _ _ => .inl (by simp)) harr⟩
  obtain ⟨e, a', w', hq, harr⟩ := key n a w hI
  exact ⟨e, a', w', hq, .of_steps (.one step_loop) harr⟩

/-! ### a loop's head -/
mutual
theorem same_ok : ∀ {v u : V}, v.same u = true → v = u
  | .op i o, u, h => by
    cases u <;> simp only [V.same, Bool.and_eq_true, Bool.false_eq_true] at h
    rw [Nat.eq_of_beq_eq_true h.1, Nat.eq_of_beq_eq_true h.2]
  | .oe i a o, u, h => by
    cases u <;> simp only [V.same, Bool.and_eq_true, Bool.false_eq_true] at h
    rw [Nat.eq_of_beq_eq_true h.1.1, Nat.eq_of_beq_eq_true h.1.2, Nat.eq_of_beq_eq_true h.2]
  | .os i, u, h => by
    cases u <;> simp only [V.same, Bool.false_eq_true] at h
    rw [Nat.eq_of_beq_eq_true h]
  | .om i, u, h => by
    cases u <;> simp only [V.same, Bool.false_eq_true] at h
    rw [Nat.eq_of_beq_eq_true h]
  | .nils, u, h => by
    cases u <;> simp only [V.same, Bool.false_eq_true] at h
    rfl
  | .fn f cs, u, h => by
    cases u <;> simp only [V.same, Bool.and_eq_true, Bool.false_eq_true] at h
    rw [Nat.eq_of_beq_eq_true h.1, sameL_ok h.2]
  | .pv p, u, h => by
    cases u <;> try (cases p <;> simp [V.same] at h; done)
    rename_i q
    cases p <;> cases q <;> first | rfl | (simp [V.same] at h)
  | .osub _ _ _, u, h => by cases u <;> simp [V.same] at h
  | .agg _, u, h => by cases u <;> simp [V.same] at h
  | .tup _, u, h => by cases u <;> simp [V.same] at h
  | .top, u, h => by cases u <;> simp [V.same] at h
theorem sameL_ok : ∀ {vs us : List V}, sameL vs us = true → vs = us
  | [], us, h => by
    cases us with
    | nil => rfl
    | cons _ _ => simp [sameL] at h
  | v :: vs, us, h => by
    cases us with
    | nil => simp [sameL] at h
    | cons u us =>
      simp only [sameL, Bool.and_eq_true] at h
      rw [same_ok h.1, sameL_ok h.2]
end

theorem encS_ok {R T : Type} : ∀ {shs : List Sh} {vs : List V} {t : T} {k : tyS shs T → Option R} {r : R}, encS shs vs t k = some r → ∃ x, k x = some r ∧ decS shs x = (vs, t) ∧ vs.length = shs.length ∧ ∀ M, (∀ sh ∈ shs, sh.within M = true) → withinL M vs = true := by
  intro shs
  induction shs with
  | nil =>
    intro vs t k r h
    cases vs with
    | nil => exact ⟨t, h, rfl, rfl, fun _ _ => rfl⟩
    | cons v vs => simp [encS] at h
  | cons sh shs ih =>
    intro vs t k r h
    cases vs with
    | nil => cases sh <;> simp [encS] at h
    | cons v vs =>
      have push : ∀ {M}, v.within M = true → withinL M vs = true → withinL M (v :: vs) = true := fun h1 h2 => by simp [withinL, h1, h2]
      cases sh with
      | own u =>
        simp only [encS] at h
        split at h
        · rename_i hs
          obtain ⟨x, x1, x2, x3, x4⟩ := ih h
          have := same_ok hs; subst this
          refine ⟨x, x1, by simp only [decS]; rw [x2], by simp [x3], fun M hM => push ?_ (x4 M fun s hs => hM s (by simp [hs]))⟩
          exact hM (.own u) (by simp)
        · cases h
      | int q =>
        cases v <;> try (simp [encS] at h; done)
        rename_i p
        cases p <;> try (simp [encS] at h; done)
        simp only [encS] at h
        split at h
        · rename_i hq
          subst hq
          obtain ⟨x, x1, x2, x3, x4⟩ := ih h
          exact ⟨_, x1, by simp only [decS]; rw [x2], by simp [x3], fun M hM => push rfl (x4 M fun s hs => hM s (by simp [hs]))⟩
        · cases h
      | raw =>
        cases v <;> try (simp [encS] at h; done)
        simp only [encS] at h
        obtain ⟨x, x1, x2, x3, x4⟩ := ih h
        exact ⟨_, x1, by simp only [decS]; rw [x2], by simp [x3], fun M hM => push rfl (x4 M fun s hs => hM s (by simp [hs]))⟩
      | bool =>
        cases v <;> try (simp [encS] at h; done)
        rename_i p
        cases p <;> try (simp [encS] at h; done)
        simp only [encS] at h
        obtain ⟨x, x1, x2, x3, x4⟩ := ih h
        exact ⟨_, x1, by simp only [decS]; rw [x2], by simp [x3], fun M hM => push rfl (x4 M fun s hs => hM s (by simp [hs]))⟩
      | str =>
        cases v <;> try (simp [encS] at h; done)
        rename_i p
        cases p <;> try (simp [encS] at h; done)
        simp only [encS] at h
        obtain ⟨x, x1, x2, x3, x4⟩ := ih h
        exact ⟨_, x1, by simp only [decS]; rw [x2], by simp [x3], fun M hM => push rfl (x4 M fun s hs => hM s (by simp [hs]))⟩
      | rp n =>
        cases v <;> try (simp [encS] at h; done)
        rename_i p
        cases p <;> try (simp [encS] at h; done)
        rename_i cs
        simp only [encS] at h
        split at h
        · rename_i hq
          obtain ⟨x, x1, x2, x3, x4⟩ := ih h
          have he : elemCells n (.agg cs) = cs := by
            apply List.ext_getElem?
            intro j
            by_cases hj : j < n
            · have hl : j < (elemCells n (.agg cs)).length := by rw [elemCells_length]; exact hj
              rw [List.getElem?_eq_getElem hl]
              obtain ⟨_, h6⟩ := elemCells_get (List.getElem?_eq_getElem hl)
              rw [h6]
              simp [cell, PV.cells, List.getD, show j < cs.length by omega]
            · rw [List.getElem?_eq_none (by rw [elemCells_length]; omega), List.getElem?_eq_none (by omega)]
          exact ⟨_, x1, by simp only [decS]; rw [x2, he], by simp [x3], fun M hM => push rfl (x4 M fun s hs => hM s (by simp [hs]))⟩
        · cases h
      | rs sz =>
        cases v <;> try (simp [encS] at h; done)
        rename_i p
        cases p <;> try (simp [encS] at h; done)
        simp only [encS] at h
        split at h
        · rename_i hq
          subst hq
          obtain ⟨x, x1, x2, x3, x4⟩ := ih h
          exact ⟨_, x1, by simp only [decS]; rw [x2], by simp [x3], fun M hM => push rfl (x4 M fun s hs => hM s (by simp [hs]))⟩
        · cases h

theorem memOf_some : ∀ {l : List (Nat × Option Blk)} {id : Nat} {b : Blk}, memOf l id = some b → ∃ x ∈ l, x.1 = id ∧ x.2 = some b
  | [], _, _, h => by simp [memOf] at h
  | (d, b') :: r, id, b, h => by
    simp only [memOf] at h
    cases e : Nat.beq id d with
    | true => rw [e] at h; exact ⟨(d, b'), by simp, (Nat.eq_of_beq_eq_true e).symm, h⟩
    | false =>
      rw [e] at h
      obtain ⟨x, hx, h1, h2⟩ := memOf_some h
      exact ⟨x, by simp [hx], h1, h2⟩
theorem memOf_isSome : ∀ {l : List (Nat × Option Blk)} {id : Nat}, (∀ x ∈ l, x.2.isSome = true) → (∃ x ∈ l, x.1 = id) → (memOf l id).isSome = true
  | [], _, _, ⟨x, hx, _⟩ => by cases hx
  | (d, b') :: r, id, h, ⟨x, hx, he⟩ => by
    simp only [memOf]
    cases e : Nat.beq id d with
    | true => exact h (d, b') (by simp)
    | false =>
      rcases List.mem_cons.1 hx with rfl | hx
      · simp only at he; subst he; simp [Nat.beq_refl] at e
      · exact memOf_isSome (fun y hy => h y (by simp [hy])) ⟨x, hx, he⟩

theorem encB_ok {R : Type} {m : Mem} : ∀ {bs : List (Nat × BSh)} {k : tyB bs → Option R} {r : R}, encB m bs k = some r → ∃ x, k x = some r ∧ (decB bs x).map (·.1) = bs.map (·.1) ∧ (∀ y ∈ decB bs x, ∃ b, y.2 = some b ∧ m y.1 = some b) ∧
    ∀ M, (∀ y ∈ bs, y.2.within M = true) → ∀ y ∈ decB bs x, ∀ b, y.2 = some b → b.within M = true := by
  intro bs
  induction bs with
  | nil => intro k r h; exact ⟨(), h, rfl, by simp [decB], by simp [decB]⟩
  | cons y bs ih =>
    intro k r h
    obtain ⟨id, sh⟩ := y
    cases sh with
    | box cs =>
      simp only [encB] at h
      split at h
      · rename_i vs hm
        obtain ⟨t, t1, t2, t3, t4⟩ := ih h
        obtain ⟨x, x1, x2, x3, x4⟩ := encS_ok t1
        refine ⟨x, x1, by simp only [decB, x2]; simp [t2], fun y hy => ?_, fun M hM y hy b hb => ?_⟩
        · simp only [decB, x2] at hy
          rcases List.mem_cons.1 hy with rfl | hy
          · exact ⟨_, rfl, hm⟩
          · exact t3 y hy
        · simp only [decB, x2] at hy
          rcases List.mem_cons.1 hy with rfl | hy
          · simp only [Option.some.injEq] at hb; subst hb
            simp only [Blk.within]
            refine x4 M fun s hs => ?_
            have := hM (id, .box cs) (by simp)
            simp only [BSh.within, List.all_eq_true] at this
            exact this s hs
          · exact t4 M (fun z hz => hM z (by simp [hz])) y hy b hb
      · cases h
    | arr sz et =>
      simp only [encB] at h
      split at h
      · rename_i sz' et' es hm
        split at h
        · rename_i he
          obtain ⟨rfl, rfl⟩ := he
          obtain ⟨t, t1, t2, t3, t4⟩ := ih h
          refine ⟨(es, t), t1, by simp only [decB]; simp [t2], fun y hy => ?_, fun M hM y hy b hb => ?_⟩
          · simp only [decB] at hy
            rcases List.mem_cons.1 hy with rfl | hy
            · exact ⟨_, rfl, hm⟩
            · exact t3 y hy
          · simp only [decB] at hy
            rcases List.mem_cons.1 hy with rfl | hy
            · simp only [Option.some.injEq] at hb; subst hb; rfl
            · exact t4 M (fun z hz => hM z (by simp [hz])) y hy b hb
        · cases h
      · cases h
    | fro sz et =>
      simp only [encB] at h
      split at h
      · rename_i sz' et' es hm
        split at h
        · rename_i he
          obtain ⟨rfl, rfl⟩ := he
          obtain ⟨t, t1, t2, t3, t4⟩ := ih h
          refine ⟨(es, t), t1, by simp only [decB]; simp [t2], fun y hy => ?_, fun M hM y hy b hb => ?_⟩
          · simp only [decB] at hy
            rcases List.mem_cons.1 hy with rfl | hy
            · exact ⟨_, rfl, hm⟩
            · exact t3 y hy
          · simp only [decB] at hy
            rcases List.mem_cons.1 hy with rfl | hy
            · simp only [Option.some.injEq] at hb; subst hb; rfl
            · exact t4 M (fun z hz => hM z (by simp [hz])) y hy b hb
        · cases h
      · cases h
    | map kt =>
      simp only [encB] at h
      split at h
      · rename_i kt' es hm
        split at h
        · rename_i he
          subst he
          obtain ⟨t, t1, t2, t3, t4⟩ := ih h
          refine ⟨(es, t), t1, by simp only [decB]; simp [t2], fun y hy => ?_, fun M hM y hy b hb => ?_⟩
          · simp only [decB] at hy
            rcases List.mem_cons.1 hy with rfl | hy
            · exact ⟨_, rfl, hm⟩
            · exact t3 y hy
          · simp only [decB] at hy
            rcases List.mem_cons.1 hy with rfl | hy
            · simp only [Option.some.injEq] at hb; subst hb; rfl
            · exact t4 M (fun z hz => hM z (by simp [hz])) y hy b hb
        · cases h
      · cases h

mutual
theorem within_has {M : List Nat} {id : Nat} : ∀ (v : V), v.within M = true → v.has id = true → id ∈ M
  | .agg cs, h, hh => withinL_has cs (by simpa only [V.within] using h) (by simpa only [V.has] using hh)
  | .tup cs, h, hh => withinL_has cs (by simpa only [V.within] using h) (by simpa only [V.has] using hh)
  | .fn _ cs, h, hh => withinL_has cs (by simpa only [V.within] using h) (by simpa only [V.has] using hh)
  | .os j, h, hh => by have := Nat.eq_of_beq_eq_true hh; subst this; simpa [V.within] using h
  | .osub j _ _, h, hh => by have := Nat.eq_of_beq_eq_true hh; subst this; simpa [V.within] using h
  | .oe j _ _, h, hh => by have := Nat.eq_of_beq_eq_true hh; subst this; simpa [V.within] using h
  | .om j, h, hh => by have := Nat.eq_of_beq_eq_true hh; subst this; simpa [V.within] using h
  | .op j _, h, hh => by have := Nat.eq_of_beq_eq_true hh; subst this; simpa [V.within] using h
  | .pv _, _, hh => by cases hh
  | .nils, _, hh => by cases hh
  | .top, _, hh => by cases hh
theorem withinL_has {M : List Nat} {id : Nat} : ∀ (cs : List V), withinL M cs = true → hasL id cs = true → id ∈ M
  | [], _, hh => by cases hh
  | v :: r, h, hh => by
    simp only [withinL, Bool.and_eq_true] at h
    simp only [hasL, Bool.or_eq_true] at hh
    rcases hh with hh | hh
    · exact within_has v h.1 hh
    · exact withinL_has r h.2 hh
end

theorem zip_ok {f : Fr} : ∀ (slots : List (Nat × Sh)) (t : Nat), frOf (zipSlots slots (slots.map fun (x : Nat × Sh) => f x.1)) t = f t ∨ frOf (zipSlots slots (slots.map fun (x : Nat × Sh) => f x.1)) t = .top
  | [], t => .inr rfl
  | (d, s) :: r, t => by
    simp only [List.map_cons, zipSlots, frOf, frSet]
    cases e : Nat.beq t d with
    | true => have := Nat.eq_of_beq_eq_true e; subst this; exact .inl rfl
    | false => exact zip_ok r t
theorem zip_within {f : Fr} {M : List Nat} : ∀ (slots : List (Nat × Sh)), withinL M (slots.map fun (x : Nat × Sh) => f x.1) = true → ∀ t, (frOf (zipSlots slots (slots.map fun (x : Nat × Sh) => f x.1)) t).within M = true
  | [], _, t => rfl
  | (d, s) :: r, h, t => by
    simp only [List.map_cons, withinL, Bool.and_eq_true] at h
    simp only [List.map_cons, zipSlots, frOf, frSet]
    cases e : Nat.beq t d with
    | true => have := Nat.eq_of_beq_eq_true e; subst this; exact h.1
    | false => exact zip_within r h.2 t

theorem enc_ok {R : Type} {T : Tpl} {f : Fr} {m : Mem} {k : T.ty → Option R} {r : R} (h : enc T f m k = some r) :
    ∃ x, k x = some r ∧ FLe (decF T x) f ∧ (∀ id b, decM T x id = some b → m id = some b) ∧ (∀ t id, (decF T x t).has id = true → (decM T x id).isSome = true) ∧
      ∀ j cs id, decM T x j = some (.box cs) → hasL id cs = true → (decM T x id).isSome = true := by
  unfold enc at h
  split at h
  · rename_i hok
    obtain ⟨t, t1, t2, t3, t4⟩ := encB_ok h
    obtain ⟨x, x1, x2, x3, x4⟩ := encS_ok t1
    simp only [Tpl.ok, Bool.and_eq_true, List.all_eq_true] at hok
    have hin : ∀ id, id ∈ T.blks.map (·.1) → (decM T x id).isSome = true := fun id hid => by
      unfold decM
      rw [x2]
      refine memOf_isSome (fun y hy => ?_) ?_
      · obtain ⟨b, hb, _⟩ := t3 y hy
        rw [hb]; rfl
      · rw [← t2] at hid
        obtain ⟨y, hy, he⟩ := List.mem_map.1 hid
        exact ⟨y, hy, he⟩
    refine ⟨x, x1, fun s => ?_, fun id b hb => ?_, fun s id hid => hin id ?_, fun j cs id hj hh => hin id ?_⟩
    · unfold decF; rw [x2]; exact zip_ok T.slots s
    · unfold decM at hb
      rw [x2] at hb
      obtain ⟨y, hy, h1, h2⟩ := memOf_some hb
      obtain ⟨b', hb', hm⟩ := t3 y hy
      rw [h2] at hb'; cases hb'
      rw [← h1]; exact hm
    · have hw := x4 (T.blks.map (·.1)) fun s hs => by
        simp only [Tpl.shs, List.mem_map] at hs
        obtain ⟨y, hy, rfl⟩ := hs
        exact hok.1 y hy
      have := zip_within (M := T.blks.map (·.1)) T.slots hw s
      unfold decF at hid
      rw [x2] at hid
      exact within_has _ this hid
    · unfold decM at hj
      rw [x2] at hj
      obtain ⟨y, hy, h1, h2⟩ := memOf_some hj
      have := t4 (T.blks.map (·.1)) (fun z hz => hok.2 z hz) y hy _ h2
      exact withinL_has _ (by simpa only [Blk.within] using this) hh
  · cases h

section
variable {E : Env} {w0 : Base}

theorem Rel.dec {nt : Nat} {μ : Ro} {φ : Nat → Phys} {f f' : Fr} {m m' : Mem} {a : Act} {w : World} (h : Rel E.P E.glob nt w0 μ φ f m a w) (hf : FLe f' f) (hm : ∀ id b, m' id = some b → m id = some b)
    (hl : ∀ t id, (f' t).has id = true → (m' id).isSome = true) (hb : ∀ j cs id, m' j = some (.box cs) → hasL id cs = true → (m' id).isSome = true) : Rel E.P E.glob nt w0 μ φ f' m' a w :=
  { below := h.below, ro := h.ro, glob := h.glob, blk := fun id b hb => h.blk id b (hm id b hb), own := fun id b g hb hg => h.own id b g (hm id b hb) hg,
    inj := fun id1 id2 b1 b2 g h1 h2 => h.inj id1 id2 b1 b2 g (hm _ _ h1) (hm _ _ h2), liveB := hb, base := h.base, size := h.size, defers := h.defers,
    fr := (h.weaken hf).fr, live := hl }

theorem Rel.set {nt : Nat} {μ : Ro} {φ : Nat → Phys} {f : Fr} {m : Mem} {a : Act} {w : World} (h : Rel E.P E.glob nt w0 μ φ f m a w) {t : Nat} {p : PV} (hp : RepPV E.P μ p (slots nt w0 a t)) : Rel E.P E.glob nt w0 μ φ (frSet f t (.pv p)) m a w :=
  { toRelM := h.toRelM, size := h.size, defers := h.defers,
    fr := fun s => by
      by_cases e : s = t
      · subst e; rw [frSet_same]; exact .pv hp
      · rw [frSet_ne e]; exact h.fr s
    live := fun s id hid => by
      by_cases e : s = t
      · subst e; rw [frSet_same] at hid; cases hid
      · rw [frSet_ne e] at hid; exact h.live s id hid }
theorem Rel.freeze {nt : Nat} {μ : Ro} {φ : Nat → Phys} {f : Fr} {m : Mem} {a : Act} {w : World} (h : Rel E.P E.glob nt w0 μ φ f m a w) {id sz : Nat} {et : TypeId} {es : List PV} (hm : m id = some (.arr sz et es)) :
    Rel E.P E.glob nt w0 (roAdd μ w (φ id).g) φ f (memSet m id (.fro sz et es)) a w :=
  { toRelM := h.toRelM.freeze hm, size := h.size, defers := h.defers,
    fr := fun s => (h.fr s).monoR (roAdd_mono h.toRelM _)
    live := fun s i hid => by
      by_cases e : i = id
      · subst e; rw [memSet_same]; rfl
      · rw [memSet_ne e]; exact h.live s i hid }
theorem prepK_ok {A : Type} {nt : Nat} {a : Act} {w : World} : ∀ {l : List (Nat × Nat)} {μ : Ro} {φ : Nat → Phys} {f : Fr} {m : Mem} {k : Fr → Mem → A} {r : A}, prepK l f m k = r → Rel E.P E.glob nt w0 μ φ f m a w →
    ∃ f' m' μ', k f' m' = r ∧ Rel E.P E.glob nt w0 μ' φ f' m' a w
  | [], μ, φ, f, m, k, r, h, hR => ⟨f, m, μ, h, hR⟩
  | (t, sz) :: l, μ, φ, f, m, k, r, h, hR => by
    unfold prepK at h
    split at h
    · rename_i id hf
      have hx : RepV E.P μ φ (.os id) (slots nt w0 a t) := hf ▸ hR.fr t
      split at h
      · rename_i s et es hm
        have hF := hR.freeze hm
        have hA := hF.toRelM.arr (.inr (memSet_same m id _))
        have hp : RepPV E.P (roAdd μ w (φ id).g) (.rs s es) (slots nt w0 a t) := hA.full hF.toRelM (hx.monoR (roAdd_mono hR.toRelM _)) (fun _ _ h => h) (fun g hg => by simp [roAdd, hg])
        exact prepK_ok h (hF.set hp)
      · rename_i s et es hm
        have hB : RepB E.P μ φ w id (.fro s et es) := hR.blk id _ hm
        have hp : RepPV E.P μ (.rs s es) (slots nt w0 a t) := (hR.toRelM.arr (.inr hm)).full hR.toRelM hx (fun _ _ h => h) (fun g hg => by
          obtain ⟨o, ho⟩ := Option.isSome_iff_exists.1 (hB.2 g hg)
          rw [ho, hR.ro _ _ ho])
        exact prepK_ok h (hR.set hp)
      · exact prepK_ok h hR
    · rename_i hf
      have hx : RepV E.P μ φ .nils (slots nt w0 a t) := hf ▸ hR.fr t
      have hp : RepPV E.P μ (.rs sz []) (slots nt w0 a t) := by
        generalize slots nt w0 a t = y at hx
        cases hx
        exact .rsNil
      exact prepK_ok h (hR.set hp)
    · exact prepK_ok h hR

def exitOf : Ex → Exit
  | .normal => .normal
  | .exit id => .exit id
  | .ret => .ret

theorem Rel.drewR {nt : Nat} {μ : Ro} {φ : Nat → Phys} {f : Fr} {m : Mem} {a : Act} {w : World} (h : Rel E.P E.glob nt w0 μ φ f m a w) : Rel E.P E.glob nt w0 μ φ f m a { w with drawn := w.drawn + 1 } :=
  { toRelM := h.toRelM.drew, size := h.size, defers := h.defers, fr := h.fr, live := h.live }

theorem region_ok (hE : EnvOk E) {R : Type} {id : Nat} {ops : Array Oper} {draw : Bool} {f : Fr} {m : Mem} {k : Ex → Fr → Mem → Option R} {r : R} (h : evalC E (.region id ops draw) f m k = some r)
    {μ : Ro} {φ : Nat → Phys} {a : Act} {w : World} {Q : Exit → Act → World → Prop} (hR : Rel E.P E.glob E.fn.ntmps w0 μ φ f m a w)
    (hQ : ∀ f' m' μ' φ' a' w', k .normal f' m' = some r → Rel E.P E.glob E.fn.ntmps w0 μ' φ' f' m' a' w' → Q .normal a' w') : (Code.region id ops draw).wp E.P Q a w := by
  simp only [evalC] at h
  cases draw with
  | false =>
    simp only [Bool.false_eq_true, if_false] at h
    refine wp_region ?_
    have hmz : ∀ x ∈ (List.range ops.size).zip ops.toList, ops[x.1]? = some x.2 := fun x hx => by
      have := (mem_zip_range (l := ops.toList) (i := x.1) (o := x.2)).1 (by simpa using hx)
      rwa [Array.getElem?_toList] at this
    have := evalOps_seq hE _ (.inl rfl) h hmz (by intro x hx g hg; cases hg) (fun h => by cases h) μ φ a w Q [] hR (by intro g hg; cases hg) fun f' m' μ' φ' a' w' hk hR' _ _ => hQ f' m' μ' φ' a' w' hk hR'
    rw [List.append_nil, List.map_fst_zip (by simp)] at this
    exact this
  | true =>
    simp only [if_true] at h
    split at h
    · rename_i hi
      refine wp_region_any hE.mixed ?_
      split at h
      · rename_i hall
        exact region_any hE (.inl rfl) (fun _ o ho => List.all_eq_true.1 hall o (Array.mem_toList_iff.2 ho)) hi h hR.drewR hQ
      · exact region_any hE (.inr rfl) (fun h => by cases h) hi h hR.drewR hQ
    · cases h

theorem evalC_ok (hE : EnvOk E) : ∀ (c : Code) {R : Type} {f : Fr} {m : Mem} {k : Ex → Fr → Mem → Option R} {r : R}, evalC E c f m k = some r →
    ∀ {μ : Ro} {φ : Nat → Phys} {a : Act} {w : World} {Q : Exit → Act → World → Prop}, Rel E.P E.glob E.fn.ntmps w0 μ φ f m a w →
      (∀ e f' m' μ' φ' a' w', k e f' m' = some r → Rel E.P E.glob E.fn.ntmps w0 μ' φ' f' m' a' w' → Q (exitOf e) a' w') → c.wp E.P Q a w := by
  intro c
  induction c with
  | skip => intro R f m k r h μ φ a w Q hR hQ; exact wp_skip (hQ .normal _ _ _ _ _ _ h hR)
  | region id ops draw => intro R f m k r h μ φ a w Q hR hQ; exact region_ok hE h hR (hQ .normal)
  | seq x y ihx ihy =>
    intro R f m k r h μ φ a w Q hR hQ
    refine wp_seq (ihx h hR fun e f' m' μ' φ' a' w' hk hR' => ?_)
    cases e with
    | normal => exact ihy hk hR' hQ
    | exit id => exact hQ (.exit id) _ _ _ _ _ _ hk hR'
    | ret => exact hQ .ret _ _ _ _ _ _ hk hR'
  | cond c x y ihx ihy =>
    intro R f m k r h μ φ a w Q hR hQ
    simp only [evalC] at h
    split at h
    · rename_i t b hb
      have hv : a.eval (.tmp t) = .bool b := by
        have := (opd_rep hR (.tmp t)).1
        rw [hb] at this
        exact rep_bool this
      have hb' : f t = .pv (.bool b) := (opd_tmp_pv hb).2
      have hle : FLe (frSet f t (.pv (.bool b))) f := fun s => by
        simp only [frSet]
        cases e : Nat.beq s t with
        | true => have := Nat.eq_of_beq_eq_true e; subst this; exact .inl hb'.symm
        | false => exact .inl rfl
      cases b with
      | true => simp only [if_true] at h; exact wp_cond_true hv (ihx h (hR.weaken hle) hQ)
      | false => simp only [Bool.false_eq_true, if_false] at h; exact wp_cond_false hv (ihy h (hR.weaken hle) hQ)
    · cases h
  | block id b ih =>
    intro R f m k r h μ φ a w Q hR hQ
    refine wp_block (ih h hR fun e f' m' μ' φ' a' w' hk hR' => ?_)
    cases e with
    | normal => exact hQ .normal _ _ _ _ _ _ hk hR'
    | exit j =>
      simp only [Ex.blockK] at hk
      simp only [exitOf, Exit.inBlock]
      split at hk
      · rename_i hj; rw [if_pos hj]; exact hQ .normal _ _ _ _ _ _ hk hR'
      · rename_i hj; rw [if_neg hj]; exact hQ (.exit j) _ _ _ _ _ _ hk hR'
    | ret => exact hQ .ret _ _ _ _ _ _ hk hR'
  | loop b ih =>
    intro R f m k r h μ φ a w Q hR hQ
    simp only [evalC] at h
    split at h
    · rename_i T _
      obtain ⟨f, m, μ, h, hR⟩ := prepK_ok h hR
      obtain ⟨s, hs, s1, s2, s3, s4⟩ := enc_ok h
      obtain ⟨n0, hs⟩ := hE.lp _ _ _ _ _ hs
      refine wp_loop_n (fun n a w => ∃ s μ φ, Rel E.P E.glob E.fn.ntmps w0 μ φ (decF T s) (decM T s) a w ∧ loopS (fun s rec => evalC E b (decF T s) (decM T s) (Ex.thenK (fun f m => prepK T.fz f m fun f m => enc T f m rec) k)) n s = some r) ?_ n0 a w ⟨s, μ, φ, hR.dec s1 s2 s3 s4, hs⟩
      rintro n a w ⟨s, μ, φ, hR, hs⟩
      cases n with
      | zero => simp [loopS] at hs
      | succ n =>
        refine ⟨n, rfl, ?_⟩
        simp only [loopS] at hs
        refine ih hs hR fun e f' m' μ' φ' a' w' hk hR' => ?_
        cases e with
        | normal =>
          obtain ⟨f', m', μ', hk, hR'⟩ := prepK_ok hk hR'
          obtain ⟨s', hs', t1, t2, t3, t4⟩ := enc_ok hk
          exact ⟨s', μ', φ', hR'.dec t1 t2 t3 t4, hs'⟩
        | exit j => exact hQ (.exit j) _ _ _ _ _ _ hk hR'
        | ret => exact hQ .ret _ _ _ _ _ _ hk hR'
    · refine wp_loop_n (fun n a w => ∃ f m μ φ, Rel E.P E.glob E.fn.ntmps w0 μ φ f m a w ∧ loopU (fun f m rec => evalC E b f m (Ex.thenK rec k)) n f m = some r) ?_ E.u a w ⟨f, m, μ, φ, hR, h⟩
      rintro n a w ⟨f, m, μ, φ, hR, hs⟩
      cases n with
      | zero => simp [loopU] at hs
      | succ n =>
        refine ⟨n, rfl, ?_⟩
        simp only [loopU] at hs
        refine ih hs hR fun e f' m' μ' φ' a' w' hk hR' => ?_
        cases e with
        | normal => exact ⟨f', m', μ', φ', hR', hk⟩
        | exit j => exact hQ (.exit j) _ _ _ _ _ _ hk hR'
        | ret => exact hQ .ret _ _ _ _ _ _ hk hR'
  | exit id => intro R f m k r h μ φ a w Q hR hQ; exact wp_exit (hQ (.exit id) _ _ _ _ _ _ h hR)
  | label l => intro R f m k r h μ φ a w Q hR hQ; exact wp_label (hQ .normal _ _ _ _ _ _ h hR)
  | ret => intro R f m k r h μ φ a w Q hR hQ; exact wp_ret (hQ .ret _ _ _ _ _ _ h hR)
  | scope b ih => intro R f m k r h μ φ a w Q hR hQ; exact wp_scope_straight (ih h hR fun e f' m' μ' φ' a' w' hk hR' => by cases e <;> exact hQ _ _ _ _ _ _ _ hk hR')
  | _ => intro R f m k r h; simp [evalC] at h
end
end Go.Ab
