/- What the evaluator says of code holds of the model: conditions, blocks, loops, functions. -/
import Derived.Test.YtinbhofpofcmeaaGreatDoorAbRnd
import Derived.Scope
set_option linter.unusedVariables false
namespace Go.Ab
open Go.RowKit (Below)
theorem wp_loop_n {F : Fence} {nn : Nat} {P : Program} {c : Code} {Q : Exit → Act → World → Prop} (I : Nat → Act → World → Prop)
    (round : ∀ n a w, I n a w → ∃ n', n = n' + 1 ∧ c.wpIn F nn P (Exit.then (I n') Q) a w) : ∀ n a w, I n a w → (Code.loop c).wpIn F nn P Q a w := by
  intro n a w hI b k cs hro hb hr
  have key : ∀ n a w, I n a w → ∃ e a' w', Q e a' w' ∧ ArrivesIn (Machine.fenced P F) P (lone (b.atR a (.code c :: .inLoop c :: k)) cs w) b k cs e a' w' := by
    intro n
    induction n with
    | zero => intro a w h; obtain ⟨n', h, _⟩ := round 0 a w h; omega
    | succ n ih =>
      intro a w h
      obtain ⟨n', hn, hrd⟩ := round _ a w h
      have hn : n = n' := by omega
      subst hn
      obtain ⟨e, a₁, w₁, hq, harr⟩ := hrd b (.inLoop c :: k) cs hro hb hr
      cases e with
      | normal =>
        obtain ⟨e₂, a₂, w₂, hq₂, harr₂⟩ := ih a₁ w₁ hq
        exact ⟨e₂, a₂, w₂, hq₂, .of_steps (StepsIn.trans harr (.one (fenced_calm hb hr rfl) stepR_inLoop)) harr₂⟩
      | _ => exact ⟨_, a₁, w₁, hq, .pass (x := .inLoop c) rfl (fun _ _ => .inl (by simp)) harr⟩
  obtain ⟨e, a', w', hq, harr⟩ := key n a w hI
  exact ⟨e, a', w', hq, .of_steps (.one (fenced_calm hb hr rfl) stepR_loop) harr⟩

theorem wpR_scope {rd : Option Nat} {n : Nat} {P : Program} {Q : Exit → Act → World → Prop} {a : Act} {w : World} {c : Code} (h : c.wpIn (FR rd) n P (Exit.noGoto Q) a w) : (Code.scope c).wpIn (FR rd) n P Q a w := by
  intro b k cs hro hb hr
  obtain ⟨e, a₁, w₁, hq, harr⟩ := h b (.inScope c :: k) cs hro hb hr
  have s1 : StepsIn (Machine.fenced P (FR rd)) P (lone (b.atR a (.code (.scope c) :: k)) cs w) (lone (b.atR a (.code c :: .inScope c :: k)) cs w) := .one (fenced_calm hb hr rfl) (step_lone_go (by simp [stepG, stepG.exec, Frame.atR]))
  have s2 : ∀ a w, StepsIn (Machine.fenced P (FR rd)) P (lone (b.atR a (.inScope c :: k)) cs w) (lone (b.atR a k) cs w) := fun a w => .one (fenced_calm hb hr rfl) (step_lone_go (by simp [stepG, stepG.exec, Frame.atR]))
  cases e with
  | normal => exact ⟨.normal, a₁, w₁, hq, s1.trans (StepsIn.trans harr (s2 _ _))⟩
  | exit id => exact ⟨.exit id, a₁, w₁, hq, fun k' hk => s1.trans (harr.1 k' (by simp [exitTo, hk])), fun hr hk => let ⟨k₁, h1, h2⟩ := harr.2 hr (by simp [exitTo, hk]); ⟨k₁, h1, s1.trans h2⟩⟩
  | goto l => exact hq.elim
  | ret => exact ⟨_, a₁, w₁, hq, .of_steps s1 harr⟩
  | panic ch => exact ⟨_, a₁, w₁, hq, .of_steps s1 harr⟩
  | outgrown => exact ⟨_, a₁, w₁, hq, .of_steps s1 harr⟩
mutual
theorem same_ok : ∀ {v u : V}, v.same u = true → v = u
  | .op i o, u, h => by
    cases u <;> simp only [V.same, Bool.and_eq_true, Bool.false_eq_true] at h
    rw [Nat.eq_of_beq_eq_true h.1, Nat.eq_of_beq_eq_true h.2]
  | .oe i a o, u, h => by
    cases u <;> simp only [V.same, Bool.and_eq_true, Bool.false_eq_true] at h
    rw [Nat.eq_of_beq_eq_true h.1.1, Nat.eq_of_beq_eq_true h.1.2, Nat.eq_of_beq_eq_true h.2]
  | .os i, u, h => by
    cases u <;> simp only [V.same, Bool.false_eq_true] at h
    rw [Nat.eq_of_beq_eq_true h]
  | .om i, u, h => by
    cases u <;> simp only [V.same, Bool.false_eq_true] at h
    rw [Nat.eq_of_beq_eq_true h]
  | .yl i, u, h => by
    cases u <;> simp only [V.same, Bool.false_eq_true] at h
    rw [Nat.eq_of_beq_eq_true h]
  | .nils, u, h => by
    cases u <;> simp only [V.same, Bool.false_eq_true] at h
    rfl
  | .fn f cs, u, h => by
    cases u <;> simp only [V.same, Bool.and_eq_true, Bool.false_eq_true] at h
    rw [Nat.eq_of_beq_eq_true h.1, sameL_ok h.2]
  | .pv p, u, h => by
    cases u <;> try (cases p <;> simp [V.same] at h; done)
    rename_i q
    cases p <;> cases q <;> first | rfl | (simp [V.same] at h; done) | (simp only [V.same, Bool.and_eq_true, decide_eq_true_eq] at h; rw [h.1, h.2])
  | .osub _ _ _, u, h => by cases u <;> simp [V.same] at h
  | .agg _, u, h => by cases u <;> simp [V.same] at h
  | .tup _, u, h => by cases u <;> simp [V.same] at h
  | .top, u, h => by cases u <;> simp [V.same] at h
theorem sameL_ok : ∀ {vs us : List V}, sameL vs us = true → vs = us
  | [], us, h => by
    cases us with
    | nil => rfl
    | cons _ _ => simp [sameL] at h
  | v :: vs, us, h => by
    cases us with
    | nil => simp [sameL] at h
    | cons u us =>
      simp only [sameL, Bool.and_eq_true] at h
      rw [same_ok h.1, sameL_ok h.2]
end

theorem encS_ok {R T : Type} : ∀ {shs : List Sh} {vs : List V} {t : T} {k : tyS shs T → Option R} {r : R}, encS shs vs t k = some r → ∃ x, k x = some r ∧ decS shs x = (vs, t) ∧ vs.length = shs.length ∧ ∀ M, (∀ sh ∈ shs, sh.within M = true) → withinL M vs = true := by
  intro shs
  induction shs with
  | nil =>
    intro vs t k r h
    cases vs with
    | nil => exact ⟨t, h, rfl, rfl, fun _ _ => rfl⟩
    | cons v vs => simp [encS] at h
  | cons sh shs ih =>
    intro vs t k r h
    cases vs with
    | nil => cases sh <;> simp [encS] at h
    | cons v vs =>
      have push : ∀ {M}, v.within M = true → withinL M vs = true → withinL M (v :: vs) = true := fun h1 h2 => by simp [withinL, h1, h2]
      cases sh with
      | own u =>
        simp only [encS] at h
        split at h
        · rename_i hs
          obtain ⟨x, x1, x2, x3, x4⟩ := ih h
          have := same_ok hs; subst this
          refine ⟨x, x1, by simp only [decS]; rw [x2], by simp [x3], fun M hM => push ?_ (x4 M fun s hs => hM s (by simp [hs]))⟩
          exact hM (.own u) (by simp)
        · cases h
      | int q =>
        cases v <;> try (simp [encS] at h; done)
        rename_i p
        cases p <;> try (simp [encS] at h; done)
        simp only [encS] at h
        split at h
        · rename_i hq
          subst hq
          obtain ⟨x, x1, x2, x3, x4⟩ := ih h
          exact ⟨_, x1, by simp only [decS]; rw [x2], by simp [x3], fun M hM => push rfl (x4 M fun s hs => hM s (by simp [hs]))⟩
        · cases h
      | raw =>
        cases v <;> try (simp [encS] at h; done)
        simp only [encS] at h
        obtain ⟨x, x1, x2, x3, x4⟩ := ih h
        exact ⟨_, x1, by simp only [decS]; rw [x2], by simp [x3], fun M hM => push rfl (x4 M fun s hs => hM s (by simp [hs]))⟩
      | bool =>
        cases v <;> try (simp [encS] at h; done)
        rename_i p
        cases p <;> try (simp [encS] at h; done)
        simp only [encS] at h
        obtain ⟨x, x1, x2, x3, x4⟩ := ih h
        exact ⟨_, x1, by simp only [decS]; rw [x2], by simp [x3], fun M hM => push rfl (x4 M fun s hs => hM s (by simp [hs]))⟩
      | str =>
        cases v <;> try (simp [encS] at h; done)
        rename_i p
        cases p <;> try (simp [encS] at h; done)
        simp only [encS] at h
        obtain ⟨x, x1, x2, x3, x4⟩ := ih h
        exact ⟨_, x1, by simp only [decS]; rw [x2], by simp [x3], fun M hM => push rfl (x4 M fun s hs => hM s (by simp [hs]))⟩
      | rp n =>
        cases v <;> try (simp [encS] at h; done)
        rename_i p
        cases p <;> try (simp [encS] at h; done)
        rename_i cs
        simp only [encS] at h
        split at h
        · rename_i hq
          obtain ⟨x, x1, x2, x3, x4⟩ := ih h
          have he : elemCells n (.agg cs) = cs := by
            apply List.ext_getElem?
            intro j
            by_cases hj : j < n
            · have hl : j < (elemCells n (.agg cs)).length := by rw [elemCells_length]; exact hj
              rw [List.getElem?_eq_getElem hl]
              obtain ⟨_, h6⟩ := elemCells_get (List.getElem?_eq_getElem hl)
              rw [h6]
              simp [cell, PV.cells, List.getD, show j < cs.length by omega]
            · rw [List.getElem?_eq_none (by rw [elemCells_length]; omega), List.getElem?_eq_none (by omega)]
          exact ⟨_, x1, by simp only [decS]; rw [x2, he], by simp [x3], fun M hM => push rfl (x4 M fun s hs => hM s (by simp [hs]))⟩
        · cases h
      | fs s =>
        cases v <;> try (simp [encS] at h; done)
        rename_i p
        simp only [encS] at h
        obtain ⟨ls, hls, h⟩ := Option.bind_eq_some_iff.1 h
        obtain ⟨x, x1, x2, x3, x4⟩ := ih h
        exact ⟨_, x1, by simp only [decS]; rw [x2, rdL_bld hls], by simp [x3], fun M hM => push rfl (x4 M fun s hs => hM s (by simp [hs]))⟩
      | rs sz =>
        cases v <;> try (simp [encS] at h; done)
        rename_i p
        cases p <;> try (simp [encS] at h; done)
        simp only [encS] at h
        split at h
        · rename_i hq
          subst hq
          obtain ⟨x, x1, x2, x3, x4⟩ := ih h
          exact ⟨_, x1, by simp only [decS]; rw [x2], by simp [x3], fun M hM => push rfl (x4 M fun s hs => hM s (by simp [hs]))⟩
        · cases h

theorem memOf_some : ∀ {l : List (Nat × Option Blk)} {id : Nat} {b : Blk}, memOf l id = some b → ∃ x ∈ l, x.1 = id ∧ x.2 = some b
  | [], _, _, h => by simp [memOf] at h
  | (d, b') :: r, id, b, h => by
    simp only [memOf] at h
    cases e : Nat.beq id d with
    | true => rw [e] at h; exact ⟨(d, b'), by simp, (Nat.eq_of_beq_eq_true e).symm, h⟩
    | false =>
      rw [e] at h
      obtain ⟨x, hx, h1, h2⟩ := memOf_some h
      exact ⟨x, by simp [hx], h1, h2⟩
theorem memOf_isSome : ∀ {l : List (Nat × Option Blk)} {id : Nat}, (∀ x ∈ l, x.2.isSome = true) → (∃ x ∈ l, x.1 = id) → (memOf l id).isSome = true
  | [], _, _, ⟨x, hx, _⟩ => by cases hx
  | (d, b') :: r, id, h, ⟨x, hx, he⟩ => by
    simp only [memOf]
    cases e : Nat.beq id d with
    | true => exact h (d, b') (by simp)
    | false =>
      rcases List.mem_cons.1 hx with rfl | hx
      · simp only at he; subst he; simp [Nat.beq_refl] at e
      · exact memOf_isSome (fun y hy => h y (by simp [hy])) ⟨x, hx, he⟩

theorem encB_ok {R : Type} {m : Mem} : ∀ {bs : List (Nat × BSh)} {k : tyB bs → Option R} {r : R}, encB m bs k = some r → ∃ x, k x = some r ∧ (decB bs x).map (·.1) = bs.map (·.1) ∧ (∀ y ∈ decB bs x, ∃ b, y.2 = some b ∧ m y.1 = some b) ∧
    ∀ M, (∀ y ∈ bs, y.2.within M = true) → ∀ y ∈ decB bs x, ∀ b, y.2 = some b → b.within M = true := by
  intro bs
  induction bs with
  | nil => intro k r h; exact ⟨(), h, rfl, by simp [decB], by simp [decB]⟩
  | cons y bs ih =>
    intro k r h
    obtain ⟨id, sh⟩ := y
    cases sh with
    | box cs =>
      simp only [encB] at h
      split at h
      · rename_i vs hm
        obtain ⟨t, t1, t2, t3, t4⟩ := ih h
        obtain ⟨x, x1, x2, x3, x4⟩ := encS_ok t1
        refine ⟨x, x1, by simp only [decB, x2]; simp [t2], fun y hy => ?_, fun M hM y hy b hb => ?_⟩
        · simp only [decB, x2] at hy
          rcases List.mem_cons.1 hy with rfl | hy
          · exact ⟨_, rfl, hm⟩
          · exact t3 y hy
        · simp only [decB, x2] at hy
          rcases List.mem_cons.1 hy with rfl | hy
          · simp only [Option.some.injEq] at hb; subst hb
            simp only [Blk.within]
            refine x4 M fun s hs => ?_
            have := hM (id, .box cs) (by simp)
            simp only [BSh.within, List.all_eq_true] at this
            exact this s hs
          · exact t4 M (fun z hz => hM z (by simp [hz])) y hy b hb
      · cases h
    | arr sz et =>
      simp only [encB] at h
      split at h
      · rename_i sz' et' es hm
        split at h
        · rename_i he
          obtain ⟨rfl, rfl⟩ := he
          obtain ⟨t, t1, t2, t3, t4⟩ := ih h
          refine ⟨(es, t), t1, by simp only [decB]; simp [t2], fun y hy => ?_, fun M hM y hy b hb => ?_⟩
          · simp only [decB] at hy
            rcases List.mem_cons.1 hy with rfl | hy
            · exact ⟨_, rfl, hm⟩
            · exact t3 y hy
          · simp only [decB] at hy
            rcases List.mem_cons.1 hy with rfl | hy
            · simp only [Option.some.injEq] at hb; subst hb; rfl
            · exact t4 M (fun z hz => hM z (by simp [hz])) y hy b hb
        · cases h
      · cases h
    | fro sz et =>
      simp only [encB] at h
      split at h
      · rename_i sz' et' es hm
        split at h
        · rename_i he
          obtain ⟨rfl, rfl⟩ := he
          obtain ⟨t, t1, t2, t3, t4⟩ := ih h
          refine ⟨(es, t), t1, by simp only [decB]; simp [t2], fun y hy => ?_, fun M hM y hy b hb => ?_⟩
          · simp only [decB] at hy
            rcases List.mem_cons.1 hy with rfl | hy
            · exact ⟨_, rfl, hm⟩
            · exact t3 y hy
          · simp only [decB] at hy
            rcases List.mem_cons.1 hy with rfl | hy
            · simp only [Option.some.injEq] at hb; subst hb; rfl
            · exact t4 M (fun z hz => hM z (by simp [hz])) y hy b hb
        · cases h
      · cases h
    | map kt =>
      simp only [encB] at h
      split at h
      · rename_i kt' es hm
        split at h
        · rename_i he
          subst he
          obtain ⟨t, t1, t2, t3, t4⟩ := ih h
          refine ⟨(es, t), t1, by simp only [decB]; simp [t2], fun y hy => ?_, fun M hM y hy b hb => ?_⟩
          · simp only [decB] at hy
            rcases List.mem_cons.1 hy with rfl | hy
            · exact ⟨_, rfl, hm⟩
            · exact t3 y hy
          · simp only [decB] at hy
            rcases List.mem_cons.1 hy with rfl | hy
            · simp only [Option.some.injEq] at hb; subst hb; rfl
            · exact t4 M (fun z hz => hM z (by simp [hz])) y hy b hb
        · cases h
      · cases h
    | loop =>
      simp only [encB] at h
      split at h
      · rename_i hm
        obtain ⟨t, t1, t2, t3, t4⟩ := ih h
        refine ⟨t, t1, by simp only [decB]; simp [t2], fun y hy => ?_, fun M hM y hy b hb => ?_⟩
        · simp only [decB] at hy
          rcases List.mem_cons.1 hy with rfl | hy
          · exact ⟨_, rfl, hm⟩
          · exact t3 y hy
        · simp only [decB] at hy
          rcases List.mem_cons.1 hy with rfl | hy
          · simp only [Option.some.injEq] at hb; subst hb; rfl
          · exact t4 M (fun z hz => hM z (by simp [hz])) y hy b hb
      · cases h
    | busy =>
      simp only [encB] at h
      split at h
      · rename_i hm
        obtain ⟨t, t1, t2, t3, t4⟩ := ih h
        refine ⟨t, t1, by simp only [decB]; simp [t2], fun y hy => ?_, fun M hM y hy b hb => ?_⟩
        · simp only [decB] at hy
          rcases List.mem_cons.1 hy with rfl | hy
          · exact ⟨_, rfl, hm⟩
          · exact t3 y hy
        · simp only [decB] at hy
          rcases List.mem_cons.1 hy with rfl | hy
          · simp only [Option.some.injEq] at hb; subst hb; rfl
          · exact t4 M (fun z hz => hM z (by simp [hz])) y hy b hb
      · cases h

mutual
theorem within_has {M : List Nat} {id : Nat} : ∀ (v : V), v.within M = true → v.has id = true → id ∈ M
  | .agg cs, h, hh => withinL_has cs (by simpa only [V.within] using h) (by simpa only [V.has] using hh)
  | .tup cs, h, hh => withinL_has cs (by simpa only [V.within] using h) (by simpa only [V.has] using hh)
  | .fn _ cs, h, hh => withinL_has cs (by simpa only [V.within] using h) (by simpa only [V.has] using hh)
  | .os j, h, hh => by have := Nat.eq_of_beq_eq_true hh; subst this; simpa [V.within] using h
  | .osub j _ _, h, hh => by have := Nat.eq_of_beq_eq_true hh; subst this; simpa [V.within] using h
  | .oe j _ _, h, hh => by have := Nat.eq_of_beq_eq_true hh; subst this; simpa [V.within] using h
  | .om j, h, hh => by have := Nat.eq_of_beq_eq_true hh; subst this; simpa [V.within] using h
  | .op j _, h, hh => by have := Nat.eq_of_beq_eq_true hh; subst this; simpa [V.within] using h
  | .yl j, h, hh => by have := Nat.eq_of_beq_eq_true hh; subst this; simpa [V.within] using h
  | .pv _, _, hh => by cases hh
  | .nils, _, hh => by cases hh
  | .top, _, hh => by cases hh
theorem withinL_has {M : List Nat} {id : Nat} : ∀ (cs : List V), withinL M cs = true → hasL id cs = true → id ∈ M
  | [], _, hh => by cases hh
  | v :: r, h, hh => by
    simp only [withinL, Bool.and_eq_true] at h
    simp only [hasL, Bool.or_eq_true] at hh
    rcases hh with hh | hh
    · exact within_has v h.1 hh
    · exact withinL_has r h.2 hh
end

theorem zip_ok {f : Fr} : ∀ (slots : List (Nat × Sh)) (t : Nat), frOf (zipSlots slots (slots.map fun (x : Nat × Sh) => f x.1)) t = f t ∨ frOf (zipSlots slots (slots.map fun (x : Nat × Sh) => f x.1)) t = .top
  | [], t => .inr rfl
  | (d, s) :: r, t => by
    simp only [List.map_cons, zipSlots, frOf, frSet]
    cases e : Nat.beq t d with
    | true => have := Nat.eq_of_beq_eq_true e; subst this; exact .inl rfl
    | false => exact zip_ok r t
theorem zip_within {f : Fr} {M : List Nat} : ∀ (slots : List (Nat × Sh)), withinL M (slots.map fun (x : Nat × Sh) => f x.1) = true → ∀ t, (frOf (zipSlots slots (slots.map fun (x : Nat × Sh) => f x.1)) t).within M = true
  | [], _, t => rfl
  | (d, s) :: r, h, t => by
    simp only [List.map_cons, withinL, Bool.and_eq_true] at h
    simp only [List.map_cons, zipSlots, frOf, frSet]
    cases e : Nat.beq t d with
    | true => have := Nat.eq_of_beq_eq_true e; subst this; exact h.1
    | false => exact zip_within r h.2 t

theorem enc_ok {R : Type} {T : Tpl} {f : Fr} {m : Mem} {k : T.ty → Option R} {r : R} (h : enc T f m k = some r) :
    ∃ x, k x = some r ∧ FLe (decF T x) f ∧ (∀ id b, decM T x id = some b → m id = some b) ∧ (∀ t id, (decF T x t).has id = true → (decM T x id).isSome = true) ∧
      ∀ j cs id, decM T x j = some (.box cs) → hasL id cs = true → (decM T x id).isSome = true := by
  unfold enc at h
  split at h
  · rename_i hok
    obtain ⟨t, t1, t2, t3, t4⟩ := encB_ok h
    obtain ⟨x, x1, x2, x3, x4⟩ := encS_ok t1
    simp only [Tpl.ok, Bool.and_eq_true, List.all_eq_true] at hok
    have hin : ∀ id, id ∈ T.blks.map (·.1) → (decM T x id).isSome = true := fun id hid => by
      unfold decM
      rw [x2]
      refine memOf_isSome (fun y hy => ?_) ?_
      · obtain ⟨b, hb, _⟩ := t3 y hy
        rw [hb]; rfl
      · rw [← t2] at hid
        obtain ⟨y, hy, he⟩ := List.mem_map.1 hid
        exact ⟨y, hy, he⟩
    refine ⟨x, x1, fun s => ?_, fun id b hb => ?_, fun s id hid => hin id ?_, fun j cs id hj hh => hin id ?_⟩
    · unfold decF; rw [x2]; exact zip_ok T.slots s
    · unfold decM at hb
      rw [x2] at hb
      obtain ⟨y, hy, h1, h2⟩ := memOf_some hb
      obtain ⟨b', hb', hm⟩ := t3 y hy
      rw [h2] at hb'; cases hb'
      rw [← h1]; exact hm
    · have hw := x4 (T.blks.map (·.1)) fun s hs => by
        simp only [Tpl.shs, List.mem_map] at hs
        obtain ⟨y, hy, rfl⟩ := hs
        exact hok.1 y hy
      have := zip_within (M := T.blks.map (·.1)) T.slots hw s
      unfold decF at hid
      rw [x2] at hid
      exact within_has _ this hid
    · unfold decM at hj
      rw [x2] at hj
      obtain ⟨y, hy, h1, h2⟩ := memOf_some hj
      have := t4 (T.blks.map (·.1)) (fun z hz => hok.2 z hz) y hy _ h2
      exact withinL_has _ (by simpa only [Blk.within] using this) hh
  · cases h

section
variable {E : Env} {w0 : Base}

theorem Rel.dec {nt : Nat} {μ : Ro} {φ : Nat → Phys} {f f' : Fr} {m m' : Mem} {a : Act} {w : World} (h : Rel E.P E.glob nt w0 μ φ f m a w) (hf : FLe f' f) (hm : ∀ id b, m' id = some b → m id = some b)
    (hl : ∀ t id, (f' t).has id = true → (m' id).isSome = true) (hb : ∀ j cs id, m' j = some (.box cs) → hasL id cs = true → (m' id).isSome = true) : Rel E.P E.glob nt w0 μ φ f' m' a w :=
  { below := h.below, ro := h.ro, glob := h.glob, blk := fun id b hb => h.blk id b (hm id b hb), own := fun id b g hb hg => h.own id b g (hm id b hb) hg,
    inj := fun id1 id2 b1 b2 g h1 h2 => h.inj id1 id2 b1 b2 g (hm _ _ h1) (hm _ _ h2), liveB := hb, base := h.base, keep := h.keep, lps := fun id st hid => h.lps id st (hm _ _ hid), size := h.size, defers := h.defers, old := h.old,
    fr := (h.weaken hf).fr, live := hl }

theorem Rel.set {nt : Nat} {μ : Ro} {φ : Nat → Phys} {f : Fr} {m : Mem} {a : Act} {w : World} (h : Rel E.P E.glob nt w0 μ φ f m a w) {t : Nat} {p : PV} (hp : RepPV E.P μ p (slots nt w0 a t)) : Rel E.P E.glob nt w0 μ φ (frSet f t (.pv p)) m a w :=
  { toRelM := h.toRelM, size := h.size, defers := h.defers, old := h.old,
    fr := fun s => by
      by_cases e : s = t
      · subst e; rw [frSet_same]; exact .pv hp
      · rw [frSet_ne e]; exact h.fr s
    live := fun s id hid => by
      by_cases e : s = t
      · subst e; rw [frSet_same] at hid; cases hid
      · rw [frSet_ne e] at hid; exact h.live s id hid }
theorem Rel.freeze {nt : Nat} {μ : Ro} {φ : Nat → Phys} {f : Fr} {m : Mem} {a : Act} {w : World} (h : Rel E.P E.glob nt w0 μ φ f m a w) {id sz : Nat} {et : TypeId} {es : List PV} (hm : m id = some (.arr sz et es)) :
    Rel E.P E.glob nt w0 (roAdd μ w (φ id).g) φ f (memSet m id (.fro sz et es)) a w :=
  { toRelM := h.toRelM.freeze hm, size := h.size, defers := h.defers.mono (roAdd_mono h.toRelM _), old := h.old,
    fr := fun s => (h.fr s).monoR (roAdd_mono h.toRelM _)
    live := fun s i hid => by
      by_cases e : i = id
      · subst e; rw [memSet_same]; rfl
      · rw [memSet_ne e]; exact h.live s i hid }
theorem prepK_ok {A : Type} {nt : Nat} {a : Act} {w : World} : ∀ {l : List (Nat × Nat)} {μ : Ro} {φ : Nat → Phys} {f : Fr} {m : Mem} {k : Fr → Mem → A} {r : A}, prepK l f m k = r → Rel E.P E.glob nt w0 μ φ f m a w →
    ∃ f' m' μ', k f' m' = r ∧ Rel E.P E.glob nt w0 μ' φ f' m' a w
  | [], μ, φ, f, m, k, r, h, hR => ⟨f, m, μ, h, hR⟩
  | (t, sz) :: l, μ, φ, f, m, k, r, h, hR => by
    unfold prepK at h
    split at h
    · rename_i id hf
      have hx : RepV E.P μ φ (.os id) (slots nt w0 a t) := hf ▸ hR.fr t
      split at h
      · rename_i s et es hm
        have hF := hR.freeze hm
        have hA := hF.toRelM.arr (.inr (memSet_same m id _))
        have hp : RepPV E.P (roAdd μ w (φ id).g) (.rs s es) (slots nt w0 a t) := hA.full hF.toRelM (hx.monoR (roAdd_mono hR.toRelM _)) (fun _ _ h => h) (fun g hg => by simp [roAdd, hg])
        exact prepK_ok h (hF.set hp)
      · rename_i s et es hm
        have hB : RepB E.P μ φ w id (.fro s et es) := hR.blk id _ hm
        have hp : RepPV E.P μ (.rs s es) (slots nt w0 a t) := (hR.toRelM.arr (.inr hm)).full hR.toRelM hx (fun _ _ h => h) (fun g hg => by
          obtain ⟨o, ho⟩ := Option.isSome_iff_exists.1 (hB.2 g hg)
          rw [ho, hR.ro _ _ ho])
        exact prepK_ok h (hR.set hp)
      · exact prepK_ok h hR
    · rename_i hf
      have hx : RepV E.P μ φ .nils (slots nt w0 a t) := hf ▸ hR.fr t
      have hp : RepPV E.P μ (.rs sz []) (slots nt w0 a t) := by
        generalize slots nt w0 a t = y at hx
        cases hx
        exact .rsNil
      exact prepK_ok h (hR.set hp)
    · exact prepK_ok h hR

theorem hasL_set {id : Nat} {u : V} : ∀ (cs : List V) (j : Nat), hasL id (cs.set j u) = true → hasL id cs = true ∨ u.has id = true := by
  intro cs j h
  obtain ⟨v, hv, hh⟩ := hasL_iff.1 h
  rcases List.mem_or_eq_of_mem_set hv with h1 | h1
  · exact .inl (hasL_iff.2 ⟨v, h1, hh⟩)
  · subst h1; exact .inr hh
theorem Rel.boxSet {nt : Nat} {μ : Ro} {φ : Nat → Phys} {f : Fr} {m : Mem} {a : Act} {w : World} (h : Rel E.P E.glob nt w0 μ φ f m a w) {id j : Nat} {cs : List V} {u : V} (hm : m id = some (.box cs)) (hj : cs[j]? = some .nils)
    (hu : RepV E.P μ φ u (.slice none 0 0)) (hl : ∀ i, u.has i = true → (m i).isSome = true) :
    Rel E.P E.glob nt w0 μ φ f (memSet m id (.box (cs.set j u))) a w := by
  have key : ∀ i b, memSet m id (.box (cs.set j u)) i = some b → (i = id ∧ b = .box (cs.set j u)) ∨ m i = some b := fun i b hb => by
    by_cases e : i = id
    · subst e; rw [memSet_same] at hb; exact .inl ⟨rfl, (Option.some.inj hb).symm⟩
    · rw [memSet_ne e] at hb; exact .inr hb
  have some' : ∀ i, (m i).isSome = true → (memSet m id (.box (cs.set j u)) i).isSome = true := fun i hi => by
    by_cases e : i = id
    · subst e; rw [memSet_same]; rfl
    · rw [memSet_ne e]; exact hi
  have back : ∀ i b, memSet m id (.box (cs.set j u)) i = some b → ∃ b', m i = some b' ∧ (b.mutable = true → b'.mutable = true) := fun i b hb => by
    rcases key i b hb with ⟨rfl, rfl⟩ | hb
    · exact ⟨_, hm, fun _ => rfl⟩
    · exact ⟨b, hb, fun h => h⟩
  exact
  { below := h.below, ro := h.ro, glob := h.glob,
    blk := fun i b hb => by
      rcases key i b hb with ⟨rfl, rfl⟩ | hb
      · obtain ⟨g, c, T, c1, c2, c3, c4, c5, c6⟩ := h.blk _ _ hm
        refine ⟨g, c, T, c1, c2, by simpa using c3, fun i v x hv hx => ?_, c5, by simpa using c6⟩
        rw [List.getElem?_set] at hv
        split at hv
        · rename_i e
          subst e
          split at hv
          · simp only [Option.some.injEq] at hv
            subst hv
            have := c4 j .nils x hj hx
            cases this
            exact hu
          · cases hv
        · exact c4 i v x hv hx
      · exact h.blk i b hb
    own := fun i b g hb hg => by
      obtain ⟨b', hb', hmu⟩ := back i b hb
      obtain ⟨o1, o2⟩ := h.own i b' g hb' hg
      exact ⟨o1, fun hb => o2 (hmu hb)⟩
    inj := fun id1 id2 b1 b2 g h1 h2 => by
      obtain ⟨b1', h1', _⟩ := back id1 b1 h1
      obtain ⟨b2', h2', _⟩ := back id2 b2 h2
      exact h.inj id1 id2 b1' b2' g h1' h2'
    liveB := fun i cs' id' hi hid => by
      rcases key i _ hi with ⟨rfl, he⟩ | hi
      · simp only [Blk.box.injEq] at he
        subst he
        rcases hasL_set _ _ hid with hid | hid
        · exact some' _ (h.liveB _ _ _ hm hid)
        · exact some' _ (hl _ hid)
      · exact some' _ (h.liveB _ _ _ hi hid)
    base := h.base, keep := h.keep
    lps := fun i st hi => by
      rcases key i _ hi with ⟨_, he⟩ | hi
      · cases he
      · exact h.lps i st hi
    size := h.size, defers := h.defers, old := h.old, fr := h.fr
    live := fun t i hid => some' _ (h.live t i hid) }
theorem Rel.newNil {nt : Nat} {μ : Ro} {φ : Nat → Phys} {f : Fr} {m : Mem} {a : Act} {w : World} (h : Rel E.P E.glob nt w0 μ φ f m a w) {nid : Nat} {et : TypeId} (hn : m nid = none) (hpos : 0 < csz E.P et) :
    ∃ φ', (φ' nid).g = none ∧ Rel E.P E.glob nt w0 μ φ' f (memSet m nid (.arr (csz E.P et) et [])) a w := by
  have hf : fresh false nid (.arr (csz E.P et) et []) f m (fun f m _ => some (f, m)) = some (f, memSet m nid (.arr (csz E.P et) et [])) := by simp [fresh, hn]
  obtain ⟨f1, m1, _, hk, _, _, hfr⟩ := fresh_ok hf
  simp only [Option.some.injEq, Prod.mk.injEq] at hk
  obtain ⟨rfl, rfl⟩ := hk
  obtain ⟨φ', a1, a2, a3⟩ := hfr E.P E.glob w0 μ φ w w (slots nt w0 a) ⟨none, 0, 0, csz E.P et⟩ h.toRelM ⟨h.fr, h.live⟩ ⟨Bel.refl _ _, h.toRelM.ro, fun _ _ _ _ _ => rfl, by simp, fun φ' hp _ => by
            refine ⟨by rw [hp]; rfl, by rw [hp], rfl, hpos, by simp, by rw [hp]; simp [maxLen], ?_⟩
            rw [hp]; exact ⟨rfl, rfl⟩, by simp [Blk.names], fun st h => by cases h⟩
  exact ⟨φ', by rw [a1], { toRelM := a2, size := h.size, defers := h.defers, old := h.old, fr := a3.fr, live := a3.live }⟩
theorem prepO_ok {A : Type} {nt : Nat} {a : Act} {w : World} : ∀ {l : List (Nat × Nat × Nat × TypeId)} {μ : Ro} {φ : Nat → Phys} {f : Fr} {m : Mem} {k : Mem → A} {r : A}, prepO E.P l m k = r → Rel E.P E.glob nt w0 μ φ f m a w →
    ∃ m' φ', k m' = r ∧ Rel E.P E.glob nt w0 μ φ' f m' a w
  | [], μ, φ, f, m, k, r, h, hR => ⟨m, φ, h, hR⟩
  | (id, j, nid, et) :: l, μ, φ, f, m, k, r, h, hR => by
    unfold prepO at h
    split at h
    · rename_i cs hm
      split at h
      · rename_i hj
        split at h
        · rename_i hn
          split at h
          · rename_i hpos
            obtain ⟨φ', g0, hR'⟩ := hR.newNil hn hpos
            have hne : id ≠ nid := fun e => by subst e; rw [hm] at hn; cases hn
            exact prepO_ok h (hR'.boxSet (by rw [memSet_ne hne]; exact hm) hj (.osN g0) fun i hi => by
              have := Nat.eq_of_beq_eq_true hi; subst this; simp)
          · exact prepO_ok h hR
        · exact prepO_ok h hR
      · exact prepO_ok h hR
    · exact prepO_ok h hR
theorem prepB_ok {A : Type} {nt : Nat} {a : Act} {w : World} : ∀ {l : List (Nat × Nat × Nat)} {μ : Ro} {φ : Nat → Phys} {f : Fr} {m : Mem} {k : Mem → A} {r : A}, prepB l m k = r → Rel E.P E.glob nt w0 μ φ f m a w →
    ∃ m', k m' = r ∧ Rel E.P E.glob nt w0 μ φ f m' a w
  | [], μ, φ, f, m, k, r, h, hR => ⟨m, h, hR⟩
  | (id, j, sz) :: l, μ, φ, f, m, k, r, h, hR => by
    unfold prepB at h
    split at h
    · rename_i cs hm
      split at h
      · rename_i hj
        exact prepB_ok h (hR.boxSet hm hj (.pv .rsNil) (fun i hi => by cases hi))
      · exact prepB_ok h hR
    · exact prepB_ok h hR
theorem prepT_ok {A : Type} {nt : Nat} {a : Act} {w : World} {T : Tpl} {μ : Ro} {φ : Nat → Phys} {f : Fr} {m : Mem} {k : Fr → Mem → A} {r : A} (h : prepT E.P T f m k = r) (hR : Rel E.P E.glob nt w0 μ φ f m a w) :
    ∃ f' m' μ' φ', k f' m' = r ∧ Rel E.P E.glob nt w0 μ' φ' f' m' a w := by
  unfold prepT at h
  obtain ⟨m1, φ1, h, hR⟩ := prepO_ok h hR
  obtain ⟨m', h, hR⟩ := prepB_ok h hR
  obtain ⟨f', m', μ', h, hR⟩ := prepK_ok h hR
  exact ⟨f', m', μ', φ1, h, hR⟩

def exitOf : Ex → Exit
  | .normal => .normal
  | .exit id => .exit id
  | .ret => .ret

theorem Rel.drewR {nt : Nat} {μ : Ro} {φ : Nat → Phys} {f : Fr} {m : Mem} {a : Act} {w : World} (h : Rel E.P E.glob nt w0 μ φ f m a w) : Rel E.P E.glob nt w0 μ φ f m a { w with drawn := w.drawn + 1 } :=
  { toRelM := h.toRelM.drew, size := h.size, defers := h.defers, old := h.old, fr := h.fr, live := h.live }

theorem region_ok {rd : Option Nat} (hE : EnvOk E) (hY : YlOk E.P E.glob E.fn.ntmps E.yl w0) {R : Type} {id : Nat} {ops : Array Oper} {draw : Bool} {f : Fr} {m : Mem} {k : Ex → Fr → Mem → Option R} {r : R} (h : evalC E (.region id ops draw) f m k = some r)
    {μ : Ro} {φ : Nat → Phys} {a : Act} {w : World} {Q : Exit → Act → World → Prop} (hR : Rel E.P E.glob E.fn.ntmps w0 μ φ f m a w)
    (hQ : ∀ f' m' μ' φ' a' w', k .normal f' m' = some r → Rel E.P E.glob E.fn.ntmps w0 μ' φ' f' m' a' w' → Q .normal a' w') : (Code.region id ops draw).wpIn (FR rd) 0 E.P Q a w := by
  simp only [evalC] at h
  cases draw with
  | false =>
    simp only [Bool.false_eq_true, if_false] at h
    refine wpIn_region ?_
    have hmz : ∀ x ∈ (List.range ops.size).zip ops.toList, ops[x.1]? = some x.2 := fun x hx => by
      have := (mem_zip_range (l := ops.toList) (i := x.1) (o := x.2)).1 (by simpa using hx)
      rwa [Array.getElem?_toList] at this
    have := evalOps_seq (rd := rd) hE hY _ (.inl rfl) h hmz (by intro x hx g hg; cases hg) (fun h => by cases h) μ φ a w Q [] hR (by intro g hg; cases hg) fun f' m' μ' φ' a' w' hk hR' _ _ => hQ f' m' μ' φ' a' w' hk hR'
    rw [List.append_nil, List.map_fst_zip (by simp)] at this
    exact this
  | true =>
    simp only [if_true] at h
    split at h
    · rename_i hi
      refine wpIn_region_any hE.mixed ?_
      split at h
      · rename_i hall
        exact region_any hE hY (.inl rfl) (fun _ o ho => List.all_eq_true.1 hall o (Array.mem_toList_iff.2 ho)) hi h hR.drewR hQ
      · exact region_any hE hY (.inr rfl) (fun h => by cases h) hi h hR.drewR hQ
    · cases h
end

theorem enterFn {P : Program} {g : FuncId} {fn : Func} {c : Code} (hf : P.funcs[g]? = some fn) (hname : (fn.name == "runtime.NumGoroutine") = false) (hb : fn.body = some c) {args : Array Value} {w : World} : (callFunc g args).run P w = .ok (.enter g args) w := run_enter hf hname hb
theorem slots_pop {nt : Nat} {w0 : Base} {a : Act} {t : Nat} : slots nt w0 a (t + nt) = w0.sv (t + nt) := by
  unfold slots; rw [if_neg (by omega)]
def CodeOk (c : Code) : Prop := ∀ {E : Env} {w0 : Base} {rd : Option Nat} (_ : EnvOk E) (_ : YlOk E.P E.glob E.fn.ntmps E.yl w0) (_ : E.rdb = false → rd = none) {R : Type} {f : Fr} {m : Mem} {k : Ex → Fr → Mem → Option R} {r : R}, evalC E c f m k = some r →
    ∀ {μ : Ro} {φ : Nat → Phys} {a : Act} {w : World} {Q : Exit → Act → World → Prop}, Rel E.P E.glob E.fn.ntmps w0 μ φ f m a w →
      (∀ e f' m' μ' φ' a' w', k e f' m' = some r → Rel E.P E.glob E.fn.ntmps w0 μ' φ' f' m' a' w' → Q (exitOf e) a' w') → c.wpIn (FR rd) 0 E.P Q a w
theorem round_ok {as b : Code} (ihA : CodeOk as) (ihB : CodeOk b) {E : Env} (hE : EnvOk E) {w2 : Base} {lid l ntI : Nat} {ps : Array Nat} {rc : Loop} {fid : Nat}
    (hrc : w2.rc lid = some (l, rc)) (hps : rc.params = ps) (has : rc.assign = as) (hb : rc.body = b) (hsz : rc.tmps.size = E.fn.ntmps) (hsv : ∀ t, t < E.fn.ntmps → w2.sv (t + ntI) = rc.tmps.getD t undef) :
    YlOk E.P E.glob ntI (fun _ nt _ id args F m k => bif Nat.beq id lid then roundOf (evalC { E with fid := fid, yl := noYl, rdb := true } as) (evalC { E with fid := fid, yl := noYl, rdb := true } b) lid E.fn.ntmps ps.toList nt args F m k else none) w2 := by
  intro R site id args F m k r hy μ φ ρ w xs hM hF hρ hl hr hlv g hg
  dsimp only at hy
  cases hid : Nat.beq id lid with
  | false => rw [hid] at hy; cases hy
  | true =>
    rw [hid] at hy
    have hid := Nat.eq_of_beq_eq_true hid
    subst hid
    simp only [cond_true] at hy
    unfold roundOf at hy
    split at hy
    · rename_i hml
      split at hy
      · rename_i hal
        obtain ⟨g', rc', l1, l2, l3⟩ := hM.lps id _ hml
        rw [hrc] at l2
        simp only [Option.some.injEq, Prod.mk.injEq] at l2
        obtain ⟨rfl, rfl⟩ := l2
        rw [l1] at hg
        simp only [Option.some.injEq] at hg
        subst hg
        have hxs : xs.size = (LSt.ready.obj rc).params.size := by
          have : ps.toList.length = ps.size := by simp
          show xs.size = rc.params.size
          rw [hps]; omega
        refine ⟨_, _, _, _, run_yield l3 hxs, ?_⟩
        have hE' : EnvOk { E with fid := fid, yl := noYl, rdb := true } := ⟨hE.mixed, hE.lp, hE.ctx, hE.own, hE.inl, hE.rng⟩
        -- the base of the round
        have hfold := setPs_rep (P := E.P) (μ := μ) (φ := φ) ps.toList args xs.toList (popF ntI F) rc.tmps hsz (by simpa using hl) (fun t ht => by
          have := hF.fr (t + ntI)
          rw [hρ _ (by omega), hsv t ht] at this
          exact this) (fun i v x hv hx => hr i v x hv (by simpa using hx))
        have hR3 : Rel E.P E.glob E.fn.ntmps { w2 with sv := fun t => ρ (t - E.fn.ntmps), keep := μ, old := fun _ => none } μ φ (pushG E.fn.ntmps (setPs ps.toList args (popF ntI F)) F) m
            { tmps := ((LSt.ready.obj rc).params.zip xs).foldl (fun tmps (t, a) => tmps.setIfInBounds t a) (LSt.ready.obj rc).tmps, defers := [] } w := by
          have e : ((LSt.ready.obj rc).params.zip xs).foldl (fun tmps (t, a) => tmps.setIfInBounds t a) (LSt.ready.obj rc).tmps = (ps.toList.zip xs.toList).foldl (fun tmps (x : Nat × Value) => tmps.setIfInBounds x.1 x.2) rc.tmps := by
            rw [zip_fold]
            show (rc.params.toList.zip xs.toList).foldl _ rc.tmps = _
            rw [hps]
          rw [e]
          refine { toRelM := hM.rebase rfl rfl (fun _ _ h => h) (fun _ _ _ => rfl), size := hfold.1, defers := .nil _ _ _, old := fun _ _ h => (by cases h), fr := fun t => ?_, live := fun t id hid => ?_ }
          · unfold pushG slots
            by_cases ht : t < E.fn.ntmps
            · rw [show Nat.blt t E.fn.ntmps = true by rw [Nat.blt_eq]; exact ht, if_pos ht]
              exact hfold.2 t ht
            · rw [show Nat.blt t E.fn.ntmps = false by rw [← Bool.not_eq_true, Nat.blt_eq]; exact ht, if_neg ht]
              exact hF.fr _
          · unfold pushG at hid
            cases e : Nat.blt t E.fn.ntmps with
            | true =>
              rw [e] at hid
              rcases setPs_live _ _ _ _ hid with h | h
              · exact hlv id h
              · exact hF.live _ id h
            | false => rw [e] at hid; exact hF.live _ id hid
        refine roundIn_of_wpIn trivial ?_
        show (LSt.ready.obj rc).assign.wpIn (FR (some l)) 0 E.P _ _ _
        have ha' : (LSt.ready.obj rc).assign = as := has
        rw [ha']
        refine ihA (rd := some l) hE' (ylOk_no _ _ _ _) (fun h => by cases h) hy hR3 fun e f1 m1 μ1 φ1 a1 w1 hk1 hR1 => ?_
        split at hk1
        · rename_i hm1
          obtain ⟨g1, rc1, p1, p2, p3⟩ := hR1.lps id _ hm1
          have p2 : w2.rc id = some (g1, rc1) := p2
          rw [hrc] at p2
          simp only [Option.some.injEq, Prod.mk.injEq] at p2
          obtain ⟨rfl, rfl⟩ := p2
          refine ⟨_, run_beginRound p3 rfl, ?_⟩
          have hb' : (LSt.ready.obj rc).body = b := hb
          refine Eq.mpr (congrArg (fun c : Code => c.wpIn (FR (some l)) 0 E.P _ a1 _) hb') ?_
          have hM1 := hR1.toRelM.turn (st' := .busy) hm1 p1 hrc
          have hR1' : Rel E.P E.glob E.fn.ntmps { w2 with sv := fun t => ρ (t - E.fn.ntmps), keep := μ, old := fun _ => none } μ1 φ1 f1 (memSet m1 id (.loop .busy)) a1 (w1.putObj l (.loop { LSt.ready.obj rc with state := .busy })) :=
            { toRelM := hM1, size := hR1.size, defers := hR1.defers, old := hR1.old, fr := hR1.fr, live := fun t j hj => by
                by_cases e : j = id
                · subst e; simp
                · rw [memSet_ne e]; exact hR1.live t j hj }
          refine ihB (rd := some l) hE' (ylOk_no _ _ _ _) (fun h => by cases h) hk1 hR1' fun e f2 m2 μ2 φ2 a2 w2' hk2 hR2 => ?_
          split at hk2
          · rename_i hm2
            obtain ⟨g2, rc2, q1, q2, q3⟩ := hR2.lps id _ hm2
            have q2 : w2.rc id = some (g2, rc2) := q2
            rw [hrc] at q2
            simp only [Option.some.injEq, Prod.mk.injEq] at q2
            obtain ⟨rfl, rfl⟩ := q2
            have hle : RoLe μ μ2 := hR2.keep
            have hFp : FrOk E.P μ2 φ2 m2 (popF E.fn.ntmps f2) ρ := by
              refine ⟨fun t => ?_, fun t id hid => hR2.live _ id hid⟩
              have := hR2.fr (t + E.fn.ntmps)
              rw [slots_pop] at this
              simpa [popF] using this
            have fin : ∀ (st : LSt) (v : Bool), k (.pv (.bool v)) (popF E.fn.ntmps f2) (memSet m2 id (.loop st)) = some r →
                ∃ v' f' m' y μ' φ', k v' f' m' = some r ∧ Ending.returned (.bool v) = .returned y ∧ RoLe μ μ' ∧ RelM E.P E.glob w2 μ' φ' m' (w2'.putObj l (.loop (st.obj rc))) ∧ FrOk E.P μ' φ' m' f' ρ ∧ RepV E.P μ' φ' v' y ∧ ∀ id, v'.has id = true → (m' id).isSome = true := by
              intro st v hk
              have hM2 := hR2.toRelM.turn (st' := st) hm2 q1 hrc
              refine ⟨_, _, _, _, μ2, φ2, hk, rfl, hle, hM2.rebase rfl rfl (fun b o hb => hle b o (hM.keep b o hb)) (fun _ _ _ => rfl), ⟨hFp.fr, fun t j hj => ?_⟩, .pv .bool, fun id hid => by cases hid⟩
              by_cases e : j = id
              · subst e; simp
              · rw [memSet_ne e]; exact hFp.live t j hj
            cases e with
            | normal => exact ⟨_, _, run_endRound none q3, fin .ready true hk2⟩
            | exit j => exact ⟨_, _, run_endRound (some (.exit j)) q3, fin (.done (.exit j)) false hk2⟩
            | ret => exact ⟨_, _, run_endRound (some .ret) q3, fin (.done .ret) false hk2⟩
          · cases hk2
        · cases hk1
      · cases hy
    · cases hy

theorem fnOf_ok {P : Program} {μ : Ro} {φ : Nat → Phys} {m : Mem} {v : V} {g : FuncId} {caps : List V} {y : Value} (h : fnOf v = some (g, caps)) (hv : RepV P μ φ v y) (hl : ∀ id, v.has id = true → (m id).isSome = true) :
    ∃ xs, y = .func (.func g) #[] xs ∧ caps.length = xs.size ∧ (∀ (i : Nat) v x, caps[i]? = some v → xs[i]? = some x → RepV P μ φ v x) ∧ ∀ id, hasL id caps = true → (m id).isSome = true := by
  unfold fnOf at h
  split at h
  · simp only [Option.some.injEq, Prod.mk.injEq] at h
    obtain ⟨rfl, rfl⟩ := h
    cases hv with
    | @fn _ _ xs h1 h2 => exact ⟨xs, rfl, h1, h2, fun id hid => hl id (by simpa only [V.has] using hid)⟩
  · simp only [Option.some.injEq, Prod.mk.injEq] at h
    obtain ⟨rfl, rfl⟩ := h
    cases hv with
    | pv hv => cases hv with
      | @fn _ _ xs h1 h2 =>
        refine ⟨xs, rfl, by simpa using h1, fun i v x hv hx => ?_, fun id hid => ?_⟩
        · simp only [List.getElem?_map, Option.map_eq_some_iff] at hv
          obtain ⟨q, hq, rfl⟩ := hv
          exact .pv (h2 i q x hq hx)
        · obtain ⟨v, hv, hh⟩ := hasL_iff.1 hid
          obtain ⟨q, _, rfl⟩ := List.mem_map.1 hv
          cases hh
  · cases h

theorem rangeFunc_ok {g : Operand} {ps : Array Tmp} {as b : Code} (ihA : CodeOk as) (ihB : CodeOk b) : CodeOk (.rangeFunc g ps as b) := by
  intro E w0 rd hE hY hrd R f m k r h μ φ a w Q hR hQ
  simp only [evalC] at h
  split at h
  · cases h
  rename_i hrb
  have hrd := hrd (by simpa using hrb)
  subst hrd
  split at h
  rotate_left
  · cases h
  rename_i p0 pr hp0
  generalize hlid : siteOf E (some p0) = lid at h
  obtain ⟨f1, m1, _, h, hml, hdr, hsem⟩ := fresh_ok h
  obtain ⟨hm0, rfl, rfl⟩ := hdr rfl
  refine wpIn_rangeFunc fun fn _ => ?_
  obtain ⟨rec, hrec⟩ : ∃ rec : Loop, rec = { state := .ready, pending := none, fn, tmps := a.tmps, params := ps, assign := as, body := b, defers := w.heap.size } := ⟨_, rfl⟩
  obtain ⟨wD, hwD⟩ : ∃ wD, wD = w.alloc (.deferred (some [])) := ⟨_, rfl⟩
  obtain ⟨W1, hW1⟩ : ∃ W1, W1 = wD.alloc (.loop rec) := ⟨_, rfl⟩
  obtain ⟨l, hl⟩ : ∃ l, l = wD.heap.size := ⟨_, rfl⟩
  have hl' : l = w.heap.size + 1 := by rw [hl, hwD]; simp
  obtain ⟨μD, hμD⟩ : ∃ μD, μD = roNew μ w (.deferred (some [])) := ⟨_, rfl⟩
  have hleD : RoLe μ μD := hμD ▸ roNew_le hR.toRelM _
  have hMD : RelM E.P E.glob w0 μD φ m wD := hμD ▸ hwD ▸ hR.toRelM.allocRo _
  have hD : μD w.heap.size = some (.deferred (some [])) := by rw [hμD]; simp [roNew]
  obtain ⟨w1, hw1⟩ : ∃ w1 : Base, w1 = { w0 with keep := μD, rc := fun i => if i = lid then some (l, rec) else w0.rc i } := ⟨_, rfl⟩
  have hMD1 : RelM E.P E.glob w1 μD φ m wD := hw1 ▸ hMD.rebase rfl rfl (fun _ _ h => h) (fun id st hid => if_neg fun e => by subst e; rw [hm0] at hid; cases hid)
  have hsl : slots E.fn.ntmps w1 a = slots E.fn.ntmps w0 a := by subst hw1; rfl
  have hFD : FrOk E.P μD φ m f1 (slots E.fn.ntmps w0 a) := ⟨fun t => (hR.fr t).monoR hleD, hR.live⟩
  have hrcl : w1.rc lid = some (l, rec) := by subst hw1; exact if_pos rfl
  have hnew : W1.heap[l]? = some (.loop rec) := by rw [hW1, hl]; exact heap_alloc_new wD _
  have hrr : LSt.ready.obj rec = rec := by subst hrec; rfl
  have hput : PutOk E.P w1 μD φ m wD W1 lid (.loop .ready) ⟨some l, 0, 0, 0⟩ := by
    rw [hW1]
    refine PutOk.alloc hMD1 (by rw [hl]) (fun φ' hp _ => ⟨l, rec, by rw [hp], ?_⟩) (by simp [Blk.names]) fun st hst => ?_
    · rw [hrr, ← hW1]; exact hnew
    · cases hst
      exact ⟨l, rec, rfl, hrcl, by rw [hrr, ← hW1]; exact hnew⟩
  obtain ⟨φ1, hφl, hM1, hF1⟩ := hsem E.P E.glob w1 μD φ wD W1 (slots E.fn.ntmps w0 a) ⟨some l, 0, 0, 0⟩ hMD1 hFD hput
  have hR1 : Rel E.P E.glob E.fn.ntmps w1 μD φ1 f1 (memSet m lid (.loop .ready)) a W1 :=
    { toRelM := hM1, size := hR.size, defers := (by have := hR.defers.mono hleD; subst hw1; exact this), old := (by subst hw1; exact fun b o hb => hleD b o (hR.keep b o (hR.old b o hb))), fr := fun t => by rw [hsl]; exact hF1.fr t, live := hF1.live }
  have hop := opd_rep hR1 g
  split at h
  rotate_left
  · cases h
  rename_i gid caps hcap
  obtain ⟨xs, hgv, hlen, hrep, hopl⟩ := fnOf_ok hcap hop.1 hop.2
  · clear hop
    obtain ⟨fnI, cI, f1, f2, f3, hcall⟩ := hE.rng _ _ _ _ _ _ _ _ _ h
    have hyl : RepV E.P μD φ1 (.yl lid) (.func (.yield l) #[] #[]) := .yl (by rw [hφl])
    have hC := hcall w1 μD φ1 (slots E.fn.ntmps w0 a) W1 (#[.func (.yield l) #[] #[]] ++ xs) hM1 hF1 (by simp; omega) (fun i v x hv hx => by
        cases i with
        | zero => simp at hv; subst hv; rw [Array.getElem?_append] at hx; simp at hx; subst hx; exact hyl
        | succ i =>
          simp at hv
          rw [Array.getElem?_append_right (by simp)] at hx
          exact hrep i v x hv (by simpa using hx)) (fun id hid => by
        simp only [hasL, Bool.or_eq_true] at hid
        rcases hid with hid | hid
        · have := Nat.eq_of_beq_eq_true hid; subst this; simp
        · exact hopl id hid) (by
      refine fun R site id args F m k r hy => round_ok (fid := site * 4096 + E.fid % 4096) ihA ihB hE (w2 := { w1 with sv := fun t => slots E.fn.ntmps w0 a (t - fnI.ntmps) }) (rc := rec) (l := l) (lid := lid) (ps := ps) hrcl (by subst hrec; rfl) (by subst hrec; rfl) (by subst hrec; rfl) (by subst hrec; exact hR.size) (fun t ht => by
        subst hrec
        show slots E.fn.ntmps w0 a (t + fnI.ntmps - fnI.ntmps) = _
        rw [Nat.add_sub_cancel, slots_lt ht]) R site id args F m k r hy)
    refine ⟨l, [{ target := .collected w.heap.size, args := #[] }], W1, { target := .fn (.func gid) xs, args := #[.func (.yield l) #[] #[]] }, W1, gid, #[.func (.yield l) #[] #[]] ++ xs, W1, ?_, ?_, ?_, ?_, ?_, ?_⟩
    · have := run_enterLoop_outer (P := E.P) (w := w) fn a.tmps ps as b
      rw [hl', hW1, hwD, hrec]; exact this
    · simp only [resolve, hgv]
      simp [go_sem]
    · exact fun _ _ => trivial
    · simp [invoke, go_sem, enterFn f1 f3 f2]
    · exact fun h => by cases h
    · refine FR.callsIn (hC.mono ?_)
      rintro e w' ⟨v, f', m', y, μ', φ', hk, rfl, hM', hF', _, _⟩
      have hleK : RoLe μD μ' := by
        have := hM'.keep
        subst hw1; exact this
      have hD' : μ' w.heap.size = some (.deferred (some [])) := hleK _ _ hD
      have main : ∀ st, m' lid = some (.loop st) → st ≠ .busy → ∃ w4, (Instr.endLoop l).run E.P w' = .ok (st.obj rec).pending w4 ∧ Rel E.P E.glob E.fn.ntmps w0 μ' φ' (killF lid f') (memDel (killM lid m') lid) { a with defers := [{ target := .collected w.heap.size, args := #[] }] ++ a.defers } w4 := by
        intro st hst hnb
        obtain ⟨g', rc', p1, p2, p3⟩ := hM'.lps lid st hst
        rw [hrcl] at p2
        simp only [Option.some.injEq, Prod.mk.injEq] at p2
        obtain ⟨rfl, rfl⟩ := p2
        have hown := hM'.own lid _ _ hst p1
        have hMf := hM'.forget lid
        have hno : ∀ id b, memDel (killM lid m') lid id = some b → (φ' id).g ≠ some l := fun id b' hid e => by
          obtain ⟨hne, b2, hb2, _⟩ := forget_some hid
          exact hne (hM'.inj id lid b2 _ l hb2 hst e p1)
        have hM4 := hMf.other (.loop { st.obj rec with state := .exhausted }) hown.1 (hown.2 rfl) hno
        have hM5 : RelM E.P E.glob w0 μ' φ' (memDel (killM lid m') lid) (w'.putObj l (.loop { st.obj rec with state := .exhausted })) :=
          hM4.rebase (by subst hw1; rfl) (by subst hw1; rfl) (fun b o hb => hleK b o (hleD b o (hR.keep b o hb))) (fun id st hid => by
            have hne : id ≠ lid := fun e => by subst e; simp at hid
            subst hw1; exact (if_neg hne).symm)
        refine ⟨_, run_endLoop p3 (by cases st <;> simp_all [LSt.obj]), { toRelM := hM5, size := hR.size, defers := ?_, old := hR.old, fr := ?_, live := ?_ }⟩
        · obtain ⟨Ds, e, hnd, hDs⟩ := hR.defers
          have hlt : ∀ b o, μ b = some o → b < w.heap.size := fun b o hb => (Array.getElem?_eq_some_iff.1 (hR.ro b o hb)).1
          refine ⟨w.heap.size :: Ds, by simp [e], List.nodup_cons.2 ⟨fun hd => ?_, hnd⟩, fun D hd => ?_⟩
          · have := hlt _ _ (hDs _ hd).2.2; omega
          · rcases List.mem_cons.1 hd with rfl | hd
            · refine ⟨hR.below.size, ?_, hD'⟩
              cases ho : w0.old w.heap.size with
              | none => rfl
              | some o => have := hlt _ _ (hR.keep _ _ (hR.old _ _ ho)); omega
            · exact ⟨(hDs D hd).1, (hDs D hd).2.1, hleK _ _ (hleD _ _ (hDs D hd).2.2)⟩
        · exact (hF'.forget lid).fr
        · exact (hF'.forget lid).live
      dsimp only at hk
      split at hk
      · rename_i hst
        obtain ⟨w4, e1, e2⟩ := main .ready hst (by simp)
        exact ⟨none, w4, e1, hQ .normal _ _ _ _ _ _ hk e2⟩
      · rename_i j hst
        obtain ⟨w4, e1, e2⟩ := main (.done j) hst (by simp)
        refine ⟨some j.code, w4, e1, ?_⟩
        cases j with
        | ret => exact wpIn_ret (hQ .ret _ _ _ _ _ _ hk e2)
        | exit id => exact wpIn_exit (hQ (.exit id) _ _ _ _ _ _ hk e2)
      · cases hk

theorem evalC_ok : ∀ (c : Code), CodeOk c := by
  intro c
  induction c with
  | skip => intro E w0 rd hE hY hrd R f m k r h μ φ a w Q hR hQ; simp only [evalC] at h; exact wpIn_skip (hQ .normal _ _ _ _ _ _ h hR)
  | region id ops draw => intro E w0 rd hE hY hrd R f m k r h μ φ a w Q hR hQ; exact region_ok hE hY h hR (hQ .normal)
  | seq x y ihx ihy =>
    intro E w0 rd hE hY hrd R f m k r h μ φ a w Q hR hQ
    simp only [evalC] at h
    refine wpIn_seq (ihx hE hY hrd h hR fun e f' m' μ' φ' a' w' hk hR' => ?_)
    cases e with
    | normal => exact ihy hE hY hrd hk hR' hQ
    | exit id => exact hQ (.exit id) _ _ _ _ _ _ hk hR'
    | ret => exact hQ .ret _ _ _ _ _ _ hk hR'
  | cond c x y ihx ihy =>
    intro E w0 rd hE hY hrd R f m k r h μ φ a w Q hR hQ
    simp only [evalC] at h
    split at h
    · rename_i t b hb
      have hv : a.eval (.tmp t) = .bool b := by
        have := (opd_rep hR (.tmp t)).1
        rw [hb] at this
        exact rep_bool this
      have hb' : f t = .pv (.bool b) := (opd_tmp_pv hb).2
      have hle : FLe (frSet f t (.pv (.bool b))) f := fun s => by
        simp only [frSet]
        cases e : Nat.beq s t with
        | true => have := Nat.eq_of_beq_eq_true e; subst this; exact .inl hb'.symm
        | false => exact .inl rfl
      cases b with
      | true => simp only [if_true] at h; exact wpIn_cond_true hv (ihx hE hY hrd h (hR.weaken hle) hQ)
      | false => simp only [Bool.false_eq_true, if_false] at h; exact wpIn_cond_false hv (ihy hE hY hrd h (hR.weaken hle) hQ)
    · cases h
  | block id b ih =>
    intro E w0 rd hE hY hrd R f m k r h μ φ a w Q hR hQ
    simp only [evalC] at h
    refine wpIn_block (ih hE hY hrd h hR fun e f' m' μ' φ' a' w' hk hR' => ?_)
    cases e with
    | normal => exact hQ .normal _ _ _ _ _ _ hk hR'
    | exit j =>
      simp only [Ex.blockK] at hk
      simp only [exitOf, Exit.inBlock]
      split at hk
      · rename_i hj; rw [if_pos hj]; exact hQ .normal _ _ _ _ _ _ hk hR'
      · rename_i hj; rw [if_neg hj]; exact hQ (.exit j) _ _ _ _ _ _ hk hR'
    | ret => exact hQ .ret _ _ _ _ _ _ hk hR'
  | loop b ih =>
    intro E w0 rd hE hY hrd R f m k r h μ φ a w Q hR hQ
    simp only [evalC] at h
    split at h
    · rename_i T _
      obtain ⟨f, m, μ, φ, h, hR⟩ := prepT_ok h hR
      obtain ⟨s, hs, s1, s2, s3, s4⟩ := enc_ok h
      obtain ⟨n0, hs⟩ := hE.lp _ _ _ _ _ hs
      refine wp_loop_n (fun n a w => ∃ s μ φ, Rel E.P E.glob E.fn.ntmps w0 μ φ (decF T s) (decM T s) a w ∧ loopS (fun s rec => evalC E b (decF T s) (decM T s) (Ex.thenK (fun f m => prepT E.P T f m fun f m => enc T f m rec) k)) n s = some r) ?_ n0 a w ⟨s, μ, φ, hR.dec s1 s2 s3 s4, hs⟩
      rintro n a w ⟨s, μ, φ, hR, hs⟩
      cases n with
      | zero => simp [loopS] at hs
      | succ n =>
        refine ⟨n, rfl, ?_⟩
        simp only [loopS] at hs
        refine ih hE hY hrd hs hR fun e f' m' μ' φ' a' w' hk hR' => ?_
        cases e with
        | normal =>
          obtain ⟨f', m', μ', φ', hk, hR'⟩ := prepT_ok hk hR'
          obtain ⟨s', hs', t1, t2, t3, t4⟩ := enc_ok hk
          exact ⟨s', μ', φ', hR'.dec t1 t2 t3 t4, hs'⟩
        | exit j => exact hQ (.exit j) _ _ _ _ _ _ hk hR'
        | ret => exact hQ .ret _ _ _ _ _ _ hk hR'
    · refine wp_loop_n (fun n a w => ∃ f m μ φ, Rel E.P E.glob E.fn.ntmps w0 μ φ f m a w ∧ loopU (fun f m rec => evalC E b f m (Ex.thenK rec k)) n f m = some r) ?_ E.u a w ⟨f, m, μ, φ, hR, h⟩
      rintro n a w ⟨f, m, μ, φ, hR, hs⟩
      cases n with
      | zero => simp [loopU] at hs
      | succ n =>
        refine ⟨n, rfl, ?_⟩
        simp only [loopU] at hs
        refine ih hE hY hrd hs hR fun e f' m' μ' φ' a' w' hk hR' => ?_
        cases e with
        | normal => exact ⟨f', m', μ', φ', hR', hk⟩
        | exit j => exact hQ (.exit j) _ _ _ _ _ _ hk hR'
        | ret => exact hQ .ret _ _ _ _ _ _ hk hR'
  | exit id => intro E w0 rd hE hY hrd R f m k r h μ φ a w Q hR hQ; simp only [evalC] at h; exact wpIn_exit (hQ (.exit id) _ _ _ _ _ _ h hR)
  | label l => intro E w0 rd hE hY hrd R f m k r h μ φ a w Q hR hQ; simp only [evalC] at h; exact wpIn_label (hQ .normal _ _ _ _ _ _ h hR)
  | ret => intro E w0 rd hE hY hrd R f m k r h μ φ a w Q hR hQ; simp only [evalC] at h; exact wpIn_ret (hQ .ret _ _ _ _ _ _ h hR)
  | scope b ih => intro E w0 rd hE hY hrd R f m k r h μ φ a w Q hR hQ; simp only [evalC] at h; exact wpR_scope (ih hE hY hrd h hR fun e f' m' μ' φ' a' w' hk hR' => by cases e <;> exact hQ _ _ _ _ _ _ _ hk hR')
  | rangeFunc g ps as b ihA ihB => exact rangeFunc_ok ihA ihB
  | _ => intro E w0 rd hE hY hrd R f m k r h; simp [evalC] at h
end Go.Ab
