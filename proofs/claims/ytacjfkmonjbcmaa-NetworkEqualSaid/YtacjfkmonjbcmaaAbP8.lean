/- Loops over functions: marks, records, a round's frame. -/
import Derived.Test.YtacjfkmonjbcmaaAbP7
import Derived.RangeFuncIn
import Derived.Scope
set_option linter.unusedVariables false
namespace Go.Ab
open Go.RowKit (Below)

section
variable {P : Program} {G : Nat → Option (List PV)} {w0 : Base} {μ : Ro} {φ : Nat → Phys} {m : Mem} {w : World}

theorem Bel.putObj (w : World) (g : Nat) (o : Obj) : Bel g w (w.putObj g o) :=
  ⟨⟨rfl, rfl, rfl, by simp, fun k hk => World.putObj_heap_other (by omega)⟩, fun _ => Nat.le_refl _⟩

theorem RelM.rebase (h : RelM P G w0 μ φ m w) {w1 : Base} (hw : w1.w = w0.w) (hmu : w1.mu = w0.mu) (hk : ∀ b o, w1.keep b = some o → μ b = some o) (hrc : ∀ id st, m id = some (.loop st) → w1.rc id = w0.rc id) : RelM P G w1 μ φ m w := by
  obtain ⟨a0, b0, c0, d0, e0⟩ := w0
  obtain ⟨a1, b1, c1, d1, e1⟩ := w1
  simp only at hw hmu
  subst hw; subst hmu
  refine ⟨h.below, h.ro, h.glob, h.blk, h.own, h.inj, h.apart, h.liveB, h.base, hk, fun id st hid => ?_⟩
  obtain ⟨g, rc, h1, h2, h3⟩ := h.lps id st hid
  exact ⟨g, rc, h1, (hrc id st hid).trans h2, h3⟩
def roNew (μ : Ro) (w : World) (o : Obj) : Ro := fun b => if b = w.heap.size then some o else μ b
theorem roNew_le (hM : RelM P G w0 μ φ m w) (o : Obj) : RoLe μ (roNew μ w o) := by
  intro b o' hb
  have := (Array.getElem?_eq_some_iff.1 (hM.ro b o' hb)).1
  unfold roNew
  rw [if_neg (by omega)]; exact hb
theorem RelM.allocRo (hM : RelM P G w0 μ φ m w) (o : Obj) : RelM P G w0 (roNew μ w o) φ m (w.alloc o) := by
  have hle := roNew_le hM o
  have hold : ∀ k, k < w.heap.size → (w.alloc o).heap[k]? = w.heap[k]? := fun k hk => Bel.heap_alloc w o k hk
  have hsz : w0.heap.size ≤ w.heap.size := hM.below.size
  refine ⟨hM.below.alloc hM.below.size o, fun b o' hb => ?_, fun g cs hg => (hM.glob g cs hg).mono hle, fun id b hid => ?_, fun id b g hid hg => ?_, hM.inj, hM.apart, hM.liveB, fun b o' hb hlt => ?_, fun b o' hb => hle b o' (hM.keep b o' hb), fun id st hid => ?_⟩
  · unfold roNew at hb
    split at hb
    · rename_i e; subst e; cases hb; exact heap_alloc_new w o
    · have := hM.ro b o' hb
      rw [hold b (Array.getElem?_eq_some_iff.1 this).1]; exact this
  · have hR := hM.blk id b hid
    exact hR.stable (fun _ _ => rfl) rfl hle (fun g hg => hold g (hR.glt hg))
  · obtain ⟨h1, h2⟩ := hM.own id b g hid hg
    refine ⟨h1, fun hmut => ?_⟩
    have := (hM.blk id b hid).glt hg
    unfold roNew
    rw [if_neg (by omega)]; exact h2 hmut
  · unfold roNew at hb
    rw [if_neg (by omega)] at hb
    exact hM.base b o' hb hlt
  · obtain ⟨g, rc, h1, h2, h3⟩ := hM.lps id st hid
    exact ⟨g, rc, h1, h2, by rw [hold g (Array.getElem?_eq_some_iff.1 h3).1]; exact h3⟩
theorem RelM.other (hM : RelM P G w0 μ φ m w) {g : Nat} (o : Obj) (hg : w0.heap.size ≤ g) (hμ : μ g = none) (hno : ∀ id b, m id = some b → ¬ b.owns (φ id) g) : RelM P G w0 μ φ m (w.putObj g o) := by
  have hoth : ∀ k, k ≠ g → (w.putObj g o).heap[k]? = w.heap[k]? := fun k hk => World.putObj_heap_other hk
  refine ⟨hM.below.trans ((Bel.putObj w g o).mono hg), fun b o' hb => ?_, hM.glob, fun id b hid => ?_, hM.own, hM.inj, hM.apart, hM.liveB, hM.base, hM.keep, fun id st hid => ?_⟩
  · rw [hoth b fun e => by subst e; rw [hμ] at hb; cases hb]; exact hM.ro b o' hb
  · have hR := hM.blk id b hid
    exact hR.stable (fun _ _ => rfl) rfl (fun _ _ h => h) (fun g' hg' => hoth g' fun e => by subst e; exact hno id b hid hg')
  · obtain ⟨g', rc, h1, h2, h3⟩ := hM.lps id st hid
    exact ⟨g', rc, h1, h2, by rw [hoth g' fun e => by subst e; exact hno id _ hid (.inl h1)]; exact h3⟩
theorem RelM.turn (hM : RelM P G w0 μ φ m w) {id g : Nat} {st st' : LSt} {rc : Loop} (hm : m id = some (.loop st)) (hg : (φ id).g = some g) (hrc : w0.rc id = some (g, rc)) : RelM P G w0 μ φ (memSet m id (.loop st')) (w.putObj g (.loop (st'.obj rc))) := by
  have hlt := (hM.blk id _ hm).glt (.inl hg)
  have hnew : (w.putObj g (.loop (st'.obj rc))).heap[g]? = some (.loop (st'.obj rc)) := World.putObj_heap_same hlt
  exact hM.write hm rfl hg (Bel.putObj w g _) (by simp) (fun k hk => World.putObj_heap_other hk) ⟨g, rc, hg, hnew⟩ rfl (by simp [Blk.names]) fun s hs => by
    cases hs; exact ⟨rc, hrc, hnew⟩
end

section
variable {P : Program} {μ : Ro} {φ : Nat → Phys}
theorem setPs_rep {nt : Nat} : ∀ (ps : List Nat) (args : List V) (xs : List Value) (f : Fr) (tmps : Array Value), tmps.size = nt → args.length = xs.length → (∀ t, t < nt → RepV P μ φ (f t) (tmps.getD t undef)) → (∀ (i : Nat) v x, args[i]? = some v → xs[i]? = some x → RepV P μ φ v x) →
    ((ps.zip xs).foldl (fun tmps (x : Nat × Value) => tmps.setIfInBounds x.1 x.2) tmps).size = nt ∧ ∀ t, t < nt → RepV P μ φ (setPs ps args f t) (((ps.zip xs).foldl (fun tmps (x : Nat × Value) => tmps.setIfInBounds x.1 x.2) tmps).getD t undef)
  | [], args, xs, f, tmps, hs, _, hf, _ => by cases args <;> exact ⟨hs, hf⟩
  | p :: ps, [], xs, f, tmps, hs, hl, hf, _ => by
    have : xs = [] := List.eq_nil_of_length_eq_zero (by simpa using hl.symm)
    subst this
    exact ⟨hs, hf⟩
  | p :: ps, v :: args, [], f, tmps, hs, hl, hf, _ => by simp at hl
  | p :: ps, v :: args, x :: xs, f, tmps, hs, hl, hf, hr => by
    simp only [List.zip_cons_cons, List.foldl_cons, setPs]
    refine setPs_rep ps args xs (frSet f p v) (tmps.setIfInBounds p x) (by simpa using hs) (by simpa using hl) (fun t ht => ?_) (fun i u y hu hy => hr (i + 1) u y (by simpa using hu) (by simpa using hy))
    by_cases e : t = p
    · subst e
      rw [frSet_same]
      have : (tmps.setIfInBounds t x).getD t undef = x := by
        rw [Array.getD_eq_getD_getElem?, Array.getElem?_setIfInBounds]
        simp [show t < tmps.size by omega]
      rw [this]
      exact hr 0 v x rfl rfl
    · rw [frSet_ne e]
      have : (tmps.setIfInBounds p x).getD t undef = tmps.getD t undef := by
        rw [Array.getD_eq_getD_getElem?, Array.getD_eq_getD_getElem?, Array.getElem?_setIfInBounds, if_neg (fun h => e h.symm)]
      rw [this]; exact hf t ht
theorem setPs_live {id : Nat} : ∀ (ps : List Nat) (args : List V) (f : Fr) (t : Nat), (setPs ps args f t).has id = true → hasL id args = true ∨ (f t).has id = true
  | [], args, f, t, h => by cases args <;> exact .inr h
  | p :: ps, [], f, t, h => .inr h
  | p :: ps, v :: args, f, t, h => by
    simp only [setPs] at h
    rcases setPs_live ps args _ t h with h | h
    · exact .inl (by simp [hasL, h])
    · by_cases e : t = p
      · subst e; rw [frSet_same] at h; exact .inl (by simp [hasL, h])
      · rw [frSet_ne e] at h; exact .inr h
theorem zip_fold (ps : Array Nat) (xs : Array Value) (tmps : Array Value) : (ps.zip xs).foldl (fun tmps (t, a) => tmps.setIfInBounds t a) tmps = (ps.toList.zip xs.toList).foldl (fun tmps (x : Nat × Value) => tmps.setIfInBounds x.1 x.2) tmps := by
  rw [← Array.foldl_toList, Array.toList_zip]
end
end Go.Ab

set_option linter.unusedVariables false
namespace Go.Ab
open Go.RowKit (Below)
theorem wp_loop_n {F : Fence} {nn : Nat} {P : Program} {c : Code} {Q : Exit → Act → World → Prop} (I : Nat → Act → World → Prop)
    (round : ∀ n a w, I n a w → ∃ n', n = n' + 1 ∧ c.wpIn F nn P (Exit.then (I n') Q) a w) : ∀ n a w, I n a w → (Code.loop c).wpIn F nn P Q a w := by
  intro n a w hI b k cs hro hb hr
  have key : ∀ n a w, I n a w → ∃ e a' w', Q e a' w' ∧ ArrivesIn (Machine.fenced P F) P (lone (b.atR a (.code c :: .inLoop c :: k)) cs w) b k cs e a' w' := by
    intro n
    induction n with
    | zero => intro a w h; obtain ⟨n', h, _⟩ := round 0 a w h; omega
    | succ n ih =>
      intro a w h
      obtain ⟨n', hn, hrd⟩ := round _ a w h
      have hn : n = n' := by omega
      subst hn
      obtain ⟨e, a₁, w₁, hq, harr⟩ := hrd b (.inLoop c :: k) cs hro hb hr
      cases e with
      | normal =>
        obtain ⟨e₂, a₂, w₂, hq₂, harr₂⟩ := ih a₁ w₁ hq
        exact ⟨e₂, a₂, w₂, hq₂, .of_steps (StepsIn.trans harr (.one (fenced_calm hb hr rfl) stepR_inLoop)) harr₂⟩
      | _ => exact ⟨_, a₁, w₁, hq, .pass (x := .inLoop c) rfl (fun _ _ => .inl (by simp)) harr⟩
  obtain ⟨e, a', w', hq, harr⟩ := key n a w hI
  exact ⟨e, a', w', hq, .of_steps (.one (fenced_calm hb hr rfl) stepR_loop) harr⟩

theorem wpR_scope {rd : Option Nat} {n : Nat} {P : Program} {Q : Exit → Act → World → Prop} {a : Act} {w : World} {c : Code} (h : c.wpIn (FR rd) n P (Exit.noGoto Q) a w) : (Code.scope c).wpIn (FR rd) n P Q a w := by
  intro b k cs hro hb hr
  obtain ⟨e, a₁, w₁, hq, harr⟩ := h b (.inScope c :: k) cs hro hb hr
  have s1 : StepsIn (Machine.fenced P (FR rd)) P (lone (b.atR a (.code (.scope c) :: k)) cs w) (lone (b.atR a (.code c :: .inScope c :: k)) cs w) := .one (fenced_calm hb hr rfl) (step_lone_go (by simp [stepG, stepG.exec, Frame.atR]))
  have s2 : ∀ a w, StepsIn (Machine.fenced P (FR rd)) P (lone (b.atR a (.inScope c :: k)) cs w) (lone (b.atR a k) cs w) := fun a w => .one (fenced_calm hb hr rfl) (step_lone_go (by simp [stepG, stepG.exec, Frame.atR]))
  cases e with
  | normal => exact ⟨.normal, a₁, w₁, hq, s1.trans (StepsIn.trans harr (s2 _ _))⟩
  | exit id => exact ⟨.exit id, a₁, w₁, hq, fun k' hk => s1.trans (harr.1 k' (by simp [exitTo, hk])), fun hr hk => let ⟨k₁, h1, h2⟩ := harr.2 hr (by simp [exitTo, hk]); ⟨k₁, h1, s1.trans h2⟩⟩
  | goto l => exact hq.elim
  | ret => exact ⟨_, a₁, w₁, hq, .of_steps s1 harr⟩
  | panic ch => exact ⟨_, a₁, w₁, hq, .of_steps s1 harr⟩
  | outgrown => exact ⟨_, a₁, w₁, hq, .of_steps s1 harr⟩
mutual
theorem same_ok : ∀ {v u : V}, v.same u = true → v = u
  | .op i o, u, h => by
    cases u <;> simp only [V.same, Bool.and_eq_true, Bool.false_eq_true] at h
    rw [Nat.eq_of_beq_eq_true h.1, Nat.eq_of_beq_eq_true h.2]
  | .oe i a o, u, h => by
    cases u <;> simp only [V.same, Bool.and_eq_true, Bool.false_eq_true] at h
    rw [Nat.eq_of_beq_eq_true h.1.1, Nat.eq_of_beq_eq_true h.1.2, Nat.eq_of_beq_eq_true h.2]
  | .os i, u, h => by
    cases u <;> simp only [V.same, Bool.false_eq_true] at h
    rw [Nat.eq_of_beq_eq_true h]
  | .om i, u, h => by
    cases u <;> simp only [V.same, Bool.false_eq_true] at h
    rw [Nat.eq_of_beq_eq_true h]
  | .yl i, u, h => by
    cases u <;> simp only [V.same, Bool.false_eq_true] at h
    rw [Nat.eq_of_beq_eq_true h]
  | .it i, u, h => by
    cases u <;> simp only [V.same, Bool.false_eq_true] at h
    rw [Nat.eq_of_beq_eq_true h]
  | .nils, u, h => by
    cases u <;> simp only [V.same, Bool.false_eq_true] at h
    rfl
  | .fn f cs, u, h => by
    cases u <;> simp only [V.same, Bool.and_eq_true, Bool.false_eq_true] at h
    rw [Nat.eq_of_beq_eq_true h.1, sameL_ok h.2]
  | .pv p, u, h => by
    cases u <;> try (cases p <;> simp [V.same] at h; done)
    rename_i q
    cases p <;> cases q <;> first | rfl | (simp [V.same] at h; done) | (simp only [V.same, Bool.and_eq_true, decide_eq_true_eq] at h; rw [h.1, h.2])
  | .osub _ _ _, u, h => by cases u <;> simp [V.same] at h
  | .agg _, u, h => by cases u <;> simp [V.same] at h
  | .tup _, u, h => by cases u <;> simp [V.same] at h
  | .top, u, h => by cases u <;> simp [V.same] at h
theorem sameL_ok : ∀ {vs us : List V}, sameL vs us = true → vs = us
  | [], us, h => by
    cases us with
    | nil => rfl
    | cons _ _ => simp [sameL] at h
  | v :: vs, us, h => by
    cases us with
    | nil => simp [sameL] at h
    | cons u us =>
      simp only [sameL, Bool.and_eq_true] at h
      rw [same_ok h.1, sameL_ok h.2]
end

theorem encS_ok {R T : Type} : ∀ {shs : List Sh} {vs : List V} {t : T} {k : tyS shs T → Option R} {r : R}, encS shs vs t k = some r → ∃ x, k x = some r ∧ decS shs x = (vs, t) ∧ vs.length = shs.length ∧ ∀ M, (∀ sh ∈ shs, sh.within M = true) → withinL M vs = true := by
  intro shs
  induction shs with
  | nil =>
    intro vs t k r h
    cases vs with
    | nil => exact ⟨t, h, rfl, rfl, fun _ _ => rfl⟩
    | cons v vs => simp [encS] at h
  | cons sh shs ih =>
    intro vs t k r h
    cases vs with
    | nil => cases sh <;> simp [encS] at h
    | cons v vs =>
      have push : ∀ {M}, v.within M = true → withinL M vs = true → withinL M (v :: vs) = true := fun h1 h2 => by simp [withinL, h1, h2]
      cases sh with
      | own u =>
        simp only [encS] at h
        split at h
        · rename_i hs
          obtain ⟨x, x1, x2, x3, x4⟩ := ih h
          have := same_ok hs; subst this
          refine ⟨x, x1, by simp only [decS]; rw [x2], by simp [x3], fun M hM => push ?_ (x4 M fun s hs => hM s (by simp [hs]))⟩
          exact hM (.own u) (by simp)
        · cases h
      | int q =>
        cases v <;> try (simp [encS] at h; done)
        rename_i p
        cases p <;> try (simp [encS] at h; done)
        simp only [encS] at h
        split at h
        · rename_i hq
          subst hq
          obtain ⟨x, x1, x2, x3, x4⟩ := ih h
          exact ⟨_, x1, by simp only [decS]; rw [x2], by simp [x3], fun M hM => push rfl (x4 M fun s hs => hM s (by simp [hs]))⟩
        · cases h
      | raw =>
        cases v <;> try (simp [encS] at h; done)
        simp only [encS] at h
        obtain ⟨x, x1, x2, x3, x4⟩ := ih h
        exact ⟨_, x1, by simp only [decS]; rw [x2], by simp [x3], fun M hM => push rfl (x4 M fun s hs => hM s (by simp [hs]))⟩
      | bool =>
        cases v <;> try (simp [encS] at h; done)
        rename_i p
        cases p <;> try (simp [encS] at h; done)
        simp only [encS] at h
        obtain ⟨x, x1, x2, x3, x4⟩ := ih h
        exact ⟨_, x1, by simp only [decS]; rw [x2], by simp [x3], fun M hM => push rfl (x4 M fun s hs => hM s (by simp [hs]))⟩
      | str =>
        cases v <;> try (simp [encS] at h; done)
        rename_i p
        cases p <;> try (simp [encS] at h; done)
        simp only [encS] at h
        obtain ⟨x, x1, x2, x3, x4⟩ := ih h
        exact ⟨_, x1, by simp only [decS]; rw [x2], by simp [x3], fun M hM => push rfl (x4 M fun s hs => hM s (by simp [hs]))⟩
      | rp n =>
        cases v <;> try (simp [encS] at h; done)
        rename_i p
        cases p <;> try (simp [encS] at h; done)
        rename_i cs
        simp only [encS] at h
        split at h
        · rename_i hq
          obtain ⟨x, x1, x2, x3, x4⟩ := ih h
          have he : elemCells n (.agg cs) = cs := by
            apply List.ext_getElem?
            intro j
            by_cases hj : j < n
            · have hl : j < (elemCells n (.agg cs)).length := by rw [elemCells_length]; exact hj
              rw [List.getElem?_eq_getElem hl]
              obtain ⟨_, h6⟩ := elemCells_get (List.getElem?_eq_getElem hl)
              rw [h6]
              simp [cell, PV.cells, List.getD, show j < cs.length by omega]
            · rw [List.getElem?_eq_none (by rw [elemCells_length]; omega), List.getElem?_eq_none (by omega)]
          exact ⟨_, x1, by simp only [decS]; rw [x2, he], by simp [x3], fun M hM => push rfl (x4 M fun s hs => hM s (by simp [hs]))⟩
        · cases h
      | fs s =>
        cases v <;> try (simp [encS] at h; done)
        rename_i p
        simp only [encS] at h
        obtain ⟨ls, hls, h⟩ := Option.bind_eq_some_iff.1 h
        obtain ⟨x, x1, x2, x3, x4⟩ := ih h
        exact ⟨_, x1, by simp only [decS]; rw [x2, rdL_bld hls], by simp [x3], fun M hM => push rfl (x4 M fun s hs => hM s (by simp [hs]))⟩
      | rs sz =>
        cases v <;> try (simp [encS] at h; done)
        rename_i p
        cases p <;> try (simp [encS] at h; done)
        simp only [encS] at h
        split at h
        · rename_i hq
          subst hq
          obtain ⟨x, x1, x2, x3, x4⟩ := ih h
          exact ⟨_, x1, by simp only [decS]; rw [x2], by simp [x3], fun M hM => push rfl (x4 M fun s hs => hM s (by simp [hs]))⟩
        · cases h

theorem memOf_some : ∀ {l : List (Nat × Option Blk)} {id : Nat} {b : Blk}, memOf l id = some b → ∃ x ∈ l, x.1 = id ∧ x.2 = some b
  | [], _, _, h => by simp [memOf] at h
  | (d, b') :: r, id, b, h => by
    simp only [memOf] at h
    cases e : Nat.beq id d with
    | true => rw [e] at h; exact ⟨(d, b'), by simp, (Nat.eq_of_beq_eq_true e).symm, h⟩
    | false =>
      rw [e] at h
      obtain ⟨x, hx, h1, h2⟩ := memOf_some h
      exact ⟨x, by simp [hx], h1, h2⟩
theorem memOf_isSome : ∀ {l : List (Nat × Option Blk)} {id : Nat}, (∀ x ∈ l, x.2.isSome = true) → (∃ x ∈ l, x.1 = id) → (memOf l id).isSome = true
  | [], _, _, ⟨x, hx, _⟩ => by cases hx
  | (d, b') :: r, id, h, ⟨x, hx, he⟩ => by
    simp only [memOf]
    cases e : Nat.beq id d with
    | true => exact h (d, b') (by simp)
    | false =>
      rcases List.mem_cons.1 hx with rfl | hx
      · simp only at he; subst he; simp [Nat.beq_refl] at e
      · exact memOf_isSome (fun y hy => h y (by simp [hy])) ⟨x, hx, he⟩

theorem encB_ok {R : Type} {m : Mem} : ∀ {bs : List (Nat × BSh)} {k : tyB bs → Option R} {r : R}, encB m bs k = some r → ∃ x, k x = some r ∧ (decB bs x).map (·.1) = bs.map (·.1) ∧ (∀ y ∈ decB bs x, ∃ b, y.2 = some b ∧ m y.1 = some b) ∧
    ∀ M, (∀ y ∈ bs, y.2.within M = true) → ∀ y ∈ decB bs x, ∀ b, y.2 = some b → b.within M = true := by
  intro bs
  induction bs with
  | nil => intro k r h; exact ⟨(), h, rfl, by simp [decB], by simp [decB]⟩
  | cons y bs ih =>
    intro k r h
    obtain ⟨id, sh⟩ := y
    cases sh with
    | box cs =>
      simp only [encB] at h
      split at h
      · rename_i vs hm
        obtain ⟨t, t1, t2, t3, t4⟩ := ih h
        obtain ⟨x, x1, x2, x3, x4⟩ := encS_ok t1
        refine ⟨x, x1, by simp only [decB, x2]; simp [t2], fun y hy => ?_, fun M hM y hy b hb => ?_⟩
        · simp only [decB, x2] at hy
          rcases List.mem_cons.1 hy with rfl | hy
          · exact ⟨_, rfl, hm⟩
          · exact t3 y hy
        · simp only [decB, x2] at hy
          rcases List.mem_cons.1 hy with rfl | hy
          · simp only [Option.some.injEq] at hb; subst hb
            simp only [Blk.within]
            refine x4 M fun s hs => ?_
            have := hM (id, .box cs) (by simp)
            simp only [BSh.within, List.all_eq_true] at this
            exact this s hs
          · exact t4 M (fun z hz => hM z (by simp [hz])) y hy b hb
      · cases h
    | arr sz et =>
      simp only [encB] at h
      split at h
      · rename_i sz' et' es hm
        split at h
        · rename_i he
          obtain ⟨rfl, rfl⟩ := he
          obtain ⟨t, t1, t2, t3, t4⟩ := ih h
          refine ⟨(es, t), t1, by simp only [decB]; simp [t2], fun y hy => ?_, fun M hM y hy b hb => ?_⟩
          · simp only [decB] at hy
            rcases List.mem_cons.1 hy with rfl | hy
            · exact ⟨_, rfl, hm⟩
            · exact t3 y hy
          · simp only [decB] at hy
            rcases List.mem_cons.1 hy with rfl | hy
            · simp only [Option.some.injEq] at hb; subst hb; rfl
            · exact t4 M (fun z hz => hM z (by simp [hz])) y hy b hb
        · cases h
      · cases h
    | fro sz et =>
      simp only [encB] at h
      split at h
      · rename_i sz' et' es hm
        split at h
        · rename_i he
          obtain ⟨rfl, rfl⟩ := he
          obtain ⟨t, t1, t2, t3, t4⟩ := ih h
          refine ⟨(es, t), t1, by simp only [decB]; simp [t2], fun y hy => ?_, fun M hM y hy b hb => ?_⟩
          · simp only [decB] at hy
            rcases List.mem_cons.1 hy with rfl | hy
            · exact ⟨_, rfl, hm⟩
            · exact t3 y hy
          · simp only [decB] at hy
            rcases List.mem_cons.1 hy with rfl | hy
            · simp only [Option.some.injEq] at hb; subst hb; rfl
            · exact t4 M (fun z hz => hM z (by simp [hz])) y hy b hb
        · cases h
      · cases h
    | nest sz et =>
      simp only [encB] at h
      split at h
      · rename_i sz' et' es hm
        split at h
        · rename_i he
          obtain ⟨rfl, rfl⟩ := he
          obtain ⟨t, t1, t2, t3, t4⟩ := ih h
          refine ⟨(es, t), t1, by simp only [decB]; simp [t2], fun y hy => ?_, fun M hM y hy b hb => ?_⟩
          · simp only [decB] at hy
            rcases List.mem_cons.1 hy with rfl | hy
            · exact ⟨_, rfl, hm⟩
            · exact t3 y hy
          · simp only [decB] at hy
            rcases List.mem_cons.1 hy with rfl | hy
            · simp only [Option.some.injEq] at hb; subst hb; rfl
            · exact t4 M (fun z hz => hM z (by simp [hz])) y hy b hb
        · cases h
      · cases h
    | mapN kt et =>
      simp only [encB] at h
      split at h
      · rename_i kt' et' es hm
        split at h
        · rename_i he
          obtain ⟨rfl, rfl⟩ := he
          obtain ⟨t, t1, t2, t3, t4⟩ := ih h
          refine ⟨(es, t), t1, by simp only [decB]; simp [t2], fun y hy => ?_, fun M hM y hy b hb => ?_⟩
          · simp only [decB] at hy
            rcases List.mem_cons.1 hy with rfl | hy
            · exact ⟨_, rfl, hm⟩
            · exact t3 y hy
          · simp only [decB] at hy
            rcases List.mem_cons.1 hy with rfl | hy
            · simp only [Option.some.injEq] at hb; subst hb; rfl
            · exact t4 M (fun z hz => hM z (by simp [hz])) y hy b hb
        · cases h
      · cases h
    | map kt =>
      simp only [encB] at h
      split at h
      · rename_i kt' es hm
        split at h
        · rename_i he
          subst he
          obtain ⟨t, t1, t2, t3, t4⟩ := ih h
          refine ⟨(es, t), t1, by simp only [decB]; simp [t2], fun y hy => ?_, fun M hM y hy b hb => ?_⟩
          · simp only [decB] at hy
            rcases List.mem_cons.1 hy with rfl | hy
            · exact ⟨_, rfl, hm⟩
            · exact t3 y hy
          · simp only [decB] at hy
            rcases List.mem_cons.1 hy with rfl | hy
            · simp only [Option.some.injEq] at hb; subst hb; rfl
            · exact t4 M (fun z hz => hM z (by simp [hz])) y hy b hb
        · cases h
      · cases h
    | iter ty =>
      simp only [encB] at h
      split at h
      · rename_i t' es hm
        split at h
        · rename_i he
          subst he
          obtain ⟨t, t1, t2, t3, t4⟩ := ih h
          refine ⟨(es, t), t1, by simp only [decB]; simp [t2], fun y hy => ?_, fun M hM y hy b hb => ?_⟩
          · simp only [decB] at hy
            rcases List.mem_cons.1 hy with rfl | hy
            · exact ⟨_, rfl, hm⟩
            · exact t3 y hy
          · simp only [decB] at hy
            rcases List.mem_cons.1 hy with rfl | hy
            · simp only [Option.some.injEq] at hb; subst hb; rfl
            · exact t4 M (fun z hz => hM z (by simp [hz])) y hy b hb
        · cases h
      · cases h
    | loop =>
      simp only [encB] at h
      split at h
      · rename_i hm
        obtain ⟨t, t1, t2, t3, t4⟩ := ih h
        refine ⟨t, t1, by simp only [decB]; simp [t2], fun y hy => ?_, fun M hM y hy b hb => ?_⟩
        · simp only [decB] at hy
          rcases List.mem_cons.1 hy with rfl | hy
          · exact ⟨_, rfl, hm⟩
          · exact t3 y hy
        · simp only [decB] at hy
          rcases List.mem_cons.1 hy with rfl | hy
          · simp only [Option.some.injEq] at hb; subst hb; rfl
          · exact t4 M (fun z hz => hM z (by simp [hz])) y hy b hb
      · cases h
    | busy =>
      simp only [encB] at h
      split at h
      · rename_i hm
        obtain ⟨t, t1, t2, t3, t4⟩ := ih h
        refine ⟨t, t1, by simp only [decB]; simp [t2], fun y hy => ?_, fun M hM y hy b hb => ?_⟩
        · simp only [decB] at hy
          rcases List.mem_cons.1 hy with rfl | hy
          · exact ⟨_, rfl, hm⟩
          · exact t3 y hy
        · simp only [decB] at hy
          rcases List.mem_cons.1 hy with rfl | hy
          · simp only [Option.some.injEq] at hb; subst hb; rfl
          · exact t4 M (fun z hz => hM z (by simp [hz])) y hy b hb
      · cases h

mutual
theorem within_has {M : List Nat} {id : Nat} : ∀ (v : V), v.within M = true → v.has id = true → id ∈ M
  | .agg cs, h, hh => withinL_has cs (by simpa only [V.within] using h) (by simpa only [V.has] using hh)
  | .tup cs, h, hh => withinL_has cs (by simpa only [V.within] using h) (by simpa only [V.has] using hh)
  | .fn _ cs, h, hh => withinL_has cs (by simpa only [V.within] using h) (by simpa only [V.has] using hh)
  | .os j, h, hh => by have := Nat.eq_of_beq_eq_true hh; subst this; simpa [V.within] using h
  | .osub j _ _, h, hh => by have := Nat.eq_of_beq_eq_true hh; subst this; simpa [V.within] using h
  | .oe j _ _, h, hh => by have := Nat.eq_of_beq_eq_true hh; subst this; simpa [V.within] using h
  | .om j, h, hh => by have := Nat.eq_of_beq_eq_true hh; subst this; simpa [V.within] using h
  | .os2 j _ _, h, hh => by have := Nat.eq_of_beq_eq_true hh; subst this; simpa [V.within] using h
  | .oe2 j _ _ _ _ _, h, hh => by have := Nat.eq_of_beq_eq_true hh; subst this; simpa [V.within] using h
  | .op j _, h, hh => by have := Nat.eq_of_beq_eq_true hh; subst this; simpa [V.within] using h
  | .it j, h, hh => by have := Nat.eq_of_beq_eq_true hh; subst this; simpa [V.within] using h
  | .yl j, h, hh => by have := Nat.eq_of_beq_eq_true hh; subst this; simpa [V.within] using h
  | .pv _, _, hh => by cases hh
  | .nils, _, hh => by cases hh
  | .top, _, hh => by cases hh
theorem withinL_has {M : List Nat} {id : Nat} : ∀ (cs : List V), withinL M cs = true → hasL id cs = true → id ∈ M
  | [], _, hh => by cases hh
  | v :: r, h, hh => by
    simp only [withinL, Bool.and_eq_true] at h
    simp only [hasL, Bool.or_eq_true] at hh
    rcases hh with hh | hh
    · exact within_has v h.1 hh
    · exact withinL_has r h.2 hh
end

theorem zip_ok {f : Fr} : ∀ (slots : List (Nat × Sh)) (t : Nat), frOf (zipSlots slots (slots.map fun (x : Nat × Sh) => f x.1)) t = f t ∨ frOf (zipSlots slots (slots.map fun (x : Nat × Sh) => f x.1)) t = .top
  | [], t => .inr rfl
  | (d, s) :: r, t => by
    simp only [List.map_cons, zipSlots, frOf, frSet]
    cases e : Nat.beq t d with
    | true => have := Nat.eq_of_beq_eq_true e; subst this; exact .inl rfl
    | false => exact zip_ok r t
theorem zip_within {f : Fr} {M : List Nat} : ∀ (slots : List (Nat × Sh)), withinL M (slots.map fun (x : Nat × Sh) => f x.1) = true → ∀ t, (frOf (zipSlots slots (slots.map fun (x : Nat × Sh) => f x.1)) t).within M = true
  | [], _, t => rfl
  | (d, s) :: r, h, t => by
    simp only [List.map_cons, withinL, Bool.and_eq_true] at h
    simp only [List.map_cons, zipSlots, frOf, frSet]
    cases e : Nat.beq t d with
    | true => have := Nat.eq_of_beq_eq_true e; subst this; exact h.1
    | false => exact zip_within r h.2 t

theorem enc_ok {R : Type} {T : Tpl} {f : Fr} {m : Mem} {k : T.ty → Option R} {r : R} (h : enc T f m k = some r) :
    ∃ x, k x = some r ∧ FLe (decF T x) f ∧ (∀ id b, decM T x id = some b → m id = some b) ∧ (∀ t id, (decF T x t).has id = true → (decM T x id).isSome = true) ∧
      ∀ j cs id, decM T x j = some (.box cs) → hasL id cs = true → (decM T x id).isSome = true := by
  unfold enc at h
  split at h
  · rename_i hok
    obtain ⟨t, t1, t2, t3, t4⟩ := encB_ok h
    obtain ⟨x, x1, x2, x3, x4⟩ := encS_ok t1
    simp only [Tpl.ok, Bool.and_eq_true, List.all_eq_true] at hok
    have hin : ∀ id, id ∈ T.blks.map (·.1) → (decM T x id).isSome = true := fun id hid => by
      unfold decM
      rw [x2]
      refine memOf_isSome (fun y hy => ?_) ?_
      · obtain ⟨b, hb, _⟩ := t3 y hy
        rw [hb]; rfl
      · rw [← t2] at hid
        obtain ⟨y, hy, he⟩ := List.mem_map.1 hid
        exact ⟨y, hy, he⟩
    refine ⟨x, x1, fun s => ?_, fun id b hb => ?_, fun s id hid => hin id ?_, fun j cs id hj hh => hin id ?_⟩
    · unfold decF; rw [x2]; exact zip_ok T.slots s
    · unfold decM at hb
      rw [x2] at hb
      obtain ⟨y, hy, h1, h2⟩ := memOf_some hb
      obtain ⟨b', hb', hm⟩ := t3 y hy
      rw [h2] at hb'; cases hb'
      rw [← h1]; exact hm
    · have hw := x4 (T.blks.map (·.1)) fun s hs => by
        simp only [Tpl.shs, List.mem_map] at hs
        obtain ⟨y, hy, rfl⟩ := hs
        exact hok.1 y hy
      have := zip_within (M := T.blks.map (·.1)) T.slots hw s
      unfold decF at hid
      rw [x2] at hid
      exact within_has _ this hid
    · unfold decM at hj
      rw [x2] at hj
      obtain ⟨y, hy, h1, h2⟩ := memOf_some hj
      have := t4 (T.blks.map (·.1)) (fun z hz => hok.2 z hz) y hy _ h2
      exact withinL_has _ (by simpa only [Blk.within] using this) hh
  · cases h

section
variable {E : Env} {w0 : Base}

theorem Rel.dec {nt : Nat} {μ : Ro} {φ : Nat → Phys} {f f' : Fr} {m m' : Mem} {a : Act} {w : World} (h : Rel E.P E.glob nt w0 μ φ f m a w) (hf : FLe f' f) (hm : ∀ id b, m' id = some b → m id = some b)
    (hl : ∀ t id, (f' t).has id = true → (m' id).isSome = true) (hb : ∀ j cs id, m' j = some (.box cs) → hasL id cs = true → (m' id).isSome = true) : Rel E.P E.glob nt w0 μ φ f' m' a w :=
  { below := h.below, ro := h.ro, glob := h.glob, blk := fun id b hb => h.blk id b (hm id b hb), own := fun id b g hb hg => h.own id b g (hm id b hb) hg,
    inj := fun id1 id2 b1 b2 g h1 h2 => h.inj id1 id2 b1 b2 g (hm _ _ h1) (hm _ _ h2), apart := fun id b hb => h.apart id b (hm id b hb), liveB := hb, base := h.base, keep := h.keep, lps := fun id st hid => h.lps id st (hm _ _ hid), size := h.size, defers := h.defers, old := h.old,
    fr := (h.weaken hf).fr, live := hl }

theorem Rel.set {nt : Nat} {μ : Ro} {φ : Nat → Phys} {f : Fr} {m : Mem} {a : Act} {w : World} (h : Rel E.P E.glob nt w0 μ φ f m a w) {t : Nat} {p : PV} (hp : RepPV E.P μ p (slots nt w0 a t)) : Rel E.P E.glob nt w0 μ φ (frSet f t (.pv p)) m a w :=
  { toRelM := h.toRelM, size := h.size, defers := h.defers, old := h.old,
    fr := fun s => by
      by_cases e : s = t
      · subst e; rw [frSet_same]; exact .pv hp
      · rw [frSet_ne e]; exact h.fr s
    live := fun s id hid => by
      by_cases e : s = t
      · subst e; rw [frSet_same] at hid; cases hid
      · rw [frSet_ne e] at hid; exact h.live s id hid }
theorem Rel.freeze {nt : Nat} {μ : Ro} {φ : Nat → Phys} {f : Fr} {m : Mem} {a : Act} {w : World} (h : Rel E.P E.glob nt w0 μ φ f m a w) {id sz : Nat} {et : TypeId} {es : List PV} (hm : m id = some (.arr sz et es)) :
    Rel E.P E.glob nt w0 (roAdd μ w (φ id).g) φ f (memSet m id (.fro sz et es)) a w :=
  { toRelM := h.toRelM.freeze hm, size := h.size, defers := h.defers.mono (roAdd_mono h.toRelM _), old := h.old,
    fr := fun s => (h.fr s).monoR (roAdd_mono h.toRelM _)
    live := fun s i hid => by
      by_cases e : i = id
      · subst e; rw [memSet_same]; rfl
      · rw [memSet_ne e]; exact h.live s i hid }
theorem prepK_ok {A : Type} {nt : Nat} {a : Act} {w : World} : ∀ {l : List (Nat × Nat)} {μ : Ro} {φ : Nat → Phys} {f : Fr} {m : Mem} {k : Fr → Mem → A} {r : A}, prepK l f m k = r → Rel E.P E.glob nt w0 μ φ f m a w →
    ∃ f' m' μ', k f' m' = r ∧ Rel E.P E.glob nt w0 μ' φ f' m' a w
  | [], μ, φ, f, m, k, r, h, hR => ⟨f, m, μ, h, hR⟩
  | (t, sz) :: l, μ, φ, f, m, k, r, h, hR => by
    unfold prepK at h
    split at h
    · rename_i id hf
      have hx : RepV E.P μ φ (.os id) (slots nt w0 a t) := hf ▸ hR.fr t
      split at h
      · rename_i s et es hm
        have hF := hR.freeze hm
        have hA := hF.toRelM.arr (.inr (memSet_same m id _))
        have hp : RepPV E.P (roAdd μ w (φ id).g) (.rs s es) (slots nt w0 a t) := hA.full hF.toRelM (hx.monoR (roAdd_mono hR.toRelM _)) (fun _ _ h => h) (fun g hg => by simp [roAdd, hg])
        exact prepK_ok h (hF.set hp)
      · rename_i s et es hm
        have hB : RepB E.P μ φ w id (.fro s et es) := hR.blk id _ hm
        have hp : RepPV E.P μ (.rs s es) (slots nt w0 a t) := (hR.toRelM.arr (.inr hm)).full hR.toRelM hx (fun _ _ h => h) (fun g hg => by
          obtain ⟨o, ho⟩ := Option.isSome_iff_exists.1 (hB.2 g hg)
          rw [ho, hR.ro _ _ ho])
        exact prepK_ok h (hR.set hp)
      · exact prepK_ok h hR
    · rename_i hf
      have hx : RepV E.P μ φ .nils (slots nt w0 a t) := hf ▸ hR.fr t
      have hp : RepPV E.P μ (.rs sz []) (slots nt w0 a t) := by
        generalize slots nt w0 a t = y at hx
        cases hx
        exact .rsNil
      exact prepK_ok h (hR.set hp)
    · exact prepK_ok h hR

theorem hasL_set {id : Nat} {u : V} : ∀ (cs : List V) (j : Nat), hasL id (cs.set j u) = true → hasL id cs = true ∨ u.has id = true := by
  intro cs j h
  obtain ⟨v, hv, hh⟩ := hasL_iff.1 h
  rcases List.mem_or_eq_of_mem_set hv with h1 | h1
  · exact .inl (hasL_iff.2 ⟨v, h1, hh⟩)
  · subst h1; exact .inr hh
theorem Rel.boxSet {nt : Nat} {μ : Ro} {φ : Nat → Phys} {f : Fr} {m : Mem} {a : Act} {w : World} (h : Rel E.P E.glob nt w0 μ φ f m a w) {id j : Nat} {cs : List V} {u : V} (hm : m id = some (.box cs)) (hj : cs[j]? = some .nils)
    (hu : RepV E.P μ φ u (.slice none 0 0)) (hl : ∀ i, u.has i = true → (m i).isSome = true) :
    Rel E.P E.glob nt w0 μ φ f (memSet m id (.box (cs.set j u))) a w := by
  have key : ∀ i b, memSet m id (.box (cs.set j u)) i = some b → (i = id ∧ b = .box (cs.set j u)) ∨ m i = some b := fun i b hb => by
    by_cases e : i = id
    · subst e; rw [memSet_same] at hb; exact .inl ⟨rfl, (Option.some.inj hb).symm⟩
    · rw [memSet_ne e] at hb; exact .inr hb
  have some' : ∀ i, (m i).isSome = true → (memSet m id (.box (cs.set j u)) i).isSome = true := fun i hi => by
    by_cases e : i = id
    · subst e; rw [memSet_same]; rfl
    · rw [memSet_ne e]; exact hi
  have back : ∀ i b, memSet m id (.box (cs.set j u)) i = some b → ∃ b', m i = some b' ∧ (b.mutable = true → b'.mutable = true) ∧ b.rowAt = b'.rowAt := fun i b hb => by
    rcases key i b hb with ⟨rfl, rfl⟩ | hb
    · exact ⟨_, hm, fun _ => rfl, rfl⟩
    · exact ⟨b, hb, fun h => h, rfl⟩
  exact
  { below := h.below, ro := h.ro, glob := h.glob,
    blk := fun i b hb => by
      rcases key i b hb with ⟨rfl, rfl⟩ | hb
      · obtain ⟨g, c, T, c1, c2, c3, c4, c5, c6⟩ := h.blk _ _ hm
        refine ⟨g, c, T, c1, c2, by simpa using c3, fun i v x hv hx => ?_, c5, by simpa using c6⟩
        rw [List.getElem?_set] at hv
        split at hv
        · rename_i e
          subst e
          split at hv
          · simp only [Option.some.injEq] at hv
            subst hv
            have := c4 j .nils x hj hx
            cases this
            exact hu
          · cases hv
        · exact c4 i v x hv hx
      · exact h.blk i b hb
    own := fun i b g hb hg => by
      obtain ⟨b', hb', hmu, hro⟩ := back i b hb
      obtain ⟨o1, o2⟩ := h.own i b' g hb' (by unfold Blk.owns at hg ⊢; rw [← hro]; exact hg)
      exact ⟨o1, fun hb => o2 (hmu hb)⟩
    inj := fun id1 id2 b1 b2 g h1 h2 g1 g2 => by
      obtain ⟨b1', h1', _, r1⟩ := back id1 b1 h1
      obtain ⟨b2', h2', _, r2⟩ := back id2 b2 h2
      exact h.inj id1 id2 b1' b2' g h1' h2' (by unfold Blk.owns at g1 ⊢; rw [← r1]; exact g1) (by unfold Blk.owns at g2 ⊢; rw [← r2]; exact g2)
    apart := fun i b hb => by
      obtain ⟨b', hb', _, hro⟩ := back i b hb
      have := h.apart i b' hb'
      unfold Blk.apart at this ⊢; rw [hro]; exact this
    liveB := fun i cs' id' hi hid => by
      rcases key i _ hi with ⟨rfl, he⟩ | hi
      · simp only [Blk.box.injEq] at he
        subst he
        rcases hasL_set _ _ hid with hid | hid
        · exact some' _ (h.liveB _ _ _ hm hid)
        · exact some' _ (hl _ hid)
      · exact some' _ (h.liveB _ _ _ hi hid)
    base := h.base, keep := h.keep
    lps := fun i st hi => by
      rcases key i _ hi with ⟨_, he⟩ | hi
      · cases he
      · exact h.lps i st hi
    size := h.size, defers := h.defers, old := h.old, fr := h.fr
    live := fun t i hid => some' _ (h.live t i hid) }
theorem Rel.newNil {nt : Nat} {μ : Ro} {φ : Nat → Phys} {f : Fr} {m : Mem} {a : Act} {w : World} (h : Rel E.P E.glob nt w0 μ φ f m a w) {nid : Nat} {et : TypeId} (hn : m nid = none) (hpos : 0 < csz E.P et) :
    ∃ φ', (φ' nid).g = none ∧ Rel E.P E.glob nt w0 μ φ' f (memSet m nid (.arr (csz E.P et) et [])) a w := by
  have hf : fresh false nid (.arr (csz E.P et) et []) f m (fun f m _ => some (f, m)) = some (f, memSet m nid (.arr (csz E.P et) et [])) := by simp [fresh, hn]
  obtain ⟨f1, m1, _, hk, _, _, hfr⟩ := fresh_ok hf
  simp only [Option.some.injEq, Prod.mk.injEq] at hk
  obtain ⟨rfl, rfl⟩ := hk
  obtain ⟨φ', a1, a2, a3⟩ := hfr E.P E.glob w0 μ φ w w (slots nt w0 a) (phy none 0 0 (csz E.P et)) h.toRelM ⟨h.fr, h.live⟩ ⟨Bel.refl _ _, h.toRelM.ro, fun _ _ _ _ _ => rfl, by simp, fun φ' hp _ => by
            refine ⟨by rw [hp]; rfl, by rw [hp], rfl, hpos, by simp, by rw [hp]; simp [maxLen], ?_⟩
            rw [hp]; exact ⟨rfl, rfl⟩, by simp [Blk.names], fun st h => by cases h⟩
  exact ⟨φ', by rw [a1], { toRelM := a2, size := h.size, defers := h.defers, old := h.old, fr := a3.fr, live := a3.live }⟩
theorem prepO_ok {A : Type} {nt : Nat} {a : Act} {w : World} : ∀ {l : List (Nat × Nat × Nat × TypeId)} {μ : Ro} {φ : Nat → Phys} {f : Fr} {m : Mem} {k : Mem → A} {r : A}, prepO E.P l m k = r → Rel E.P E.glob nt w0 μ φ f m a w →
    ∃ m' φ', k m' = r ∧ Rel E.P E.glob nt w0 μ φ' f m' a w
  | [], μ, φ, f, m, k, r, h, hR => ⟨m, φ, h, hR⟩
  | (id, j, nid, et) :: l, μ, φ, f, m, k, r, h, hR => by
    unfold prepO at h
    split at h
    · rename_i cs hm
      split at h
      · rename_i hj
        split at h
        · rename_i hn
          split at h
          · rename_i hpos
            obtain ⟨φ', g0, hR'⟩ := hR.newNil hn hpos
            have hne : id ≠ nid := fun e => by subst e; rw [hm] at hn; cases hn
            exact prepO_ok h (hR'.boxSet (by rw [memSet_ne hne]; exact hm) hj (.osN g0) fun i hi => by
              have := Nat.eq_of_beq_eq_true hi; subst this; simp)
          · exact prepO_ok h hR
        · exact prepO_ok h hR
      · exact prepO_ok h hR
    · exact prepO_ok h hR
theorem prepB_ok {A : Type} {nt : Nat} {a : Act} {w : World} : ∀ {l : List (Nat × Nat × Nat)} {μ : Ro} {φ : Nat → Phys} {f : Fr} {m : Mem} {k : Mem → A} {r : A}, prepB l m k = r → Rel E.P E.glob nt w0 μ φ f m a w →
    ∃ m', k m' = r ∧ Rel E.P E.glob nt w0 μ φ f m' a w
  | [], μ, φ, f, m, k, r, h, hR => ⟨m, h, hR⟩
  | (id, j, sz) :: l, μ, φ, f, m, k, r, h, hR => by
    unfold prepB at h
    split at h
    · rename_i cs hm
      split at h
      · rename_i hj
        exact prepB_ok h (hR.boxSet hm hj (.pv .rsNil) (fun i hi => by cases hi))
      · exact prepB_ok h hR
    · exact prepB_ok h hR
theorem getElem?_take_some {T : Type} {l : List T} {n i : Nat} {e : T} (h : (l.take n)[i]? = some e) : l[i]? = some e ∧ i < n := by
  rw [List.getElem?_take] at h
  split at h
  · exact ⟨h, ‹_›⟩
  · cases h
theorem Rel.nestify {nt : Nat} {μ : Ro} {φ : Nat → Phys} {f : Fr} {m : Mem} {a : Act} {w : World} (h : Rel E.P E.glob nt w0 μ φ f m a w) {id s : Nat} {et : TypeId} {es : List PV} (hm : m id = some (.arr s et es)) :
    Rel E.P E.glob nt w0 μ φ f (memSet m id (.nest s et es)) a w := by
  have hA : RepArr E.P μ φ w id s et es := h.blk id _ hm
  have key : ∀ i b, memSet m id (.nest s et es) i = some b → (i = id ∧ b = .nest s et es) ∨ m i = some b := fun i b hb => by
    by_cases e : i = id
    · subst e; rw [memSet_same] at hb; exact .inl ⟨rfl, (Option.some.inj hb).symm⟩
    · rw [memSet_ne e] at hb; exact .inr hb
  have some' : ∀ i, (m i).isSome = true → (memSet m id (.nest s et es) i).isSome = true := fun i hi => by
    by_cases e : i = id
    · subst e; rw [memSet_same]; rfl
    · rw [memSet_ne e]; exact hi
  have hN : RepNest E.P μ φ w id s et es := by
    obtain ⟨h1, h2, h3, h4, h5, h6, h7⟩ := hA
    refine ⟨h1, h2, h3, h4, h5, h6, ?_⟩
    cases hg : (φ id).g with
    | none => rw [hg] at h7; exact h7
    | some g =>
      rw [hg] at h7
      obtain ⟨c, c1, c2, c3, c4, c5⟩ := h7
      exact ⟨c, c1, c2, c3, fun i e j p x he hp hx => .pure (c4 i e j p x he hp hx), c5⟩
  have hno : ∀ i off, (Blk.nest s et es).rowAt i off = true → False := fun i off hr => by
    rcases rowAt_of hr with ⟨_, _, _, e, s', rs, hb, he, hp⟩ | ⟨_, _, _, _, _, _, hb, _⟩
    · cases hb
      obtain ⟨h1, h2, h3, h4, h5, h6, h7⟩ := hA
      cases hg : (φ id).g with
      | none => rw [hg] at h7; obtain ⟨rfl, _⟩ := h7; simp at he
      | some g =>
        rw [hg] at h7
        obtain ⟨c, c1, c2, c3, c4, c5⟩ := h7
        have hi : i < es.length := (List.getElem?_eq_some_iff.1 he).1
        have hj : off < s := by have := (List.getElem?_eq_some_iff.1 hp).1; rw [h5 _ _ he] at this; exact this
        have hlt : i * s + off < c.size := by
          have : (i + 1) * s ≤ (φ id).cap * s := Nat.mul_le_mul_right _ (by omega)
          rw [Nat.succ_mul] at this; omega
        exact Bool.noConfusion (RepPV.not_row (c4 i e off _ _ he hp (Array.getElem?_eq_getElem hlt)))
    · cases hb
  have arr0 : ∀ i off, (Blk.arr s et es).rowAt i off = true → False := arr_norow
  have hM : RelM E.P E.glob w0 μ φ (memSet m id (.nest s et es)) w := by
    refine h.toRelM.reown (fun _ k => k) (fun j b' hb => ?_) (fun j b' g hb hg => ?_) (fun j b' hb => ?_) (fun j cs i hb hh => ?_) (fun j st hb => ?_)
    · rcases key j b' hb with ⟨rfl, rfl⟩ | hb
      · exact hN
      · exact h.blk j b' hb
    · rcases key j b' hb with ⟨rfl, rfl⟩ | hb
      · exact ⟨j, _, hm, .inl (owns_of hno hg), fun _ => rfl, rfl⟩
      · exact ⟨j, b', hb, hg, fun h => h, rfl⟩
    · rcases key j b' hb with ⟨rfl, rfl⟩ | hb
      · exact apart_of hno
      · exact h.apart j b' hb
    · rcases key j _ hb with ⟨_, hb⟩ | hb
      · cases hb
      · exact some' _ (h.liveB j cs i hb hh)
    · rcases key j _ hb with ⟨_, hb⟩ | hb
      · cases hb
      · exact ⟨hb, rfl⟩
  exact { toRelM := hM, size := h.size, defers := h.defers, old := h.old, fr := h.fr, live := fun t i hid => some' _ (h.live t i hid) }
theorem prepN_ok {A : Type} {nt : Nat} {a : Act} {w : World} : ∀ {l : List Nat} {μ : Ro} {φ : Nat → Phys} {f : Fr} {m : Mem} {k : Mem → A} {r : A}, prepN l m k = r → Rel E.P E.glob nt w0 μ φ f m a w →
    ∃ m', k m' = r ∧ Rel E.P E.glob nt w0 μ φ f m' a w
  | [], μ, φ, f, m, k, r, h, hR => ⟨m, h, hR⟩
  | id :: l, μ, φ, f, m, k, r, h, hR => by
    unfold prepN at h
    split at h
    · rename_i s et es hm
      exact prepN_ok h (hR.nestify hm)
    · exact prepN_ok h hR
theorem Rel.cut {nt : Nat} {μ : Ro} {φ : Nat → Phys} {f : Fr} {m : Mem} {a : Act} {w : World} (h : Rel E.P E.glob nt w0 μ φ f m a w) {id j d len s : Nat} {et : TypeId} {cs : List V} {es : List PV} (hm : m id = some (.box cs)) (hj : cs[j]? = some (.osub d 0 len))
    (hd : m d = some (.arr s et es)) (hne : d ≠ id) :
    ∃ φ', Rel E.P E.glob nt w0 μ φ' (killF d f) (memSet (memSet (memDel (killM d m) d) d (.arr s et (es.take len))) id (.box ((cs.map (killV d)).set j (.os d)))) a w := by
  obtain ⟨m', hm'⟩ : ∃ m', m' = memSet (memSet (memDel (killM d m) d) d (.arr s et (es.take len))) id (.box ((cs.map (killV d)).set j (.os d))) := ⟨_, rfl⟩
  rw [← hm']
  obtain ⟨g0, c, T, c1, c2, c3, c4, c5, c6⟩ := h.blk _ _ hm
  have hA : RepArr E.P μ φ w d s et es := h.blk d _ hd
  have hjl : j < cs.length := (List.getElem?_eq_some_iff.1 hj).1
  have hx := c4 j _ _ hj (Array.getElem?_eq_getElem (by omega))
  obtain ⟨φ', f1, f2, f3, f4⟩ : ∃ φ' : Nat → Phys, (∀ i, i ≠ d → φ' i = φ i) ∧ (φ' d).g = (φ d).g ∧ RepArr E.P μ φ' w d s et (es.take len) ∧ RepV E.P μ φ' (.os d) c[j] := by
    obtain ⟨h1, h2, h3, h4, h5, h6, h7⟩ := hA
    generalize c[j] = x at hx
    cases hx with
    | osubN hg =>
      refine ⟨φ, fun _ _ => rfl, rfl, ?_, .osN hg⟩
      rw [hg] at h7
      obtain ⟨rfl, h7⟩ := h7
      refine ⟨h1, h2, h3, h4, by simp, h6, ?_⟩
      rw [hg]; exact ⟨rfl, h7⟩
    | @osub _ _ _ cap g ad hg hl ha hc hc' =>
      rw [hg] at h7
      obtain ⟨q, q1, q2, q3, q4, q5⟩ := h7
      have hlen : (es.take len).length = len := by rw [List.length_take]; omega
      have had : ad = ⟨g, 0, none⟩ := by
        rcases ha with ha | ⟨_, ha⟩
        · rw [ha]; simp
        · omega
      subst had
      refine ⟨fun i => if i = d then { φ d with cap := cap, len := len } else φ i, fun i hi => if_neg hi, by simp, ⟨by simp [hlen], by simpa using h2, h3, h4, fun i e he => h5 i e (getElem?_take_some he).1, by simp; omega, ?_⟩, ?_⟩
      · simp only [if_true, hg]
        refine ⟨q, q1, Nat.le_trans (Nat.mul_le_mul_right _ (by omega)) q2, by rw [hlen]; exact hc, fun i e j p x he hp hx => q4 i e j p x (getElem?_take_some he).1 hp hx, fun i x hi hx => q5 i x (Nat.lt_of_lt_of_le hi (Nat.mul_le_mul_right _ (by rw [hlen]; omega))) hx⟩
      · have := RepV.os (P := E.P) (μ := μ) (φ := fun i => if i = d then { φ d with cap := cap, len := len } else φ i) (id := d) (g := g) (by simp [hg])
        simpa using this
  have key : ∀ i b, m' i = some b → (i = id ∧ b = .box ((cs.map (killV d)).set j (.os d))) ∨ (i = d ∧ b = .arr s et (es.take len)) ∨ (i ≠ id ∧ i ≠ d ∧ ∃ b', m i = some b' ∧ b = killB d b') := fun i b hb => by
    rw [hm'] at hb
    by_cases e : i = id
    · subst e; rw [memSet_same] at hb; exact .inl ⟨rfl, (Option.some.inj hb).symm⟩
    · rw [memSet_ne e] at hb
      by_cases e' : i = d
      · subst e'; rw [memSet_same] at hb; exact .inr (.inl ⟨rfl, (Option.some.inj hb).symm⟩)
      · rw [memSet_ne e'] at hb; exact .inr (.inr ⟨e, (forget_some hb).1, (forget_some hb).2⟩)
  have some' : ∀ i, (m i).isSome = true → (m' i).isSome = true := fun i hi => by
    rw [hm']
    by_cases e : i = id
    · subst e; rw [memSet_same]; rfl
    · rw [memSet_ne e]
      by_cases e' : i = d
      · subst e'; rw [memSet_same]; rfl
      · rw [memSet_ne e']; exact forget_isSome e' hi
  have hnames : ∀ {i : Nat} {b' : Blk}, (killB d b').names i = true → i ≠ d := fun {i b'} hn => by
    cases b' <;> simp only [killB, Blk.names] at hn <;> first | cases hn | exact (hasL_kill hn).2
  have hM : RelM E.P E.glob w0 μ φ' m' w := by
    refine h.toRelM.reown (fun _ k => k) (fun i b' hb => ?_) (fun i b' g hb hg => ?_) (fun i b' hb => ?_) (fun i cs' i' hb hh => ?_) (fun i st hb => ?_)
    · rcases key i b' hb with ⟨rfl, rfl⟩ | ⟨rfl, rfl⟩ | ⟨e1, e2, b2, hb2, rfl⟩
      · refine ⟨g0, c, T, by rw [f1 _ (Ne.symm hne)]; exact c1, c2, by simpa using c3, fun n v x hv hx' => ?_, c5, by rw [f1 _ (Ne.symm hne)]; simpa using c6⟩
        rw [List.getElem?_set] at hv
        split at hv
        · rename_i e
          subst e
          split at hv
          · simp only [Option.some.injEq] at hv
            subst hv
            rw [Array.getElem?_eq_getElem (by omega)] at hx'
            simp only [Option.some.injEq] at hx'
            subst hx'
            exact f4
          · cases hv
        · simp only [List.getElem?_map, Option.map_eq_some_iff] at hv
          obtain ⟨v', hv', rfl⟩ := hv
          exact ((c4 n v' x hv' hx').kill d).mono (fun _ _ h => h) fun i hi => f1 i (has_kill hi).2
      · exact f3
      · exact (h.blk i b2 hb2).kill.stable (fun k hk => f1 k (hnames hk)) (f1 i e2) (fun _ _ h => h) (fun _ _ => rfl)
    · rcases key i b' hb with ⟨rfl, rfl⟩ | ⟨rfl, rfl⟩ | ⟨e1, e2, b2, hb2, rfl⟩
      · refine ⟨i, _, hm, .inl ?_, fun _ => rfl, rfl⟩
        have := owns_of (by intro i off h; simp [Blk.rowAt] at h) hg
        rw [← this, f1 _ (Ne.symm hne)]
      · refine ⟨i, _, hd, .inl ?_, fun _ => rfl, rfl⟩
        rw [← f2]; exact owns_of arr_norow hg
      · refine ⟨i, b2, hb2, ?_, fun hmu => by rw [killB_mut] at hmu; exact hmu, rfl⟩
        rw [f1 i e2] at hg; exact owns_kill.1 hg
    · rcases key i b' hb with ⟨rfl, rfl⟩ | ⟨rfl, rfl⟩ | ⟨e1, e2, b2, hb2, rfl⟩
      · exact apart_of (by intro i off h; simp [Blk.rowAt] at h)
      · exact apart_of arr_norow
      · rw [f1 i e2]; exact apart_kill.2 (h.apart i b2 hb2)
    · rcases key i _ hb with ⟨rfl, hb⟩ | ⟨rfl, hb⟩ | ⟨e1, e2, b2, hb2, e⟩
      · simp only [Blk.box.injEq] at hb
        subst hb
        rcases hasL_set _ _ hh with hh | hh
        · exact some' _ (h.liveB _ _ _ hm (hasL_kill hh).1)
        · have := Nat.eq_of_beq_eq_true hh; subst this
          exact some' _ (by rw [hd]; rfl)
      · cases hb
      · cases b2 with
        | box cs2 =>
          simp only [killB, Blk.box.injEq] at e
          subst e
          exact some' _ (h.liveB _ _ _ hb2 (hasL_kill hh).1)
        | _ => simp [killB] at e
    · rcases key i _ hb with ⟨rfl, hb⟩ | ⟨rfl, hb⟩ | ⟨e1, e2, b2, hb2, e⟩
      · cases hb
      · cases hb
      · cases b2 with
        | loop st2 =>
          simp only [killB, Blk.loop.injEq] at e
          subst e
          exact ⟨hb2, by rw [f1 i e2]⟩
        | _ => simp [killB] at e
  exact ⟨φ', { toRelM := hM, size := h.size, defers := h.defers, old := h.old, fr := (fun t => ((h.fr t).kill d).mono (fun _ _ h => h) fun i hi => f1 i (has_kill hi).2), live := fun t i hid => some' _ (h.live t i (has_kill hid).1) }⟩
theorem prepC_ok {A : Type} {nt : Nat} {a : Act} {w : World} : ∀ {l : List (Nat × Nat)} {μ : Ro} {φ : Nat → Phys} {f : Fr} {m : Mem} {k : Fr → Mem → A} {r : A}, prepC l f m k = r → Rel E.P E.glob nt w0 μ φ f m a w →
    ∃ f' m' φ', k f' m' = r ∧ Rel E.P E.glob nt w0 μ φ' f' m' a w
  | [], μ, φ, f, m, k, r, h, hR => ⟨f, m, φ, h, hR⟩
  | (id, j) :: l, μ, φ, f, m, k, r, h, hR => by
    unfold prepC at h
    split at h
    · rename_i cs hm
      split at h
      · rename_i d len hj
        split at h
        · rename_i s et es hd
          split at h
          · exact prepC_ok h hR
          · rename_i hne
            have hne : d ≠ id := fun e => hne (by rw [e]; exact Nat.beq_refl _)
            obtain ⟨φ', hR'⟩ := hR.cut hm hj hd hne
            exact prepC_ok h hR'
        · exact prepC_ok h hR
      · exact prepC_ok h hR
    · exact prepC_ok h hR
theorem prepT_ok {A : Type} {nt : Nat} {a : Act} {w : World} {T : Tpl} {μ : Ro} {φ : Nat → Phys} {f : Fr} {m : Mem} {k : Fr → Mem → A} {r : A} (h : prepT E.P T f m k = r) (hR : Rel E.P E.glob nt w0 μ φ f m a w) :
    ∃ f' m' μ' φ', k f' m' = r ∧ Rel E.P E.glob nt w0 μ' φ' f' m' a w := by
  unfold prepT at h
  obtain ⟨_, _, _, h, hR⟩ := prepC_ok h hR
  obtain ⟨m1, φ1, h, hR⟩ := prepO_ok h hR
  obtain ⟨m', h, hR⟩ := prepB_ok h hR
  obtain ⟨m', h, hR⟩ := prepN_ok h hR
  obtain ⟨f', m', μ', h, hR⟩ := prepK_ok h hR
  exact ⟨f', m', μ', φ1, h, hR⟩

def exitOf : Ex → Exit
  | .normal => .normal
  | .exit id => .exit id
  | .ret => .ret

theorem Rel.drewR {nt : Nat} {μ : Ro} {φ : Nat → Phys} {f : Fr} {m : Mem} {a : Act} {w : World} (h : Rel E.P E.glob nt w0 μ φ f m a w) : Rel E.P E.glob nt w0 μ φ f m a { w with drawn := w.drawn + 1 } :=
  { toRelM := h.toRelM.drew, size := h.size, defers := h.defers, old := h.old, fr := h.fr, live := h.live }

theorem region_ok {rd : Option Nat} (hE : EnvOk E) (hY : YlOk E.P E.glob E.fn.ntmps E.yl w0) {R : Type} {id : Nat} {ops : Array Oper} {draw : Bool} {f : Fr} {m : Mem} {k : Ex → Fr → Mem → Option R} {r : R} (h : evalC E (.region id ops draw) f m k = some r)
    {μ : Ro} {φ : Nat → Phys} {a : Act} {w : World} {Q : Exit → Act → World → Prop} (hR : Rel E.P E.glob E.fn.ntmps w0 μ φ f m a w)
    (hQ : ∀ f' m' μ' φ' a' w', k .normal f' m' = some r → Rel E.P E.glob E.fn.ntmps w0 μ' φ' f' m' a' w' → Q .normal a' w') : (Code.region id ops draw).wpIn (FR rd) 0 E.P Q a w := by
  simp only [evalC] at h
  cases draw with
  | false =>
    simp only [Bool.false_eq_true, if_false] at h
    refine wpIn_region ?_
    have hmz : ∀ x ∈ (List.range ops.size).zip ops.toList, ops[x.1]? = some x.2 := fun x hx => by
      have := (mem_zip_range (l := ops.toList) (i := x.1) (o := x.2)).1 (by simpa using hx)
      rwa [Array.getElem?_toList] at this
    have := evalOps_seq (rd := rd) hE hY _ (.inl rfl) h hmz (by intro x hx g hg; cases hg) (fun h => by cases h) μ φ a w Q [] hR (by intro g hg; cases hg) fun f' m' μ' φ' a' w' hk hR' _ _ => hQ f' m' μ' φ' a' w' hk hR'
    rw [List.append_nil, List.map_fst_zip (by simp)] at this
    exact this
  | true =>
    simp only [if_true] at h
    split at h
    · rename_i hi
      refine wpIn_region_any hE.mixed ?_
      split at h
      · rename_i hall
        exact region_any hE hY (.inl rfl) (fun _ o ho => List.all_eq_true.1 hall o (Array.mem_toList_iff.2 ho)) hi h hR.drewR hQ
      · exact region_any hE hY (.inr rfl) (fun h => by cases h) hi h hR.drewR hQ
    · cases h
end

theorem enterFn {P : Program} {g : FuncId} {fn : Func} {c : Code} (hf : P.funcs[g]? = some fn) (hname : (fn.name == "runtime.NumGoroutine") = false) (hb : fn.body = some c) {args : Array Value} {w : World} : (callFunc g args).run P w = .ok (.enter g args) w := run_enter hf hname hb
theorem slots_pop {nt : Nat} {w0 : Base} {a : Act} {t : Nat} : slots nt w0 a (t + nt) = w0.sv (t + nt) := by
  unfold slots; rw [if_neg (by omega)]
def CodeOk (c : Code) : Prop := ∀ {E : Env} {w0 : Base} {rd : Option Nat} (_ : EnvOk E) (_ : YlOk E.P E.glob E.fn.ntmps E.yl w0) (_ : E.rdb = false → rd = none) {R : Type} {f : Fr} {m : Mem} {k : Ex → Fr → Mem → Option R} {r : R}, evalC E c f m k = some r →
    ∀ {μ : Ro} {φ : Nat → Phys} {a : Act} {w : World} {Q : Exit → Act → World → Prop}, Rel E.P E.glob E.fn.ntmps w0 μ φ f m a w →
      (∀ e f' m' μ' φ' a' w', k e f' m' = some r → Rel E.P E.glob E.fn.ntmps w0 μ' φ' f' m' a' w' → Q (exitOf e) a' w') → c.wpIn (FR rd) 0 E.P Q a w
theorem round_ok {as b : Code} (ihA : CodeOk as) (ihB : CodeOk b) {E : Env} (hE : EnvOk E) {w2 : Base} {lid l ntI : Nat} {ps : Array Nat} {rc : Loop} {fid : Nat}
    (hrc : w2.rc lid = some (l, rc)) (hps : rc.params = ps) (has : rc.assign = as) (hb : rc.body = b) (hsz : rc.tmps.size = E.fn.ntmps) (hsv : ∀ t, t < E.fn.ntmps → w2.sv (t + ntI) = rc.tmps.getD t undef) :
    YlOk E.P E.glob ntI (fun _ nt _ id args F m k => bif Nat.beq id lid then roundOf (evalC { E with fid := fid, yl := noYl, rdb := true } as) (evalC { E with fid := fid, yl := noYl, rdb := true } b) lid E.fn.ntmps ps.toList nt args F m k else none) w2 := by
  intro R site id args F m k r hy μ φ ρ w xs hM hF hρ hl hr hlv g hg
  dsimp only at hy
  cases hid : Nat.beq id lid with
  | false => rw [hid] at hy; cases hy
  | true =>
    rw [hid] at hy
    have hid := Nat.eq_of_beq_eq_true hid
    subst hid
    simp only [cond_true] at hy
    unfold roundOf at hy
    split at hy
    · rename_i hml
      split at hy
      · rename_i hal
        obtain ⟨g', rc', l1, l2, l3⟩ := hM.lps id _ hml
        rw [hrc] at l2
        simp only [Option.some.injEq, Prod.mk.injEq] at l2
        obtain ⟨rfl, rfl⟩ := l2
        rw [l1] at hg
        simp only [Option.some.injEq] at hg
        subst hg
        have hxs : xs.size = (LSt.ready.obj rc).params.size := by
          have : ps.toList.length = ps.size := by simp
          show xs.size = rc.params.size
          rw [hps]; omega
        refine ⟨_, _, _, _, run_yield l3 hxs, ?_⟩
        have hE' : EnvOk { E with fid := fid, yl := noYl, rdb := true } := ⟨hE.mixed, hE.lp, hE.ctx, hE.own, hE.inl, hE.rng⟩
        -- the base of the round
        have hfold := setPs_rep (P := E.P) (μ := μ) (φ := φ) ps.toList args xs.toList (popF ntI F) rc.tmps hsz (by simpa using hl) (fun t ht => by
          have := hF.fr (t + ntI)
          rw [hρ _ (by omega), hsv t ht] at this
          exact this) (fun i v x hv hx => hr i v x hv (by simpa using hx))
        have hR3 : Rel E.P E.glob E.fn.ntmps { w2 with sv := fun t => ρ (t - E.fn.ntmps), keep := μ, old := fun _ => none } μ φ (pushG E.fn.ntmps (setPs ps.toList args (popF ntI F)) F) m
            { tmps := ((LSt.ready.obj rc).params.zip xs).foldl (fun tmps (t, a) => tmps.setIfInBounds t a) (LSt.ready.obj rc).tmps, defers := [] } w := by
          have e : ((LSt.ready.obj rc).params.zip xs).foldl (fun tmps (t, a) => tmps.setIfInBounds t a) (LSt.ready.obj rc).tmps = (ps.toList.zip xs.toList).foldl (fun tmps (x : Nat × Value) => tmps.setIfInBounds x.1 x.2) rc.tmps := by
            rw [zip_fold]
            show (rc.params.toList.zip xs.toList).foldl _ rc.tmps = _
            rw [hps]
          rw [e]
          refine { toRelM := hM.rebase rfl rfl (fun _ _ h => h) (fun _ _ _ => rfl), size := hfold.1, defers := .nil _ _ _, old := fun _ _ h => (by cases h), fr := fun t => ?_, live := fun t id hid => ?_ }
          · unfold pushG slots
            by_cases ht : t < E.fn.ntmps
            · rw [show Nat.blt t E.fn.ntmps = true by rw [Nat.blt_eq]; exact ht, if_pos ht]
              exact hfold.2 t ht
            · rw [show Nat.blt t E.fn.ntmps = false by rw [← Bool.not_eq_true, Nat.blt_eq]; exact ht, if_neg ht]
              exact hF.fr _
          · unfold pushG at hid
            cases e : Nat.blt t E.fn.ntmps with
            | true =>
              rw [e] at hid
              rcases setPs_live _ _ _ _ hid with h | h
              · exact hlv id h
              · exact hF.live _ id h
            | false => rw [e] at hid; exact hF.live _ id hid
        refine roundIn_of_wpIn trivial ?_
        show (LSt.ready.obj rc).assign.wpIn (FR (some l)) 0 E.P _ _ _
        have ha' : (LSt.ready.obj rc).assign = as := has
        rw [ha']
        refine ihA (rd := some l) hE' (ylOk_no _ _ _ _) (fun h => by cases h) hy hR3 fun e f1 m1 μ1 φ1 a1 w1 hk1 hR1 => ?_
        split at hk1
        · rename_i hm1
          obtain ⟨g1, rc1, p1, p2, p3⟩ := hR1.lps id _ hm1
          have p2 : w2.rc id = some (g1, rc1) := p2
          rw [hrc] at p2
          simp only [Option.some.injEq, Prod.mk.injEq] at p2
          obtain ⟨rfl, rfl⟩ := p2
          refine ⟨_, run_beginRound p3 rfl, ?_⟩
          have hb' : (LSt.ready.obj rc).body = b := hb
          refine Eq.mpr (congrArg (fun c : Code => c.wpIn (FR (some l)) 0 E.P _ a1 _) hb') ?_
          have hM1 := hR1.toRelM.turn (st' := .busy) hm1 p1 hrc
          have hR1' : Rel E.P E.glob E.fn.ntmps { w2 with sv := fun t => ρ (t - E.fn.ntmps), keep := μ, old := fun _ => none } μ1 φ1 f1 (memSet m1 id (.loop .busy)) a1 (w1.putObj l (.loop { LSt.ready.obj rc with state := .busy })) :=
            { toRelM := hM1, size := hR1.size, defers := hR1.defers, old := hR1.old, fr := hR1.fr, live := fun t j hj => by
                by_cases e : j = id
                · subst e; simp
                · rw [memSet_ne e]; exact hR1.live t j hj }
          refine ihB (rd := some l) hE' (ylOk_no _ _ _ _) (fun h => by cases h) hk1 hR1' fun e f2 m2 μ2 φ2 a2 w2' hk2 hR2 => ?_
          split at hk2
          · rename_i hm2
            obtain ⟨g2, rc2, q1, q2, q3⟩ := hR2.lps id _ hm2
            have q2 : w2.rc id = some (g2, rc2) := q2
            rw [hrc] at q2
            simp only [Option.some.injEq, Prod.mk.injEq] at q2
            obtain ⟨rfl, rfl⟩ := q2
            have hle : RoLe μ μ2 := hR2.keep
            have hFp : FrOk E.P μ2 φ2 m2 (popF E.fn.ntmps f2) ρ := by
              refine ⟨fun t => ?_, fun t id hid => hR2.live _ id hid⟩
              have := hR2.fr (t + E.fn.ntmps)
              rw [slots_pop] at this
              simpa [popF] using this
            have fin : ∀ (st : LSt) (v : Bool), k (.pv (.bool v)) (popF E.fn.ntmps f2) (memSet m2 id (.loop st)) = some r →
                ∃ v' f' m' y μ' φ', k v' f' m' = some r ∧ Ending.returned (.bool v) = .returned y ∧ RoLe μ μ' ∧ RelM E.P E.glob w2 μ' φ' m' (w2'.putObj l (.loop (st.obj rc))) ∧ FrOk E.P μ' φ' m' f' ρ ∧ RepV E.P μ' φ' v' y ∧ ∀ id, v'.has id = true → (m' id).isSome = true := by
              intro st v hk
              have hM2 := hR2.toRelM.turn (st' := st) hm2 q1 hrc
              refine ⟨_, _, _, _, μ2, φ2, hk, rfl, hle, hM2.rebase rfl rfl (fun b o hb => hle b o (hM.keep b o hb)) (fun _ _ _ => rfl), ⟨hFp.fr, fun t j hj => ?_⟩, .pv .bool, fun id hid => by cases hid⟩
              by_cases e : j = id
              · subst e; simp
              · rw [memSet_ne e]; exact hFp.live t j hj
            cases e with
            | normal => exact ⟨_, _, run_endRound none q3, fin .ready true hk2⟩
            | exit j => exact ⟨_, _, run_endRound (some (.exit j)) q3, fin (.done (.exit j)) false hk2⟩
            | ret => exact ⟨_, _, run_endRound (some .ret) q3, fin (.done .ret) false hk2⟩
          · cases hk2
        · cases hk1
      · cases hy
    · cases hy

theorem fnOf_ok {P : Program} {μ : Ro} {φ : Nat → Phys} {m : Mem} {v : V} {g : FuncId} {caps : List V} {y : Value} (h : fnOf v = some (g, caps)) (hv : RepV P μ φ v y) (hl : ∀ id, v.has id = true → (m id).isSome = true) :
    ∃ xs, y = .func (.func g) #[] xs ∧ caps.length = xs.size ∧ (∀ (i : Nat) v x, caps[i]? = some v → xs[i]? = some x → RepV P μ φ v x) ∧ ∀ id, hasL id caps = true → (m id).isSome = true := by
  unfold fnOf at h
  split at h
  · simp only [Option.some.injEq, Prod.mk.injEq] at h
    obtain ⟨rfl, rfl⟩ := h
    cases hv with
    | @fn _ _ xs h1 h2 => exact ⟨xs, rfl, h1, h2, fun id hid => hl id (by simpa only [V.has] using hid)⟩
  · simp only [Option.some.injEq, Prod.mk.injEq] at h
    obtain ⟨rfl, rfl⟩ := h
    cases hv with
    | pv hv => cases hv with
      | @fn _ _ xs h1 h2 =>
        refine ⟨xs, rfl, by simpa using h1, fun i v x hv hx => ?_, fun id hid => ?_⟩
        · simp only [List.getElem?_map, Option.map_eq_some_iff] at hv
          obtain ⟨q, hq, rfl⟩ := hv
          exact .pv (h2 i q x hq hx)
        · obtain ⟨v, hv, hh⟩ := hasL_iff.1 hid
          obtain ⟨q, _, rfl⟩ := List.mem_map.1 hv
          cases hh
  · cases h

theorem rangeFunc_ok {g : Operand} {ps : Array Tmp} {as b : Code} (ihA : CodeOk as) (ihB : CodeOk b) : CodeOk (.rangeFunc g ps as b) := by
  intro E w0 rd hE hY hrd R f m k r h μ φ a w Q hR hQ
  simp only [evalC] at h
  split at h
  · cases h
  rename_i hrb
  have hrd := hrd (by simpa using hrb)
  subst hrd
  split at h
  rotate_left
  · cases h
  rename_i p0 pr hp0
  generalize hlid : siteOf E (some p0) = lid at h
  obtain ⟨f1, m1, _, h, hml, hdr, hsem⟩ := fresh_ok h
  obtain ⟨hm0, rfl, rfl⟩ := hdr rfl
  refine wpIn_rangeFunc fun fn _ => ?_
  obtain ⟨rec, hrec⟩ : ∃ rec : Loop, rec = { state := .ready, pending := none, fn, tmps := a.tmps, params := ps, assign := as, body := b, defers := w.heap.size } := ⟨_, rfl⟩
  obtain ⟨wD, hwD⟩ : ∃ wD, wD = w.alloc (.deferred (some [])) := ⟨_, rfl⟩
  obtain ⟨W1, hW1⟩ : ∃ W1, W1 = wD.alloc (.loop rec) := ⟨_, rfl⟩
  obtain ⟨l, hl⟩ : ∃ l, l = wD.heap.size := ⟨_, rfl⟩
  have hl' : l = w.heap.size + 1 := by rw [hl, hwD]; simp
  obtain ⟨μD, hμD⟩ : ∃ μD, μD = roNew μ w (.deferred (some [])) := ⟨_, rfl⟩
  have hleD : RoLe μ μD := hμD ▸ roNew_le hR.toRelM _
  have hMD : RelM E.P E.glob w0 μD φ m wD := hμD ▸ hwD ▸ hR.toRelM.allocRo _
  have hD : μD w.heap.size = some (.deferred (some [])) := by rw [hμD]; simp [roNew]
  obtain ⟨w1, hw1⟩ : ∃ w1 : Base, w1 = { w0 with keep := μD, rc := fun i => if i = lid then some (l, rec) else w0.rc i } := ⟨_, rfl⟩
  have hMD1 : RelM E.P E.glob w1 μD φ m wD := hw1 ▸ hMD.rebase rfl rfl (fun _ _ h => h) (fun id st hid => if_neg fun e => by subst e; rw [hm0] at hid; cases hid)
  have hsl : slots E.fn.ntmps w1 a = slots E.fn.ntmps w0 a := by subst hw1; rfl
  have hFD : FrOk E.P μD φ m f1 (slots E.fn.ntmps w0 a) := ⟨fun t => (hR.fr t).monoR hleD, hR.live⟩
  have hrcl : w1.rc lid = some (l, rec) := by subst hw1; exact if_pos rfl
  have hnew : W1.heap[l]? = some (.loop rec) := by rw [hW1, hl]; exact heap_alloc_new wD _
  have hrr : LSt.ready.obj rec = rec := by subst hrec; rfl
  have hput : PutOk E.P w1 μD φ m wD W1 lid (.loop .ready) (phy (some l) 0 0 0) := by
    rw [hW1]
    refine PutOk.alloc hMD1 (by rw [hl]) (fun φ' hp _ => ⟨l, rec, by rw [hp], ?_⟩) (by simp [Blk.names]) fun st hst => ?_
    · rw [hrr, ← hW1]; exact hnew
    · cases hst
      exact ⟨l, rec, rfl, hrcl, by rw [hrr, ← hW1]; exact hnew⟩
  obtain ⟨φ1, hφl, hM1, hF1⟩ := hsem E.P E.glob w1 μD φ wD W1 (slots E.fn.ntmps w0 a) (phy (some l) 0 0 0) hMD1 hFD hput
  have hR1 : Rel E.P E.glob E.fn.ntmps w1 μD φ1 f1 (memSet m lid (.loop .ready)) a W1 :=
    { toRelM := hM1, size := hR.size, defers := (by have := hR.defers.mono hleD; subst hw1; exact this), old := (by subst hw1; exact fun b o hb => hleD b o (hR.keep b o (hR.old b o hb))), fr := fun t => by rw [hsl]; exact hF1.fr t, live := hF1.live }
  have hop := opd_rep hR1 g
  split at h
  rotate_left
  · cases h
  rename_i gid caps hcap
  obtain ⟨xs, hgv, hlen, hrep, hopl⟩ := fnOf_ok hcap hop.1 hop.2
  · clear hop
    obtain ⟨fnI, cI, f1, f2, f3, hcall⟩ := hE.rng _ _ _ _ _ _ _ _ _ h
    have hyl : RepV E.P μD φ1 (.yl lid) (.func (.yield l) #[] #[]) := .yl (by rw [hφl])
    have hC := hcall w1 μD φ1 (slots E.fn.ntmps w0 a) W1 (#[.func (.yield l) #[] #[]] ++ xs) hM1 hF1 (by simp; omega) (fun i v x hv hx => by
        cases i with
        | zero => simp at hv; subst hv; rw [Array.getElem?_append] at hx; simp at hx; subst hx; exact hyl
        | succ i =>
          simp at hv
          rw [Array.getElem?_append_right (by simp)] at hx
          exact hrep i v x hv (by simpa using hx)) (fun id hid => by
        simp only [hasL, Bool.or_eq_true] at hid
        rcases hid with hid | hid
        · have := Nat.eq_of_beq_eq_true hid; subst this; simp
        · exact hopl id hid) (by
      refine fun R site id args F m k r hy => round_ok (fid := site * 4096 + E.fid % 4096) ihA ihB hE (w2 := { w1 with sv := fun t => slots E.fn.ntmps w0 a (t - fnI.ntmps) }) (rc := rec) (l := l) (lid := lid) (ps := ps) hrcl (by subst hrec; rfl) (by subst hrec; rfl) (by subst hrec; rfl) (by subst hrec; exact hR.size) (fun t ht => by
        subst hrec
        show slots E.fn.ntmps w0 a (t + fnI.ntmps - fnI.ntmps) = _
        rw [Nat.add_sub_cancel, slots_lt ht]) R site id args F m k r hy)
    refine ⟨l, [{ target := .collected w.heap.size, args := #[] }], W1, { target := .fn (.func gid) xs, args := #[.func (.yield l) #[] #[]] }, W1, gid, #[.func (.yield l) #[] #[]] ++ xs, W1, ?_, ?_, ?_, ?_, ?_, ?_⟩
    · have := run_enterLoop_outer (P := E.P) (w := w) fn a.tmps ps as b
      rw [hl', hW1, hwD, hrec]; exact this
    · simp only [resolve, hgv]
      simp [go_sem]
    · exact fun _ _ => trivial
    · simp [invoke, go_sem, enterFn f1 f3 f2]
    · exact fun h => by cases h
    · refine FR.callsIn (hC.mono ?_)
      rintro e w' ⟨v, f', m', y, μ', φ', hk, rfl, hM', hF', _, _⟩
      have hleK : RoLe μD μ' := by
        have := hM'.keep
        subst hw1; exact this
      have hD' : μ' w.heap.size = some (.deferred (some [])) := hleK _ _ hD
      have main : ∀ st, m' lid = some (.loop st) → st ≠ .busy → ∃ w4, (Instr.endLoop l).run E.P w' = .ok (st.obj rec).pending w4 ∧ Rel E.P E.glob E.fn.ntmps w0 μ' φ' (killF lid f') (memDel (killM lid m') lid) { a with defers := [{ target := .collected w.heap.size, args := #[] }] ++ a.defers } w4 := by
        intro st hst hnb
        obtain ⟨g', rc', p1, p2, p3⟩ := hM'.lps lid st hst
        rw [hrcl] at p2
        simp only [Option.some.injEq, Prod.mk.injEq] at p2
        obtain ⟨rfl, rfl⟩ := p2
        have hown := hM'.own lid _ _ hst (.inl p1)
        have hMf := hM'.forget lid
        have hno : ∀ id b, memDel (killM lid m') lid id = some b → ¬ b.owns (φ' id) l := fun id b' hid e => by
          obtain ⟨hne, b2, hb2, rfl⟩ := forget_some hid
          exact hne (hM'.inj id lid b2 _ l hb2 hst (owns_kill.1 e) (.inl p1))
        have hM4 := hMf.other (.loop { st.obj rec with state := .exhausted }) hown.1 (hown.2 rfl) hno
        have hM5 : RelM E.P E.glob w0 μ' φ' (memDel (killM lid m') lid) (w'.putObj l (.loop { st.obj rec with state := .exhausted })) :=
          hM4.rebase (by subst hw1; rfl) (by subst hw1; rfl) (fun b o hb => hleK b o (hleD b o (hR.keep b o hb))) (fun id st hid => by
            have hne : id ≠ lid := fun e => by subst e; simp at hid
            subst hw1; exact (if_neg hne).symm)
        refine ⟨_, run_endLoop p3 (by cases st <;> simp_all [LSt.obj]), { toRelM := hM5, size := hR.size, defers := ?_, old := hR.old, fr := ?_, live := ?_ }⟩
        · obtain ⟨Ds, e, hnd, hDs⟩ := hR.defers
          have hlt : ∀ b o, μ b = some o → b < w.heap.size := fun b o hb => (Array.getElem?_eq_some_iff.1 (hR.ro b o hb)).1
          refine ⟨w.heap.size :: Ds, by simp [e], List.nodup_cons.2 ⟨fun hd => ?_, hnd⟩, fun D hd => ?_⟩
          · have := hlt _ _ (hDs _ hd).2.2; omega
          · rcases List.mem_cons.1 hd with rfl | hd
            · refine ⟨hR.below.size, ?_, hD'⟩
              cases ho : w0.old w.heap.size with
              | none => rfl
              | some o => have := hlt _ _ (hR.keep _ _ (hR.old _ _ ho)); omega
            · exact ⟨(hDs D hd).1, (hDs D hd).2.1, hleK _ _ (hleD _ _ (hDs D hd).2.2)⟩
        · exact (hF'.forget lid).fr
        · exact (hF'.forget lid).live
      dsimp only at hk
      split at hk
      · rename_i hst
        obtain ⟨w4, e1, e2⟩ := main .ready hst (by simp)
        exact ⟨none, w4, e1, hQ .normal _ _ _ _ _ _ hk e2⟩
      · rename_i j hst
        obtain ⟨w4, e1, e2⟩ := main (.done j) hst (by simp)
        refine ⟨some j.code, w4, e1, ?_⟩
        cases j with
        | ret => exact wpIn_ret (hQ .ret _ _ _ _ _ _ hk e2)
        | exit id => exact wpIn_exit (hQ (.exit id) _ _ _ _ _ _ hk e2)
      · cases hk

theorem evalC_ok : ∀ (c : Code), CodeOk c := by
  intro c
  induction c with
  | skip => intro E w0 rd hE hY hrd R f m k r h μ φ a w Q hR hQ; simp only [evalC] at h; exact wpIn_skip (hQ .normal _ _ _ _ _ _ h hR)
  | region id ops draw => intro E w0 rd hE hY hrd R f m k r h μ φ a w Q hR hQ; exact region_ok hE hY h hR (hQ .normal)
  | seq x y ihx ihy =>
    intro E w0 rd hE hY hrd R f m k r h μ φ a w Q hR hQ
    simp only [evalC] at h
    refine wpIn_seq (ihx hE hY hrd h hR fun e f' m' μ' φ' a' w' hk hR' => ?_)
    cases e with
    | normal => exact ihy hE hY hrd hk hR' hQ
    | exit id => exact hQ (.exit id) _ _ _ _ _ _ hk hR'
    | ret => exact hQ .ret _ _ _ _ _ _ hk hR'
  | cond c x y ihx ihy =>
    intro E w0 rd hE hY hrd R f m k r h μ φ a w Q hR hQ
    simp only [evalC] at h
    split at h
    · rename_i t b hb
      have hv : a.eval (.tmp t) = .bool b := by
        have := (opd_rep hR (.tmp t)).1
        rw [hb] at this
        exact rep_bool this
      have hb' : f t = .pv (.bool b) := (opd_tmp_pv hb).2
      have hle : FLe (frSet f t (.pv (.bool b))) f := fun s => by
        simp only [frSet]
        cases e : Nat.beq s t with
        | true => have := Nat.eq_of_beq_eq_true e; subst this; exact .inl hb'.symm
        | false => exact .inl rfl
      cases b with
      | true => simp only [if_true] at h; exact wpIn_cond_true hv (ihx hE hY hrd h (hR.weaken hle) hQ)
      | false => simp only [Bool.false_eq_true, if_false] at h; exact wpIn_cond_false hv (ihy hE hY hrd h (hR.weaken hle) hQ)
    · cases h
  | block id b ih =>
    intro E w0 rd hE hY hrd R f m k r h μ φ a w Q hR hQ
    simp only [evalC] at h
    refine wpIn_block (ih hE hY hrd h hR fun e f' m' μ' φ' a' w' hk hR' => ?_)
    cases e with
    | normal => exact hQ .normal _ _ _ _ _ _ hk hR'
    | exit j =>
      simp only [Ex.blockK] at hk
      simp only [exitOf, Exit.inBlock]
      split at hk
      · rename_i hj; rw [if_pos hj]; exact hQ .normal _ _ _ _ _ _ hk hR'
      · rename_i hj; rw [if_neg hj]; exact hQ (.exit j) _ _ _ _ _ _ hk hR'
    | ret => exact hQ .ret _ _ _ _ _ _ hk hR'
  | loop b ih =>
    intro E w0 rd hE hY hrd R f m k r h μ φ a w Q hR hQ
    simp only [evalC] at h
    split at h
    · rename_i T _
      obtain ⟨f, m, μ, φ, h, hR⟩ := prepT_ok h hR
      obtain ⟨s, hs, s1, s2, s3, s4⟩ := enc_ok h
      obtain ⟨n0, hs⟩ := hE.lp _ _ _ _ _ hs
      refine wp_loop_n (fun n a w => ∃ s μ φ, Rel E.P E.glob E.fn.ntmps w0 μ φ (decF T s) (decM T s) a w ∧ loopS (fun s rec => evalC E b (decF T s) (decM T s) (Ex.thenK (fun f m => prepT E.P T f m fun f m => enc T f m rec) k)) n s = some r) ?_ n0 a w ⟨s, μ, φ, hR.dec s1 s2 s3 s4, hs⟩
      rintro n a w ⟨s, μ, φ, hR, hs⟩
      cases n with
      | zero => simp [loopS] at hs
      | succ n =>
        refine ⟨n, rfl, ?_⟩
        simp only [loopS] at hs
        refine ih hE hY hrd hs hR fun e f' m' μ' φ' a' w' hk hR' => ?_
        cases e with
        | normal =>
          obtain ⟨f', m', μ', φ', hk, hR'⟩ := prepT_ok hk hR'
          obtain ⟨s', hs', t1, t2, t3, t4⟩ := enc_ok hk
          exact ⟨s', μ', φ', hR'.dec t1 t2 t3 t4, hs'⟩
        | exit j => exact hQ (.exit j) _ _ _ _ _ _ hk hR'
        | ret => exact hQ .ret _ _ _ _ _ _ hk hR'
    · refine wp_loop_n (fun n a w => ∃ f m μ φ, Rel E.P E.glob E.fn.ntmps w0 μ φ f m a w ∧ loopU (fun f m rec => evalC E b f m (Ex.thenK rec k)) n f m = some r) ?_ E.u a w ⟨f, m, μ, φ, hR, h⟩
      rintro n a w ⟨f, m, μ, φ, hR, hs⟩
      cases n with
      | zero => simp [loopU] at hs
      | succ n =>
        refine ⟨n, rfl, ?_⟩
        simp only [loopU] at hs
        refine ih hE hY hrd hs hR fun e f' m' μ' φ' a' w' hk hR' => ?_
        cases e with
        | normal => exact ⟨f', m', μ', φ', hR', hk⟩
        | exit j => exact hQ (.exit j) _ _ _ _ _ _ hk hR'
        | ret => exact hQ .ret _ _ _ _ _ _ hk hR'
  | exit id => intro E w0 rd hE hY hrd R f m k r h μ φ a w Q hR hQ; simp only [evalC] at h; exact wpIn_exit (hQ (.exit id) _ _ _ _ _ _ h hR)
  | label l => intro E w0 rd hE hY hrd R f m k r h μ φ a w Q hR hQ; simp only [evalC] at h; exact wpIn_label (hQ .normal _ _ _ _ _ _ h hR)
  | ret => intro E w0 rd hE hY hrd R f m k r h μ φ a w Q hR hQ; simp only [evalC] at h; exact wpIn_ret (hQ .ret _ _ _ _ _ _ h hR)
  | scope b ih => intro E w0 rd hE hY hrd R f m k r h μ φ a w Q hR hQ; simp only [evalC] at h; exact wpR_scope (ih hE hY hrd h hR fun e f' m' μ' φ' a' w' hk hR' => by cases e <;> exact hQ _ _ _ _ _ _ _ hk hR')
  | rangeFunc g ps as b ihA ihB => exact rangeFunc_ok ihA ihB
  | _ => intro E w0 rd hE hY hrd R f m k r h; simp [evalC] at h
end Go.Ab

set_option linter.unusedVariables false
namespace Go.Ab
open Go.RowKit (Below)

def Obj.isData : Obj → Bool
  | .cells .. => true
  | .map .. => true
  | _ => false
def RoC (μ μ' : Ro) : Prop := ∀ b o, μ b = some o → Obj.isData o = true → μ' b = some o
theorem RoC.trans {a b c : Ro} (h : RoC a b) (k : RoC b c) : RoC a c := fun x o hx ho => k x o (h x o hx ho) ho

section
variable {P : Program} {G : Nat → Option (List PV)} {w0 : Base} {μ μ' : Ro} {φ : Nat → Phys} {m : Mem} {w w' : World}

theorem cellAt_off (h : RoC μ μ') {b o : Nat} {x : Value} (hx : cellAt μ b o = some x) : cellAt μ' b o = some x := by
  unfold cellAt at *
  split at hx
  · rename_i c t fz hb
    rw [h _ _ hb rfl]; exact hx
  · cases hx
theorem RepPV.off (h : RoC μ μ') {p : PV} {x : Value} (hp : RepPV P μ p x) : RepPV P μ' p x := by
  induction hp with
  | int h => exact .int h
  | bool => exact .bool
  | str h => exact .str h
  | agg h1 _ h3 ih => exact .agg h1 ih h3
  | tup h1 _ ih => exact .tup h1 ih
  | nilp => exact .nilp
  | rp X h1 _ h3 ih => exact .rp X (fun i p hi => cellAt_off h (h1 i p hi)) ih h3
  | rsNil => exact .rsNil
  | rsE h => exact .rsE h
  | rs X h1 h2 h3 h4 _ h6 ih => exact .rs X h1 h2 h3 (fun i e j p hi hj => cellAt_off h (h4 i e j p hi hj)) ih h6
  | nilm => exact .nilm
  | rm h1 h2 h3 h4 h5 _ _ ih1 ih2 => exact .rm (h _ _ h1 rfl) h2 h3 h4 h5 ih1 ih2
  | nilf => exact .nilf
  | fn h1 _ ih => exact .fn h1 ih
  | ifcN => exact .ifcN
  | ifcS => exact .ifcS
  | bad => exact .bad
theorem VarIs.off (h : RoC μ μ') {g : Nat} {cs : List PV} (hv : VarIs P μ g cs) : VarIs P μ' g cs :=
  ⟨hv.rep.off h, let ⟨c, T, z, h1, h2⟩ := hv.size; ⟨c, T, z, h _ _ h1 rfl, h2⟩⟩
theorem RepV.off (h : RoC μ μ') {v : V} {x : Value} (hv : RepV P μ φ v x) : RepV P μ' φ v x := by
  induction hv with
  | pv hp => exact .pv (hp.off h)
  | nils => exact .nils
  | op hg => exact .op hg
  | oe hg => exact .oe hg
  | osN hg => exact .osN hg
  | os hg => exact .os hg
  | osubN hg => exact .osubN hg
  | osub hg hl ha hc hc' => exact .osub hg hl ha hc hc'
  | os2N hg => exact .os2N hg
  | os2 hg => exact .os2 hg
  | oe2 hg hs => exact .oe2 hg hs
  | om hg => exact .om hg
  | yl hg => exact .yl hg
  | it hg => exact .it hg
  | fn h1 _ ih => exact .fn h1 ih
  | agg h1 _ h3 ih => exact .agg h1 ih h3
  | tup h1 _ ih => exact .tup h1 ih
  | top => exact .top
theorem RepArr.off (h : RoC μ μ') {id sz : Nat} {et : TypeId} {es : List PV} (ha : RepArr P μ φ w id sz et es) (hw : ∀ g, (φ id).g = some g → w'.heap[g]? = w.heap[g]?) : RepArr P μ' φ w' id sz et es := by
  obtain ⟨a1, a2, a3, a4, a5, a6, a7⟩ := ha
  refine ⟨a1, a2, a3, a4, a5, a6, ?_⟩
  cases hg : (φ id).g with
  | none => rw [hg] at a7; exact a7
  | some g =>
    rw [hg] at a7
    obtain ⟨c, c1, c2, c3, c4, c5⟩ := a7
    exact ⟨c, by rw [hw g hg]; exact c1, c2, c3, fun i e j p x h1 h2 h3 => (c4 i e j p x h1 h2 h3).off h, c5⟩
theorem RepRow.off (hh : RoC μ μ') {R : Ph0} {s : Nat} {rs : List PV} {x : Value} (h : RepRow P μ R w s rs x) (hw : ∀ g, R.g = some g → w'.heap[g]? = w.heap[g]?) : RepRow P μ' R w' s rs x :=
  let ⟨⟨et, hA⟩, hV⟩ := h
  ⟨⟨et, hA.off hh hw⟩, hV.off hh⟩
theorem RepCell.off (hh : RoC μ μ') {R : Ph0} {p : PV} {x : Value} (h : RepCell P μ R w p x) (hw : p.isRow = true → ∀ g, R.g = some g → w'.heap[g]? = w.heap[g]?) : RepCell P μ' R w' p x := by
  unfold RepCell at *
  split at h
  · exact RepRow.off hh h (hw rfl)
  · exact RepPV.off hh h
theorem RepNest.off (hh : RoC μ μ') {id sz : Nat} {et : TypeId} {es : List PV} (h : RepNest P μ φ w id sz et es)
    (hw : ∀ g, (Blk.nest sz et es).owns (φ id) g → w'.heap[g]? = w.heap[g]?) : RepNest P μ' φ w' id sz et es := by
  obtain ⟨a1, a2, a3, a4, a5, a6, a7⟩ := h
  refine ⟨a1, a2, a3, a4, a5, a6, ?_⟩
  cases hg : (φ id).g with
  | none => rw [hg] at a7; exact a7
  | some g =>
    rw [hg] at a7
    obtain ⟨c, c1, c2, c3, c4, c5⟩ := a7
    exact ⟨c, by rw [hw g (.inl hg)]; exact c1, c2, c3, fun i e j p x h1 h2 h3 => (c4 i e j p x h1 h2 h3).off hh fun hr g' hg' => hw g' (.inr ⟨i, j, by rw [rowAt_nest h1 h2]; exact hr, hg'⟩), c5⟩
theorem RepRow.isCells {R : Ph0} {s g : Nat} {rs : List PV} {x : Value} (h : RepRow P μ R w s rs x) (hg : R.g = some g) : ∃ c T z, w.heap[g]? = some (.cells c T z) := by
  obtain ⟨⟨et, _, _, _, _, _, _, a7⟩, _⟩ := h
  have hg' : R.up.g = some g := hg
  simp only [hg'] at a7
  obtain ⟨c, c1, _⟩ := a7
  exact ⟨_, _, _, c1⟩
theorem RepB.rowCells {id g i off : Nat} {b : Blk} (h : RepB P μ φ w id b) (hr : b.rowAt i off = true) (hg : ((φ id).row i off).g = some g) : ∃ c T z, w.heap[g]? = some (.cells c T z) := by
  rcases rowAt_of hr with ⟨sz, et, es, e, s, rs, rfl, he, hp⟩ | ⟨kt, e0, es, k, s, rs, rfl, rfl, he⟩
  · have hN : RepNest P μ φ w id sz et es := h
    have hgg : ∃ g0, (φ id).g = some g0 := by
      cases hq : (φ id).g with
      | some g0 => exact ⟨g0, rfl⟩
      | none =>
        have a7 := hN.2.2.2.2.2.2
        rw [hq] at a7; rw [a7.1] at he; simp at he
    obtain ⟨g0, hg0⟩ := hgg
    obtain ⟨c, x, _, _, c3, _⟩ := hN.cell hg0 he hp
    exact RepRow.isCells (show RepRow P μ _ w s rs x from c3) hg
  · obtain ⟨g0, en, clock, kk, hg0, hh, hs, hk, hc, hbo, hv⟩ := h
    have hi : i < en.size := by rw [hs]; exact (List.getElem?_eq_some_iff.1 he).1
    have h3 := (hv i k _ en[i] he (Array.getElem?_eq_getElem hi)).2
    exact RepRow.isCells (P := P) (μ := μ) (R := (φ id).row i 0) (s := s) (rs := rs) (x := en[i].val) ⟨⟨_, h3.1⟩, h3.2⟩ hg
theorem RepB.off (h : RoC μ μ') (hro : ∀ b o, μ b = some o → w.heap[b]? = some o) {id : Nat} {b : Blk} (hb : RepB P μ φ w id b) (hw : ∀ g, b.owns (φ id) g → w'.heap[g]? = w.heap[g]?) : RepB P μ' φ w' id b := by
  cases b with
  | nest sz et es => exact RepNest.off h hb hw
  | mapN kt e0 es =>
    obtain ⟨g, en, clock, kk, hg, hh, hs, hk, hc, hbo, hv⟩ := hb
    refine ⟨g, en, clock, kk, hg, by rw [hw g (.inl hg)]; exact hh, hs, hk, hc, hbo, fun i k v e h1 h2 => ⟨(hv i k v e h1 h2).1.off h, ?_⟩⟩
    have h3 := (hv i k v e h1 h2).2
    split at h3
    · exact ⟨h3.1.off h fun g' hg' => hw g' (.inr ⟨i, 0, by rw [rowAt_mapN h1]; rfl, hg'⟩), h3.2.off h⟩
    · exact h3.off h
  | box cs =>
    obtain ⟨g, c, T, hg, hh, hs, hv, h1, hln⟩ := hb
    exact ⟨g, c, T, hg, by rw [hw g (.inl hg)]; exact hh, hs, fun i v x hi hx => (hv i v x hi hx).off h, h1, hln⟩
  | arr sz et es => exact RepArr.off h hb fun g hg => hw g (.inl hg)
  | fro sz et es =>
    refine ⟨RepArr.off h hb.1 fun g hg => hw g (.inl hg), fun g hg => ?_⟩
    obtain ⟨o, ho⟩ := Option.isSome_iff_exists.1 (hb.2 g hg)
    obtain ⟨_, _, _, _, _, _, a7⟩ := hb.1
    rw [hg] at a7
    obtain ⟨c, c1, _⟩ := a7
    have := hro g o ho
    rw [c1] at this
    cases this
    rw [h _ _ ho rfl]; rfl
  | map kt es =>
    obtain ⟨g, en, clock, kk, hg, hh, hs, hk, hc, hbo, hv⟩ := hb
    exact ⟨g, en, clock, kk, hg, by rw [hw g (.inl hg)]; exact hh, hs, hk, hc, hbo, fun i k v e h1 h2 => ⟨(hv i k v e h1 h2).1.off h, (hv i k v e h1 h2).2.off h⟩⟩
  | iter t es cur =>
    obtain ⟨g, mg, en, clock, seen, hg, hh, hmu, hbo, hln, hv, hcu⟩ := hb
    exact ⟨g, mg, en, clock, seen, hg, by rw [hw g (.inl hg)]; exact hh, h _ _ hmu rfl, hbo, hln, fun i k v e h1 h2 => ⟨(hv i k v e h1 h2).1.off h, (hv i k v e h1 h2).2.off h⟩, fun k v hc => let ⟨i, e, h1, h2, h3, h4⟩ := hcu k v hc; ⟨i, e, h1, h2, h3.off h, h4.off h⟩⟩
  | loop st =>
    obtain ⟨g, rc, hg, hh⟩ := hb
    exact ⟨g, rc, hg, by rw [hw g (.inl hg)]; exact hh⟩

def roOff (μ : Ro) (D : Nat) : Ro := fun b => if b = D then none else μ b
theorem roOff_c {D : Nat} (hD : μ D = some (.deferred (some []))) : RoC μ (roOff μ D) := by
  intro b o hb ho
  unfold roOff
  rw [if_neg fun e => by subst e; rw [hD] at hb; cases hb; cases ho]
  exact hb
theorem RelM.shut (hM : RelM P G w0 μ φ m w) {D : Nat} (hB : w0.heap.size ≤ D) (hk : w0.keep D = none) (hD : μ D = some (.deferred (some []))) : RelM P G w0 (roOff μ D) φ m (w.putObj D (.deferred none)) := by
  have hc := roOff_c hD
  have hh := hM.ro _ _ hD
  have hoth : ∀ k, k ≠ D → (w.putObj D (.deferred none)).heap[k]? = w.heap[k]? := fun k hk => World.putObj_heap_other hk
  have hne : ∀ id b g, m id = some b → b.owns (φ id) g → g ≠ D := fun id b g hm hg e => by
    subst e
    have hR := hM.blk id b hm
    rcases hg with hg | ⟨i, off, hr, hg⟩
    rotate_left
    · obtain ⟨c, T, z, h2⟩ := hR.rowCells hr hg
      rw [hh] at h2; cases h2
    cases b with
    | nest sz et es => obtain ⟨_, _, _, _, _, _, a7⟩ := hR; rw [hg] at a7; obtain ⟨c, c1, _⟩ := a7; rw [hh] at c1; cases c1
    | mapN kt e0 es => obtain ⟨g', en, clock, kk, hg', h2, _⟩ := hR; rw [hg] at hg'; cases hg'; rw [hh] at h2; cases h2
    | box cs => obtain ⟨g', c, T, hg', h2, _⟩ := hR; rw [hg] at hg'; cases hg'; rw [hh] at h2; cases h2
    | arr sz et es => obtain ⟨_, _, _, _, _, _, a7⟩ := hR; rw [hg] at a7; obtain ⟨c, c1, _⟩ := a7; rw [hh] at c1; cases c1
    | fro sz et es => obtain ⟨⟨_, _, _, _, _, _, a7⟩, _⟩ := hR; rw [hg] at a7; obtain ⟨c, c1, _⟩ := a7; rw [hh] at c1; cases c1
    | map kt es => obtain ⟨g', en, clock, kk, hg', h2, _⟩ := hR; rw [hg] at hg'; cases hg'; rw [hh] at h2; cases h2
    | loop st => obtain ⟨g', rc, hg', h2⟩ := hR; rw [hg] at hg'; cases hg'; rw [hh] at h2; cases h2
    | iter t es cur => obtain ⟨g', mg, en, clock, seen, hg', h2, _⟩ := hR; rw [hg] at hg'; cases hg'; rw [hh] at h2; cases h2
  refine ⟨hM.below.trans ((Bel.putObj w D _).mono hB), fun b o hb => ?_, fun g cs hg => (hM.glob g cs hg).off hc, fun id b hm => (hM.blk id b hm).off hc hM.ro fun g hg => hoth g (hne id b g hm hg), fun id b g hm hg => ?_, hM.inj, hM.apart, hM.liveB, fun b o hb hlt => ?_, fun b o hb => ?_, fun id st hm => ?_⟩
  · unfold roOff at hb
    split at hb
    · cases hb
    · rename_i e; rw [hoth b e]; exact hM.ro b o hb
  · obtain ⟨h1, h2⟩ := hM.own id b g hm hg
    refine ⟨h1, fun hmut => ?_⟩
    unfold roOff
    rw [if_neg (hne id b g hm hg)]; exact h2 hmut
  · unfold roOff at hb
    split at hb
    · cases hb
    · exact hM.base b o hb hlt
  · unfold roOff
    rw [if_neg fun e => by subst e; rw [hk] at hb; cases hb]
    exact hM.keep b o hb
  · obtain ⟨g, rc, h1, h2, h3⟩ := hM.lps id st hm
    exact ⟨g, rc, h1, h2, by rw [hoth g (hne id _ g hm (.inl h1))]; exact h3⟩
end

section
variable {E : Env} {w0 : Base}
theorem leaves_marks {R : Ending → World → Prop} {f : Fr} {m : Mem} {φ : Nat → Phys} {fn : Func} {tmps : Array Value} : ∀ (Ds : List Nat) {μ : Ro} {w : World}, Ds.Nodup → (∀ D ∈ Ds, w0.heap.size ≤ D ∧ w0.keep D = none ∧ μ D = some (.deferred (some []))) →
    Rel E.P E.glob E.fn.ntmps w0 μ φ f m { tmps, defers := [] } w →
    (∀ μ' w', Rel E.P E.glob E.fn.ntmps w0 μ' φ f m { tmps, defers := [] } w' → ∃ v, (results fn tmps).run E.P w' = .ok v w' ∧ R (.returned v) w') →
    LeavesInM (FR none) 0 E.P fn tmps R (Ds.map fun D => { target := .collected D, args := #[] }) .returning w
  | [], μ, w, _, _, hR, hfin => hfin μ w hR
  | D :: Ds, μ, w, hn, hD, hR, hfin => by
    obtain ⟨h1, h2, h3⟩ := hD D (by simp)
    obtain ⟨n1, n2⟩ := List.nodup_cons.1 hn
    have hM := hR.toRelM.shut h1 h2 h3
    refine ⟨by simp, .inl ⟨D, _, rfl, run_takeDeferred (hR.ro _ _ h3), ?_⟩⟩
    refine leaves_marks Ds n2 (fun D' hd' => ?_) { toRelM := hM, size := hR.size, defers := .nil _ _ _, old := hR.old, fr := fun t => (hR.fr t).off (roOff_c h3), live := hR.live } hfin
    obtain ⟨a1, a2, a3⟩ := hD D' (by simp [hd'])
    refine ⟨a1, a2, ?_⟩
    unfold roOff
    rw [if_neg fun e => by subst e; exact n1 hd']; exact a3
theorem calls_of_code (hE : EnvOk E) (hY : YlOk E.P E.glob E.fn.ntmps E.yl w0) (hko : ∀ b o, w0.keep b = some o → w0.old b = some o) {g : FuncId} {c : Code} (hf : E.P.funcs[g]? = some E.fn) (hb : E.fn.body = some c) {xs : Array Value} {R : Ending → World → Prop} {S : Type} {f : Fr} {m : Mem} {k : Ex → Fr → Mem → Option S} {r : S}
    (h : evalC E c f m k = some r) {μ : Ro} {φ : Nat → Phys} {w : World} (hR : Rel E.P E.glob E.fn.ntmps w0 μ φ f m { tmps := xs ++ Array.replicate (E.fn.ntmps - xs.size) undef, defers := [] } w)
    (hfin : ∀ e f' m' μ' φ' tmps w', k e f' m' = some r → Rel E.P E.glob E.fn.ntmps w0 μ' φ' f' m' { tmps, defers := [] } w' → (∀ id, e ≠ .exit id) ∧ ∃ v, (results E.fn tmps).run E.P w' = .ok v w' ∧ R (.returned v) w') :
    Calls E.P g xs w R := by
  refine (callsIn_wide (n := 0)).1 (callsIn_of_wp_marks (F := FR none) hf hb trivial ?_)
  refine evalC_ok c hE hY (fun _ => rfl) h hR fun e f' m' μ' φ' a' w' hk hR' => ?_
  obtain ⟨Ds, e1, e2, e3⟩ := hR'.defers
  have hR2 : Rel E.P E.glob E.fn.ntmps w0 μ' φ' f' m' { tmps := a'.tmps, defers := [] } w' :=
    { toRelM := hR'.toRelM, size := hR'.size, defers := .nil _ _ _, old := hR'.old, fr := hR'.fr, live := hR'.live }
  have key : (∀ id, e ≠ .exit id) → LeavesInM (FR none) 0 E.P E.fn a'.tmps R a'.defers .returning w' := fun _ => by
    rw [e1]
    refine leaves_marks Ds e2 (fun D hd => ?_) hR2 fun μ2 w2 hR3 => (hfin e f' m' μ2 φ' a'.tmps w2 hk hR3).2
    obtain ⟨a1, a2, a3⟩ := e3 D hd
    refine ⟨a1, ?_, a3⟩
    cases hq : w0.keep D with
    | none => rfl
    | some o => rw [hko D o hq] at a2; cases a2
  have hne := (hfin e f' m' μ' φ' a'.tmps w' hk hR2).1
  cases e with
  | normal => exact key hne
  | ret => exact key hne
  | exit id => exact absurd rfl (hne id)
end
end Go.Ab
