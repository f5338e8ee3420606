/- Loops over functions: marks, records, a round's frame. -/
import Derived.Test.YtinbhofpofcmeaaGreatDoorAbOrd4
import Derived.RangeFuncIn
set_option linter.unusedVariables false
namespace Go.Ab
open Go.RowKit (Below)

section
variable {P : Program} {G : Nat → Option (List PV)} {w0 : Base} {μ : Ro} {φ : Nat → Phys} {m : Mem} {w : World}

theorem Bel.putObj (w : World) (g : Nat) (o : Obj) : Bel g w (w.putObj g o) :=
  ⟨⟨rfl, rfl, rfl, by simp, fun k hk => World.putObj_heap_other (by omega)⟩, fun _ => Nat.le_refl _⟩

theorem RelM.rebase (h : RelM P G w0 μ φ m w) {w1 : Base} (hw : w1.w = w0.w) (hmu : w1.mu = w0.mu) (hk : ∀ b o, w1.keep b = some o → μ b = some o) (hrc : ∀ id st, m id = some (.loop st) → w1.rc id = w0.rc id) : RelM P G w1 μ φ m w := by
  obtain ⟨a0, b0, c0, d0, e0⟩ := w0
  obtain ⟨a1, b1, c1, d1, e1⟩ := w1
  simp only at hw hmu
  subst hw; subst hmu
  refine ⟨h.below, h.ro, h.glob, h.blk, h.own, h.inj, h.liveB, h.base, hk, fun id st hid => ?_⟩
  obtain ⟨g, rc, h1, h2, h3⟩ := h.lps id st hid
  exact ⟨g, rc, h1, (hrc id st hid).trans h2, h3⟩
def roNew (μ : Ro) (w : World) (o : Obj) : Ro := fun b => if b = w.heap.size then some o else μ b
theorem roNew_le (hM : RelM P G w0 μ φ m w) (o : Obj) : RoLe μ (roNew μ w o) := by
  intro b o' hb
  have := (Array.getElem?_eq_some_iff.1 (hM.ro b o' hb)).1
  unfold roNew
  rw [if_neg (by omega)]; exact hb
theorem RelM.allocRo (hM : RelM P G w0 μ φ m w) (o : Obj) : RelM P G w0 (roNew μ w o) φ m (w.alloc o) := by
  have hle := roNew_le hM o
  have hold : ∀ k, k < w.heap.size → (w.alloc o).heap[k]? = w.heap[k]? := fun k hk => Bel.heap_alloc w o k hk
  have hsz : w0.heap.size ≤ w.heap.size := hM.below.size
  refine ⟨hM.below.alloc hM.below.size o, fun b o' hb => ?_, fun g cs hg => (hM.glob g cs hg).mono hle, fun id b hid => ?_, fun id b g hid hg => ?_, hM.inj, hM.liveB, fun b o' hb hlt => ?_, fun b o' hb => hle b o' (hM.keep b o' hb), fun id st hid => ?_⟩
  · unfold roNew at hb
    split at hb
    · rename_i e; subst e; cases hb; exact heap_alloc_new w o
    · have := hM.ro b o' hb
      rw [hold b (Array.getElem?_eq_some_iff.1 this).1]; exact this
  · have hR := hM.blk id b hid
    exact hR.stable (fun _ _ => rfl) rfl hle (fun g hg => hold g (hR.glt hg))
  · obtain ⟨h1, h2⟩ := hM.own id b g hid hg
    refine ⟨h1, fun hmut => ?_⟩
    have := (hM.blk id b hid).glt hg
    unfold roNew
    rw [if_neg (by omega)]; exact h2 hmut
  · unfold roNew at hb
    rw [if_neg (by omega)] at hb
    exact hM.base b o' hb hlt
  · obtain ⟨g, rc, h1, h2, h3⟩ := hM.lps id st hid
    exact ⟨g, rc, h1, h2, by rw [hold g (Array.getElem?_eq_some_iff.1 h3).1]; exact h3⟩
theorem RelM.other (hM : RelM P G w0 μ φ m w) {g : Nat} (o : Obj) (hg : w0.heap.size ≤ g) (hμ : μ g = none) (hno : ∀ id b, m id = some b → (φ id).g ≠ some g) : RelM P G w0 μ φ m (w.putObj g o) := by
  have hoth : ∀ k, k ≠ g → (w.putObj g o).heap[k]? = w.heap[k]? := fun k hk => World.putObj_heap_other hk
  refine ⟨hM.below.trans ((Bel.putObj w g o).mono hg), fun b o' hb => ?_, hM.glob, fun id b hid => ?_, hM.own, hM.inj, hM.liveB, hM.base, hM.keep, fun id st hid => ?_⟩
  · rw [hoth b fun e => by subst e; rw [hμ] at hb; cases hb]; exact hM.ro b o' hb
  · have hR := hM.blk id b hid
    exact hR.stable (fun _ _ => rfl) rfl (fun _ _ h => h) (fun g' hg' => hoth g' fun e => by subst e; exact hno id b hid hg')
  · obtain ⟨g', rc, h1, h2, h3⟩ := hM.lps id st hid
    exact ⟨g', rc, h1, h2, by rw [hoth g' fun e => by subst e; exact hno id _ hid h1]; exact h3⟩
theorem RelM.turn (hM : RelM P G w0 μ φ m w) {id g : Nat} {st st' : LSt} {rc : Loop} (hm : m id = some (.loop st)) (hg : (φ id).g = some g) (hrc : w0.rc id = some (g, rc)) : RelM P G w0 μ φ (memSet m id (.loop st')) (w.putObj g (.loop (st'.obj rc))) := by
  have hlt := (hM.blk id _ hm).glt hg
  have hnew : (w.putObj g (.loop (st'.obj rc))).heap[g]? = some (.loop (st'.obj rc)) := World.putObj_heap_same hlt
  exact hM.write hm rfl hg (Bel.putObj w g _) (by simp) (fun k hk => World.putObj_heap_other hk) ⟨g, rc, hg, hnew⟩ rfl (by simp [Blk.names]) fun s hs => by
    cases hs; exact ⟨rc, hrc, hnew⟩
end

section
variable {P : Program} {μ : Ro} {φ : Nat → Phys}
theorem setPs_rep {nt : Nat} : ∀ (ps : List Nat) (args : List V) (xs : List Value) (f : Fr) (tmps : Array Value), tmps.size = nt → args.length = xs.length → (∀ t, t < nt → RepV P μ φ (f t) (tmps.getD t undef)) → (∀ (i : Nat) v x, args[i]? = some v → xs[i]? = some x → RepV P μ φ v x) →
    ((ps.zip xs).foldl (fun tmps (x : Nat × Value) => tmps.setIfInBounds x.1 x.2) tmps).size = nt ∧ ∀ t, t < nt → RepV P μ φ (setPs ps args f t) (((ps.zip xs).foldl (fun tmps (x : Nat × Value) => tmps.setIfInBounds x.1 x.2) tmps).getD t undef)
  | [], args, xs, f, tmps, hs, _, hf, _ => by cases args <;> exact ⟨hs, hf⟩
  | p :: ps, [], xs, f, tmps, hs, hl, hf, _ => by
    have : xs = [] := List.eq_nil_of_length_eq_zero (by simpa using hl.symm)
    subst this
    exact ⟨hs, hf⟩
  | p :: ps, v :: args, [], f, tmps, hs, hl, hf, _ => by simp at hl
  | p :: ps, v :: args, x :: xs, f, tmps, hs, hl, hf, hr => by
    simp only [List.zip_cons_cons, List.foldl_cons, setPs]
    refine setPs_rep ps args xs (frSet f p v) (tmps.setIfInBounds p x) (by simpa using hs) (by simpa using hl) (fun t ht => ?_) (fun i u y hu hy => hr (i + 1) u y (by simpa using hu) (by simpa using hy))
    by_cases e : t = p
    · subst e
      rw [frSet_same]
      have : (tmps.setIfInBounds t x).getD t undef = x := by
        rw [Array.getD_eq_getD_getElem?, Array.getElem?_setIfInBounds]
        simp [show t < tmps.size by omega]
      rw [this]
      exact hr 0 v x rfl rfl
    · rw [frSet_ne e]
      have : (tmps.setIfInBounds p x).getD t undef = tmps.getD t undef := by
        rw [Array.getD_eq_getD_getElem?, Array.getD_eq_getD_getElem?, Array.getElem?_setIfInBounds, if_neg (fun h => e h.symm)]
      rw [this]; exact hf t ht
theorem setPs_live {id : Nat} : ∀ (ps : List Nat) (args : List V) (f : Fr) (t : Nat), (setPs ps args f t).has id = true → hasL id args = true ∨ (f t).has id = true
  | [], args, f, t, h => by cases args <;> exact .inr h
  | p :: ps, [], f, t, h => .inr h
  | p :: ps, v :: args, f, t, h => by
    simp only [setPs] at h
    rcases setPs_live ps args _ t h with h | h
    · exact .inl (by simp [hasL, h])
    · by_cases e : t = p
      · subst e; rw [frSet_same] at h; exact .inl (by simp [hasL, h])
      · rw [frSet_ne e] at h; exact .inr h
theorem zip_fold (ps : Array Nat) (xs : Array Value) (tmps : Array Value) : (ps.zip xs).foldl (fun tmps (t, a) => tmps.setIfInBounds t a) tmps = (ps.toList.zip xs.toList).foldl (fun tmps (x : Nat × Value) => tmps.setIfInBounds x.1 x.2) tmps := by
  rw [← Array.foldl_toList, Array.toList_zip]
end
end Go.Ab
