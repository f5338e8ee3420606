/- How the relation between the abstract memory and the model's goes on when memory is made, written, frozen, forgotten. -/
import Derived.Test.YtnbhhepiekhbjaaGreatAbOps5
set_option linter.unusedVariables false
namespace Go.Ab
open Go.RowKit (Below)

section
variable {P : Program} {G : Nat → Option (List PV)} {w0 : Base} {μ μ' : Ro} {φ φ' : Nat → Phys} {m : Mem} {w w' : World}

@[simp] theorem memSet_same (m : Mem) (d : Nat) (b : Blk) : memSet m d b d = some b := by simp [memSet]
theorem memSet_ne {m : Mem} {d t : Nat} {b : Blk} (h : t ≠ d) : memSet m d b t = m t := by
  simp [memSet, cond_eq_ite, h]
@[simp] theorem memDel_same (m : Mem) (d : Nat) : memDel m d d = none := by simp [memDel]
theorem memDel_ne {m : Mem} {d t : Nat} (h : t ≠ d) : memDel m d t = m t := by
  simp [memDel, cond_eq_ite, h]
@[simp] theorem frSet_same (f : Fr) (d : Nat) (v : V) : frSet f d v d = v := by simp [frSet]
theorem frSet_ne {f : Fr} {d t : Nat} {v : V} (h : t ≠ d) : frSet f d v t = f t := by
  simp [frSet, cond_eq_ite, h]

theorem RepArr.stable {id sz : Nat} {et : TypeId} {es : List PV} (h : RepArr P μ φ w id sz et es) (hφ : φ' id = φ id) (hμ : ∀ b o, μ b = some o → μ' b = some o)
    (hw : ∀ g, (φ id).g = some g → w'.heap[g]? = w.heap[g]?) : RepArr P μ' φ' w' id sz et es := by
  obtain ⟨a1, a2, a3, a4, a5, a6, a7⟩ := h
  unfold RepArr
  rw [hφ]
  refine ⟨a1, a2, a3, a4, a5, a6, ?_⟩
  cases hg : (φ id).g with
  | none => rw [hg] at a7; exact a7
  | some g =>
    rw [hg] at a7
    obtain ⟨c, c1, c2, c3, c4, c5⟩ := a7
    exact ⟨c, by rw [hw g hg]; exact c1, c2, c3, fun i e j p x h1 h2 h3 => (c4 i e j p x h1 h2 h3).mono hμ, c5⟩

theorem RepB.stable {id : Nat} {b : Blk} (h : RepB P μ φ w id b) (hn : ∀ j, b.names j = true → φ' j = φ j) (hφ : φ' id = φ id) (hμ : ∀ b o, μ b = some o → μ' b = some o)
    (hw : ∀ g, (φ id).g = some g → w'.heap[g]? = w.heap[g]?) : RepB P μ' φ' w' id b := by
  cases b with
  | box cs =>
    obtain ⟨g, c, T, hg, hh, hs, hv, h1, hln⟩ := h
    exact ⟨g, c, T, by rw [hφ]; exact hg, by rw [hw g hg]; exact hh, hs, fun i v x hi hx => (hv i v x hi hx).mono hμ (fun j hj => hn j (hasL_mem (List.mem_of_getElem? hi) hj)), h1, by rw [hφ]; exact hln⟩
  | arr sz et es => exact RepArr.stable h hφ hμ hw
  | fro sz et es =>
    refine ⟨RepArr.stable h.1 hφ hμ hw, fun g hg => ?_⟩
    rw [hφ] at hg
    have := h.2 g hg
    obtain ⟨o, ho⟩ := Option.isSome_iff_exists.1 this
    rw [hμ _ _ ho]; rfl
  | map kt es =>
    obtain ⟨g, en, clock, kk, hg, hh, hs, hk, hc, hv⟩ := h
    exact ⟨g, en, clock, kk, by rw [hφ]; exact hg, by rw [hw g hg]; exact hh, hs, hk, hc, fun i k v e h1 h2 => ⟨(hv i k v e h1 h2).1.mono hμ, (hv i k v e h1 h2).2.mono hμ⟩⟩
  | loop st =>
    obtain ⟨g, rc, hg, hh⟩ := h
    exact ⟨g, rc, by rw [hφ]; exact hg, by rw [hw g hg]; exact hh⟩

theorem RepB.glt {id g : Nat} {b : Blk} (h : RepB P μ φ w id b) (hg : (φ id).g = some g) : g < w.heap.size := by
  have key : ∀ o, w.heap[g]? = some o → g < w.heap.size := fun o ho => (Array.getElem?_eq_some_iff.1 ho).1
  cases b with
  | box cs =>
    obtain ⟨g', c, T, hg', hh, _⟩ := h
    rw [hg] at hg'; simp only [Option.some.injEq] at hg'; subst hg'
    exact key _ hh
  | arr sz et es =>
    obtain ⟨_, _, _, _, _, _, a7⟩ := h
    rw [hg] at a7; obtain ⟨c, c1, _⟩ := a7; exact key _ c1
  | fro sz et es =>
    obtain ⟨⟨_, _, _, _, _, _, a7⟩, _⟩ := h
    rw [hg] at a7; obtain ⟨c, c1, _⟩ := a7; exact key _ c1
  | map kt es =>
    obtain ⟨g', en, clock, kk, hg', hh, _⟩ := h
    rw [hg] at hg'; simp only [Option.some.injEq] at hg'; subst hg'
    exact key _ hh
  | loop st =>
    obtain ⟨g', rc, hg', hh⟩ := h
    rw [hg] at hg'; simp only [Option.some.injEq] at hg'; subst hg'
    exact key _ hh

theorem RelM.names_live (hM : RelM P G w0 μ φ m w) {j : Nat} {b : Blk} (hm : m j = some b) {id : Nat} (hn : b.names id = true) : (m id).isSome = true := by
  cases b with
  | box cs => exact hM.liveB j cs id hm hn
  | _ => simp [Blk.names] at hn
theorem RelM.alloc (hM : RelM P G w0 μ φ m w) {site : Nat} {b : Blk} {o : Obj} {ph : Phys} (hs : m site = none) (hph : ph.g = some w.heap.size)
    (hB : RepB P μ (fun i => if i = site then ph else φ i) (w.alloc o) site b) (hn : ∀ id, b.names id = true → id = site ∨ (m id).isSome = true)
    (hlp : ∀ st, b = .loop st → ∃ rc, w0.rc site = some (w.heap.size, rc) ∧ o = .loop (st.obj rc) := by intro st h; cases h) :
    RelM P G w0 μ (fun i => if i = site then ph else φ i) (memSet m site b) (w.alloc o) := by
  have hold : ∀ k, k < w.heap.size → (w.alloc o).heap[k]? = w.heap[k]? := fun k hk => Bel.heap_alloc w o k hk
  have hb0 := hM.below.size
  refine ⟨hM.below.alloc hM.below.size o, fun b' o' hb => ?_, hM.glob, fun id b' hid => ?_, fun id b' g hid hg => ?_, fun id1 id2 b1 b2 g h1 h2 g1 g2 => ?_, fun j cs id hj hh => ?_, hM.base, hM.keep, fun id st hid => ?_⟩
  rotate_right
  · by_cases h : id = site
    · subst h; rw [memSet_same] at hid; simp only [Option.some.injEq] at hid
      obtain ⟨rc, h1, h2⟩ := hlp st hid
      subst h2
      exact ⟨w.heap.size, rc, by simp [hph], h1, by show (w.heap.push _)[w.heap.size]? = _; simp⟩
    · rw [memSet_ne h] at hid
      obtain ⟨g, rc, h1, h2, h3⟩ := hM.lps id st hid
      exact ⟨g, rc, by simp only [h, if_false]; exact h1, h2, by rw [hold g (Array.getElem?_eq_some_iff.1 h3).1]; exact h3⟩
  · have := hM.ro _ _ hb
    rw [hold _ (Array.getElem?_eq_some_iff.1 this).1]; exact this
  · by_cases h : id = site
    · subst h; rw [memSet_same] at hid; simp only [Option.some.injEq] at hid; subst hid; exact hB
    · rw [memSet_ne h] at hid
      have hR := hM.blk id b' hid
      refine hR.stable (fun j hj => ?_) (by simp [h]) (fun _ _ h => h) (fun g hg => hold g (hR.glt hg))
      have := hM.names_live hid hj
      have : j ≠ site := fun e => by subst e; rw [hs] at this; cases this
      simp [this]
  · by_cases h : id = site
    · subst h; simp only [if_true] at hg; rw [hph] at hg; simp only [Option.some.injEq] at hg; subst hg
      refine ⟨hM.below.size, fun _ => ?_⟩
      cases hq : μ w.heap.size with
      | none => rfl
      | some o' => have := hM.ro _ _ hq; simp at this
    · rw [memSet_ne h] at hid; simp only [h, if_false] at hg; exact hM.own id b' g hid hg
  · by_cases e1 : id1 = site
    · by_cases e2 : id2 = site
      · rw [e1, e2]
      · exfalso
        subst e1; simp only [if_true] at g1; rw [hph] at g1; simp only [Option.some.injEq] at g1; subst g1
        rw [memSet_ne e2] at h2; simp only [e2, if_false] at g2
        have := (hM.blk id2 b2 h2).glt g2
        omega
    · by_cases e2 : id2 = site
      · exfalso
        subst e2; simp only [if_true] at g2; rw [hph] at g2; simp only [Option.some.injEq] at g2; subst g2
        rw [memSet_ne e1] at h1; simp only [e1, if_false] at g1
        have := (hM.blk id1 b1 h1).glt g1
        omega
      · rw [memSet_ne e1] at h1; rw [memSet_ne e2] at h2; simp only [e1, if_false] at g1; simp only [e2, if_false] at g2
        exact hM.inj id1 id2 b1 b2 g h1 h2 g1 g2
  · by_cases e : id = site
    · subst e; simp
    · rw [memSet_ne e]
      by_cases h : j = site
      · subst h; rw [memSet_same] at hj; simp only [Option.some.injEq] at hj; subst hj
        exact (hn id hh).resolve_left e
      · rw [memSet_ne h] at hj; exact hM.liveB j cs id hj hh
theorem RelM.allocNil (hM : RelM P G w0 μ φ m w) {site : Nat} {b : Blk} {ph : Phys} (hs : m site = none) (hph : ph.g = none)
    (hB : RepB P μ (fun i => if i = site then ph else φ i) w site b) (hn : ∀ id, b.names id = false) :
    RelM P G w0 μ (fun i => if i = site then ph else φ i) (memSet m site b) w := by
  refine ⟨hM.below, hM.ro, hM.glob, fun id b' hid => ?_, fun id b' g hid hg => ?_, fun id1 id2 b1 b2 g h1 h2 g1 g2 => ?_, fun j cs id hj hh => ?_, hM.base, hM.keep, fun id st hid => ?_⟩
  rotate_right
  · by_cases h : id = site
    · subst h; rw [memSet_same] at hid; simp only [Option.some.injEq] at hid; subst hid
      obtain ⟨g, rc, hg, _⟩ := hB
      simp only [if_true] at hg; rw [hph] at hg; cases hg
    · rw [memSet_ne h] at hid
      obtain ⟨g, rc, h1, h2, h3⟩ := hM.lps id st hid
      exact ⟨g, rc, by simp only [h, if_false]; exact h1, h2, h3⟩
  · by_cases h : id = site
    · subst h; rw [memSet_same] at hid; simp only [Option.some.injEq] at hid; subst hid; exact hB
    · rw [memSet_ne h] at hid
      have hR := hM.blk id b' hid
      refine hR.stable (fun j hj => ?_) (by simp [h]) (fun _ _ h => h) (fun g hg => rfl)
      have := hM.names_live hid hj
      have : j ≠ site := fun e => by subst e; rw [hs] at this; cases this
      simp [this]
  · by_cases h : id = site
    · subst h; simp only [if_true] at hg; rw [hph] at hg; cases hg
    · rw [memSet_ne h] at hid; simp only [h, if_false] at hg; exact hM.own id b' g hid hg
  · by_cases e1 : id1 = site
    · subst e1; simp only [if_true] at g1; rw [hph] at g1; cases g1
    · by_cases e2 : id2 = site
      · subst e2; simp only [if_true] at g2; rw [hph] at g2; cases g2
      · rw [memSet_ne e1] at h1; rw [memSet_ne e2] at h2; simp only [e1, if_false] at g1; simp only [e2, if_false] at g2
        exact hM.inj id1 id2 b1 b2 g h1 h2 g1 g2
  · by_cases e : id = site
    · subst e; simp
    · rw [memSet_ne e]
      by_cases h : j = site
      · subst h; rw [memSet_same] at hj; simp only [Option.some.injEq] at hj; subst hj
        have := hn id; simp only [Blk.names] at this; rw [this] at hh; cases hh
      · rw [memSet_ne h] at hj; exact hM.liveB j cs id hj hh

theorem hasL_kill {id j : Nat} {cs : List V} (h : hasL j (cs.map (killV id)) = true) : hasL j cs = true ∧ j ≠ id := by
  obtain ⟨v, hv, hh⟩ := hasL_iff.1 h
  obtain ⟨u, hu, rfl⟩ := List.mem_map.1 hv
  obtain ⟨h1, h2⟩ := has_kill hh
  exact ⟨hasL_mem hu h1, h2⟩
theorem RepB.kill {id j : Nat} {b : Blk} (h : RepB P μ φ w j b) : RepB P μ φ w j (killB id b) := by
  cases b with
  | box cs =>
    obtain ⟨g, c, T, hg, hh, hs, hv, h1, hln⟩ := h
    refine ⟨g, c, T, hg, hh, by simpa using hs, fun i v x hi hx => ?_, h1, by simpa using hln⟩
    simp only [List.getElem?_map, Option.map_eq_some_iff] at hi
    obtain ⟨u, hu, rfl⟩ := hi
    exact (hv i u x hu hx).kill id
  | _ => exact h
theorem killM_some {id j : Nat} {b : Blk} (h : killM id m j = some b) : ∃ b', m j = some b' ∧ b = killB id b' := by
  unfold killM at h
  cases hm : m j with
  | none => rw [hm] at h; cases h
  | some b' => rw [hm] at h; simp only [Option.some.injEq] at h; exact ⟨b', rfl, h.symm⟩
theorem killB_mut (id : Nat) (b : Blk) : (killB id b).mutable = b.mutable := by cases b <;> rfl
theorem RelM.forget (hM : RelM P G w0 μ φ m w) (id : Nat) : RelM P G w0 μ φ (memDel (killM id m) id) w := by
  have key : ∀ j b, memDel (killM id m) id j = some b → j ≠ id ∧ ∃ b', m j = some b' ∧ b = killB id b' := by
    intro j b h
    by_cases e : j = id
    · subst e; simp at h
    · rw [memDel_ne e] at h; exact ⟨e, killM_some h⟩
  refine ⟨hM.below, hM.ro, hM.glob, fun j b h => ?_, fun j b g h hg => ?_, fun i j b1 b2 g h1 h2 g1 g2 => ?_, fun j cs i h hh => ?_, hM.base, hM.keep, fun j st h => ?_⟩
  rotate_right
  · obtain ⟨_, b', hb, e⟩ := key j _ h
    cases b' with
    | loop st' =>
      simp only [killB, Blk.loop.injEq] at e; subst e
      exact hM.lps j st hb
    | _ => simp [killB] at e
  · obtain ⟨_, b', hb, rfl⟩ := key j b h; exact (hM.blk j b' hb).kill
  · obtain ⟨_, b', hb, rfl⟩ := key j b h; rw [killB_mut]; exact hM.own j b' g hb hg
  · obtain ⟨_, b1', hb1, rfl⟩ := key i b1 h1
    obtain ⟨_, b2', hb2, rfl⟩ := key j b2 h2
    exact hM.inj i j b1' b2' g hb1 hb2 g1 g2
  · obtain ⟨_, b', hb, e⟩ := key j _ h
    cases b' with
    | box cs' =>
      simp only [killB, Blk.box.injEq] at e; subst e
      obtain ⟨h1, h2⟩ := hasL_kill hh
      have := hM.liveB j cs' i hb h1
      rw [memDel_ne h2]
      obtain ⟨bb, hbb⟩ := Option.isSome_iff_exists.1 this
      simp [killM, hbb]
    | _ => simp [killB] at e
theorem memSet_forget (m : Mem) (id : Nat) (b : Blk) : memSet (memDel m id) id b = memSet m id b := by
  funext t
  by_cases h : t = id
  · subst h; simp
  · rw [memSet_ne h, memSet_ne h, memDel_ne h]
theorem RelM.write (hM : RelM P G w0 μ φ m w) {id g : Nat} {b b' : Blk} (hm : m id = some b) (hmut : b.mutable = true) (hg : (φ id).g = some g)
    (hbel : Bel g w w') (hsize : w'.heap.size = w.heap.size) (hw : ∀ k, k ≠ g → w'.heap[k]? = w.heap[k]?) (hB : RepB P μ φ w' id b') (hmut' : b'.mutable = true) (hn : ∀ j, b'.names j = true → (m j).isSome = true)
    (hlp : ∀ st, b' = .loop st → ∃ rc, w0.rc id = some (g, rc) ∧ w'.heap[g]? = some (.loop (st.obj rc)) := by intro st h; cases h) :
    RelM P G w0 μ φ (memSet m id b') w' := by
  obtain ⟨hown, hμ⟩ := hM.own id b g hm hg
  have hμ := hμ hmut
  refine ⟨hM.below.trans (hbel.mono hown), fun k o hk => ?_, hM.glob, fun j c hj => ?_, fun j c g' hj hg' => ?_, fun i j b1 b2 g' h1 h2 g1 g2 => ?_, fun j cs i hj hh => ?_, hM.base, hM.keep, fun j st hj => ?_⟩
  rotate_right
  · by_cases e : j = id
    · subst e; rw [memSet_same] at hj; simp only [Option.some.injEq] at hj
      obtain ⟨rc, h1, h2⟩ := hlp st hj
      exact ⟨g, rc, hg, h1, h2⟩
    · rw [memSet_ne e] at hj
      obtain ⟨g', rc, h1, h2, h3⟩ := hM.lps j st hj
      exact ⟨g', rc, h1, h2, by rw [hw g' (fun e' => by subst e'; exact e (hM.inj j id _ b g' hj hm h1 hg))]; exact h3⟩
  · have : k ≠ g := fun e => by subst e; rw [hμ] at hk; cases hk
    rw [hw k this]; exact hM.ro k o hk
  · by_cases e : j = id
    · subst e; rw [memSet_same] at hj; simp only [Option.some.injEq] at hj; subst hj; exact hB
    · rw [memSet_ne e] at hj
      refine (hM.blk j c hj).stable (fun _ _ => rfl) rfl (fun _ _ h => h) (fun g' hg' => hw g' (fun e' => ?_))
      subst e'
      exact e (hM.inj j id c b g' hj hm hg' hg)
  · by_cases e : j = id
    · subst e; rw [memSet_same] at hj; simp only [Option.some.injEq] at hj; subst hj
      rw [hg] at hg'; simp only [Option.some.injEq] at hg'; subst hg'
      exact ⟨hown, fun _ => hμ⟩
    · rw [memSet_ne e] at hj; exact hM.own j c g' hj hg'
  · have e1 : ∃ c1, m i = some c1 := by
      by_cases e : i = id
      · subst e; exact ⟨b, hm⟩
      · rw [memSet_ne e] at h1; exact ⟨b1, h1⟩
    have e2 : ∃ c2, m j = some c2 := by
      by_cases e : j = id
      · subst e; exact ⟨b, hm⟩
      · rw [memSet_ne e] at h2; exact ⟨b2, h2⟩
    obtain ⟨c1, e1⟩ := e1; obtain ⟨c2, e2⟩ := e2
    exact hM.inj i j c1 c2 g' e1 e2 g1 g2
  · have : (m i).isSome = true := by
      by_cases e : j = id
      · subst e; rw [memSet_same] at hj; simp only [Option.some.injEq] at hj; subst hj; exact hn i hh
      · rw [memSet_ne e] at hj; exact hM.liveB j cs i hj hh
    by_cases e : i = id
    · subst e; simp
    · rw [memSet_ne e]; exact this
def roAdd (μ : Ro) (w : World) (g : Option Nat) : Ro := fun b => if g = some b then w.heap[b]? else μ b
theorem roAdd_mono (hM : RelM P G w0 μ φ m w) (g : Option Nat) : ∀ b o, μ b = some o → roAdd μ w g b = some o := by
  intro b o hb
  unfold roAdd
  split
  · exact hM.ro b o hb
  · exact hb
theorem RelM.freeze (hM : RelM P G w0 μ φ m w) {id sz : Nat} {et : TypeId} {es : List PV} (hm : m id = some (.arr sz et es)) :
    RelM P G w0 (roAdd μ w (φ id).g) φ (memSet m id (.fro sz et es)) w := by
  have mono := roAdd_mono hM (φ id).g
  refine ⟨hM.below, fun b o hb => ?_, fun g cs hg => (hM.glob g cs hg).mono mono, fun j c hj => ?_, fun j c g' hj hg' => ?_, fun i j b1 b2 g' h1 h2 g1 g2 => ?_, fun j cs i hj hh => ?_, fun b o hb hlt => ?_, fun b o hb => mono b o (hM.keep b o hb), fun j st hj => ?_⟩
  rotate_right
  · by_cases e : j = id
    · subst e; rw [memSet_same] at hj; cases hj
    · rw [memSet_ne e] at hj; exact hM.lps j st hj
  rotate_right
  · unfold roAdd at hb
    split at hb
    · rename_i he; have := (hM.own id _ b hm he).1; omega
    · exact hM.base b o hb hlt
  · unfold roAdd at hb
    split at hb
    · exact hb
    · exact hM.ro b o hb
  · by_cases e : j = id
    · subst e; rw [memSet_same] at hj; simp only [Option.some.injEq] at hj; subst hj
      have hA : RepArr P μ φ w j sz et es := hM.blk j _ hm
      refine ⟨hA.stable rfl mono (fun _ _ => rfl), fun g hg => ?_⟩
      have := RepB.glt (b := .arr sz et es) hA hg
      simp [roAdd, hg, this]
    · rw [memSet_ne e] at hj
      exact (hM.blk j c hj).stable (fun _ _ => rfl) rfl mono (fun _ _ => rfl)
  · by_cases e : j = id
    · subst e; rw [memSet_same] at hj; simp only [Option.some.injEq] at hj; subst hj
      exact ⟨(hM.own j _ g' hm hg').1, by simp [Blk.mutable]⟩
    · rw [memSet_ne e] at hj
      obtain ⟨h1, h2⟩ := hM.own j c g' hj hg'
      refine ⟨h1, fun hmu => ?_⟩
      unfold roAdd
      split
      · rename_i he
        exact absurd (hM.inj j id c _ g' hj hm hg' he) e
      · exact h2 hmu
  · have e1 : ∃ c1, m i = some c1 := by
      by_cases e : i = id
      · subst e; exact ⟨_, hm⟩
      · rw [memSet_ne e] at h1; exact ⟨b1, h1⟩
    have e2 : ∃ c2, m j = some c2 := by
      by_cases e : j = id
      · subst e; exact ⟨_, hm⟩
      · rw [memSet_ne e] at h2; exact ⟨b2, h2⟩
    obtain ⟨c1, e1⟩ := e1; obtain ⟨c2, e2⟩ := e2
    exact hM.inj i j c1 c2 g' e1 e2 g1 g2
  · have : (m i).isSome = true := by
      by_cases e : j = id
      · subst e; rw [memSet_same] at hj; simp at hj
      · rw [memSet_ne e] at hj; exact hM.liveB j cs i hj hh
    by_cases e : i = id
    · subst e; simp
    · rw [memSet_ne e]; exact this
def roFresh (μ : Ro) (w w' : World) : Ro := fun b => if b < w.heap.size then μ b else w'.heap[b]?
theorem roFresh_mono (hM : RelM P G w0 μ φ m w) (w' : World) : ∀ b o, μ b = some o → roFresh μ w w' b = some o := by
  intro b o hb
  have := (Array.getElem?_eq_some_iff.1 (hM.ro b o hb)).1
  simp [roFresh, this, hb]
theorem RelM.called (hM : RelM P G w0 μ φ m w) (hb : Bel w.heap.size w w') : RelM P G w0 (roFresh μ w w') φ m w' := by
  have mono := roFresh_mono hM w'
  refine ⟨hM.below.trans (hb.mono hM.below.size), fun b o h => ?_, fun g cs hg => (hM.glob g cs hg).mono mono, fun id b h => ?_, fun id b g h hg => ?_, hM.inj, hM.liveB, fun b o h hlt => ?_, fun b o hb => mono b o (hM.keep b o hb), fun j st hj => ?_⟩
  rotate_right
  · obtain ⟨g, rc, h1, h2, h3⟩ := hM.lps j st hj
    exact ⟨g, rc, h1, h2, by rw [hb.block g (Array.getElem?_eq_some_iff.1 h3).1]; exact h3⟩
  rotate_right
  · have : w0.heap.size ≤ w.heap.size := hM.below.size; unfold roFresh at h; rw [if_pos (by omega)] at h; exact hM.base b o h hlt
  · unfold roFresh at h
    split at h
    · rename_i hlt; rw [hb.block b hlt]; exact hM.ro b o h
    · exact h
  · have hR := hM.blk id b h
    exact hR.stable (fun _ _ => rfl) rfl mono (fun g hg => hb.block g (hR.glt hg))
  · obtain ⟨h1, h2⟩ := hM.own id b g h hg
    refine ⟨h1, fun hm => ?_⟩
    have := (hM.blk id b h).glt hg
    simp [roFresh, this, h2 hm]
def roBut (μ : Ro) (g : Option Nat) : Ro := fun b => if g = some b then none else μ b
theorem roBut_le {μ : Ro} {g : Option Nat} {b : Nat} {o : Obj} (h : roBut μ g b = some o) : μ b = some o := by
  unfold roBut at h
  split at h
  · cases h
  · exact h
theorem roBut_mono (hM : RelM P G w0 μ φ m w) (w' : World) {g : Option Nat} (hg : ∀ b, g = some b → w.heap.size ≤ b) : ∀ b o, μ b = some o → roBut (roFresh μ w w') g b = some o := by
  intro b o hb
  have hlt := (Array.getElem?_eq_some_iff.1 (hM.ro b o hb)).1
  unfold roBut
  rw [if_neg fun e => by have := hg b e; omega]
  exact roFresh_mono hM w' b o hb
theorem RelM.calledBut (hM : RelM P G w0 μ φ m w) (hb : Bel w.heap.size w w') {go : Option Nat} (hgo : ∀ b, go = some b → w.heap.size ≤ b) : RelM P G w0 (roBut (roFresh μ w w') go) φ m w' := by
  have mono := roBut_mono hM w' hgo
  have hC := hM.called hb
  refine ⟨hC.below, fun b o h => hC.ro b o (roBut_le h), fun g cs hg => (hM.glob g cs hg).mono mono, fun id b h => ?_, fun id b g h hg => ?_, hM.inj, hM.liveB, fun b o h hlt => hC.base b o (roBut_le h) hlt, fun b o hb => mono b o (hM.keep b o hb), hC.lps⟩
  · have hR := hM.blk id b h
    exact hR.stable (fun _ _ => rfl) rfl mono (fun g hg => hb.block g (hR.glt hg))
  · obtain ⟨h1, h2⟩ := hC.own id b g h hg
    refine ⟨h1, fun hm => ?_⟩
    unfold roBut
    split
    · rfl
    · exact h2 hm
theorem RelM.drew (hM : RelM P G w0 μ φ m w) : RelM P G w0 μ φ m w.drew :=
  ⟨hM.below.drew, hM.ro, hM.glob, fun id b h => (hM.blk id b h).stable (fun _ _ => rfl) rfl (fun _ _ h => h) (fun _ _ => rfl), hM.own, hM.inj, hM.liveB, hM.base, hM.keep, hM.lps⟩
end
end Go.Ab
