/- The abstract operations are right, sixth part: new places, zero values, boxes, stores. -/
import Derived.Test.YtnbhhepiekhbjaaGreatAbMem
import Derived.Great.BuildSlice
import Derived.Laws.AppendOwn
set_option linter.unusedVariables false
namespace Go.Ab
open Go.RowKit (Below)

structure FrOk (P : Program) (μ : Ro) (φ : Nat → Phys) (m : Mem) (f : Fr) (ρ : Nat → Value) : Prop where
  fr : ∀ t, RepV P μ φ (f t) (ρ t)
  live : ∀ t id, (f t).has id = true → (m id).isSome = true

section
variable {P : Program} {G : Nat → Option (List PV)} {w0 : Base} {μ μ' : Ro} {φ φ' : Nat → Phys} {m m' : Mem} {w w' : World} {f : Fr} {ρ : Nat → Value}

theorem FrOk.mono (h : FrOk P μ φ m f ρ) (hμ : ∀ b o, μ b = some o → μ' b = some o) (hφ : ∀ id, (m id).isSome = true → φ' id = φ id ∧ (m' id).isSome = true) : FrOk P μ' φ' m' f ρ :=
  ⟨fun t => (h.fr t).mono hμ fun id hid => (hφ id (h.live t id hid)).1, fun t id hid => (hφ id (h.live t id hid)).2⟩

theorem forget_some {id j : Nat} {b : Blk} (h : memDel (killM id m) id j = some b) : j ≠ id ∧ ∃ b', m j = some b' ∧ b = killB id b' := by
  by_cases e : j = id
  · subst e; simp at h
  · rw [memDel_ne e] at h; exact ⟨e, killM_some h⟩
theorem forget_isSome {id j : Nat} (h : j ≠ id) (hm : (m j).isSome = true) : (memDel (killM id m) id j).isSome = true := by
  obtain ⟨b, hb⟩ := Option.isSome_iff_exists.1 hm
  rw [memDel_ne h]; simp [killM, hb]
theorem FrOk.forget (h : FrOk P μ φ m f ρ) (id : Nat) : FrOk P μ φ (memDel (killM id m) id) (killF id f) ρ := by
  refine ⟨fun t => (h.fr t).kill id, fun t j hj => ?_⟩
  obtain ⟨h1, h2⟩ := has_kill hj
  exact forget_isSome h2 (h.live t j h1)
theorem RelM.put (hM : RelM P G w0 μ φ m w) {site : Nat} {b : Blk} {ph : Phys} (hs : m site = none) (hbel : Bel w0.heap.size w w') (hro : ∀ k o, μ k = some o → w'.heap[k]? = some o)
    (hold : ∀ id b' g, m id = some b' → (φ id).g = some g → w'.heap[g]? = w.heap[g]?) (hown : ∀ g, ph.g = some g → w0.heap.size ≤ g ∧ μ g = none ∧ ∀ id b', m id = some b' → (φ id).g ≠ some g)
    (hB : RepB P μ (fun i => if i = site then ph else φ i) w' site b) (hn : ∀ id, b.names id = true → (m id).isSome = true)
    (hlp : ∀ st, b = .loop st → ∃ g rc, ph.g = some g ∧ w0.rc site = some (g, rc) ∧ w'.heap[g]? = some (.loop (st.obj rc))) :
    RelM P G w0 μ (fun i => if i = site then ph else φ i) (memSet m site b) w' := by
  refine ⟨hM.below.trans hbel, hro, hM.glob, fun id b' hid => ?_, fun id b' g hid hg => ?_, fun id1 id2 b1 b2 g h1 h2 g1 g2 => ?_, fun j cs id hj hh => ?_, hM.base, hM.keep, fun id st hid => ?_⟩
  rotate_right
  · by_cases h : id = site
    · subst h; rw [memSet_same] at hid; simp only [Option.some.injEq] at hid
      obtain ⟨g, rc, h1, h2, h3⟩ := hlp st hid
      exact ⟨g, rc, by simp [h1], h2, h3⟩
    · rw [memSet_ne h] at hid
      obtain ⟨g, rc, h1, h2, h3⟩ := hM.lps id st hid
      exact ⟨g, rc, by simp only [h, if_false]; exact h1, h2, by rw [hold id _ g hid h1]; exact h3⟩
  · by_cases h : id = site
    · subst h; rw [memSet_same] at hid; simp only [Option.some.injEq] at hid; subst hid; exact hB
    · rw [memSet_ne h] at hid
      have hR := hM.blk id b' hid
      refine hR.stable (fun j hj => ?_) (by simp [h]) (fun _ _ h => h) (fun g hg => hold id b' g hid hg)
      have := hM.names_live hid hj
      have : j ≠ site := fun e => by subst e; rw [hs] at this; cases this
      simp [this]
  · by_cases h : id = site
    · subst h; simp only [if_true] at hg
      exact ⟨(hown g hg).1, fun _ => (hown g hg).2.1⟩
    · rw [memSet_ne h] at hid; simp only [h, if_false] at hg; exact hM.own id b' g hid hg
  · by_cases e1 : id1 = site
    · by_cases e2 : id2 = site
      · rw [e1, e2]
      · exfalso
        subst e1; simp only [if_true] at g1
        rw [memSet_ne e2] at h2; simp only [e2, if_false] at g2
        exact (hown g g1).2.2 id2 b2 h2 g2
    · by_cases e2 : id2 = site
      · exfalso
        subst e2; simp only [if_true] at g2
        rw [memSet_ne e1] at h1; simp only [e1, if_false] at g1
        exact (hown g g2).2.2 id1 b1 h1 g1
      · rw [memSet_ne e1] at h1; rw [memSet_ne e2] at h2; simp only [e1, if_false] at g1; simp only [e2, if_false] at g2
        exact hM.inj id1 id2 b1 b2 g h1 h2 g1 g2
  · by_cases e : id = site
    · subst e; simp
    · rw [memSet_ne e]
      by_cases h : j = site
      · subst h; rw [memSet_same] at hj; simp only [Option.some.injEq] at hj; subst hj
        exact hn id hh
      · rw [memSet_ne h] at hj; exact hM.liveB j cs id hj hh
end

section
variable {R : Type} {E : Env}
structure PutOk (P : Program) (w0 : Base) (μ : Ro) (φ : Nat → Phys) (m : Mem) (w w' : World) (site : Nat) (b : Blk) (ph : Phys) : Prop where
  below : Bel w0.heap.size w w'
  ro : ∀ k o, μ k = some o → w'.heap[k]? = some o
  old : ∀ id b' g, m id = some b' → (φ id).g = some g → w'.heap[g]? = w.heap[g]?
  own : ∀ g, ph.g = some g → w0.heap.size ≤ g ∧ μ g = none ∧ ∀ id b', m id = some b' → (φ id).g ≠ some g
  rep : ∀ φ', φ' site = ph → (∀ id, b.names id = true → φ' id = φ id) → RepB P μ φ' w' site b
  names : ∀ id, b.names id = true → (m id).isSome = true
  lp : ∀ st, b = .loop st → ∃ g rc, ph.g = some g ∧ w0.rc site = some (g, rc) ∧ w'.heap[g]? = some (.loop (st.obj rc)) := by intro st h; cases h

theorem fresh_ok {draw : Bool} {site : Nat} {b : Blk} {f : Fr} {m : Mem} {k : Fr → Mem → Foot → Option R} {r : R} (h : fresh draw site b f m k = some r) :
    ∃ f' m', (∀ (R' : Type) (k' : Fr → Mem → Foot → Option R'), fresh draw site b f m k' = k' f' m' [(true, site)]) ∧ k f' m' [(true, site)] = some r ∧ m' site = some b ∧
    (draw = true → m site = none ∧ f' = f ∧ m' = memSet m site b) ∧
    (∀ (P : Program) (G : Nat → Option (List PV)) (w0 : Base) (μ : Ro) (φ : Nat → Phys) (w w' : World) (ρ : Nat → Value) (ph : Phys), RelM P G w0 μ φ m w → FrOk P μ φ m f ρ → PutOk P w0 μ φ m w w' site b ph →
      ∃ φ', φ' site = ph ∧ RelM P G w0 μ φ' m' w' ∧ FrOk P μ φ' m' f' ρ) := by
  unfold fresh at h
  cases hs : m site with
  | none =>
    simp only [hs] at h
    refine ⟨f, memSet m site b, fun R' k' => by simp only [fresh, hs], h, by simp, fun _ => ⟨rfl, rfl, rfl⟩, fun P G w0 μ φ w w' ρ ph hM hF hp => ?_⟩
    have hns : ∀ id, (m id).isSome = true → id ≠ site := fun id hid e => by subst e; rw [hs] at hid; cases hid
    refine ⟨fun i => if i = site then ph else φ i, by simp, hM.put hs hp.below hp.ro hp.old hp.own (hp.rep _ (by simp) fun id hid => by simp [hns id (hp.names id hid)]) hp.names hp.lp, ?_⟩
    exact hF.mono (fun _ _ h => h) fun id hid => ⟨by simp [hns id hid], by rw [memSet_ne (hns id hid)]; exact hid⟩
  | some b0 =>
    simp only [hs] at h
    split at h
    · cases h
    · rename_i hc
      simp only [Bool.or_eq_true, not_or, Bool.not_eq_true] at hc
      refine ⟨killF site f, memSet (killM site m) site b, fun R' k' => by simp only [fresh, hs]; simp [hc], h, by simp, fun hd => (by rw [hc.1] at hd; cases hd), fun P G w0 μ φ w w' ρ ph hM hF hp => ?_⟩
      have hM1 := hM.forget site
      have hF1 := hF.forget site
      have hs1 : memDel (killM site m) site site = none := by simp
      have hns : ∀ id, (memDel (killM site m) site id).isSome = true → id ≠ site := fun id hid e => by subst e; simp at hid
      have hnm : ∀ id, b.names id = true → id ≠ site := fun id hid e => by subst e; rw [hc.2] at hid; cases hid
      refine ⟨fun i => if i = site then ph else φ i, by simp, ?_, ?_⟩
      · rw [← memSet_forget]
        refine hM1.put hs1 hp.below hp.ro (fun id b' g hid hg => ?_) (fun g hg => ?_) (hp.rep _ (by simp) fun id hid => by simp [hnm id hid]) (fun id hid => forget_isSome (hnm id hid) (hp.names id hid)) hp.lp
        · obtain ⟨_, b2, hb2, _⟩ := forget_some hid
          exact hp.old id b2 g hb2 hg
        · obtain ⟨h1, h2, h3⟩ := hp.own g hg
          refine ⟨h1, h2, fun id b' hid => ?_⟩
          obtain ⟨_, b2, hb2, _⟩ := forget_some hid
          exact h3 id b2 hb2
      · rw [← memSet_forget]
        exact hF1.mono (fun _ _ h => h) fun id hid => ⟨by simp [hns id hid], by rw [memSet_ne (hns id hid)]; exact hid⟩
theorem PutOk.alloc {P : Program} {G : Nat → Option (List PV)} {w0 : Base} {μ : Ro} {φ : Nat → Phys} {m : Mem} {w : World} {site : Nat} {b : Blk} {ph : Phys} {o : Obj} (hM : RelM P G w0 μ φ m w) (hph : ph.g = some w.heap.size)
    (rep : ∀ φ', φ' site = ph → (∀ id, b.names id = true → φ' id = φ id) → RepB P μ φ' (w.alloc o) site b) (names : ∀ id, b.names id = true → (m id).isSome = true)
    (lp : ∀ st, b = .loop st → ∃ g rc, ph.g = some g ∧ w0.rc site = some (g, rc) ∧ (w.alloc o).heap[g]? = some (.loop (st.obj rc)) := by intro st h; cases h) : PutOk P w0 μ φ m w (w.alloc o) site b ph := by
  have hsz : w0.heap.size ≤ w.heap.size := hM.below.size
  refine ⟨(Bel.refl _ w).alloc hsz o, fun k o' hk => ?_, fun id b' g hid hg => Bel.heap_alloc w o g ((hM.blk id b' hid).glt hg), fun g hg => ?_, rep, names, lp⟩
  · have := hM.ro k o' hk
    rw [Bel.heap_alloc w o k (Array.getElem?_eq_some_iff.1 this).1]; exact this
  · rw [hph] at hg; simp only [Option.some.injEq] at hg; subst hg
    refine ⟨hsz, ?_, fun id b' hid hg => ?_⟩
    · cases hq : μ w.heap.size with
      | none => rfl
      | some o' => have := hM.ro _ _ hq; simp at this
    · have := (hM.blk id b' hid).glt hg; omega

theorem alloc_new (w : World) (o : Obj) : (w.alloc o).heap[w.heap.size]? = some o := heap_alloc_new w o
theorem zeroCellsV_ok {t : TypeId} {cs : List V} (h : zeroCellsV E t = some cs) : ∃ i z, E.P.info? t = some i ∧ i.zero = some z ∧ i.size = csz E.P t ∧ cs.length = csz E.P t ∧ z.cells.size = csz E.P t ∧ (∀ id, hasL id cs = false) ∧
    (∀ (μ : Ro) (φ : Nat → Phys) (i : Nat) u y, cs[i]? = some u → z.cells[i]? = some y → RepV E.P μ φ u y) ∧ (∀ (i : Nat) (y : Value), z.cells[i]? = some y → y.oneCell' = true) := by
  unfold zeroCellsV zeroV at h
  cases hi : E.P.info? t with
  | none => simp [hi] at h
  | some i =>
    cases hz : i.zero with
    | none => simp [hi, hz] at h
    | some z =>
      simp only [hi, hz, Option.bind_some, Option.map_some] at h
      obtain ⟨h1, h2, h3⟩ := toCells_ok h
      obtain ⟨h4, _, h6⟩ := h3 E.P (fun _ => none) (fun _ => default) z (ofVal_rep z)
      refine ⟨i, z, rfl, hz, by simp [csz, hi], h1, h4, fun id => ?_, fun μ φ i u y hu hy => (h3 E.P μ φ z (ofVal_rep z)).2.1 i u y hu hy, h6⟩
      cases hh : hasL id cs with
      | false => rfl
      | true => have := h2 id hh; rw [ofVal_has] at this; cases this
theorem run_zeroValue {P : Program} {t : TypeId} {i : TypeInfo} {z : Value} {w : World} (hi : P.info? t = some i) (hz : i.zero = some z) : (zeroValue t).run P w = .ok z w := by
  simp [zeroValue, typeInfo, hi, hz]

theorem run_alloc {P : Program} {t : TypeId} {i : TypeInfo} {z : Value} {w : World} (hi : P.info? t = some i) (hz : i.zero = some z) :
    (Instr.alloc t true (.tuple #[])).run P w = .ok (.pointer (some ⟨w.heap.size, 0, none⟩)) (w.alloc (.cells z.cells t)) := by
  simp [Instr.alloc, run_zeroValue hi hz, newVar, newRow]
theorem run_box {P : Program} {t : TypeId} {v : Value} {w : World} :
    (Instr.box t v).run P w = .ok (.pointer (some ⟨w.heap.size, 0, none⟩)) (w.alloc (.cells v.cells t)) := by
  simp [Instr.box, newVar, newRow]
theorem PutOk.box {P : Program} {G : Nat → Option (List PV)} {w0 : Base} {μ : Ro} {φ : Nat → Phys} {m : Mem} {w : World} {site : Nat} {cs : List V} {c : Array Value} {T : TypeId} (hM : RelM P G w0 μ φ m w)
    (hl : c.size = cs.length) (hv : ∀ (i : Nat) u y, cs[i]? = some u → c[i]? = some y → RepV P μ φ u y) (h1 : ∀ (i : Nat) (y : Value), c[i]? = some y → y.oneCell' = true) (hn : ∀ id, hasL id cs = true → (m id).isSome = true) :
    PutOk P w0 μ φ m w (w.alloc (.cells c T)) site (.box cs) ⟨some w.heap.size, 0, cs.length, 0⟩ := by
  refine PutOk.alloc hM (by rfl) (fun φ' hφ hn' => ⟨w.heap.size, c, T, by rw [hφ], alloc_new w _, hl, fun i u y hu hy => ?_, h1, by rw [hφ]⟩) hn
  exact (hv i u y hu hy).mono (fun _ _ h => h) fun id hid => hn' id (hasL_mem (List.mem_of_getElem? hu) hid)

theorem info_of_und' {P : Program} {t : TypeId} (h : csz P t ≠ 0) : (P.info? t).map (·.size) = some (csz P t) := by
  obtain ⟨i, hi, hs⟩ := csz_und h
  simp [hi, hs]
theorem splice_get {T : Type} {cs new : List T} {off i : Nat} {x : T} (hb : off + new.length ≤ cs.length) (h : (splice cs off new)[i]? = some x) :
    (off ≤ i ∧ i < off + new.length ∧ new[i - off]? = some x) ∨ ((i < off ∨ off + new.length ≤ i) ∧ cs[i]? = some x) := by
  rw [splice_eq] at h
  rw [List.append_assoc, List.getElem?_append] at h
  have ht : (cs.take off).length = off := by simp; omega
  rw [ht] at h
  split at h
  · rename_i hi
    exact .inr ⟨.inl hi, (take_get h).2⟩
  · rw [List.getElem?_append] at h
    split at h
    · exact .inl ⟨by omega, by omega, h⟩
    · rw [List.getElem?_drop] at h
      refine .inr ⟨.inr (by omega), ?_⟩
      rw [← h]; congr 1; omega
theorem splice_length {T : Type} {cs new : List T} {off : Nat} (hb : off + new.length ≤ cs.length) : (splice cs off new).length = cs.length := by
  simp [splice_eq]; omega

theorem run_storeVar_at {P : Program} {w : World} {t : TypeId} {v : Value} {g o : Nat} {c : Array Value} {T : TypeId} (hz : v.cells.size = csz P t) (hi : (P.info? t).map (·.size) = some (csz P t)) (hg : w.heap[g]? = some (.cells c T (0, 0))) (hb : o + v.cells.size ≤ c.size)
    (h1 : ∀ (i : Nat) (y : Value), v.cells[i]? = some y → y.oneCell' = true) :
    (Instr.storeAt t (.pointer (some ⟨g, o, none⟩)) v).run P w = .ok () (w.setRow g (splice c.toList o v.cells.toList).toArray) := by
  have hst := run_storeCells_at P g o T v.cells.toList 0 c w hg (by simpa using hb) (fun x hx => by
    obtain ⟨i, hi⟩ := List.getElem?_of_mem hx
    exact h1 i x (by simpa using hi))
  have hsz : (sizeOf t).run P w = .ok (csz P t) w := by
    cases hq : P.info? t with
    | none => simp [hq] at hi
    | some i => simp [sizeOf, typeInfo, hq, csz]
  simp only [Instr.storeAt, Instr.sureAddr, storeVar, Sem.run_bind, Sem.run_pure, Result.andThen_ok, hsz, hz, ne_eq, not_true_eq_false, if_false, hst, Nat.add_zero]
  rw [splice_eq]; try rfl
theorem setRow_heap_ne {w : World} {g k : Nat} {xs : Array Value} (h : k ≠ g) : (w.setRow g xs).heap[k]? = w.heap[k]? := by
  unfold World.setRow
  simp [Array.getElem?_modify, Ne.symm h]
theorem setRow_size {w : World} {g : Nat} {xs : Array Value} : (w.setRow g xs).heap.size = w.heap.size := by
  simp [World.setRow]
theorem Bel.setRow {B : Nat} {w : World} {g : Nat} {xs : Array Value} (h : B ≤ g) : Bel B w (w.setRow g xs) := 
  ⟨⟨rfl, rfl, rfl, Nat.le_of_eq setRow_size.symm, fun k hk => setRow_heap_ne (by omega)⟩, Nat.le_refl _⟩
end
end Go.Ab
