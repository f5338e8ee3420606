/- The abstract operations are right, sixth part: new places, zero values, boxes, stores. -/
import Derived.Test.YtacjfkmonjbcmaaAbP2
import Derived.Great.BuildSlice
import Derived.Laws.AppendOwn
import Derived.Laws.MakeOwn
set_option linter.unusedVariables false
namespace Go.Ab
open Go.RowKit (Below)

structure FrOk (P : Program) (μ : Ro) (φ : Nat → Phys) (m : Mem) (f : Fr) (ρ : Nat → Value) : Prop where
  fr : ∀ t, RepV P μ φ (f t) (ρ t)
  live : ∀ t id, (f t).has id = true → (m id).isSome = true

section
variable {P : Program} {G : Nat → Option (List PV)} {w0 : Base} {μ μ' : Ro} {φ φ' : Nat → Phys} {m m' : Mem} {w w' : World} {f : Fr} {ρ : Nat → Value}

theorem FrOk.mono (h : FrOk P μ φ m f ρ) (hμ : ∀ b o, μ b = some o → μ' b = some o) (hφ : ∀ id, (m id).isSome = true → φ' id = φ id ∧ (m' id).isSome = true) : FrOk P μ' φ' m' f ρ :=
  ⟨fun t => (h.fr t).mono hμ fun id hid => (hφ id (h.live t id hid)).1, fun t id hid => (hφ id (h.live t id hid)).2⟩

theorem forget_some {id j : Nat} {b : Blk} (h : memDel (killM id m) id j = some b) : j ≠ id ∧ ∃ b', m j = some b' ∧ b = killB id b' := by
  by_cases e : j = id
  · subst e; simp at h
  · rw [memDel_ne e] at h; exact ⟨e, killM_some h⟩
theorem forget_isSome {id j : Nat} (h : j ≠ id) (hm : (m j).isSome = true) : (memDel (killM id m) id j).isSome = true := by
  obtain ⟨b, hb⟩ := Option.isSome_iff_exists.1 hm
  rw [memDel_ne h]; simp [killM, hb]
theorem FrOk.forget (h : FrOk P μ φ m f ρ) (id : Nat) : FrOk P μ φ (memDel (killM id m) id) (killF id f) ρ := by
  refine ⟨fun t => (h.fr t).kill id, fun t j hj => ?_⟩
  obtain ⟨h1, h2⟩ := has_kill hj
  exact forget_isSome h2 (h.live t j h1)
theorem RelM.put (hM : RelM P G w0 μ φ m w) {site : Nat} {b : Blk} {ph : Phys} (hs : m site = none) (hbel : Bel w0.heap.size w w') (hro : ∀ k o, μ k = some o → w'.heap[k]? = some o)
    (hold : ∀ id b' g, m id = some b' → b'.owns (φ id) g → w'.heap[g]? = w.heap[g]?) (hown : ∀ g, b.owns ph g → w0.heap.size ≤ g ∧ μ g = none ∧ ∀ id b', m id = some b' → ¬ b'.owns (φ id) g) (hap : b.apart ph)
    (hB : RepB P μ (fun i => if i = site then ph else φ i) w' site b) (hn : ∀ id, b.names id = true → (m id).isSome = true)
    (hlp : ∀ st, b = .loop st → ∃ g rc, ph.g = some g ∧ w0.rc site = some (g, rc) ∧ w'.heap[g]? = some (.loop (st.obj rc))) :
    RelM P G w0 μ (fun i => if i = site then ph else φ i) (memSet m site b) w' := by
  refine ⟨hM.below.trans hbel, hro, hM.glob, fun id b' hid => ?_, fun id b' g hid hg => ?_, fun id1 id2 b1 b2 g h1 h2 g1 g2 => ?_, fun id b' hid => ?_, fun j cs id hj hh => ?_, hM.base, hM.keep, fun id st hid => ?_⟩
  rotate_right
  · by_cases h : id = site
    · subst h; rw [memSet_same] at hid; simp only [Option.some.injEq] at hid
      obtain ⟨g, rc, h1, h2, h3⟩ := hlp st hid
      exact ⟨g, rc, by simp [h1], h2, h3⟩
    · rw [memSet_ne h] at hid
      obtain ⟨g, rc, h1, h2, h3⟩ := hM.lps id st hid
      exact ⟨g, rc, by simp only [h, if_false]; exact h1, h2, by rw [hold id _ g hid (.inl h1)]; exact h3⟩
  · by_cases h : id = site
    · subst h; rw [memSet_same] at hid; simp only [Option.some.injEq] at hid; subst hid; exact hB
    · rw [memSet_ne h] at hid
      have hR := hM.blk id b' hid
      refine hR.stable (fun j hj => ?_) (by simp [h]) (fun _ _ h => h) (fun g hg => hold id b' g hid hg)
      have := hM.names_live hid hj
      have : j ≠ site := fun e => by subst e; rw [hs] at this; cases this
      simp [this]
  · by_cases h : id = site
    · subst h; rw [memSet_same] at hid; simp only [Option.some.injEq] at hid; subst hid; simp only [if_true] at hg
      exact ⟨(hown g hg).1, fun _ => (hown g hg).2.1⟩
    · rw [memSet_ne h] at hid; simp only [h, if_false] at hg; exact hM.own id b' g hid hg
  · by_cases e1 : id1 = site
    · by_cases e2 : id2 = site
      · rw [e1, e2]
      · exfalso
        subst e1; rw [memSet_same] at h1; simp only [Option.some.injEq] at h1; subst h1; simp only [if_true] at g1
        rw [memSet_ne e2] at h2; simp only [e2, if_false] at g2
        exact (hown g g1).2.2 id2 b2 h2 g2
    · by_cases e2 : id2 = site
      · exfalso
        subst e2; rw [memSet_same] at h2; simp only [Option.some.injEq] at h2; subst h2; simp only [if_true] at g2
        rw [memSet_ne e1] at h1; simp only [e1, if_false] at g1
        exact (hown g g2).2.2 id1 b1 h1 g1
      · rw [memSet_ne e1] at h1; rw [memSet_ne e2] at h2; simp only [e1, if_false] at g1; simp only [e2, if_false] at g2
        exact hM.inj id1 id2 b1 b2 g h1 h2 g1 g2
  · by_cases h : id = site
    · subst h; rw [memSet_same] at hid; simp only [Option.some.injEq] at hid; subst hid; simp only [if_true]; exact hap
    · rw [memSet_ne h] at hid; simp only [h, if_false]; exact hM.apart id b' hid
  · by_cases e : id = site
    · subst e; simp
    · rw [memSet_ne e]
      by_cases h : j = site
      · subst h; rw [memSet_same] at hj; simp only [Option.some.injEq] at hj; subst hj
        exact hn id hh
      · rw [memSet_ne h] at hj; exact hM.liveB j cs id hj hh
end

section
variable {R : Type} {E : Env}
structure PutOk (P : Program) (w0 : Base) (μ : Ro) (φ : Nat → Phys) (m : Mem) (w w' : World) (site : Nat) (b : Blk) (ph : Phys) : Prop where
  below : Bel w0.heap.size w w'
  ro : ∀ k o, μ k = some o → w'.heap[k]? = some o
  old : ∀ id b' g, m id = some b' → b'.owns (φ id) g → w'.heap[g]? = w.heap[g]?
  own : ∀ g, ph.g = some g → w0.heap.size ≤ g ∧ μ g = none ∧ ∀ id b', m id = some b' → ¬ b'.owns (φ id) g
  rep : ∀ φ', φ' site = ph → (∀ id, b.names id = true → φ' id = φ id) → RepB P μ φ' w' site b
  names : ∀ id, b.names id = true → (m id).isSome = true
  lp : ∀ st, b = .loop st → ∃ g rc, ph.g = some g ∧ w0.rc site = some (g, rc) ∧ w'.heap[g]? = some (.loop (st.obj rc)) := by intro st h; cases h

theorem fresh_ok {draw : Bool} {site : Nat} {b : Blk} {f : Fr} {m : Mem} {k : Fr → Mem → Foot → Option R} {r : R} (h : fresh draw site b f m k = some r) (hnr : ∀ i off, b.rowAt i off = true → False := by intro i off h; simp [Blk.rowAt] at h) :
    ∃ f' m', (∀ (R' : Type) (k' : Fr → Mem → Foot → Option R'), fresh draw site b f m k' = k' f' m' [(true, site)]) ∧ k f' m' [(true, site)] = some r ∧ m' site = some b ∧
    (draw = true → m site = none ∧ f' = f ∧ m' = memSet m site b) ∧
    (∀ (P : Program) (G : Nat → Option (List PV)) (w0 : Base) (μ : Ro) (φ : Nat → Phys) (w w' : World) (ρ : Nat → Value) (ph : Phys), RelM P G w0 μ φ m w → FrOk P μ φ m f ρ → PutOk P w0 μ φ m w w' site b ph →
      ∃ φ', φ' site = ph ∧ RelM P G w0 μ φ' m' w' ∧ FrOk P μ φ' m' f' ρ) := by
  unfold fresh at h
  cases hs : m site with
  | none =>
    simp only [hs] at h
    refine ⟨f, memSet m site b, fun R' k' => by simp only [fresh, hs], h, by simp, fun _ => ⟨rfl, rfl, rfl⟩, fun P G w0 μ φ w w' ρ ph hM hF hp => ?_⟩
    have hns : ∀ id, (m id).isSome = true → id ≠ site := fun id hid e => by subst e; rw [hs] at hid; cases hid
    refine ⟨fun i => if i = site then ph else φ i, by simp, hM.put hs hp.below hp.ro hp.old (fun g hg => hp.own g (owns_of hnr hg)) (apart_of hnr) (hp.rep _ (by simp) fun id hid => by simp [hns id (hp.names id hid)]) hp.names hp.lp, ?_⟩
    exact hF.mono (fun _ _ h => h) fun id hid => ⟨by simp [hns id hid], by rw [memSet_ne (hns id hid)]; exact hid⟩
  | some b0 =>
    simp only [hs] at h
    split at h
    · cases h
    · rename_i hc
      simp only [Bool.or_eq_true, not_or, Bool.not_eq_true] at hc
      refine ⟨killF site f, memSet (killM site m) site b, fun R' k' => by simp only [fresh, hs]; simp [hc], h, by simp, fun hd => (by rw [hc.1] at hd; cases hd), fun P G w0 μ φ w w' ρ ph hM hF hp => ?_⟩
      have hM1 := hM.forget site
      have hF1 := hF.forget site
      have hs1 : memDel (killM site m) site site = none := by simp
      have hns : ∀ id, (memDel (killM site m) site id).isSome = true → id ≠ site := fun id hid e => by subst e; simp at hid
      have hnm : ∀ id, b.names id = true → id ≠ site := fun id hid e => by subst e; rw [hc.2] at hid; cases hid
      refine ⟨fun i => if i = site then ph else φ i, by simp, ?_, ?_⟩
      · rw [← memSet_forget]
        refine hM1.put hs1 hp.below hp.ro (fun id b' g hid hg => ?_) (fun g hg => ?_) (apart_of hnr) (hp.rep _ (by simp) fun id hid => by simp [hnm id hid]) (fun id hid => forget_isSome (hnm id hid) (hp.names id hid)) hp.lp
        · obtain ⟨_, b2, hb2, rfl⟩ := forget_some hid
          exact hp.old id b2 g hb2 (owns_kill.1 hg)
        · obtain ⟨h1, h2, h3⟩ := hp.own g (owns_of hnr hg)
          refine ⟨h1, h2, fun id b' hid ho => ?_⟩
          obtain ⟨_, b2, hb2, rfl⟩ := forget_some hid
          exact h3 id b2 hb2 (owns_kill.1 ho)
      · rw [← memSet_forget]
        exact hF1.mono (fun _ _ h => h) fun id hid => ⟨by simp [hns id hid], by rw [memSet_ne (hns id hid)]; exact hid⟩
theorem PutOk.alloc {P : Program} {G : Nat → Option (List PV)} {w0 : Base} {μ : Ro} {φ : Nat → Phys} {m : Mem} {w : World} {site : Nat} {b : Blk} {ph : Phys} {o : Obj} (hM : RelM P G w0 μ φ m w) (hph : ph.g = some w.heap.size)
    (rep : ∀ φ', φ' site = ph → (∀ id, b.names id = true → φ' id = φ id) → RepB P μ φ' (w.alloc o) site b) (names : ∀ id, b.names id = true → (m id).isSome = true)
    (lp : ∀ st, b = .loop st → ∃ g rc, ph.g = some g ∧ w0.rc site = some (g, rc) ∧ (w.alloc o).heap[g]? = some (.loop (st.obj rc)) := by intro st h; cases h) : PutOk P w0 μ φ m w (w.alloc o) site b ph := by
  have hsz : w0.heap.size ≤ w.heap.size := hM.below.size
  refine ⟨(Bel.refl _ w).alloc hsz o, fun k o' hk => ?_, fun id b' g hid hg => Bel.heap_alloc w o g ((hM.blk id b' hid).glt hg), fun g hg => ?_, rep, names, lp⟩
  · have := hM.ro k o' hk
    rw [Bel.heap_alloc w o k (Array.getElem?_eq_some_iff.1 this).1]; exact this
  · rw [hph] at hg; simp only [Option.some.injEq] at hg; subst hg
    refine ⟨hsz, ?_, fun id b' hid hg => ?_⟩
    · cases hq : μ w.heap.size with
      | none => rfl
      | some o' => have := hM.ro _ _ hq; simp at this
    · have := (hM.blk id b' hid).glt hg; omega

theorem alloc_new (w : World) (o : Obj) : (w.alloc o).heap[w.heap.size]? = some o := heap_alloc_new w o
theorem zeroCellsV_ok {t : TypeId} {cs : List V} (h : zeroCellsV E t = some cs) : ∃ i z, E.P.info? t = some i ∧ i.zero = some z ∧ i.size = csz E.P t ∧ cs.length = csz E.P t ∧ z.cells.size = csz E.P t ∧ (∀ id, hasL id cs = false) ∧
    (∀ (μ : Ro) (φ : Nat → Phys) (i : Nat) u y, cs[i]? = some u → z.cells[i]? = some y → RepV E.P μ φ u y) ∧ (∀ (i : Nat) (y : Value), z.cells[i]? = some y → y.oneCell' = true) := by
  unfold zeroCellsV zeroV at h
  cases hi : E.P.info? t with
  | none => simp [hi] at h
  | some i =>
    cases hz : i.zero with
    | none => simp [hi, hz] at h
    | some z =>
      simp only [hi, hz, Option.bind_some, Option.map_some] at h
      obtain ⟨h1, h2, h3⟩ := toCells_ok h
      obtain ⟨h4, _, h6⟩ := h3 E.P (fun _ => none) (fun _ => default) z (ofVal_rep z)
      refine ⟨i, z, rfl, hz, by simp [csz, hi], h1, h4, fun id => ?_, fun μ φ i u y hu hy => (h3 E.P μ φ z (ofVal_rep z)).2.1 i u y hu hy, h6⟩
      cases hh : hasL id cs with
      | false => rfl
      | true => have := h2 id hh; rw [ofVal_has] at this; cases this
theorem run_zeroValue {P : Program} {t : TypeId} {i : TypeInfo} {z : Value} {w : World} (hi : P.info? t = some i) (hz : i.zero = some z) : (zeroValue t).run P w = .ok z w := by
  simp [zeroValue, typeInfo, hi, hz]

theorem run_alloc {P : Program} {t : TypeId} {i : TypeInfo} {z : Value} {w : World} (hi : P.info? t = some i) (hz : i.zero = some z) :
    (Instr.alloc t true (.tuple #[])).run P w = .ok (.pointer (some ⟨w.heap.size, 0, none⟩)) (w.alloc (.cells z.cells t)) := by
  simp [Instr.alloc, run_zeroValue hi hz, newVar, newRow]
theorem run_box {P : Program} {t : TypeId} {v : Value} {w : World} :
    (Instr.box t v).run P w = .ok (.pointer (some ⟨w.heap.size, 0, none⟩)) (w.alloc (.cells v.cells t)) := by
  simp [Instr.box, newVar, newRow]
theorem PutOk.box {P : Program} {G : Nat → Option (List PV)} {w0 : Base} {μ : Ro} {φ : Nat → Phys} {m : Mem} {w : World} {site : Nat} {cs : List V} {c : Array Value} {T : TypeId} (hM : RelM P G w0 μ φ m w)
    (hl : c.size = cs.length) (hv : ∀ (i : Nat) u y, cs[i]? = some u → c[i]? = some y → RepV P μ φ u y) (h1 : ∀ (i : Nat) (y : Value), c[i]? = some y → y.oneCell' = true) (hn : ∀ id, hasL id cs = true → (m id).isSome = true) :
    PutOk P w0 μ φ m w (w.alloc (.cells c T)) site (.box cs) (phy (some w.heap.size) 0 cs.length 0) := by
  refine PutOk.alloc hM (by rfl) (fun φ' hφ hn' => ⟨w.heap.size, c, T, by rw [hφ], alloc_new w _, hl, fun i u y hu hy => ?_, h1, by rw [hφ]⟩) hn
  exact (hv i u y hu hy).mono (fun _ _ h => h) fun id hid => hn' id (hasL_mem (List.mem_of_getElem? hu) hid)

theorem info_of_und' {P : Program} {t : TypeId} (h : csz P t ≠ 0) : (P.info? t).map (·.size) = some (csz P t) := by
  obtain ⟨i, hi, hs⟩ := csz_und h
  simp [hi, hs]
theorem splice_get {T : Type} {cs new : List T} {off i : Nat} {x : T} (hb : off + new.length ≤ cs.length) (h : (splice cs off new)[i]? = some x) :
    (off ≤ i ∧ i < off + new.length ∧ new[i - off]? = some x) ∨ ((i < off ∨ off + new.length ≤ i) ∧ cs[i]? = some x) := by
  rw [splice_eq] at h
  rw [List.append_assoc, List.getElem?_append] at h
  have ht : (cs.take off).length = off := by simp; omega
  rw [ht] at h
  split at h
  · rename_i hi
    exact .inr ⟨.inl hi, (take_get h).2⟩
  · rw [List.getElem?_append] at h
    split at h
    · exact .inl ⟨by omega, by omega, h⟩
    · rw [List.getElem?_drop] at h
      refine .inr ⟨.inr (by omega), ?_⟩
      rw [← h]; congr 1; omega
theorem splice_length {T : Type} {cs new : List T} {off : Nat} (hb : off + new.length ≤ cs.length) : (splice cs off new).length = cs.length := by
  simp [splice_eq]; omega

theorem run_storeVar_at {P : Program} {w : World} {t : TypeId} {v : Value} {g o : Nat} {c : Array Value} {T : TypeId} (hz : v.cells.size = csz P t) (hi : (P.info? t).map (·.size) = some (csz P t)) (hg : w.heap[g]? = some (.cells c T (0, 0))) (hb : o + v.cells.size ≤ c.size)
    (h1 : ∀ (i : Nat) (y : Value), v.cells[i]? = some y → y.oneCell' = true) :
    (Instr.storeAt t (.pointer (some ⟨g, o, none⟩)) v).run P w = .ok () (w.setRow g (splice c.toList o v.cells.toList).toArray) := by
  have hst := run_storeCells_at P g o T v.cells.toList 0 c w hg (by simpa using hb) (fun x hx => by
    obtain ⟨i, hi⟩ := List.getElem?_of_mem hx
    exact h1 i x (by simpa using hi))
  have hsz : (sizeOf t).run P w = .ok (csz P t) w := by
    cases hq : P.info? t with
    | none => simp [hq] at hi
    | some i => simp [sizeOf, typeInfo, hq, csz]
  simp only [Instr.storeAt, Instr.sureAddr, storeVar, Sem.run_bind, Sem.run_pure, Result.andThen_ok, hsz, hz, ne_eq, not_true_eq_false, if_false, hst, Nat.add_zero]
  rw [splice_eq]; try rfl
theorem setRow_heap_ne {w : World} {g k : Nat} {xs : Array Value} (h : k ≠ g) : (w.setRow g xs).heap[k]? = w.heap[k]? := by
  unfold World.setRow
  simp [Array.getElem?_modify, Ne.symm h]
theorem setRow_size {w : World} {g : Nat} {xs : Array Value} : (w.setRow g xs).heap.size = w.heap.size := by
  simp [World.setRow]
theorem Bel.setRow {B : Nat} {w : World} {g : Nat} {xs : Array Value} (h : B ≤ g) : Bel B w (w.setRow g xs) := 
  ⟨⟨rfl, rfl, rfl, Nat.le_of_eq setRow_size.symm, fun k hk => setRow_heap_ne (by omega)⟩, fun _ => Nat.le_refl _⟩
end
end Go.Ab

set_option linter.unusedVariables false
namespace Go.Ab
open Go.RowKit (Below)

section
variable {P : Program} {G : Nat → Option (List PV)} {w0 : Base} {μ : Ro} {φ : Nat → Phys} {m m' : Mem} {w : World}
def Lives (m m' : Mem) : Prop := ∀ id, (m id).isSome = true → (m' id).isSome = true
theorem Lives.refl (m : Mem) : Lives m m := fun _ h => h
theorem Lives.trans {a b c : Mem} (h : Lives a b) (k : Lives b c) : Lives a c := fun id hid => k id (h id hid)
theorem Lives.set {id : Nat} {b : Blk} : Lives m (memSet m id b) := fun j hj => by
  by_cases e : j = id
  · subst e; simp
  · rw [memSet_ne e]; exact hj
theorem FrOk.lives {f : Fr} {ρ : Nat → Value} {μ' : Ro} (h : FrOk P μ φ m f ρ) (hμ : ∀ b o, μ b = some o → μ' b = some o) (hl : Lives m m') : FrOk P μ' φ m' f ρ :=
  h.mono hμ fun id hid => ⟨rfl, hl id hid⟩

theorem frzS_ok {v : V} {p : PV} (h : frzS m v = some (p, m')) : Lives m m' ∧
    ∀ (P : Program) (G : Nat → Option (List PV)) (w0 : Base) (μ : Ro) (φ : Nat → Phys) (w : World) (x : Value), RelM P G w0 μ φ m w → RepV P μ φ v x →
      ∃ μ', (∀ b o, μ b = some o → μ' b = some o) ∧ RelM P G w0 μ' φ m' w ∧ RepPV P μ' p x := by
  unfold frzS at h
  split at h
  · simp only [Option.some.injEq, Prod.mk.injEq] at h; obtain ⟨rfl, rfl⟩ := h
    exact ⟨.refl _, fun P G w0 μ φ w x hM hx => ⟨μ, fun _ _ h => h, hM, by cases hx with | pv hx => exact hx⟩⟩
  · simp only [Option.some.injEq, Prod.mk.injEq] at h; obtain ⟨rfl, rfl⟩ := h
    exact ⟨.refl _, fun P G w0 μ φ w x hM hx => ⟨μ, fun _ _ h => h, hM, by cases hx; exact .rsNil⟩⟩
  · rename_i id
    split at h
    · rename_i s et es hm
      simp only [Option.some.injEq, Prod.mk.injEq] at h; obtain ⟨rfl, rfl⟩ := h
      refine ⟨.set, fun P G w0 μ φ w x hM hx => ⟨_, roAdd_mono hM (φ id).g, hM.freeze hm, ?_⟩⟩
      refine (hM.arr (.inl hm)).full hM hx (roAdd_mono hM _) fun g hg => ?_
      simp [roAdd, hg]
    · rename_i s et es hm
      simp only [Option.some.injEq, Prod.mk.injEq] at h; obtain ⟨rfl, rfl⟩ := h
      refine ⟨.refl _, fun P G w0 μ φ w x hM hx => ⟨μ, fun _ _ h => h, hM, ?_⟩⟩
      refine (hM.arr (.inr hm)).full hM hx (fun _ _ h => h) fun g hg => ?_
      obtain ⟨o, ho⟩ := Option.isSome_iff_exists.1 ((hM.blk id _ hm).2 g hg)
      rw [ho, hM.ro _ _ ho]
    · rename_i s et es hm
      simp only [Option.some.injEq, Prod.mk.injEq] at h; obtain ⟨rfl, rfl⟩ := h
      refine ⟨.set, fun P G w0 μ φ w x hM hx => ⟨_, roSet_mono hM _, hM.freezeN hm, ?_⟩⟩
      have hM' := hM.freezeN hm
      have hF : RepArr P _ φ w id s et (es.map PV.strip) := (hM'.blk id _ (memSet_same _ _ _)).1
      refine hF.full' (hx.monoR (roSet_mono hM _)) (fun _ _ h => h) fun g hg => ?_
      unfold roSet
      rw [if_pos (show (Blk.nest s et es).owns (φ id) g from .inl hg)]
    · cases h
  · cases h
theorem frzS_pure {v : V} {p : PV} (h : frzS noMem v = some (p, m')) : ∀ (P : Program) (μ : Ro) (φ : Nat → Phys) (x : Value), RepV P μ φ v x → RepPV P μ p x := by
  unfold frzS at h
  split at h
  · simp only [Option.some.injEq, Prod.mk.injEq] at h; obtain ⟨rfl, rfl⟩ := h
    exact fun P μ φ x hx => by cases hx with | pv hx => exact hx
  · simp only [Option.some.injEq, Prod.mk.injEq] at h; obtain ⟨rfl, rfl⟩ := h
    exact fun P μ φ x hx => by cases hx; exact .rsNil
  · simp [noMem] at h
  · cases h
theorem frzS_noMem {v : V} {p : PV} (h : frzS noMem v = some (p, m')) : m' = noMem := by
  unfold frzS at h
  split at h
  · simp only [Option.some.injEq, Prod.mk.injEq] at h; exact h.2.symm
  · simp only [Option.some.injEq, Prod.mk.injEq] at h; exact h.2.symm
  · simp [noMem] at h
  · cases h

theorem frzSL_ok : ∀ {cs : List V} {m m' : Mem} {ps : List PV}, frzSL m cs = some (ps, m') → Lives m m' ∧ ps.length = cs.length ∧
    ∀ (P : Program) (G : Nat → Option (List PV)) (w0 : Base) (μ : Ro) (φ : Nat → Phys) (w : World) (X : Nat → Value), RelM P G w0 μ φ m w → (∀ (i : Nat) u, cs[i]? = some u → RepV P μ φ u (X i)) →
      ∃ μ', (∀ b o, μ b = some o → μ' b = some o) ∧ RelM P G w0 μ' φ m' w ∧ ∀ (i : Nat) p, ps[i]? = some p → RepPV P μ' p (X i)
  | [], m, m', ps, h => by
    simp only [frzSL, Option.some.injEq, Prod.mk.injEq] at h; obtain ⟨rfl, rfl⟩ := h
    exact ⟨.refl _, rfl, fun P G w0 μ φ w X hM _ => ⟨μ, fun _ _ h => h, hM, by simp⟩⟩
  | c :: r, m, m', ps, h => by
    simp only [frzSL] at h
    split at h
    · rename_i p m1 h1
      split at h
      · rename_i ps1 m2 h2
        simp only [Option.some.injEq, Prod.mk.injEq] at h; obtain ⟨rfl, rfl⟩ := h
        obtain ⟨a1, a2⟩ := frzS_ok h1
        obtain ⟨b1, b2, b3⟩ := frzSL_ok h2
        refine ⟨a1.trans b1, by simp [b2], fun P G w0 μ φ w X hM hx => ?_⟩
        obtain ⟨μ1, c1, c2, c3⟩ := a2 P G w0 μ φ w (X 0) hM (hx 0 c (by simp))
        obtain ⟨μ2, d1, d2, d3⟩ := b3 P G w0 μ1 φ w (fun i => X (i + 1)) c2 (fun i u hu => (hx (i + 1) u (by simpa using hu)).monoR c1)
        refine ⟨μ2, fun b o h => d1 b o (c1 b o h), d2, fun i q hq => ?_⟩
        cases i with
        | zero => simp at hq; subst hq; exact c3.mono d1
        | succ i => exact d3 i q (by simpa using hq)
      · cases h
    · cases h
theorem frzSL_pure : ∀ {cs : List V} {m' : Mem} {ps : List PV}, frzSL noMem cs = some (ps, m') → ps.length = cs.length ∧
    ∀ (P : Program) (μ : Ro) (φ : Nat → Phys) (X : Nat → Value), (∀ (i : Nat) u, cs[i]? = some u → RepV P μ φ u (X i)) → ∀ (i : Nat) p, ps[i]? = some p → RepPV P μ p (X i)
  | [], m', ps, h => by
    simp only [frzSL, Option.some.injEq, Prod.mk.injEq] at h; obtain ⟨rfl, rfl⟩ := h
    exact ⟨rfl, by simp⟩
  | c :: r, m', ps, h => by
    simp only [frzSL] at h
    split at h
    · rename_i p m1 h1
      split at h
      · rename_i ps1 m2 h2
        simp only [Option.some.injEq, Prod.mk.injEq] at h; obtain ⟨rfl, rfl⟩ := h
        have := frzS_noMem h1; subst this
        obtain ⟨b2, b3⟩ := frzSL_pure h2
        refine ⟨by simp [b2], fun P μ φ X hx i q hq => ?_⟩
        cases i with
        | zero => simp at hq; subst hq; exact frzS_pure h1 P μ φ _ (hx 0 c (by simp))
        | succ i => exact b3 P μ φ (fun i => X (i + 1)) (fun i u hu => hx (i + 1) u (by simpa using hu)) i q (by simpa using hq)
      · cases h
    · cases h
structure ElemOk (P : Program) (μ : Ro) (n : Nat) (p : PV) (x : Value) : Prop where
  len : p.cells.length = n
  size : x.cells.size = n
  rep : ∀ (j : Nat) q y, p.cells[j]? = some q → x.cells[j]? = some y → RepPV P μ q y
  one : ∀ (j : Nat) y, x.cells[j]? = some y → y.oneCell' = true

theorem elem_of_cells {P : Program} {μ : Ro} {n : Nat} {agg : Bool} {ps : List PV} {p : PV} {x : Value} (hp : (if agg then some (.agg ps) else match ps with | [p] => some p | _ => none) = some p) (hl : ps.length = n)
    (hs : x.cells.size = n) (hr : ∀ (j : Nat) q y, ps[j]? = some q → x.cells[j]? = some y → RepPV P μ q y) (h1 : ∀ (j : Nat) y, x.cells[j]? = some y → y.oneCell' = true) : ElemOk P μ n p x := by
  have hc : p.cells = ps := by
    cases agg with
    | true => simp at hp; subst hp; rfl
    | false =>
      simp only [Bool.false_eq_true, if_false] at hp
      split at hp
      · rename_i q
        simp only [Option.some.injEq] at hp; subst hp
        have hlt : 0 < x.cells.size := by simp at hl; omega
        have hr0 := hr 0 q _ (by simp) (Array.getElem?_eq_getElem hlt)
        have h10 := h1 0 _ (Array.getElem?_eq_getElem hlt)
        generalize x.cells[0] = y at hr0 h10
        cases q <;> first | rfl | (cases hr0; simp [Value.oneCell'] at h10)
      · cases hp
  exact ⟨by rw [hc]; exact hl, hs, by rw [hc]; exact hr, h1⟩

theorem frzElem_ok {m m' : Mem} {n : Nat} {agg : Bool} {v : V} {p : PV} (h : frzElem m n agg v = some (p, m')) : Lives m m' ∧
    ∀ (P : Program) (G : Nat → Option (List PV)) (w0 : Base) (μ : Ro) (φ : Nat → Phys) (w : World) (x : Value), RelM P G w0 μ φ m w → RepV P μ φ v x →
      ∃ μ', (∀ b o, μ b = some o → μ' b = some o) ∧ RelM P G w0 μ' φ m' w ∧ ElemOk P μ' n p x := by
  unfold frzElem at h
  split at h
  · rename_i cs hc
    obtain ⟨c1, c2, c3⟩ := toCells_ok hc
    split at h
    · rename_i ps m1 hf
      obtain ⟨f1, f2, f3⟩ := frzSL_ok hf
      have hp : (if agg then some (.agg ps) else match ps with | [p] => some p | _ => none) = some p ∧ m1 = m' := by
        cases agg with
        | true => simp at h; exact ⟨by simp [h.1], h.2⟩
        | false =>
          simp only [Bool.false_eq_true, if_false] at h ⊢
          split at h
          · simp only [Option.some.injEq, Prod.mk.injEq] at h; exact ⟨by simp [h.1], h.2⟩
          · cases h
      obtain ⟨hp, rfl⟩ := hp
      refine ⟨f1, fun P G w0 μ φ w x hM hx => ?_⟩
      obtain ⟨d1, d2, d3⟩ := c3 P μ φ x hx
      have hX : ∀ (i : Nat), i < cs.length → x.cells[i]? = some (x.cells.getD i undef) := fun i hi => by
        have hlt : i < x.cells.size := by omega
        rw [Array.getElem?_eq_getElem hlt]; simp [Array.getD, hlt]
      obtain ⟨μ', e1, e2, e3⟩ := f3 P G w0 μ φ w (fun i => x.cells.getD i undef) hM fun i u hu => d2 i u _ hu (hX i (List.getElem?_eq_some_iff.1 hu).1)
      refine ⟨μ', e1, e2, elem_of_cells hp (by omega) d1 (fun j q y hq hy => ?_) d3⟩
      have := e3 j q hq
      rw [hX j (by have := (List.getElem?_eq_some_iff.1 hq).1; omega)] at hy
      simp only [Option.some.injEq] at hy; subst hy; exact this
    · cases h
  · cases h
theorem frzElem_pure {m' : Mem} {n : Nat} {agg : Bool} {v : V} {p : PV} (h : frzElem noMem n agg v = some (p, m')) :
    ∀ (P : Program) (μ : Ro) (φ : Nat → Phys) (x : Value), RepV P μ φ v x → ElemOk P μ n p x := by
  unfold frzElem at h
  split at h
  · rename_i cs hc
    obtain ⟨c1, c2, c3⟩ := toCells_ok hc
    split at h
    · rename_i ps m1 hf
      obtain ⟨f2, f3⟩ := frzSL_pure hf
      have hp : (if agg then some (.agg ps) else match ps with | [p] => some p | _ => none) = some p := by
        cases agg with
        | true => simp at h; simp [h.1]
        | false =>
          simp only [Bool.false_eq_true, if_false] at h ⊢
          split at h
          · simp only [Option.some.injEq, Prod.mk.injEq] at h; simp [h.1]
          · cases h
      refine fun P μ φ x hx => ?_
      obtain ⟨d1, d2, d3⟩ := c3 P μ φ x hx
      have hX : ∀ (i : Nat), i < cs.length → x.cells[i]? = some (x.cells.getD i undef) := fun i hi => by
        have hlt : i < x.cells.size := by omega
        rw [Array.getElem?_eq_getElem hlt]; simp [Array.getD, hlt]
      have e3 := f3 P μ φ (fun i => x.cells.getD i undef) fun i u hu => d2 i u _ hu (hX i (List.getElem?_eq_some_iff.1 hu).1)
      refine elem_of_cells hp (by omega) d1 (fun j q y hq hy => ?_) d3
      have := e3 j q hq
      rw [hX j (by have := (List.getElem?_eq_some_iff.1 hq).1; omega)] at hy
      simp only [Option.some.injEq] at hy; subst hy; exact this
    · cases h
  · cases h
theorem frzElemD_ok {draw : Bool} {m m' : Mem} {n : Nat} {agg : Bool} {v : V} {p : PV} (h : frzElemD draw m n agg v = some (p, m')) : Lives m m' ∧
    (draw = true → m' = m ∧ ∀ m2 : Mem, frzElemD true m2 n agg v = some (p, m2)) ∧
    ∀ (P : Program) (G : Nat → Option (List PV)) (w0 : Base) (μ : Ro) (φ : Nat → Phys) (w : World) (x : Value), RelM P G w0 μ φ m w → RepV P μ φ v x →
      ∃ μ', (∀ b o, μ b = some o → μ' b = some o) ∧ RelM P G w0 μ' φ m' w ∧ ElemOk P μ' n p x := by
  unfold frzElemD at h
  split at h
  · rename_i hd
    split at h
    · rename_i q m1 hf
      simp only [Option.some.injEq, Prod.mk.injEq] at h; obtain ⟨rfl, rfl⟩ := h
      exact ⟨.refl _, fun _ => ⟨rfl, fun m2 => by simp [frzElemD, hf]⟩, fun P G w0 μ φ w x hM hx => ⟨μ, fun _ _ h => h, hM, frzElem_pure hf P μ φ x hx⟩⟩
    · cases h
  · rename_i hd
    obtain ⟨h1, h2⟩ := frzElem_ok h
    exact ⟨h1, fun hd' => absurd hd' hd, h2⟩
theorem RepArr.set {P : Program} {μ : Ro} {φ : Nat → Phys} {w : World} {id sz : Nat} {et : TypeId} {es : List PV} (hA : RepArr P μ φ w id sz et es) {g : Nat} (hg : (φ id).g = some g) {i off n : Nat} {e p q : PV} {x : Value}
    (he : es[i]? = some e) (hE : ElemOk P μ n p x) (hb : off + n ≤ sz) (hq : q.cells = splice (elemCells sz e) off p.cells) :
    ∃ c T, w.heap[g]? = some (.cells c T (0, 0)) ∧ i * sz + off + x.cells.size ≤ c.size ∧ RepArr P μ φ (w.setRow g (splice c.toList (i * sz + off) x.cells.toList).toArray) id sz et (es.set i q) := by
  obtain ⟨a1, a2, a3, a4, a5, a6, a7⟩ := hA
  rw [hg] at a7
  obtain ⟨c, c1, c2, c3, c4, c5⟩ := a7
  have hi : i < es.length := (List.getElem?_eq_some_iff.1 he).1
  have hbd : i * sz + off + n ≤ c.size := by
    have : (i + 1) * sz ≤ (φ id).cap * sz := Nat.mul_le_mul_right _ (by omega)
    rw [Nat.add_mul] at this; omega
  have hxl : x.cells.toList.length = n := by simpa using hE.size
  have hsl : (elemCells sz e).length = sz := elemCells_length _ _
  have hql : q.cells.length = sz := by rw [hq, splice_length (by rw [hsl, hE.len]; exact hb), hsl]
  have hsp : (splice c.toList (i * sz + off) x.cells.toList).length = c.size := by rw [splice_length (by simp [hE.size]; omega)]; simp
  have hset : ∀ (i' : Nat) e', (es.set i q)[i']? = some e' → (i' = i ∧ e' = q) ∨ (i' ≠ i ∧ es[i']? = some e') := by
    intro i' e' h'
    rw [List.getElem?_set] at h'
    split at h'
    · rename_i hii; subst hii; simp [hi] at h'; exact .inl ⟨rfl, h'.symm⟩
    · rename_i hii; exact .inr ⟨fun e => hii e.symm, h'⟩
  refine ⟨c, et, c1, by rw [hE.size]; exact hbd, ?_⟩
  refine ⟨by simp [a1], a2, a3, a4, fun i' e' h' => ?_, a6, ?_⟩
  · rcases hset i' e' h' with ⟨_, rfl⟩ | ⟨_, h'⟩
    · exact hql
    · exact a5 i' e' h'
  · rw [hg]
    refine ⟨_, setRow_heap w g c _ et (0, 0) c1, by simp [hsp, c2], by simpa using c3, fun i' e' j p' x' h' hj hx => ?_, fun j x' hj hx => ?_⟩
    · rw [List.getElem?_toArray] at hx
      rcases splice_get (by simp [hE.size]; omega) hx with ⟨b1, b2, b3⟩ | ⟨b1, b2⟩
      · rw [hxl] at b2
        have hii : i' = i ∧ e' = q := by
          rcases hset i' e' h' with h | ⟨hne, h'⟩
          · exact h
          · exfalso
            have hjl := (List.getElem?_eq_some_iff.1 hj).1
            rw [a5 i' e' h'] at hjl
            rcases Nat.lt_or_gt_of_ne hne with hlt | hgt
            · have : (i' + 1) * sz ≤ i * sz := Nat.mul_le_mul_right _ hlt
              rw [Nat.add_mul] at this; omega
            · have : (i + 1) * sz ≤ i' * sz := Nat.mul_le_mul_right _ hgt
              rw [Nat.add_mul] at this; omega
        obtain ⟨rfl, rfl⟩ := hii
        rw [hq] at hj
        rcases splice_get (by rw [hsl, hE.len]; exact hb) hj with ⟨d1, d2, d3⟩ | ⟨d1, d2⟩
        · exact hE.rep _ _ _ d3 (by rw [← Array.getElem?_toList, ← b3]; congr 1; omega)
        · exfalso; rw [hE.len] at d1; omega
      · rw [hxl] at b1
        have b2 : c[i' * sz + j]? = some x' := by simpa using b2
        rcases hset i' e' h' with ⟨rfl, rfl⟩ | ⟨hne, h'⟩
        · rw [hq] at hj
          rcases splice_get (by rw [hsl, hE.len]; exact hb) hj with ⟨d1, d2, d3⟩ | ⟨d1, d2⟩
          · exfalso; rw [hE.len] at d2; omega
          · rw [elemCells_eq (a5 i' e he)] at d2
            exact c4 i' e j p' x' he d2 b2
        · exact c4 i' e' j p' x' h' hj b2
    · rw [List.getElem?_toArray] at hx
      rw [List.length_set] at hj
      rcases splice_get (by simp [hE.size]; omega) hx with ⟨b1, b2, b3⟩ | ⟨b1, b2⟩
      · exact hE.one _ x' (by simpa using b3)
      · exact c5 j x' hj (by simpa using b2)
theorem setRow_cells {s0 off : Nat} {e p : PV} (he : e.cells.length = s0) (ho : off < s0) (hp : ∀ cs, p ≠ .agg cs) : (setRow s0 e off p).cells = e.cells.set off p := by
  have h1 : p.cells = [p] := by cases p <;> first | rfl | exact absurd rfl (hp _)
  unfold setRow
  split
  · rename_i hs
    subst hs
    have : off = 0 := by omega
    subst this
    match hc : e.cells, he with
    | [c], _ => simp [h1]
  · simp only [PV.cells, elemCells_eq he]
theorem setCells_cells {s off n : Nat} {e p : PV} (h1 : p.cells.length = n) (h2 : e.cells.length = s) : (setCells s e off n p).cells = splice (elemCells s e) off p.cells := by
  unfold setCells
  split
  · rename_i h
    obtain ⟨rfl, rfl⟩ := h
    rw [splice_eq, h1]
    simp [elemCells_length]
  · rfl
theorem RepNest.change {P : Program} {μ μ' : Ro} {φ φ' : Nat → Phys} {w w' : World} {id sz : Nat} {et : TypeId} {es es' : List PV} (h : RepNest P μ φ w id sz et es) (hlen : es'.length = es.length) (hcl : ∀ (i : Nat) e, es'[i]? = some e → e.cells.length = sz)
    (hφ : (φ' id).toPh0 = (φ id).toPh0) (hw : ∀ g, (φ id).g = some g → w'.heap[g]? = w.heap[g]?)
    (hc : ∀ (i : Nat) e' (j : Nat) p' g c x, es'[i]? = some e' → e'.cells[j]? = some p' → (φ id).g = some g → w.heap[g]? = some (.cells c et (0, 0)) → c[i * sz + j]? = some x →
      (∀ e p, es[i]? = some e → e.cells[j]? = some p → RepCell P μ ((φ id).row i j) w p x) → RepCell P μ' ((φ' id).row i j) w' p' x) : RepNest P μ' φ' w' id sz et es' := by
  obtain ⟨a1, a2, a3, a4, a5, a6, a7⟩ := h
  unfold RepNest
  rw [hφ]
  refine ⟨by rw [hlen]; exact a1, a2, a3, a4, hcl, a6, ?_⟩
  cases hg : (φ id).g with
  | none =>
    rw [hg] at a7
    refine ⟨?_, a7.2⟩
    have := a7.1; subst this
    exact List.eq_nil_of_length_eq_zero hlen
  | some g =>
    rw [hg] at a7
    obtain ⟨c, c1, c2, c3, c4, c5⟩ := a7
    exact ⟨c, by rw [hw g hg]; exact c1, c2, by rw [hlen]; exact c3, fun i e' j p' x h1 h2 h3 => hc i e' j p' g c x h1 h2 hg c1 h3 fun e p he hp => c4 i e j p x he hp h3, fun i x hi hx => c5 i x (by rw [← hlen]; exact hi) hx⟩
theorem set_get {T : Type} {l : List T} {i i' : Nat} {q e' : T} (h : (l.set i q)[i']? = some e') : (i' = i ∧ e' = q) ∨ (i' ≠ i ∧ l[i']? = some e') := by
  rw [List.getElem?_set] at h
  split at h
  · rename_i hii; subst hii
    split at h
    · simp only [Option.some.injEq] at h; exact .inl ⟨rfl, h.symm⟩
    · cases h
  · rename_i hii; exact .inr ⟨fun e => hii e.symm, h⟩
theorem RepNest.set {P : Program} {μ : Ro} {φ : Nat → Phys} {w : World} {id sz : Nat} {et : TypeId} {es : List PV} (hA : RepNest P μ φ w id sz et es) (hap : (Blk.nest sz et es).apart (φ id)) {g : Nat} (hg : (φ id).g = some g) {i off n : Nat} {e p q : PV} {x : Value}
    (he : es[i]? = some e) (hE : ElemOk P μ n p x) (hb : off + n ≤ sz) (hq : q.cells = splice (elemCells sz e) off p.cells) :
    ∃ c T, w.heap[g]? = some (.cells c T (0, 0)) ∧ i * sz + off + x.cells.size ≤ c.size ∧ RepNest P μ φ (w.setRow g (splice c.toList (i * sz + off) x.cells.toList).toArray) id sz et (es.set i q) ∧
      ∀ i' off', (Blk.nest sz et (es.set i q)).rowAt i' off' = true → (Blk.nest sz et es).rowAt i' off' = true := by
  have hA' := hA
  obtain ⟨a1, a2, a3, a4, a5, a6, a7⟩ := hA
  rw [hg] at a7
  obtain ⟨c, c1, c2, c3, c4, c5⟩ := a7
  have hi : i < es.length := (List.getElem?_eq_some_iff.1 he).1
  have hbd : i * sz + off + n ≤ c.size := by
    have : (i + 1) * sz ≤ (φ id).cap * sz := Nat.mul_le_mul_right _ (by omega)
    rw [Nat.add_mul] at this; omega
  have hxl : x.cells.toList.length = n := by simpa using hE.size
  have hsl : (elemCells sz e).length = sz := elemCells_length _ _
  have hql : q.cells.length = sz := by rw [hq, splice_length (by rw [hsl, hE.len]; exact hb), hsl]
  have hsp : (splice c.toList (i * sz + off) x.cells.toList).length = c.size := by rw [splice_length (by simp [hE.size]; omega)]; simp
  have hne : ∀ i' j' g', (Blk.nest sz et es).rowAt i' j' = true → ((φ id).row i' j').g = some g' → g' ≠ g := fun i' j' g' hr hg' e => (hap i' j' g' hr hg').1 (by rw [e]; exact hg)
  have hst : ∀ {i' j' : Nat} {e' p' : PV} {x' : Value} {l : List Value}, es[i']? = some e' → e'.cells[j']? = some p' → RepCell P μ ((φ id).row i' j') w p' x' → RepCell P μ ((φ id).row i' j') (w.setRow g l.toArray) p' x' := fun h1 h2 h3 =>
    h3.stable (fun _ _ h => h) fun hr g' hg' => setRow_heap_ne (hne _ _ g' (by rw [rowAt_nest h1 h2]; exact hr) hg')
  refine ⟨c, et, c1, by rw [hE.size]; exact hbd, ⟨by simp [a1], a2, a3, a4, fun i' e' h' => ?_, a6, ?_⟩, ?_⟩
  · rcases set_get h' with ⟨_, rfl⟩ | ⟨_, h'⟩
    · exact hql
    · exact a5 i' e' h'
  · rw [hg]
    refine ⟨_, setRow_heap w g c _ et (0, 0) c1, by simp [hsp, c2], by simpa using c3, fun i' e' j p' x' h' hj hx => ?_, fun j x' hj hx => ?_⟩
    · rw [List.getElem?_toArray] at hx
      rcases splice_get (by simp [hE.size]; omega) hx with ⟨b1, b2, b3⟩ | ⟨b1, b2⟩
      · rw [hxl] at b2
        have hii : i' = i ∧ e' = q := by
          rcases set_get h' with h | ⟨hne, h'⟩
          · exact h
          · exfalso
            have hjl := (List.getElem?_eq_some_iff.1 hj).1
            rw [a5 i' e' h'] at hjl
            rcases Nat.lt_or_gt_of_ne hne with hlt | hgt
            · have : (i' + 1) * sz ≤ i * sz := Nat.mul_le_mul_right _ hlt
              rw [Nat.add_mul] at this; omega
            · have : (i + 1) * sz ≤ i' * sz := Nat.mul_le_mul_right _ hgt
              rw [Nat.add_mul] at this; omega
        obtain ⟨rfl, rfl⟩ := hii
        rw [hq] at hj
        rcases splice_get (by rw [hsl, hE.len]; exact hb) hj with ⟨d1, d2, d3⟩ | ⟨d1, d2⟩
        · exact .pure (hE.rep _ _ _ d3 (by rw [← Array.getElem?_toList, ← b3]; congr 1; omega))
        · exfalso; rw [hE.len] at d1; omega
      · rw [hxl] at b1
        have b2 : c[i' * sz + j]? = some x' := by simpa using b2
        rcases set_get h' with ⟨rfl, rfl⟩ | ⟨hne, h'⟩
        · rw [hq] at hj
          rcases splice_get (by rw [hsl, hE.len]; exact hb) hj with ⟨d1, d2, d3⟩ | ⟨d1, d2⟩
          · exfalso; rw [hE.len] at d2; omega
          · rw [elemCells_eq (a5 i' e he)] at d2
            exact hst he d2 (c4 i' e j p' x' he d2 b2)
        · exact hst h' hj (c4 i' e' j p' x' h' hj b2)
    · rw [List.getElem?_toArray] at hx
      rw [List.length_set] at hj
      rcases splice_get (by simp [hE.size]; omega) hx with ⟨b1, b2, b3⟩ | ⟨b1, b2⟩
      · exact hE.one _ x' (by simpa using b3)
      · exact c5 j x' hj (by simpa using b2)
  · intro i' off' hr
    rcases rowAt_of hr with ⟨_, _, _, e', s, rs, hb', h', hp'⟩ | ⟨_, _, _, _, _, _, hb', _⟩
    · simp only [Blk.nest.injEq] at hb'
      obtain ⟨rfl, rfl, rfl⟩ := hb'
      rcases set_get h' with ⟨rfl, rfl⟩ | ⟨hne, h'⟩
      · rw [hq] at hp'
        rcases splice_get (by rw [hsl, hE.len]; exact hb) hp' with ⟨d1, d2, d3⟩ | ⟨d1, d2⟩
        · exfalso
          have hlt : off' - off < x.cells.size := by rw [hE.size, ← hE.len]; exact (List.getElem?_eq_some_iff.1 d3).1
          exact absurd (hE.rep _ _ _ d3 (Array.getElem?_eq_getElem hlt)).not_row (by simp [PV.isRow])
        · rw [elemCells_eq (a5 i' e he)] at d2
          rw [rowAt_nest he d2]; rfl
      · rw [rowAt_nest h' hp']; rfl
    · cases hb'
end

section
variable {R : Type} {E : Env}
theorem xstore_ok {draw : Bool} {t : TypeId} {a x : V} {m : Mem} {k : Mem → Foot → Option R} {r : R} (h : xstore E draw t a x m k = some r) :
    ∃ m' ft, k m' ft = some r ∧ (draw = true → ∃ id b, m' = memSet m id b ∧ ft = [(true, id)] ∧ ∀ m2 : Mem, m2 id = m id → ∀ (R' : Type) (k' : Mem → Foot → Option R'), xstore E true t a x m2 k' = k' (memSet m2 id b) [(true, id)]) ∧
    Lives m m' ∧ ∀ (G : Nat → Option (List PV)) (w0 : Base) (μ : Ro) (φ : Nat → Phys) (w : World) (ya yx : Value), RelM E.P G w0 μ φ m w → RepV E.P μ φ a ya → RepV E.P μ φ x yx → (∀ id, x.has id = true → (m id).isSome = true) →
      ∃ w' μ', (Instr.storeAt t ya yx).run E.P w = .ok () w' ∧ (∀ b o, μ b = some o → μ' b = some o) ∧ RelM E.P G w0 μ' φ m' w' := by
  unfold xstore at h
  split at h
  · rename_i id off
    split at h
    · rename_i cs hm
      split at h
      · rename_i new hn
        split at h
        · rename_i hb
          refine ⟨_, _, h, fun hd => ⟨id, _, rfl, rfl, fun m2 hm2 R' k' => by simp only [xstore, hm2, hm, hn]; rw [if_pos hb]⟩, .set, fun G w0 μ φ w ya yx hM ha hx hlx => ?_⟩
          obtain ⟨n1, n2, n3⟩ := toCells_ok hn
          obtain ⟨x1, x2, x3⟩ := n3 _ _ _ _ hx
          cases ha with
          | @op _ _ g hg =>
            obtain ⟨g', c, T, hg', hh, hs, hv, h1, hln⟩ := hM.blk id _ hm
            rw [hg] at hg'; simp only [Option.some.injEq] at hg'; subst hg'
            have hi := info_of_und' (P := E.P) (t := t) (by omega)
            have hfit : off + yx.cells.toList.length ≤ c.toList.length := by simp; omega
            refine ⟨_, μ, run_storeVar_at x1 hi hh (by omega) x3, fun _ _ h => h, ?_⟩
            refine hM.write hm rfl hg (Bel.setRow (Nat.le_refl _)) setRow_size (fun k hk => setRow_heap_ne hk) ⟨g, _, T, hg, setRow_heap w g c _ T (0, 0) hh, ?_, fun i u y hu hy => ?_, fun i y hy => ?_, by rw [splice_length (by omega)]; exact hln⟩ rfl fun j hj => ?_
            · simp only [List.size_toArray]
              rw [splice_length hfit, splice_length (by omega)]; simp [hs]
            · rw [List.getElem?_toArray] at hy
              have e1 : yx.cells.toList.length = new.length := by simp; omega
              rcases splice_get hfit hy with ⟨b1, b2, b3⟩ | ⟨b1, b2⟩ <;> rcases splice_get (by omega) hu with ⟨d1, d2, d3⟩ | ⟨d1, d2⟩
              · exact x2 _ u y d3 (by simpa using b3)
              · exfalso; omega
              · exfalso; omega
              · exact hv i u y d2 (by simpa using b2)
            · rw [List.getElem?_toArray] at hy
              rcases splice_get hfit hy with ⟨b1, b2, b3⟩ | ⟨b1, b2⟩
              · exact x3 _ y (by simpa using b3)
              · exact h1 i y (by simpa using b2)
            · simp only [Blk.names] at hj
              obtain ⟨v, hv', hh'⟩ := hasL_iff.1 hj
              simp only [splice_eq, List.mem_append] at hv'
              rcases hv' with (hv' | hv') | hv'
              · exact hM.liveB id cs j hm (hasL_mem (List.mem_of_mem_take hv') hh')
              · exact hlx j (n2 j (hasL_mem hv' hh'))
              · exact hM.liveB id cs j hm (hasL_mem (List.mem_of_mem_drop hv') hh')
        · cases h
      · cases h
    · cases h
  · rename_i id i off
    split at h
    · rename_i p m1 hf
      obtain ⟨f1, f2, f3⟩ := frzElemD_ok hf
      split at h
      · rename_i s et es hm
        obtain ⟨e, he, h⟩ := Option.bind_eq_some_iff.1 h
        have key : ∀ q, 0 < csz E.P t → off + csz E.P t ≤ s → (p.cells.length = csz E.P t → e.cells.length = s → q.cells = splice (elemCells s e) off p.cells) →
            ∀ (G : Nat → Option (List PV)) (w0 : Base) (μ : Ro) (φ : Nat → Phys) (w : World) (ya yx : Value), RelM E.P G w0 μ φ m w → RepV E.P μ φ (.oe id i off) ya → RepV E.P μ φ x yx → (∀ id, x.has id = true → (m id).isSome = true) →
              ∃ w' μ', (Instr.storeAt t ya yx).run E.P w = .ok () w' ∧ (∀ b o, μ b = some o → μ' b = some o) ∧ RelM E.P G w0 μ' φ (memSet m1 id (.arr s et (es.set i q))) w' := by
          intro q hz hb hq G w0 μ φ w ya yx hM ha hx _
          obtain ⟨μ', g1, g2, g3⟩ := f3 _ _ _ _ _ _ _ hM hx
          cases ha with
          | @oe _ _ _ g hg =>
            have hA : RepArr E.P μ' φ w id s et es := g2.blk id _ hm
            have hq' := hq g3.len (hA.2.2.2.2.1 i e he)
            obtain ⟨c, T, hh, hfit, hA'⟩ := hA.set hg he g3 hb hq'
            have hsz : (φ id).sz = s := hA.2.1
            have hi := info_of_und' (P := E.P) (t := t) (by omega)
            refine ⟨_, μ', ?_, g1, g2.write hm rfl hg (Bel.setRow (Nat.le_refl _)) setRow_size (fun k hk => setRow_heap_ne hk) hA' rfl fun j hj => by simp [Blk.names] at hj⟩
            rw [hsz]
            exact run_storeVar_at g3.size hi hh hfit g3.one
        split at h
        · rename_i hb
          refine ⟨_, _, h, fun hd => ?_, f1.trans .set, key p (by omega) (by omega) fun h1 h2 => ?_⟩
          · obtain ⟨rfl, f4⟩ := f2 hd
            refine ⟨id, _, rfl, rfl, fun m2 hm2 R' k' => ?_⟩
            simp only [xstore, f4 m2, hm2, hm, he, Option.bind_some]; rw [if_pos hb]
          · rw [hb.1, splice_eq, h1, hb.2.1]
            simp [elemCells_length]
        · rename_i hnb
          split at h
          · rename_i hb
            refine ⟨_, _, h, fun hd => ?_, f1.trans .set, key _ (by omega) (by omega) fun _ _ => rfl⟩
            obtain ⟨rfl, f4⟩ := f2 hd
            refine ⟨id, _, rfl, rfl, fun m2 hm2 R' k' => ?_⟩
            simp only [xstore, f4 m2, hm2, hm, he, Option.bind_some]; rw [if_neg hnb, if_pos hb]
          · cases h
      · rename_i s et es hm
        obtain ⟨e, he, h⟩ := Option.bind_eq_some_iff.1 h
        split at h
        · rename_i hb
          refine ⟨_, _, h, fun hd => ?_, f1.trans .set, fun G w0 μ φ w ya yx hM ha hx _ => ?_⟩
          · obtain ⟨rfl, f4⟩ := f2 hd
            refine ⟨id, _, rfl, rfl, fun m2 hm2 R' k' => ?_⟩
            simp only [xstore, f4 m2, hm2, hm, he, Option.bind_some]; rw [if_pos hb]
          · obtain ⟨μ', g1, g2, g3⟩ := f3 _ _ _ _ _ _ _ hM hx
            cases ha with
            | @oe _ _ _ g hg =>
              have hA : RepNest E.P μ' φ w id s et es := g2.blk id _ hm
              obtain ⟨c, T, hh, hfit, hA', hrw⟩ := RepNest.set (q := .agg (splice (elemCells s e) off p.cells)) hA (g2.apart id _ hm) hg he g3 hb.1 rfl
              have hsz : (φ id).sz = s := hA.2.1
              have hi := info_of_und' (P := E.P) (t := t) (by omega)
              refine ⟨_, μ', ?_, g1, g2.write hm rfl hg (Bel.setRow (Nat.le_refl _)) setRow_size (fun k hk => setRow_heap_ne hk) hA' rfl (fun j hj => by simp [Blk.names] at hj) (fun st h => by cases h) hrw⟩
              rw [hsz]
              exact run_storeVar_at g3.size hi hh hfit g3.one
        · cases h
      · cases h
    · cases h
  · rename_i id i off s j off2
    split at h
    · rename_i p m1 hf
      split at h
      · rename_i s0 et es hm
        obtain ⟨e, he, h⟩ := Option.bind_eq_some_iff.1 h
        obtain ⟨rs, hr, h⟩ := Option.bind_eq_some_iff.1 h
        obtain ⟨q, hq, h⟩ := Option.bind_eq_some_iff.1 h
        split at h
        · rename_i hb
          refine ⟨_, _, h, fun _ => ⟨id, _, rfl, rfl, fun m2 hm2 R' k' => ?_⟩, .set, fun G w0 μ φ w ya yx hM ha hx _ => ?_⟩
          · simp only [xstore, hf, hm2, hm, he, hr, hq, Option.bind_some]; rw [if_pos hb]
          · have hE := frzElem_pure hf E.P μ φ yx hx
            have hN : RepNest E.P μ φ w id s0 et es := hM.blk id _ hm
            obtain ⟨g, y, hg, hcell, ⟨⟨et', hA⟩, hV⟩, hce⟩ := hN.row he hr
            have hap := hM.apart id _ hm
            have hrow : (Blk.nest s0 et es).rowAt i off = true := by rw [rowAt_nest he hce]; rfl
            have hel := hN.2.2.2.2.1 i e he
            have hnew : (setRow s0 e off (.rsO s (rs.set j (setCells s q off2 (csz E.P t) p)))).cells = e.cells.set off (.rsO s (rs.set j (setCells s q off2 (csz E.P t) p))) := setRow_cells hel hb.2.2 (by simp)
            cases ha with
            | @oe2 _ _ _ _ _ _ g' hg' hs =>
              obtain ⟨hne, huniq⟩ := hap i off g' hrow hg'
              obtain ⟨c, T, hh, hfit, hA'⟩ := hA.set (g := g') hg' hq hE hb.1 (setCells_cells hE.len (hA.2.2.2.2.1 j q hq))
              have hi := info_of_und' (P := E.P) (t := t) (by omega)
              refine ⟨_, μ, run_storeVar_at hE.size hi hh hfit hE.one, fun _ _ h => h, hM.writeO hm rfl (.inr ⟨i, off, hrow, hg'⟩) (Bel.setRow (Nat.le_refl _)) setRow_size (fun k hk => setRow_heap_ne hk) ?_ rfl (fun j hj => by simp [Blk.names] at hj) ?_⟩
              · refine RepNest.change hN (by simp) (fun i' e' h' => ?_) rfl (fun g0 hg0 => setRow_heap_ne fun e => hne (by rw [← e]; exact hg0)) (fun i' e' j' p' g0 c0 x' h' hp' hg0 hc0 hx' hold => ?_)
                · rcases set_get h' with ⟨_, rfl⟩ | ⟨_, h'⟩
                  · rw [hnew, List.length_set]; exact hel
                  · exact hN.2.2.2.2.1 i' e' h'
                · have other : ∀ e'' p'', es[i']? = some e'' → e''.cells[j']? = some p'' → (i', j') ≠ (i, off) → RepCell E.P μ ((φ id).row i' j') (w.setRow g' (splice c.toList (j * s + off2) yx.cells.toList).toArray) p'' x' := fun e'' p'' h1 h2 h3 =>
                    (hold e'' p'' h1 h2).stable (fun _ _ h => h) fun hr' g'' hg'' => setRow_heap_ne fun e => by
                      subst e
                      obtain ⟨e1, e2⟩ := huniq i' j' (by rw [rowAt_nest h1 h2]; exact hr') hg''
                      exact h3 (by rw [e1, e2])
                  rcases set_get h' with ⟨rfl, rfl⟩ | ⟨hni, h'⟩
                  · rw [hnew] at hp'
                    rcases set_get hp' with ⟨rfl, rfl⟩ | ⟨hnj, hp'⟩
                    · have hx0 : RepRow E.P μ ((φ id).row i' j') w s rs x' := hold e _ he hce
                      refine ⟨⟨et', hA'⟩, ?_⟩
                      exact hx0.2
                    · exact other e p' he hp' fun e => hnj (by simpa using e)
                  · exact other e' p' h' hp' fun e => hni (by have := congrArg Prod.fst e; exact this)
              · intro i' off' hr'
                rcases rowAt_of hr' with ⟨_, _, _, e', s', rs', hb', h', hp'⟩ | ⟨_, _, _, _, _, _, hb', _⟩
                · simp only [Blk.nest.injEq] at hb'
                  obtain ⟨rfl, rfl, rfl⟩ := hb'
                  rcases set_get h' with ⟨rfl, rfl⟩ | ⟨hni, h'⟩
                  · rw [hnew] at hp'
                    rcases set_get hp' with ⟨rfl, _⟩ | ⟨hnj, hp'⟩
                    · exact hrow
                    · rw [rowAt_nest he hp']; rfl
                  · rw [rowAt_nest h' hp']; rfl
                · cases hb'
        · cases h
      · cases h
    · cases h
  · cases h
end
end Go.Ab

set_option linter.unusedVariables false
namespace Go.Ab
open Go.RowKit (Below)
structure Cells (P : Program) (μ : Ro) (sz : Nat) (es : List PV) (xs : List Value) : Prop where
  len : xs.length = es.length * sz
  each : ∀ (i : Nat) e, es[i]? = some e → e.cells.length = sz
  rep : ∀ (i : Nat) e (j : Nat) p y, es[i]? = some e → e.cells[j]? = some p → xs[i * sz + j]? = some y → RepPV P μ p y
  one : ∀ (i : Nat) y, xs[i]? = some y → y.oneCell' = true

section
variable {P : Program} {μ μ' : Ro} {φ : Nat → Phys} {w : World} {sz : Nat} {es es' : List PV} {xs xs' : List Value}

theorem Cells.nil : Cells P μ sz [] [] := ⟨by simp, by simp, by simp, by simp⟩
theorem Cells.mono (h : Cells P μ sz es xs) (hμ : ∀ b o, μ b = some o → μ' b = some o) : Cells P μ' sz es xs :=
  ⟨h.len, h.each, fun i e j p y h1 h2 h3 => (h.rep i e j p y h1 h2 h3).mono hμ, h.one⟩
theorem idx_lt {i j n : Nat} (hi : i < n) (hj : j < sz) : i * sz + j < n * sz := by
  have : (i + 1) * sz ≤ n * sz := Nat.mul_le_mul_right _ hi
  rw [Nat.add_mul] at this; omega
theorem Cells.append (h : Cells P μ sz es xs) (h' : Cells P μ sz es' xs') : Cells P μ sz (es ++ es') (xs ++ xs') := by
  refine ⟨by simp [h.len, h'.len, Nat.add_mul], fun i e hi => ?_, fun i e j p y hi hj hy => ?_, fun i y hy => ?_⟩
  · rw [List.getElem?_append] at hi
    split at hi
    · exact h.each i e hi
    · exact h'.each _ e hi
  · rw [List.getElem?_append] at hi hy
    split at hi
    · rename_i hl
      have hjl : j < sz := by rw [← h.each i e hi]; exact (List.getElem?_eq_some_iff.1 hj).1
      rw [if_pos (by rw [h.len]; exact idx_lt hl hjl)] at hy
      exact h.rep i e j p y hi hj hy
    · rename_i hl
      have hle : es.length * sz ≤ i * sz := Nat.mul_le_mul_right _ (by omega)
      rw [if_neg (by rw [h.len]; omega)] at hy
      refine h'.rep _ e j p y hi hj ?_
      rw [← hy, h.len, Nat.sub_mul]; congr 1; omega
  · rw [List.getElem?_append] at hy
    split at hy
    · exact h.one i y hy
    · exact h'.one _ y hy
theorem Cells.take (h : Cells P μ sz es xs) (n : Nat) : Cells P μ sz (es.take n) (xs.take (n * sz)) := by
  refine ⟨?_, fun i e hi => h.each i e (take_get hi).2, fun i e j p y hi hj hy => h.rep i e j p y (take_get hi).2 hj (take_get hy).2, fun i y hy => h.one i y (take_get hy).2⟩
  rw [List.length_take, List.length_take, h.len]
  rcases Nat.le_total n es.length with hn | hn
  · rw [Nat.min_eq_left hn, Nat.min_eq_left (Nat.mul_le_mul_right _ hn)]
  · rw [Nat.min_eq_right hn, Nat.min_eq_right (Nat.mul_le_mul_right _ hn)]
theorem Cells.drop (h : Cells P μ sz es xs) (n : Nat) : Cells P μ sz (es.drop n) (xs.drop (n * sz)) := by
  refine ⟨by simp [h.len, Nat.sub_mul], fun i e hi => h.each _ e (drop_get hi), fun i e j p y hi hj hy => h.rep _ e j p y (drop_get hi) hj ?_, fun i y hy => h.one _ y (drop_get hy)⟩
  rw [← drop_get hy, Nat.add_mul]; congr 1; omega

theorem RepArr.cells {id : Nat} {et : TypeId} (hA : RepArr P μ φ w id sz et es) {g : Nat} (hg : (φ id).g = some g) :
    ∃ c : Array Value, w.heap[g]? = some (.cells c et (0, 0)) ∧ (φ id).cap * sz ≤ c.size ∧ es.length ≤ (φ id).cap ∧ es.length * sz ≤ c.size ∧ Cells P μ sz es (c.toList.take (es.length * sz)) := by
  obtain ⟨a1, a2, a3, a4, a5, a6, a7⟩ := hA
  rw [hg] at a7
  obtain ⟨c, c1, c2, c3, c4, c5⟩ := a7
  have hle : es.length * sz ≤ c.size := Nat.le_trans (Nat.mul_le_mul_right _ c3) c2
  refine ⟨c, c1, c2, c3, hle, by simp; omega, a5, fun i e j p y hi hj hy => ?_, fun i y hy => ?_⟩
  · exact c4 i e j p y hi hj (by simpa using (take_get hy).2)
  · have := take_get hy
    exact c5 i y this.1 (by simpa using this.2)
theorem RepArr.of_cells {id g : Nat} {et : TypeId} {c : Array Value} (hph : (φ id).toPh0 = ⟨some g, (φ id).cap, es.length, sz⟩) (hsz : sz = csz P et) (hpos : 0 < sz) (hcap : (φ id).cap ≤ maxLen)
    (hh : w.heap[g]? = some (.cells c et (0, 0))) (hc : (φ id).cap * sz ≤ c.size) (hle : es.length ≤ (φ id).cap) (hC : Cells P μ sz es (c.toList.take (es.length * sz))) : RepArr P μ φ w id sz et es := by
  have e1 : (φ id).g = some g := by rw [hph]
  refine ⟨by rw [hph], by rw [hph], hsz, hpos, hC.each, hcap, ?_⟩
  rw [e1]
  have hjl : ∀ (i : Nat) e (j : Nat) p, es[i]? = some e → e.cells[j]? = some p → i * sz + j < es.length * sz := fun i e j p hi hj =>
    idx_lt (List.getElem?_eq_some_iff.1 hi).1 (by rw [← hC.each i e hi]; exact (List.getElem?_eq_some_iff.1 hj).1)
  refine ⟨c, hh, hc, hle, fun i e j p x hi hj hx => ?_, fun i x hi hx => ?_⟩
  · exact hC.rep i e j p x hi hj (by rw [List.getElem?_take_of_lt (hjl i e j p hi hj)]; simpa using hx)
  · exact hC.one i x (by rw [List.getElem?_take_of_lt hi]; simpa using hx)
inductive SrcOk (P : Program) (μ : Ro) (w : World) (sz : Nat) (es : List PV) : Value → Prop
  | none : es = [] → SrcOk P μ w sz es (.slice none 0 0)
  | some {a : Addr} {c : Nat} (xs : List Value) : Cells P μ sz es xs → (∀ (j : Nat) v, xs[j]? = some v → w.cell? (a.add j) = some v) → es.length ≤ c → c ≤ maxLen → SrcOk P μ w sz es (.slice (some a) es.length c)

theorem RepArr.src {id : Nat} {et : TypeId} (hA : RepArr P μ φ w id sz et es) {g : Nat} (hg : (φ id).g = some g) {lo len cap : Nat} (hl : lo + len ≤ es.length) (hcc : len ≤ cap) (hcc' : lo + cap ≤ (φ id).cap) :
    SrcOk P μ w sz ((es.drop lo).take len) (.slice (some ⟨g, lo * sz, none⟩) len cap) := by
  obtain ⟨c, c1, c2, c3, c4, c5⟩ := hA.cells hg
  have hcap := hA.lenLe
  have hlen : ((es.drop lo).take len).length = len := by simp; omega
  have := SrcOk.some (P := P) (μ := μ) (w := w) (sz := sz) (es := (es.drop lo).take len) (a := ⟨g, lo * sz, none⟩) (c := cap) _ ((c5.drop lo).take len) (fun j v hv => ?_) (by omega) (by omega)
  · rw [hlen] at this; exact this
  · have h1 := (take_get hv).2
    have h2 := (take_get (drop_get h1)).2
    rw [Addr.add_mid, cell?_of_heap c1]; simpa using h2
end

section
variable {R : Type} {E : Env}
theorem RepPV.src {P : Program} {G : Nat → Option (List PV)} {w0 : Base} {μ : Ro} {φ : Nat → Phys} {m : Mem} {w : World} {sz : Nat} {es : List PV} {y : Value} (hM : RelM P G w0 μ φ m w) (h : RepPV P μ (.rs sz es) y) : SrcOk P μ w sz es y := by
  cases h with
  | rsNil => exact .none rfl
  | rsE hc => exact .some (es := []) [] .nil (by simp) (by simp) hc
  | @rs _ _ b o cap X h1 h2 h3 h4 h5 h6 =>
    by_cases hz : sz = 0
    · subst hz
      refine .some [] ⟨by simp, h3, fun i e j p y hi hj => ?_, by simp⟩ (by simp) h1 h2
      have := h3 i e hi; have := (List.getElem?_eq_some_iff.1 hj).1; omega
    · have hget : ∀ k v, ((List.range (es.length * sz)).map fun k => X (k / sz) (k % sz))[k]? = some v → ∃ (e : PV) (p : PV), es[k / sz]? = some e ∧ e.cells[k % sz]? = some p ∧ v = X (k / sz) (k % sz) := by
        intro k v hk
        have hlt : k < es.length * sz := by have := (List.getElem?_eq_some_iff.1 hk).1; simpa using this
        rw [List.getElem?_map, List.getElem?_range hlt] at hk
        simp at hk
        have hi : k / sz < es.length := (Nat.div_lt_iff_lt_mul (by omega)).2 hlt
        have hj : k % sz < (es[k / sz]).cells.length := by rw [h3 _ _ (List.getElem?_eq_getElem hi)]; exact Nat.mod_lt _ (by omega)
        exact ⟨_, _, List.getElem?_eq_getElem hi, List.getElem?_eq_getElem hj, hk.symm⟩
      refine .some ((List.range (es.length * sz)).map fun k => X (k / sz) (k % sz)) ⟨by simp, h3, fun i e j p y hi hj hy => ?_, fun k v hk => ?_⟩ (fun k v hk => ?_) h1 h2
      · obtain ⟨e', p', he, hp, rfl⟩ := hget _ _ hy
        have hjl : j < sz := by rw [← h3 i e hi]; exact (List.getElem?_eq_some_iff.1 hj).1
        have e1 : (i * sz + j) / sz = i := by rw [Nat.mul_comm, Nat.mul_add_div (by omega), Nat.div_eq_of_lt hjl]; rfl
        have e2 : (i * sz + j) % sz = j := by rw [Nat.mul_comm, Nat.mul_add_mod, Nat.mod_eq_of_lt hjl]
        rw [e1, e2]
        exact h5 i e j p hi hj
      · obtain ⟨e', p', he, hp, rfl⟩ := hget _ _ hk
        exact h6 _ e' _ p' he hp
      · obtain ⟨e', p', he, hp, rfl⟩ := hget _ _ hk
        rw [Addr.add_mid]
        have := hM.cellAt (h4 _ e' _ p' he hp)
        rw [← this]; congr 2
        rw [Nat.add_assoc, Nat.div_add_mod' k sz]

theorem elemsV_ok {m : Mem} {sz : Nat} {x : V} {es : List PV} {ft : Foot} (h : elemsV m sz x = some (es, ft)) : (∀ m2 : Mem, (∀ x ∈ ft, m2 x.2 = m x.2) → elemsV m2 sz x = some (es, ft)) ∧ (∀ x ∈ ft, x.1 = false) ∧
    ∀ (P : Program) (G : Nat → Option (List PV)) (w0 : Base) (μ : Ro) (φ : Nat → Phys) (w : World) (y : Value), RelM P G w0 μ φ m w → RepV P μ φ x y → SrcOk P μ w sz es y := by
  unfold elemsV at h
  split at h
  · rename_i s es'
    split at h
    · rename_i hs
      simp only [Option.some.injEq, Prod.mk.injEq] at h; obtain ⟨rfl, rfl⟩ := h; subst hs
      exact ⟨fun m2 _ => by simp [elemsV], by simp, fun P G w0 μ φ w y hM hy => by cases hy with | pv hy => exact hy.src hM⟩
    · split at h
      · simp only [Option.some.injEq, Prod.mk.injEq] at h; obtain ⟨rfl, rfl⟩ := h
        refine ⟨fun m2 _ => by simp [elemsV], by simp, fun P G w0 μ φ w y hM hy => ?_⟩
        cases hy with
        | pv hy => cases hy with
          | rsNil => exact .none rfl
          | rsE hc => exact .some (es := []) [] .nil (by simp) (by simp) hc
          | rs X h1 h2 => exact .some (es := []) [] .nil (by simp) h1 h2
      · cases h
  · simp only [Option.some.injEq, Prod.mk.injEq] at h; obtain ⟨rfl, rfl⟩ := h
    exact ⟨fun m2 _ => by simp [elemsV], by simp, fun P G w0 μ φ w y hM hy => by cases hy; exact .none rfl⟩
  · rename_i id
    have key : ∀ (s : Nat) (et : TypeId) (es : List PV), (m id = some (.arr s et es) ∨ m id = some (.fro s et es)) → ∀ (P : Program) (G : Nat → Option (List PV)) (w0 : Base) (μ : Ro) (φ : Nat → Phys) (w : World) (y : Value), RelM P G w0 μ φ m w → RepV P μ φ (.os id) y → SrcOk P μ w s es y := by
      intro s et es hm P G w0 μ φ w y hM hy
      have hA := hM.arr hm
      cases hy with
      | osN hg =>
        obtain ⟨a1, a2, a3, a4, a5, a6, a7⟩ := hA
        rw [hg] at a7; exact .none a7.1
      | os hg =>
        have := hA.src hg (lo := 0) (len := es.length) (cap := (φ id).cap) (by omega) (hA.lenLe).1 (by omega)
        rw [hA.1]; simpa using this
    split at h
    · rename_i s' et es' hm
      split at h
      · rename_i hs
        simp only [Option.some.injEq, Prod.mk.injEq] at h; obtain ⟨rfl, rfl⟩ := h; subst hs
        exact ⟨fun m2 hm2 => by have := hm2 (false, id) (by simp); simp only at this; simp [elemsV, this, hm], by simp, key _ _ _ (.inl hm)⟩
      · cases h
    · rename_i s' et es' hm
      split at h
      · rename_i hs
        simp only [Option.some.injEq, Prod.mk.injEq] at h; obtain ⟨rfl, rfl⟩ := h; subst hs
        exact ⟨fun m2 hm2 => by have := hm2 (false, id) (by simp); simp only at this; simp [elemsV, this, hm], by simp, key _ _ _ (.inr hm)⟩
      · cases h
    · cases h
  · rename_i id lo len
    have key : ∀ (s : Nat) (et : TypeId) (es : List PV), (m id = some (.arr s et es) ∨ m id = some (.fro s et es)) → ∀ (P : Program) (G : Nat → Option (List PV)) (w0 : Base) (μ : Ro) (φ : Nat → Phys) (w : World) (y : Value), RelM P G w0 μ φ m w → RepV P μ φ (.osub id lo len) y → SrcOk P μ w s ((es.drop lo).take len) y := by
      intro s et es hm P G w0 μ φ w y hM hy
      have hA := hM.arr hm
      have hle := hA.lenLe
      have hal := hA.1
      have hsz := hA.2.1
      cases hy with
      | osubN hg => simp; exact .none rfl
      | osub hg hl ha hc1 hc2 =>
        rcases ha with rfl | ⟨ha, _⟩
        · rw [hsz]; exact hA.src hg (by omega) hc1 hc2
        · have h0 : len = 0 := by omega
          subst h0
          simp only [List.take_zero]
          exact .some (es := []) [] .nil (by simp) (by simp) (by omega)
    split at h
    · rename_i s' et es' hm
      split at h
      · rename_i hs
        simp only [Option.some.injEq, Prod.mk.injEq] at h; obtain ⟨rfl, rfl⟩ := h; subst hs
        exact ⟨fun m2 hm2 => by have := hm2 (false, id) (by simp); simp only at this; simp [elemsV, this, hm], by simp, key _ _ _ (.inl hm)⟩
      · cases h
    · rename_i s' et es' hm
      split at h
      · rename_i hs
        simp only [Option.some.injEq, Prod.mk.injEq] at h; obtain ⟨rfl, rfl⟩ := h; subst hs
        exact ⟨fun m2 hm2 => by have := hm2 (false, id) (by simp); simp only at this; simp [elemsV, this, hm], by simp, key _ _ _ (.inr hm)⟩
      · cases h
    · cases h
  · cases h
end
end Go.Ab

set_option linter.unusedVariables false
namespace Go.Ab
open Go.RowKit (Below)

section
variable {P : Program} {w : World}
theorem run_append_zero {t ty e : TypeId} (hu : P.underlying t = some (.slice e)) (hz : csz P e ≠ 0) {base a : Option Addr} {n cap c : Nat} (hn : n ≤ cap) :
    (Builtin.append_ #[t, t] ty #[.slice base n cap, .slice a 0 c]).run P w = .ok (.slice base n cap) w := by
  obtain ⟨i, hi, hs⟩ := csz_und hz
  have hl : ∀ x : Addr, (loadCells x 0).run P w = .ok #[] w := fun x => by simpa using run_loadCells_list (P := P) w x [] (by simp)
  cases base <;> cases a <;> simp [Builtin.append_, run_underlying hu, sizeOf, typeInfo, hi, Builtin.lenOf, Builtin.firstCells, hn, hl, storeCells]
end

section
variable {R : Type} {E : Env}
theorem bytes_und {P : Program} {t : TypeId} {i : TypeInfo} (hi : P.info? t = some i) : i.bytes = bsz P t ∧ i.size = csz P t := by simp [bsz, csz, hi]
theorem append_raw {P : Program} {e t ty : TypeId} {sz len n : Nat} {z : Value} {i : TypeInfo} (hu : P.underlying t = some (.slice e)) (hi : P.info? e = some i) (hzv : i.zero = some z) (hzs : z.cells.size = sz) (hsz : sz = csz P e) (hpos : 0 < csz P e) (hby : 0 < bsz P e) (hroom : (len + n) * bsz P e ≤ roomBound)
    {w : World} {ys yx : Value} {os xs : List Value}
    (hs : (ys = .slice none 0 0 ∧ len = 0 ∧ os = []) ∨ ∃ (g cap : Nat) (c : Array Value), ys = .slice (some ⟨g, 0, none⟩) len cap ∧ w.heap[g]? = some (.cells c e (0, 0)) ∧ cap * sz ≤ c.size ∧ len ≤ cap ∧ cap ≤ maxLen ∧ os = c.toList.take (len * sz))
    (hx : (yx = .slice none 0 0 ∧ n = 0 ∧ xs = []) ∨ ∃ (a : Addr) (cx : Nat), yx = .slice (some a) n cx ∧ xs.length = n * sz ∧ (∀ (j : Nat) v, xs[j]? = some v → w.cell? (a.add j) = some v) ∧ (∀ v ∈ xs, v.oneCell' = true) ∧ n ≤ cx ∧ cx ≤ maxLen) :
    ∃ w' y, (Builtin.append_ #[t, t] ty #[ys, yx]).run P w = .ok y w' ∧
      ((y = .slice none 0 0 ∧ w' = w ∧ len = 0 ∧ n = 0) ∨ ∃ (g cap : Nat) (c : Array Value), y = .slice (some ⟨g, 0, none⟩) (len + n) cap ∧ w'.heap[g]? = some (.cells c e (0, 0)) ∧ cap * sz ≤ c.size ∧ len + n ≤ cap ∧ cap ≤ maxLen ∧ c.toList.take ((len + n) * sz) = os ++ xs ∧
        ((∃ cap0, ys = .slice (some ⟨g, 0, none⟩) len cap0 ∧ Bel g w w' ∧ ∀ k, k ≠ g → w'.heap[k]? = w.heap[k]?) ∨ (g = w.heap.size ∧ w' = w.drew.alloc (.cells c e)))) := by
  obtain ⟨hib, his⟩ := bytes_und hi
  have hlen63 : len + n ≤ 140737488355328 := by
    have : (len + n) * 1 ≤ (len + n) * bsz P e := Nat.mul_le_mul_left _ hby
    simp only [roomBound] at hroom; omega
  have hmax : len + n ≤ maxLen := by simp only [maxLen]; omega
  have hzc : ∀ n, (Builtin.zeroCells z.cells n).size = n * sz := fun n => by rw [size_zeroCells, hzs]
  rcases hs with ⟨rfl, rfl, rfl⟩ | ⟨g, cap, c, rfl, g4, g5, g6, g7, rfl⟩
  · rcases hx with ⟨rfl, rfl, rfl⟩ | ⟨a, cx, rfl, hxl, hxs, hx1, hcx, hcm⟩
    · exact ⟨w, _, run_append_zero hu (by omega) (Nat.le_refl _), .inl ⟨rfl, rfl, rfl, rfl⟩⟩
    · by_cases h0 : n = 0
      · subst h0
        exact ⟨w, _, run_append_zero hu (by omega) (Nat.le_refl _), .inl ⟨rfl, rfl, rfl, rfl⟩⟩
      · have hr := run_append_nil (P := P) w t ty e i z hu hi hzv a n cx xs (by rw [hxl, hsz, his]) hxs (by omega) (by simp only [Nat.zero_add] at hlen63; omega) (by simp only [roomBound, Nat.zero_add] at hroom; rw [hib]; omega)
        have hge := grownCap_ge w n 0 e
        refine ⟨_, _, hr, .inr ⟨w.heap.size, grownCap w n 0 e, xs.toArray ++ Builtin.zeroCells z.cells (grownCap w n 0 e - n), by simp, alloc_new w.drew _, ?_, by simpa using hge, grownCap_le_maxLen w _ 0 e (by simpa using hmax), ?_, .inr ⟨rfl, rfl⟩⟩⟩
        · rw [Array.size_append, hzc]; simp only [List.size_toArray, hxl, ← Nat.add_mul]; exact Nat.mul_le_mul_right _ (by omega)
        · simp only [Array.toList_append, List.nil_append, Nat.zero_add]
          exact List.take_left' hxl
  · have h1 : (c.toList.take (len * sz)).length = len * sz := by
      have : len * sz ≤ cap * sz := Nat.mul_le_mul_right _ g6
      simp; omega
    rcases hx with ⟨rfl, rfl, rfl⟩ | ⟨a, cx, rfl, hxl, hxs, hx1, hcx, hcm⟩
    · exact ⟨w, _, run_append_zero hu (by omega) g6, .inr ⟨g, cap, c, rfl, g4, g5, by simpa using g6, g7, by simp, .inl ⟨cap, rfl, Bel.refl _ _, fun _ _ => rfl⟩⟩⟩
    · by_cases hrm : len + n ≤ cap
      · have hfit : len * i.size + xs.length ≤ c.size := by rw [his, ← hsz, hxl, ← Nat.add_mul]; exact Nat.le_trans (Nat.mul_le_mul_right _ hrm) g5
        have hr := run_append_room (P := P) w t ty e i hu hi g len cap c g4 a n cx xs (by rw [hxl, hsz, his]) hxs hx1 hrm hfit
        rw [his, ← hsz] at hr hfit
        refine ⟨_, _, hr, .inr ⟨g, cap, _, rfl, setRow_heap w g c _ e (0, 0) g4, ?_, hrm, g7, ?_, .inl ⟨cap, rfl, Bel.setRow (Nat.le_refl _), fun k hk => setRow_heap_ne hk⟩⟩⟩
        · simp only [List.size_toArray, List.length_append, List.length_take, List.length_drop, Array.length_toList]
          omega
        · simp only []
          exact List.take_left' (by rw [List.length_append, h1, hxl, Nat.add_mul])
      · have hr := run_append_grow (P := P) w t ty e i z hu hi hzv ⟨g, 0, none⟩ len cap (c.toList.take (len * sz)) (by rw [h1, hsz, his]) (fun j v hj => by
            rw [Addr.add_mid, cell?_of_heap g4]; simpa using (take_get hj).2) a n cx xs (by rw [hxl, hsz, his]) hxs (by omega) (by omega)
          (growslice_fits (by omega) (by rw [hib]; simpa [roomBound] using hroom))
        have hge := grownCap_ge w (len + n) cap e
        refine ⟨_, _, hr, .inr ⟨w.heap.size, _, _, rfl, alloc_new w.drew _, ?_, hge, grownCap_le_maxLen w _ cap e (by omega), ?_, .inr ⟨rfl, rfl⟩⟩⟩
        · rw [Array.size_append, Array.size_append, hzc]; simp only [List.size_toArray, hxl, h1, ← Nat.add_mul]; exact Nat.mul_le_mul_right _ (by omega)
        · simp only [Array.toList_append]
          exact List.take_left' (by rw [List.length_append, h1, hxl, Nat.add_mul])
theorem append_any {e t ty : TypeId} {sz : Nat} {es new : List PV} {z : List V} (hu : E.P.underlying t = some (.slice e)) (hz : zeroCellsV E e = some z) (hsz : sz = csz E.P e) (hpos : 0 < csz E.P e) (hby : 0 < bsz E.P e) (hroom : (es ++ new).length * bsz E.P e ≤ roomBound)
    {G : Nat → Option (List PV)} {w0 : Base} {μ : Ro} {φ : Nat → Phys} {m : Mem} {w : World} {ρ : Nat → Value} {f : Fr} {draw : Bool} {site : Nat} (hM : RelM E.P G w0 μ φ m w) (hF : FrOk E.P μ φ m f ρ)
    {ys yx : Value} (hx : SrcOk E.P μ w sz new yx)
    (hs : (ys = .slice none 0 0 ∧ es = []) ∨ ∃ (g cap : Nat) (c : Array Value), ys = .slice (some ⟨g, 0, none⟩) es.length cap ∧ w0.heap.size ≤ g ∧ μ g = none ∧ (∀ id b', m id = some b' → ¬ b'.owns (φ id) g) ∧ w.heap[g]? = some (.cells c e (0, 0)) ∧ cap * sz ≤ c.size ∧ es.length ≤ cap ∧ cap ≤ maxLen ∧
      es.length * sz ≤ c.size ∧ Cells E.P μ sz es (c.toList.take (es.length * sz)))
    {f' : Fr} {m' : Mem} (hfr : ∀ (P : Program) (G : Nat → Option (List PV)) (w0 : Base) (μ : Ro) (φ : Nat → Phys) (w w' : World) (ρ : Nat → Value) (ph : Phys), RelM P G w0 μ φ m w → FrOk P μ φ m f ρ → PutOk P w0 μ φ m w w' site (.arr sz e (es ++ new)) ph →
      ∃ φ', φ' site = ph ∧ RelM P G w0 μ φ' m' w' ∧ FrOk P μ φ' m' f' ρ) :
    ∃ w' y φ', (Builtin.append_ #[t, t] ty #[ys, yx]).run E.P w = .ok y w' ∧ RelM E.P G w0 μ φ' m' w' ∧ FrOk E.P μ φ' m' f' ρ ∧ RepV E.P μ φ' (.os site) y := by
  obtain ⟨i, zv, hi, hzv, his, _, hzs, _, _, _⟩ := zeroCellsV_ok hz
  have hll : (es ++ new).length = es.length + new.length := by simp
  obtain ⟨os, hos, hC⟩ : ∃ os, ((ys = .slice none 0 0 ∧ es.length = 0 ∧ os = []) ∨ ∃ (g cap : Nat) (c : Array Value), ys = .slice (some ⟨g, 0, none⟩) es.length cap ∧ w.heap[g]? = some (.cells c e (0, 0)) ∧ cap * sz ≤ c.size ∧ es.length ≤ cap ∧ cap ≤ maxLen ∧ os = c.toList.take (es.length * sz)) ∧ Cells E.P μ sz es os := by
    rcases hs with ⟨h1, rfl⟩ | ⟨g, cap, c, h1, h2, h3, h4, h5, h6, h7, h8, h9, h10⟩
    · exact ⟨[], .inl ⟨h1, rfl, rfl⟩, .nil⟩
    · exact ⟨_, .inr ⟨g, cap, c, h1, h5, h6, h7, h8, rfl⟩, h10⟩
  obtain ⟨xs, hxs, hCx⟩ : ∃ xs, ((yx = .slice none 0 0 ∧ new.length = 0 ∧ xs = []) ∨ ∃ (a : Addr) (cx : Nat), yx = .slice (some a) new.length cx ∧ xs.length = new.length * sz ∧ (∀ (j : Nat) v, xs[j]? = some v → w.cell? (a.add j) = some v) ∧ (∀ v ∈ xs, v.oneCell' = true) ∧ new.length ≤ cx ∧ cx ≤ maxLen) ∧ Cells E.P μ sz new xs := by
    cases hx with
    | none hn => subst hn; exact ⟨[], .inl ⟨rfl, rfl, rfl⟩, .nil⟩
    | @some a cx xs hC hxs hcx hcm => exact ⟨xs, .inr ⟨a, cx, rfl, hC.len, hxs, fun u hu => by obtain ⟨j, hj⟩ := List.getElem?_of_mem hu; exact hC.one j u hj, hcx, hcm⟩, hC⟩
  obtain ⟨w', y, hr, hcase⟩ := append_raw (ty := ty) hu hi hzv (by rw [hzs, hsz]) hsz hpos hby (by rw [← hll]; exact hroom) hos hxs
  rcases hcase with ⟨rfl, rfl, h1, h2⟩ | ⟨g', cap', c', rfl, b1, b2, b3, b4, b5, b6⟩
  · have h1 : es = [] := List.eq_nil_of_length_eq_zero h1
    have h2 : new = [] := List.eq_nil_of_length_eq_zero h2
    obtain ⟨φ', a1, a2, a3⟩ := hfr E.P G w0 μ φ w' w' ρ (phy none 0 0 sz) hM hF ⟨Bel.refl _ _, hM.ro, fun _ _ _ _ _ => rfl, by simp, fun φ' hp _ => by
      refine ⟨by rw [hp, h1, h2]; rfl, by rw [hp], hsz, by omega, by rw [h1, h2]; simp, by rw [hp]; simp [maxLen], ?_⟩
      rw [hp]; exact ⟨by rw [h1, h2]; rfl, rfl⟩, by simp [Blk.names], fun st h => by cases h⟩
    exact ⟨w', _, φ', hr, a2, a3, .osN (by rw [a1])⟩
  · have hCC : Cells E.P μ sz (es ++ new) (c'.toList.take ((es ++ new).length * sz)) := by
      rw [hll, b5]; exact hC.append hCx
    have fin : ∀ (φ' : Nat → Phys), φ' site = phy (some g') cap' (es ++ new).length sz → RepV E.P μ φ' (.os site) (.slice (some ⟨g', 0, none⟩) (es.length + new.length) cap') := fun φ' a1 => by
      have := RepV.os (P := E.P) (μ := μ) (φ := φ') (id := site) (g := g') (by rw [a1])
      rw [a1, hll] at this; exact this
    rcases b6 with ⟨cap0, hys, b6, b7⟩ | ⟨rfl, rfl⟩
    · rcases hs with ⟨h1, _⟩ | ⟨g, cap, c, h1, h2, h3, h4, _⟩
      · rw [hys] at h1; cases h1
      rw [hys] at h1
      simp only [Value.slice.injEq, Option.some.injEq, Addr.mk.injEq] at h1
      obtain ⟨⟨rfl, _⟩, _⟩ := h1
      obtain ⟨φ', a1, a2, a3⟩ := hfr E.P G w0 μ φ w w' ρ (phy (some g') cap' (es ++ new).length sz) hM hF ⟨b6.mono h2, fun k o hk => by rw [b7 k (fun e => by subst e; rw [h3] at hk; cases hk)]; exact hM.ro k o hk,
        fun id b' g' hid hg' => b7 g' (fun e => by subst e; exact h4 id b' hid hg'), fun g' hg' => by simp only [Option.some.injEq] at hg'; subst hg'; exact ⟨h2, h3, h4⟩,
        fun φ' hp _ => RepArr.of_cells (by rw [hp]) hsz (by omega) (by rw [hp]; exact b4) b1 (by rw [hp]; exact b2) (by rw [hp, hll]; exact b3) hCC, by simp [Blk.names], fun st h => by cases h⟩
      exact ⟨w', _, φ', hr, a2, a3, fin φ' a1⟩
    · obtain ⟨φ', a1, a2, a3⟩ := hfr E.P G w0 μ φ w.drew _ ρ (phy (some w.heap.size) cap' (es ++ new).length sz) hM.drew hF (PutOk.alloc (o := .cells c' e) hM.drew rfl
        (fun φ' hp _ => RepArr.of_cells (g := w.heap.size) (by rw [hp]) hsz (by omega) (by rw [hp]; exact b4) (alloc_new w.drew _) (by rw [hp]; exact b2) (by rw [hp, hll]; exact b3) hCC) (by simp [Blk.names]))
      exact ⟨_, _, φ', hr, a2, a3, fin φ' a1⟩
end
end Go.Ab

set_option linter.unusedVariables false
namespace Go.Ab
open Go.RowKit (Below)

section
variable {R : Type} {E : Env}

theorem xappend_ok {draw : Bool} {site : Nat} {t t' : TypeId} {s x : V} {f : Fr} {m : Mem} {k : V → Fr → Mem → Option R} {r : R} (h : xappend E draw site t t' s x f m k = some r) : draw = false ∧ t' = t ∧
    ∃ place f' m', k (.os place) f' m' = some r ∧ (m' place).isSome = true ∧
    ∀ (G : Nat → Option (List PV)) (w0 : Base) (μ : Ro) (φ : Nat → Phys) (w : World) (ρ : Nat → Value) (ys yx : Value) (ty : TypeId), RelM E.P G w0 μ φ m w → FrOk E.P μ φ m f ρ → RepV E.P μ φ s ys → RepV E.P μ φ x yx →
      ∃ w' y φ', (Builtin.append_ #[t, t] ty #[ys, yx]).run E.P w = .ok y w' ∧ RelM E.P G w0 μ φ' m' w' ∧ FrOk E.P μ φ' m' f' ρ ∧ RepV E.P μ φ' (.os place) y := by
  unfold xappend at h
  split at h
  · cases h
  · rename_i hd
    simp only [Bool.or_eq_true, not_or, Bool.not_eq_true, Bool.not_eq_false', decide_eq_true_eq, Bool.not_eq_eq_eq_not, Bool.not_true, Bool.not_false] at hd
    refine ⟨hd.1, by simpa using hd.2, ?_⟩
    split at h
    · rename_i e hu
      split at h
      · cases h
      · rename_i hz
        obtain ⟨z, hz⟩ : ∃ z, zeroCellsV E e = some z := by
          cases hq : zeroCellsV E e with
          | none => simp [hq] at hz
          | some z => exact ⟨z, rfl⟩
        split at h
        · rename_i new ft hel
          obtain ⟨_, _, hsrc⟩ := elemsV_ok hel
          split at h
          · split at h
            · rename_i hb
              obtain ⟨f', m', _, hk, hms, _, hfr⟩ := fresh_ok h
              refine ⟨_, f', m', hk, by simp [hms], fun G w0 μ φ w ρ ys yx ty hM hF hs hx => ?_⟩
              cases hs
              exact append_any (es := []) (draw := false) hu hz rfl hb.2.2 hb.2.1 (by simpa using hb.1) hM hF (hsrc _ _ _ _ _ _ _ hM hx) (.inl ⟨rfl, rfl⟩) hfr
            · cases h
          · rename_i id
            split at h
            · rename_i sz et es hm
              split at h
              · rename_i hc
                obtain ⟨rfl, rfl, hxid⟩ := hc
                split at h
                · rename_i hb
                  obtain ⟨f', m', _, hk, hms, _, hfr⟩ := fresh_ok h
                  refine ⟨_, f', m', hk, by simp [hms], fun G w0 μ φ w ρ ys yx ty hM hF hs hx => ?_⟩
                  have hM1 := hM.forget id
                  have hF1 := hF.forget id
                  have hA : RepArr E.P μ φ w id (csz E.P et) et es := hM.blk id _ hm
                  have hpos : 0 < csz E.P et := hA.2.2.2.1
                  refine append_any (draw := false) hu hz rfl hpos hb.2 hb.1 hM1 hF1 (hsrc _ _ _ _ _ _ _ hM hx) ?_ hfr
                  cases hs with
                  | osN hg =>
                    have a7 := hA.2.2.2.2.2.2
                    rw [hg] at a7; exact .inl ⟨rfl, a7.1⟩
                  | @os _ g hg =>
                    obtain ⟨c, c1, c2, c3, c4, c5⟩ := hA.cells hg
                    obtain ⟨o1, o2⟩ := hM.own id _ g hm (.inl hg)
                    refine .inr ⟨g, (φ id).cap, c, by rw [hA.1], o1, o2 rfl, fun j b' hj hg' => ?_, c1, c2, c3, hA.lenLe.2, c4, c5⟩
                    obtain ⟨hne, b2, hb2, rfl⟩ := forget_some hj
                    exact hne (hM.inj j id b2 _ g hb2 hm (owns_kill.1 hg') (.inl hg))
                · cases h
              · cases h
            · cases h
          · cases h
        · cases h
    · cases h
theorem run_copy_any {P : Program} {w : World} {dT ty elem : TypeId} {ts : List TypeId} {g dLen dCap : Nat} {c : Array Value} {T : TypeId} {sz : Nat} {es new : List PV} {μ : Ro} {yx : Value} (hu : P.underlying dT = some (.slice elem)) (hsz : sz = csz P elem) (hpos : 0 < sz)
    (hx : SrcOk P μ w sz new yx) (hg : w.heap[g]? = some (.cells c T (0, 0))) (hle : es.length * sz ≤ c.size) (hd : dLen = es.length) (hC : Cells P μ sz es (c.toList.take (es.length * sz))) :
    ∃ c' : Array Value, (Builtin.copy_ (dT :: ts).toArray ty #[.slice (some ⟨g, 0, none⟩) dLen dCap, yx]).run P w = .ok (goInt ((min new.length es.length : Nat) : Int)) (w.setRow g c') ∧ c'.size = c.size ∧
      Cells P μ sz (new.take es.length ++ es.drop new.length) (c'.toList.take ((new.take es.length ++ es.drop new.length).length * sz)) := by
  subst hd
  obtain ⟨i, hi, hs⟩ := csz_und (P := P) (t := elem) (by omega)
  have hnl : (new.take es.length ++ es.drop new.length).length = es.length := by simp; omega
  rw [hnl]
  cases hx with
  | none hn =>
    subst hn
    refine ⟨c, ?_, rfl, by simpa using hC⟩
    have := setRow_self w g c T (0, 0) hg
    rw [this]
    simp [Builtin.copy_, run_underlying hu, Builtin.lenOf, Builtin.firstCells, sizeOf, typeInfo, hi, storeCells]
  | @some a cx xs hX hxs hcx hcm =>
    have hmin : Nat.min new.length es.length = min new.length es.length := rfl
    have hl : (xs.take (min new.length es.length * sz)).length = min new.length es.length * i.size := by
      rw [hs, ← hsz, List.length_take, hX.len]
      exact Nat.min_eq_left (Nat.mul_le_mul_right _ (Nat.min_le_left _ _))
    have hle2 : min new.length es.length * sz ≤ es.length * sz := Nat.mul_le_mul_right _ (Nat.min_le_right _ _)
    have hf := run_firstCells_some (P := P) w i.size (min new.length es.length) a new.length cx (xs.take (min new.length es.length * sz)) hl (fun j v hj => hxs j v (take_get hj).2)
    have hl' : (xs.take (min new.length es.length * sz)).length = min new.length es.length * sz := by rw [hl, hs, hsz]
    have hst := run_storeCells_at P g 0 T (xs.take (min new.length es.length * sz)) 0 c w hg (by rw [hl']; omega) (fun v hv => by obtain ⟨j, hj⟩ := List.getElem?_of_mem hv; exact hX.one j v (take_get hj).2)
    simp only [Nat.zero_add, List.take_zero, List.nil_append, hl'] at hst
    refine ⟨(xs.take (min new.length es.length * sz) ++ c.toList.drop (min new.length es.length * sz)).toArray, ?_, ?_, ?_⟩
    · have hmin' : Nat.min new.length es.length = min new.length es.length := rfl
      simp [Builtin.copy_, run_underlying hu, Builtin.lenOf, sizeOf, typeInfo, hi, hmin', hf, hst]
    · simp only [List.size_toArray, List.length_append, hl', List.length_drop, Array.length_toList]; omega
    · have e1 : (xs.take (min new.length es.length * sz) ++ c.toList.drop (min new.length es.length * sz)).take (es.length * sz) = xs.take (min new.length es.length * sz) ++ (c.toList.take (es.length * sz)).drop (min new.length es.length * sz) := by
        rw [List.take_append, hl', List.drop_take, List.take_of_length_le (by rw [hl']; exact hle2)]
      simp only []
      rw [e1]
      have h1 := (hX.take (min new.length es.length)).append (hC.drop (min new.length es.length))
      have e2 : new.take (min new.length es.length) = new.take es.length := by
        rcases Nat.le_total new.length es.length with hh | hh
        · rw [Nat.min_eq_left hh, List.take_length, List.take_of_length_le hh]
        · rw [Nat.min_eq_right hh]
      have e3 : es.drop (min new.length es.length) = es.drop new.length := by
        rcases Nat.le_total new.length es.length with hh | hh
        · rw [Nat.min_eq_left hh]
        · rw [Nat.min_eq_right hh, List.drop_length, List.drop_eq_nil_of_le hh]
      rw [e2, e3] at h1; exact h1

theorem xcopy_ok {t : TypeId} {d x : V} {m : Mem} {k : V → Mem → Foot → Option R} {r : R} (h : xcopy E t d x m k = some r) :
    ∃ n id b ft, (∀ m2 : Mem, (∀ x ∈ ((true, id) :: ft : Foot), m2 x.2 = m x.2) → ∀ (R' : Type) (k' : V → Mem → Foot → Option R'), xcopy E t d x m2 k' = k' (.pv (.int .i64 n)) (memSet m2 id b) ((true, id) :: ft)) ∧ k (.pv (.int .i64 n)) (memSet m id b) ((true, id) :: ft) = some r ∧
    ∀ (G : Nat → Option (List PV)) (w0 : Base) (μ : Ro) (φ : Nat → Phys) (w : World) (ρ : Nat → Value) (f : Fr) (yd yx : Value) (ts : List TypeId) (ty : TypeId), RelM E.P G w0 μ φ m w → FrOk E.P μ φ m f ρ → RepV E.P μ φ d yd → RepV E.P μ φ x yx →
      ∃ w' φ', (Builtin.copy_ (t :: ts).toArray ty #[yd, yx]).run E.P w = .ok (.int .i64 n) w' ∧ RelM E.P G w0 μ φ' (memSet m id b) w' ∧ FrOk E.P μ φ' (memSet m id b) f ρ ∧ (Lit.int .i64 n).wf = true := by
  unfold xcopy at h
  split at h
  · rename_i e hu
    split at h
    · rename_i id
      split at h
      · rename_i sz et es hm
        split at h
        · rename_i hc
          split at h
          · rename_i new ft hel
            obtain ⟨hnat, _, hsrc⟩ := elemsV_ok hel
            refine ⟨_, id, _, ft, fun m2 hm2 R' k' => ?_, h, fun G w0 μ φ w ρ f yd yx ts ty hM hF hd hx => ?_⟩
            · have h1 := hm2 (true, id) (by simp)
              simp only at h1
              simp only [xcopy, hu, h1, hm]
              rw [if_pos hc]
              simp only [hnat m2 (fun y hy => hm2 y (by simp [hy]))]
            · have hA : RepArr E.P μ φ w id sz et es := hM.blk id _ hm
              have hS := hsrc _ _ _ _ _ _ _ hM hx
              have hle := hA.lenLe
              have hlen : (new.take es.length ++ es.drop new.length).length = es.length := by simp; omega
              have hwf : (Lit.int .i64 ((min new.length es.length : Nat) : Int)).wf = true := wf_len (by omega)
              cases hd with
              | osN hg =>
                have a7 := hA.2.2.2.2.2.2
                rw [hg] at a7
                have h0 := a7.1
                subst h0
                refine ⟨w, φ, ?_, ?_, ?_, hwf⟩
                · obtain ⟨i, hi, hs⟩ := csz_und (P := E.P) (t := e) (by have := hA.2.2.2.1; omega)
                  have hl0 : ∀ x : Addr, (loadCells x 0).run E.P w = .ok #[] w := fun x => by simpa using run_loadCells_list (P := E.P) w x [] (by simp)
                  cases hS with
                  | none hn => subst hn; simp [Builtin.copy_, run_underlying hu, Builtin.lenOf, Builtin.firstCells, sizeOf, typeInfo, hi, hA.1, goInt]
                  | some xs hX hxs hcx hcm => simp [Builtin.copy_, run_underlying hu, Builtin.lenOf, Builtin.firstCells, sizeOf, typeInfo, hi, hA.1, hl0, goInt]
                · have : memSet m id (.arr sz et (new.take ([] : List PV).length ++ ([] : List PV).drop new.length)) = m := by
                    funext j
                    by_cases e : j = id
                    · subst e; simp [hm]
                    · rw [memSet_ne e]
                  rw [this]; exact hM
                · exact hF.lives (fun _ _ h => h) .set
              | @os _ g hg =>
                obtain ⟨c, c1, c2, c3, c4, c5⟩ := hA.cells hg
                obtain ⟨c', r1, r2, r3⟩ := run_copy_any (ts := ts) (ty := ty) (dCap := (φ id).cap) hu hc.1 hA.2.2.2.1 hS c1 c4 hA.1 c5
                refine ⟨_, φ, r1, hM.write hm rfl hg (Bel.setRow (Nat.le_refl _)) setRow_size (fun k hk => setRow_heap_ne hk) ?_ rfl (by simp [Blk.names]), hF.lives (fun _ _ h => h) .set, hwf⟩
                refine RepArr.of_cells (g := g) ?_ hA.2.2.1 hA.2.2.2.1 hle.2 (setRow_heap w g c c' et (0, 0) c1) (by rw [r2]; exact c2) (by rw [hlen]; exact c3) r3
                rw [hlen, ← hA.1, ← hA.2.1]
                cases hq : (φ id).toPh0 with
                | mk a b c d => rw [hq] at hg; simp only at hg; simp [hg]
          · cases h
        · cases h
      · cases h
    · cases h
  · cases h
end
end Go.Ab
